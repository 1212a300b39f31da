import PyProof.Rows.All
import Wide.All
import OpenK.AllK
import Wide.FinOn
import HandS.ForMost
import HandS.IsInst
import HandS.Walk
import HandS.Deep
import HandS.FStr
import HandS.Wide
import HandS.TupAny
import HandS.Zip
import HandS.HeadHook4
import HandS.HeadWalk
import HandS.Defaults
import HandS.Head0
import HandS.Head1
import HandS.Head2
import HandS.HeadEnd
import HandS.HeadHook1
import HandS.HeadHook2
import HandS.HeadHook3
import KE.KStateDown
import Lean
import PySem.Challenge.RW_pricedcalls_k06_expressions_judged
set_option Elab.async false
set_option linter.all false
set_option maxRecDepth 100000
/-! Ad1: data without a heap, worlds, what stands for what. -/
namespace Ad
open PySem L2
/-- data, seen without the heap -/
inductive D where
  | non | bl (b : Bool) | int (i : Int) | str (s : Str) | ty (n : String)
  | lst (ds : List D) | tup (ds : List D) | obj (c : Str) (ns : List Str) (fs : List D) | hdl (n : Nat) | cls (c : Str)
instance : Inhabited D := ⟨.non⟩

abbrev Ext (H H' : Hp) : Prop := ∀ a o, H a = some o → H' a = some o
theorem Ext.rfl' (H : Hp) : Ext H H := fun _ _ h => h
theorem Ext.tr {H H1 H2 : Hp} (a : Ext H H1) (b : Ext H1 H2) : Ext H H2 := fun x o h => b x o (a x o h)

mutual
inductive Rw (K : PySem.W.Frag) (hd : Nat → Option Addr) (H : Hp) : V → D → Prop
  | non : Rw K hd H .non .non
  | bl (b : Bool) : Rw K hd H (.bl b) (.bl b)
  | int (i : Int) : Rw K hd H (.int i) (.int i)
  | str (x : Str) : Rw K hd H (.str x) (.str x)
  | ty (n : String) : Rw K hd H (.ty n) (.ty n)
  | lst {a : Addr} {xs : List V} {ds : List D} : H a = some (.lst xs) → RwA K hd H xs ds → Rw K hd H (.ref a) (.lst ds)
  | tup {a : Addr} {xs : List V} {ds : List D} : SqT K H a xs → RwA K hd H xs ds → Rw K hd H (.ref a) (.tup ds)
  | obj {a dx : Addr} {c : Str} {ns : List Str} {xs : List V} {ds : List D} : H a = some (.ins (He.ga K c) dx (ns.zip xs)) → ns.length = xs.length → RwA K hd H xs ds → Rw K hd H (.ref a) (.obj c ns ds)
  | hdl {a : Addr} {n : Nat} : hd n = some a → Rw K hd H (.ref a) (.hdl n)
  | cls (c : Str) : Rw K hd H (.ref (He.ga K c)) (.cls c)
inductive RwA (K : PySem.W.Frag) (hd : Nat → Option Addr) (H : Hp) : List V → List D → Prop
  | nil : RwA K hd H [] []
  | cons {v : V} {vs : List V} {d : D} {ds : List D} : Rw K hd H v d → RwA K hd H vs ds → RwA K hd H (v :: vs) (d :: ds)
end
theorem sqL_mono {K : PySem.W.Frag} {H H' : Hp} {a : Addr} {xs : List V} (e : Ext H H') : SqL K H a xs → SqL K H' a xs
  | .inl (.inl h) => .inl (.inl (e _ _ h))
  | .inl (.inr ⟨o, h⟩) => .inl (.inr ⟨o, e _ _ h⟩)
  | .inr h => .inr h
theorem sqT_mono {K : PySem.W.Frag} {H H' : Hp} {a : Addr} {xs : List V} (e : Ext H H') : SqT K H a xs → SqT K H' a xs
  | .inl (.inl h) => .inl (.inl (e _ _ h))
  | .inl (.inr ⟨o, h⟩) => .inl (.inr ⟨o, e _ _ h⟩)
  | .inr h => .inr h
section
variable {K : PySem.W.Frag} {hd : Nat → Option Addr} {H H' : Hp}
mutual
theorem Rw.mono (e : Ext H H') : ∀ {v : V} {d : D}, Rw K hd H v d → Rw K hd H' v d
  | _, _, .non => .non
  | _, _, .bl b => .bl b
  | _, _, .int b => .int b
  | _, _, .str b => .str b
  | _, _, .ty b => .ty b
  | _, _, .lst h r => .lst (e _ _ h) (RwA.mono e r)
  | _, _, .tup h r => .tup (sqT_mono e h) (RwA.mono e r)
  | _, _, .obj h l r => .obj (e _ _ h) l (RwA.mono e r)
  | _, _, .hdl h => .hdl h
  | _, _, .cls c => .cls c
theorem RwA.mono (e : Ext H H') : ∀ {vs : List V} {ds : List D}, RwA K hd H vs ds → RwA K hd H' vs ds
  | _, _, .nil => .nil
  | _, _, .cons h t => .cons (Rw.mono e h) (RwA.mono e t)
end
theorem RwA.length : ∀ {vs : List V} {ds : List D}, RwA K hd H vs ds → vs.length = ds.length
  | _, _, .nil => rfl
  | _, _, .cons _ t => congrArg Nat.succ (RwA.length t)
theorem RwA.get : ∀ {vs : List V} {ds : List D} {i : Nat} {v : V}, RwA K hd H vs ds → vs[i]? = some v → ∃ d, ds[i]? = some d ∧ Rw K hd H v d
  | _, _, _, _, .nil, e => by simp at e
  | _, _, 0, _, .cons r _, e => by simp at e; subst e; exact ⟨_, rfl, r⟩
  | _, _, i + 1, v, .cons _ t, e => by
    obtain ⟨u, h1, h2⟩ := RwA.get (i := i) (v := v) t (by simpa using e)
    exact ⟨u, by simpa using h1, h2⟩
theorem RwA.getD : ∀ {vs : List V} {ds : List D} {i : Nat} {d : D}, RwA K hd H vs ds → ds[i]? = some d → ∃ v, vs[i]? = some v ∧ Rw K hd H v d
  | _, _, _, _, .nil, e => by simp at e
  | _, _, 0, _, .cons r _, e => by simp at e; subst e; exact ⟨_, rfl, r⟩
  | _, _, i + 1, d, .cons _ t, e => by
    obtain ⟨u, h1, h2⟩ := RwA.getD (i := i) (d := d) t (by simpa using e)
    exact ⟨u, by simpa using h1, h2⟩
theorem RwA.append : ∀ {vs us : List V} {ds es : List D}, RwA K hd H vs ds → RwA K hd H us es → RwA K hd H (vs ++ us) (ds ++ es)
  | _, _, _, _, .nil, s => s
  | _, _, _, _, .cons r t, s => .cons r (RwA.append t s)
theorem RwA.take : ∀ {vs : List V} {ds : List D} (n : Nat), RwA K hd H vs ds → RwA K hd H (vs.take n) (ds.take n)
  | _, _, 0, _ => .nil
  | _, _, _ + 1, .nil => .nil
  | _, _, n + 1, .cons r t => .cons r (RwA.take n t)
theorem RwA.drop : ∀ {vs : List V} {ds : List D} (n : Nat), RwA K hd H vs ds → RwA K hd H (vs.drop n) (ds.drop n)
  | _, _, 0, r => r
  | _, _, _ + 1, .nil => .nil
  | _, _, n + 1, .cons _ t => RwA.drop n t
theorem RwA.set {v : V} {d : D} (r : Rw K hd H v d) : ∀ {vs : List V} {ds : List D} (i : Nat), RwA K hd H vs ds → RwA K hd H (vs.set i v) (ds.set i d)
  | _, _, _, .nil => .nil
  | _, _, 0, .cons _ t => .cons r t
  | _, _, i + 1, .cons q t => .cons q (RwA.set r i t)
theorem RwA.dropLast : ∀ {vs : List V} {ds : List D}, RwA K hd H vs ds → RwA K hd H vs.dropLast ds.dropLast := fun {vs ds} r => by
  rw [List.dropLast_eq_take, List.dropLast_eq_take, r.length]
  exact r.take _
end

/-! ### worlds -/
/-- ms: what is hidden from data; hd: the handles; I: what stands of the hidden -/
structure Wd where
  ms : List Addr
  hd : Nat → Option Addr
  I : Hp → Prop
  loc : ∀ H H' : Hp, (∀ a, a ∈ ms → H' a = H a) → I H → I H'
  live : ∀ H : Hp, I H → ∀ a, a ∈ ms → ∃ o, H a = some o
def vis (ms : List Addr) (H : Hp) : Hp := fun a => if a ∈ ms then none else H a
theorem vis_in {ms : List Addr} {H : Hp} {a : Addr} (h : a ∈ ms) : vis ms H a = none := if_pos h
theorem vis_out {ms : List Addr} {H : Hp} {a : Addr} (h : a ∉ ms) : vis ms H a = H a := if_neg h
theorem vis_some {ms : List Addr} {H : Hp} {a : Addr} {o : HO} (h : vis ms H a = some o) : a ∉ ms ∧ H a = some o := by
  by_cases m : a ∈ ms
  · rw [vis_in m] at h; cases h
  · rw [vis_out m] at h; exact ⟨m, h⟩
theorem vis_ext {ms : List Addr} {H : Hp} : Ext (vis ms H) H := fun _ _ h => (vis_some h).2
theorem vis_of {ms : List Addr} {H : Hp} {a : Addr} {o : HO} (m : a ∉ ms) (h : H a = some o) : vis ms H a = some o := by rw [vis_out m]; exact h
abbrev Wd.v (w : Wd) (H : Hp) : Hp := vis w.ms H
/-- the owned lists hidden too -/
def Wd.plus (w : Wd) (os : List (Addr × List V)) : Wd where
  ms := os.map (·.1) ++ w.ms
  hd := w.hd
  I := fun H => w.I H ∧ ∀ p, p ∈ os → H p.1 = some (.lst p.2)
  loc := fun H H' k h => ⟨w.loc H H' (fun a ha => k a (List.mem_append_right _ ha)) h.1, fun p hp => (k p.1 (List.mem_append_left _ (List.mem_map_of_mem hp))).trans (h.2 p hp)⟩
  live := fun H h a ha => by
    rcases List.mem_append.mp ha with ha | ha
    · obtain ⟨p, hp, rfl⟩ := List.mem_map.mp ha
      exact ⟨_, h.2 p hp⟩
    · exact w.live H h.1 a ha
abbrev R (K : PySem.W.Frag) (w : Wd) (H : Hp) : V → D → Prop := Rw K w.hd (w.v H)
abbrev RA (K : PySem.W.Frag) (w : Wd) (H : Hp) : List V → List D → Prop := RwA K w.hd (w.v H)
structure Step (w : Wd) (H H' : Hp) : Prop where
  ext : Ext (w.v H) (w.v H')
  inv : w.I H'
section
variable {K : PySem.W.Frag} {w : Wd} {H H1 H2 H' : Hp} {os : List (Addr × List V)}
theorem Step.refl (h : w.I H) : Step w H H := ⟨Ext.rfl' _, h⟩
theorem Step.trans (a : Step w H H1) (b : Step w H1 H2) : Step w H H2 := ⟨a.ext.tr b.ext, b.inv⟩
theorem Step.r (s : Step w H H') {v : V} {d : D} (h : R K w H v d) : R K w H' v d := h.mono s.ext
theorem Step.ra (s : Step w H H') {v : List V} {d : List D} (h : RA K w H v d) : RA K w H' v d := h.mono s.ext
theorem fresh_out (hI : w.I H) {p : Addr} (hp : H p = none) : p ∉ w.ms := fun m => by
  obtain ⟨o, e⟩ := w.live H hI p m
  rw [hp] at e; cases e
/-- a new object -/
theorem Step.new (hI : w.I H) {p : Addr} {o : HO} (hp : H p = none) : Step w H (upd H p o) := by
  have hm := fresh_out hI hp
  refine ⟨fun a u e => ?_, w.loc H _ (fun a ha => upd_ne fun z => hm (z ▸ ha)) hI⟩
  obtain ⟨h1, h2⟩ := vis_some e
  exact vis_of h1 (by rw [upd_ne (ne_of_none h2 hp)]; exact h2)
theorem v_new (hI : w.I H) {p : Addr} {o : HO} (hp : H p = none) : w.v (upd H p o) p = some o := vis_of (fresh_out hI hp) upd_same
theorem plus_ext : Ext ((w.plus os).v H) (w.v H) := fun a o h => by
  obtain ⟨h1, h2⟩ := vis_some h
  exact vis_of (fun m => h1 (List.mem_append_right _ m)) h2
theorem R.un {v : V} {d : D} (h : R K (w.plus os) H v d) : R K w H v d := Rw.mono (plus_ext) h
theorem RA.un {v : List V} {d : List D} (h : RA K (w.plus os) H v d) : RA K w H v d := RwA.mono (plus_ext) h
theorem Step.un (hm : ∀ p, p ∈ os → (w.v H) p.1 = none ∨ H' p.1 = H p.1) (s : Step (w.plus os) H H') : Step w H H' := by
  refine ⟨fun a o e => ?_, s.inv.1⟩
  obtain ⟨h1, h2⟩ := vis_some e
  by_cases m : a ∈ os.map (·.1)
  · obtain ⟨p, hp, rfl⟩ := List.mem_map.mp m
    rcases hm p hp with z | z
    · rw [e] at z; cases z
    · exact vis_of h1 (z.trans h2)
  · obtain ⟨_, h4⟩ := vis_some (s.ext a o (vis_of (fun z => (List.mem_append.mp z).elim m h1) h2))
    exact vis_of h1 h4
end
/-! ### slots -/
inductive G where
  | no | dat (d : D) | own (ds : List D)
def RG (K : PySem.W.Frag) (w : Wd) (os : List (Addr × List V)) (H : Hp) (s : Option (Option V)) : G → Prop
  | .no => True
  | .dat d => ∃ v, s = some (some v) ∧ R K w H v d
  | .own ds => ∃ a xs, s = some (some (.ref a)) ∧ (a, xs) ∈ os ∧ RA K w H xs ds
structure RelE (K : PySem.W.Frag) (w : Wd) (os : List (Addr × List V)) (σ : St) (H : Hp) (Γ : List G) : Prop where
  len : σ.length = Γ.length
  at_ : ∀ (i : Nat) (g : G), Γ[i]? = some g → RG K w os H σ[i]? g
  own : ∀ H, w.I H → ∀ p, p ∈ os → H p.1 = some (.lst p.2)
theorem RG.step {K : PySem.W.Frag} {w : Wd} {os : List (Addr × List V)} {H H' : Hp} (e : Step w H H') {s : Option (Option V)} : ∀ {g : G}, RG K w os H s g → RG K w os H' s g
  | .no, _ => trivial
  | .dat _, ⟨v, h1, h2⟩ => ⟨v, h1, e.r h2⟩
  | .own _, ⟨a, xs, h1, h2, h3⟩ => ⟨a, xs, h1, h2, e.ra h3⟩
theorem RelE.step {K : PySem.W.Frag} {w : Wd} {os : List (Addr × List V)} {σ : St} {H H' : Hp} {Γ : List G} (r : RelE K w os σ H Γ) (e : Step w H H') : RelE K w os σ H' Γ :=
  ⟨r.len, fun (i : Nat) (g : G) h => (r.at_ i g h).step e, r.own⟩
end Ad
/-! Ad2: what an expression asks of data alone, and why that is enough. -/
namespace Ad
open PySem L2
abbrev ATE := List G → (D → Prop) → Prop
abbrev ATT := List G → (Bool → Prop) → Prop
abbrev ATA := List G → (List D → Prop) → Prop
abbrev WC := Wd → Prop
section
variable (K : PySem.W.Frag) (C : WC)
def SndE (t : TE) (a : ATE) : Prop := ∀ (w : Wd) (os : List (Addr × List V)) (σ : St) (H : Hp) (Γ : List G) (P : D → Prop) (Q : VK), C w → RelE K w os σ H Γ → w.I H → a Γ P →
  (∀ v H' d, Step w H H' → R K w H' v d → P d → Q v H') → t σ H Q
def SndT (t : TT) (a : ATT) : Prop := ∀ (w : Wd) (os : List (Addr × List V)) (σ : St) (H : Hp) (Γ : List G) (P : Bool → Prop) (Q : Bool → Hp → Prop), C w → RelE K w os σ H Γ → w.I H → a Γ P →
  (∀ b H', Step w H H' → P b → Q b H') → t σ H Q
def SndA (t : TA) (a : ATA) : Prop := ∀ (w : Wd) (os : List (Addr × List V)) (σ : St) (H : Hp) (Γ : List G) (P : List D → Prop) (Q : List V → Hp → Prop), C w → RelE K w os σ H Γ → w.I H → a Γ P →
  (∀ vs H' ds, Step w H H' → RA K w H' vs ds → P ds → Q vs H') → t σ H Q
/-- a new list -/
def SndL (t : TE) (a : ATA) : Prop := ∀ (w : Wd) (os : List (Addr × List V)) (σ : St) (H : Hp) (Γ : List G) (P : List D → Prop) (Q : VK), C w → RelE K w os σ H Γ → w.I H → a Γ P →
  (∀ p H' xs ds, H p = none → Ext (w.v H) ((w.plus [(p, xs)]).v H') → (w.plus [(p, xs)]).I H' → RA K (w.plus [(p, xs)]) H' xs ds → P ds → Q (.ref p) H') → t σ H Q
/-- by values -/
def SndR2 (r : R2) (f : D → D → (D → Prop) → Prop) : Prop := ∀ (w : Wd) (H : Hp) (x y : V) (dx dy : D) (P : D → Prop) (Q : VK), C w → w.I H → R K w H x dx → R K w H y dy → f dx dy P →
  (∀ v H' d, Step w H H' → R K w H' v d → P d → Q v H') → r x y H Q
def SndR1 (r : V → Hp → VK → Prop) (f : D → (D → Prop) → Prop) : Prop := ∀ (w : Wd) (H : Hp) (x : V) (dx : D) (P : D → Prop) (Q : VK), C w → w.I H → R K w H x dx → f dx P →
  (∀ v H' d, Step w H H' → R K w H' v d → P d → Q v H') → r x H Q
def SndRs (r : List V → Hp → VK → Prop) (f : List D → (D → Prop) → Prop) : Prop := ∀ (w : Wd) (H : Hp) (xs : List V) (ds : List D) (P : D → Prop) (Q : VK), C w → w.I H → RA K w H xs ds → f ds P →
  (∀ v H' d, Step w H H' → R K w H' v d → P d → Q v H') → r xs H Q
def SndM (r : V → List V → Hp → VK → Prop) (f : D → List D → (D → Prop) → Prop) : Prop := ∀ (w : Wd) (H : Hp) (x : V) (dx : D) (xs : List V) (ds : List D) (P : D → Prop) (Q : VK), C w → w.I H → R K w H x dx → RA K w H xs ds → f dx ds P →
  (∀ v H' d, Step w H H' → R K w H' v d → P d → Q v H') → r x xs H Q
end
structure JE (X : Cx) (C : WC) (e : Expr) (t : TE) (a : ATE) : Prop where
  p : PE X e t
  s : SndE X.K C t a
structure JT (X : Cx) (C : WC) (e : Expr) (t : TT) (a : ATT) : Prop where
  p : PT X e t
  s : SndT X.K C t a
structure JW (X : Cx) (C : WC) (e : Expr) (t : TT) (a : ATT) : Prop where
  p : PW X e t
  s : SndT X.K C t a
structure JA (X : Cx) (C : WC) (es : List Expr) (t : TA) (a : ATA) : Prop where
  p : PA X es t
  s : SndA X.K C t a
structure JL (X : Cx) (C : WC) (e : Expr) (t : TE) (a : ATA) : Prop where
  p : PE X e t
  s : SndL X.K C t a
structure JO (X : Cx) (C : WC) (f : Value → Value → Sem Value) (r : R2) (g : D → D → (D → Prop) → Prop) : Prop where
  p : OpR X f r
  s : SndR2 X.K C r g

/-! ### abstract readings -/
@[simp] abbrev aVar (i : Nat) : ATE := fun Γ P => match Γ[i]? with
  | some (.dat d) => P d
  | _ => False
@[simp] abbrev aC (d : D) : ATE := fun _ P => P d
@[simp] abbrev aOp (f : D → D → (D → Prop) → Prop) (a b : ATE) : ATE := fun Γ P => a Γ fun x => b Γ fun y => f x y P
@[simp] abbrev aUn (f : D → (D → Prop) → Prop) (a : ATE) : ATE := fun Γ P => a Γ fun x => f x P
@[simp] abbrev aNil : ATA := fun _ P => P []
@[simp] abbrev aCons (a : ATE) (b : ATA) : ATA := fun Γ P => a Γ fun x => b Γ fun xs => P (x :: xs)
@[simp] abbrev aTup (a : ATA) : ATE := fun Γ P => a Γ fun xs => xs.length ≤ 100000 ∧ P (.tup xs)
@[simp] abbrev aLstL (a : ATA) : ATA := fun Γ P => a Γ fun xs => xs.length ≤ 100000 ∧ P xs
/-- a new list as data -/
@[simp] abbrev aL (a : ATA) : ATE := fun Γ P => a Γ fun xs => P (.lst xs)
@[simp] abbrev aB (a : ATE) : ATT := fun Γ P => a Γ fun x => match x with
  | .bl b => P b
  | _ => False
@[simp] abbrev aAnd (a b : ATT) : ATT := fun Γ P => a Γ fun c => if c = true then b Γ P else P false
@[simp] abbrev aOr (a b : ATT) : ATT := fun Γ P => a Γ fun c => if c = true then P true else b Γ P
@[simp] abbrev aNot (a : ATT) : ATT := fun Γ P => a Γ fun c => P (!c)
@[simp] abbrev aV (a : ATT) : ATE := fun Γ P => a Γ fun c => P (.bl c)
@[simp] abbrev aIf (t : ATT) (a b : ATE) : ATE := fun Γ P => t Γ fun c => if c = true then a Γ P else b Γ P
@[simp] abbrev aAndV (a b : ATE) : ATE := fun Γ P => a Γ fun x => match x with
  | .bl c => if c = true then b Γ P else P (.bl false)
  | _ => False
@[simp] abbrev aOrV (a b : ATE) : ATE := fun Γ P => a Γ fun x => match x with
  | .bl c => if c = true then P (.bl true) else b Γ P
  | _ => False
@[simp] abbrev aChain (f g : D → D → (D → Prop) → Prop) (a b c : ATE) : ATE := fun Γ P => a Γ fun x => b Γ fun y => f x y fun z => match z with
  | .bl k => if k = true then c Γ fun u => g y u P else P (.bl false)
  | _ => False
@[simp] abbrev aCB (f : List D → (D → Prop) → Prop) (a : ATA) : ATE := fun Γ P => a Γ fun xs => f xs P
@[simp] abbrev aM (f : D → List D → (D → Prop) → Prop) (o : ATE) (a : ATA) : ATE := fun Γ P => o Γ fun x => a Γ fun xs => f x xs P

@[simp] abbrev aMs (f : Str → List D → (D → Prop) → Prop) (o : ATE) (a : ATA) : ATE := fun Γ P => o Γ fun x => match x with
  | .str z => a Γ fun xs => f z xs P
  | _ => False
@[simp] abbrev aMl (f : List D → List D → (D → Prop) → Prop) (o : ATE) (a : ATA) : ATE := fun Γ P => o Γ fun x => match x with
  | .lst ds => a Γ fun xs => f ds xs P
  | _ => False

/-! ### soundness, construct by construct -/
section
variable {K : PySem.W.Frag} {C : WC}
theorem snd_var {i : Nat} : SndE K C (tVar i) (aVar i) := by
  intro w os σ H Γ P Q _ hr hI ha hq
  unfold aVar at ha
  cases e : Γ[i]? with
  | none => rw [e] at ha; exact ha.elim
  | some g =>
    cases g with
    | dat d =>
      rw [e] at ha
      obtain ⟨v, h1, h2⟩ := hr.at_ i _ e
      exact ⟨v, h1, hq v H d (Step.refl hI) h2 ha⟩
    | no => rw [e] at ha; exact ha.elim
    | own ds => rw [e] at ha; exact ha.elim
theorem snd_c {v : V} {d : D} (r : ∀ (w : Wd) H, R K w H v d) : SndE K C (tC v) (aC d) := fun w os σ H Γ P Q _ _ hI ha hq => hq v H d (Step.refl hI) (r w H) ha
theorem snd_op {r : R2} {f : D → D → (D → Prop) → Prop} {ta tb : TE} {a b : ATE} (hf : SndR2 K C r f) (h1 : SndE K C ta a) (h2 : SndE K C tb b) : SndE K C (tOp r ta tb) (aOp f a b) := by
  intro w os σ H Γ P Q hc hr hI ha hq
  refine h1 w os σ H Γ _ _ hc hr hI ha fun v H1 d s1 r1 ha1 => ?_
  refine h2 w os σ H1 Γ _ _ hc (hr.step s1) s1.inv ha1 fun u H2 e s2 r2 ha2 => ?_
  exact hf w H2 v u d e P Q hc s2.inv (s2.r r1) r2 ha2 fun z H3 dz s3 r3 p3 => hq z H3 dz ((s1.trans s2).trans s3) r3 p3
theorem snd_un {r : V → Hp → VK → Prop} {f : D → (D → Prop) → Prop} {ta : TE} {a : ATE} (hf : SndR1 K C r f) (h1 : SndE K C ta a) : SndE K C (tUn r ta) (aUn f a) := by
  intro w os σ H Γ P Q hc hr hI ha hq
  refine h1 w os σ H Γ _ _ hc hr hI ha fun v H1 d s1 r1 ha1 => ?_
  exact hf w H1 v d P Q hc s1.inv r1 ha1 fun z H3 dz s3 r3 p3 => hq z H3 dz (s1.trans s3) r3 p3
theorem snd_nil : SndA K C tNil aNil := fun w os σ H Γ P Q _ _ hI ha hq => hq [] H [] (Step.refl hI) .nil ha
theorem snd_cons {ta : TE} {tr : TA} {a : ATE} {b : ATA} (h1 : SndE K C ta a) (h2 : SndA K C tr b) : SndA K C (tCons ta tr) (aCons a b) := by
  intro w os σ H Γ P Q hc hr hI ha hq
  refine h1 w os σ H Γ _ _ hc hr hI ha fun v H1 d s1 r1 ha1 => ?_
  refine h2 w os σ H1 Γ _ _ hc (hr.step s1) s1.inv ha1 fun u H2 e s2 r2 ha2 => ?_
  exact hq (v :: u) H2 (d :: e) (s1.trans s2) (.cons (s2.r r1) r2) ha2
theorem size_ok {n : Nat} (h : n ≤ 100000) : n ≤ sizeLine := Nat.le_trans h (by decide)
/-- a new visible object -/
theorem new_tup {w : Wd} {H : Hp} {p : Addr} {xs : List V} {ds : List D} (hI : w.I H) (hp : H p = none) (r : RA K w H xs ds) : Step w H (upd H p (.tup xs)) ∧ R K w (upd H p (.tup xs)) (.ref p) (.tup ds) := by
  have s := Step.new (o := .tup xs) hI hp
  exact ⟨s, .tup (SqT.of (v_new hI hp)) (s.ra r)⟩
theorem new_lst {w : Wd} {H : Hp} {p : Addr} {xs : List V} {ds : List D} (hI : w.I H) (hp : H p = none) (r : RA K w H xs ds) : Step w H (upd H p (.lst xs)) ∧ R K w (upd H p (.lst xs)) (.ref p) (.lst ds) := by
  have s := Step.new (o := .lst xs) hI hp
  exact ⟨s, .lst (v_new hI hp) (s.ra r)⟩
theorem new_own {w : Wd} {H : Hp} {p : Addr} {xs : List V} {ds : List D} (hI : w.I H) (hp : H p = none) (r : RA K w H xs ds) :
    Ext (w.v H) ((w.plus [(p, xs)]).v (upd H p (.lst xs))) ∧ (w.plus [(p, xs)]).I (upd H p (.lst xs)) ∧ RA K (w.plus [(p, xs)]) (upd H p (.lst xs)) xs ds := by
  have e : Ext (w.v H) ((w.plus [(p, xs)]).v (upd H p (.lst xs))) := fun a o h => by
    obtain ⟨h1, h2⟩ := vis_some h
    have ne : a ≠ p := ne_of_none h2 hp
    refine vis_of (fun z => ?_) (by rw [upd_ne ne]; exact h2)
    rcases List.mem_append.mp z with z | z
    · exact ne (by simpa using z)
    · exact h1 z
  refine ⟨e, ⟨(Step.new (o := .lst xs) hI hp).inv, fun q hq => ?_⟩, r.mono e⟩
  have : q = (p, xs) := by simpa using hq
  subst this
  exact upd_same
theorem snd_tup {ta : TA} {a : ATA} (h : SndA K C ta a) : SndE K C (tTup ta) (aTup a) := by
  intro w os σ H Γ P Q hc hr hI ha hq
  refine h w os σ H Γ _ _ hc hr hI ha fun vs H1 ds s1 r1 ⟨hz, p1⟩ => ⟨by rw [r1.length]; exact size_ok hz, fun p hp => ?_⟩
  obtain ⟨s2, r2⟩ := new_tup s1.inv hp r1
  exact hq _ _ _ (s1.trans s2) r2 p1
theorem snd_lst {ta : TA} {a : ATA} (h : SndA K C ta a) : SndL K C (tLst ta) (aLstL a) := by
  intro w os σ H Γ P Q hc hr hI ha hq
  refine h w os σ H Γ _ _ hc hr hI ha fun vs H1 ds s1 r1 ⟨hz, p1⟩ => ⟨by rw [r1.length]; exact size_ok hz, fun p hp => ?_⟩
  obtain ⟨e, i, r2⟩ := new_own s1.inv hp r1
  have hp0 : H p = none := by
    cases q : H p with
    | none => rfl
    | some o =>
      have hm : p ∉ w.ms := fresh_out s1.inv hp
      have h2 := (vis_some (s1.ext p o (vis_of hm q))).2
      rw [hp] at h2
      cases h2
  exact hq p _ vs ds hp0 (s1.ext.tr e) i r2 p1
/-- a new list is data -/
theorem own_step {w : Wd} {H H' : Hp} {p : Addr} {xs : List V} (e : Ext (w.v H) ((w.plus [(p, xs)]).v H')) (i : (w.plus [(p, xs)]).I H') : Step w H H' := ⟨e.tr plus_ext, i.1⟩
theorem own_lst {w : Wd} {H H' : Hp} {p : Addr} {xs : List V} {ds : List D} (hI : w.I H) (hp : H p = none) (i : (w.plus [(p, xs)]).I H') (r : RA K (w.plus [(p, xs)]) H' xs ds) : R K w H' (.ref p) (.lst ds) :=
  .lst (vis_of (fresh_out hI hp) (i.2 (p, xs) (by simp))) (RA.un r)
theorem snd_L {t : TE} {a : ATA} (h : SndL K C t a) : SndE K C t (aL a) := by
  intro w os σ H Γ P Q hc hr hI ha hq
  exact h w os σ H Γ _ _ hc hr hI ha fun p H' xs ds hp e i r p1 => hq _ _ _ (own_step e i) (own_lst hI hp i r) p1
theorem r_bl {w : Wd} {H : Hp} {v : V} {b : Bool} (r : R K w H v (.bl b)) : v = .bl b := by cases r; rfl
theorem r_int {w : Wd} {H : Hp} {v : V} {b : Int} (r : R K w H v (.int b)) : v = .int b := by cases r; rfl
theorem r_str {w : Wd} {H : Hp} {v : V} {b : Str} (r : R K w H v (.str b)) : v = .str b := by cases r; rfl
theorem snd_B {t : TE} {a : ATE} (h : SndE K C t a) : SndT K C (tB t) (aB a) := by
  intro w os σ H Γ P Q hc hr hI ha hq
  refine h w os σ H Γ _ _ hc hr hI ha fun v H1 d s1 r1 p1 => ?_
  cases d with
  | bl b => exact ⟨b, r_bl r1, hq b H1 s1 p1⟩
  | _ => exact False.elim p1
theorem snd_and {t u : TT} {a b : ATT} (h1 : SndT K C t a) (h2 : SndT K C u b) : SndT K C (tAnd t u) (aAnd a b) := by
  intro w os σ H Γ P Q hc hr hI ha hq
  refine h1 w os σ H Γ _ _ hc hr hI ha fun c H1 s1 p1 => ?_
  cases c with
  | true => exact h2 w os σ H1 Γ _ _ hc (hr.step s1) s1.inv p1 fun d H2 s2 p2 => hq d H2 (s1.trans s2) p2
  | false => exact hq false H1 s1 p1
theorem snd_or {t u : TT} {a b : ATT} (h1 : SndT K C t a) (h2 : SndT K C u b) : SndT K C (tOr t u) (aOr a b) := by
  intro w os σ H Γ P Q hc hr hI ha hq
  refine h1 w os σ H Γ _ _ hc hr hI ha fun c H1 s1 p1 => ?_
  cases c with
  | false => exact h2 w os σ H1 Γ _ _ hc (hr.step s1) s1.inv p1 fun d H2 s2 p2 => hq d H2 (s1.trans s2) p2
  | true => exact hq true H1 s1 p1
theorem snd_not {t : TT} {a : ATT} (h1 : SndT K C t a) : SndT K C (tNot t) (aNot a) := fun w os σ H Γ P Q hc hr hI ha hq => h1 w os σ H Γ _ _ hc hr hI ha fun c H1 s1 p1 => hq (!c) H1 s1 p1
theorem snd_notV {t : TE} {a : ATE} (h1 : SndE K C t a) : SndE K C (tNotV t) (aV (aNot (aB a))) := by
  intro w os σ H Γ P Q hc hr hI ha hq
  refine h1 w os σ H Γ _ _ hc hr hI ha fun v H1 d s1 r1 p1 => ?_
  cases d with
  | bl b => exact ⟨b, r_bl r1, hq _ H1 _ s1 (.bl _) p1⟩
  | _ => exact False.elim p1
theorem snd_if {tt : TT} {ta tb : TE} {c : ATT} {a b : ATE} (h : SndT K C tt c) (h1 : SndE K C ta a) (h2 : SndE K C tb b) : SndE K C (tIf tt ta tb) (aIf c a b) := by
  intro w os σ H Γ P Q hc hr hI ha hq
  refine h w os σ H Γ _ _ hc hr hI ha fun c H1 s1 p1 => ?_
  cases c with
  | true => exact h1 w os σ H1 Γ _ _ hc (hr.step s1) s1.inv p1 fun v H2 d s2 r p2 => hq v H2 d (s1.trans s2) r p2
  | false => exact h2 w os σ H1 Γ _ _ hc (hr.step s1) s1.inv p1 fun v H2 d s2 r p2 => hq v H2 d (s1.trans s2) r p2
theorem snd_andV {ta tb : TE} {a b : ATE} (h1 : SndE K C ta a) (h2 : SndE K C tb b) : SndE K C (tAndV ta tb) (aAndV a b) := by
  intro w os σ H Γ P Q hc hr hI ha hq
  refine h1 w os σ H Γ _ _ hc hr hI ha fun v H1 d s1 r1 p1 => ?_
  cases d with
  | bl c =>
    refine ⟨c, r_bl r1, ?_⟩
    cases c with
    | true => exact h2 w os σ H1 Γ _ _ hc (hr.step s1) s1.inv p1 fun v H2 d s2 r p2 => hq v H2 d (s1.trans s2) r p2
    | false => exact hq _ H1 _ s1 (.bl false) p1
  | _ => exact False.elim p1
theorem snd_orV {ta tb : TE} {a b : ATE} (h1 : SndE K C ta a) (h2 : SndE K C tb b) : SndE K C (tOrV ta tb) (aOrV a b) := by
  intro w os σ H Γ P Q hc hr hI ha hq
  refine h1 w os σ H Γ _ _ hc hr hI ha fun v H1 d s1 r1 p1 => ?_
  cases d with
  | bl c =>
    refine ⟨c, r_bl r1, ?_⟩
    cases c with
    | false => exact h2 w os σ H1 Γ _ _ hc (hr.step s1) s1.inv p1 fun v H2 d s2 r p2 => hq v H2 d (s1.trans s2) r p2
    | true => exact hq _ H1 _ s1 (.bl true) p1
  | _ => exact False.elim p1
theorem snd_test {t : TE} {a : ATE} (h : SndE K C t a) : SndT K C (tTest t) (aB a) := snd_B h
theorem snd_chain {r r' : R2} {f g : D → D → (D → Prop) → Prop} {ta tb tc : TE} {a b c : ATE} (hf : SndR2 K C r f) (hg : SndR2 K C r' g) (h1 : SndE K C ta a) (h2 : SndE K C tb b) (h3 : SndE K C tc c) :
    SndE K C (tChain r r' ta tb tc) (aChain f g a b c) := by
  intro w os σ H Γ P Q hc hr hI ha hq
  refine h1 w os σ H Γ _ _ hc hr hI ha fun v H1 d s1 r1 ha1 => ?_
  refine h2 w os σ H1 Γ _ _ hc (hr.step s1) s1.inv ha1 fun u H2 e s2 r2 ha2 => ?_
  refine hf w H2 v u d e _ _ hc s2.inv (s2.r r1) r2 ha2 fun z H3 dz s3 r3 p3 => ?_
  cases dz with
  | bl k =>
    refine ⟨k, r_bl r3, ?_⟩
    have s13 := (s1.trans s2).trans s3
    cases k with
    | true =>
      refine h3 w os σ H3 Γ _ _ hc (hr.step s13) s3.inv p3 fun y H4 dy s4 r4 p4 => ?_
      exact hg w H4 u y e dy P Q hc s4.inv ((s3.trans s4).r r2) r4 p4 fun z H5 dz s5 r5 p5 => hq z H5 dz ((s13.trans s4).trans s5) r5 p5
    | false => exact hq _ H3 _ s13 (.bl false) p3
  | _ => exact False.elim p3
theorem snd_CB {r : List V → Hp → VK → Prop} {f : List D → (D → Prop) → Prop} {ta : TA} {a : ATA} (hf : SndRs K C r f) (h : SndA K C ta a) : SndE K C (tCB r ta) (aCB f a) := by
  intro w os σ H Γ P Q hc hr hI ha hq
  refine h w os σ H Γ _ _ hc hr hI ha fun vs H1 ds s1 r1 p1 => ?_
  exact hf w H1 vs ds P Q hc s1.inv r1 p1 fun v H2 d s2 r2 p2 => hq v H2 d (s1.trans s2) r2 p2
theorem snd_M1 {r : V → List V → Hp → VK → Prop} {f : Str → List D → (D → Prop) → Prop} {to te : TE} {o a : ATE} (hf : ∀ z, SndRs K C (r (.str z)) (f z)) (h1 : SndE K C to o) (h2 : SndE K C te a) : SndE K C (tM1 r to te) (aMs f o (aCons a aNil)) := by
  intro w os σ H Γ P Q hc hr hI ha hq
  refine h1 w os σ H Γ _ _ hc hr hI ha fun v H1 d s1 r1 ha1 => ?_
  cases d with
  | str z =>
    cases r_str r1
    refine ⟨⟨z, rfl⟩, ?_⟩
    refine h2 w os σ H1 Γ _ _ hc (hr.step s1) s1.inv ha1 fun u H2 e s2 r2 ha2 => ?_
    exact hf z w H2 [u] [e] P Q hc s2.inv (.cons r2 .nil) ha2 fun v H3 d s3 r3 p3 => hq v H3 d ((s1.trans s2).trans s3) r3 p3
  | _ => exact False.elim ha1
theorem snd_M0 {r : V → List V → Hp → VK → Prop} {f : Str → List D → (D → Prop) → Prop} {to : TE} {o : ATE} (hf : ∀ z, SndRs K C (r (.str z)) (f z)) (h1 : SndE K C to o) : SndE K C (tM0 r to) (aMs f o aNil) := by
  intro w os σ H Γ P Q hc hr hI ha hq
  refine h1 w os σ H Γ _ _ hc hr hI ha fun v H1 d s1 r1 ha1 => ?_
  cases d with
  | str z =>
    cases r_str r1
    exact ⟨⟨z, rfl⟩, hf z w H1 [] [] P Q hc s1.inv .nil ha1 fun v H3 d s3 r3 p3 => hq v H3 d (s1.trans s3) r3 p3⟩
  | _ => exact False.elim ha1
/-- a method of a list that is data -/
theorem snd_Ml {r : V → List V → Hp → VK → Prop} {f : List D → List D → (D → Prop) → Prop} {to : TE} {ta : TA} {o : ATE} {a : ATA} (hf : SndM K C r (fun x xs P => match x with | .lst ds => f ds xs P | _ => False)) (h1 : SndE K C to o) (h2 : SndA K C ta a) : SndE K C (tBM K "list" r to ta) (aMl f o a) := by
  intro w os σ H Γ P Q hc hr hI ha hq
  refine h1 w os σ H Γ _ _ hc hr hI ha fun v H1 d s1 r1 ha1 => ?_
  cases d with
  | lst ds =>
    cases id r1 with
    | lst hx _ =>
      refine ⟨.inl ⟨rfl, _, SqL.of (vis_some hx).2⟩, ?_⟩
      refine h2 w os σ H1 Γ _ _ hc (hr.step s1) s1.inv ha1 fun us H2 es s2 r2 ha2 => ?_
      exact hf w H2 _ (.lst ds) us es P Q hc s2.inv (s2.r r1) r2 ha2 fun v H3 d s3 r3 p3 => hq v H3 d ((s1.trans s2).trans s3) r3 p3
  | _ => exact False.elim ha1
end
end Ad
/-! Ad3: operators and built-in calls, by data. -/
namespace Ad
open PySem L2
/-! ### data that == takes apart -/
mutual
def pyD : D → PyData
  | .bl b => .bool b
  | .int i => .int i
  | .str s => .str s
  | .lst ds => .list (pyA ds)
  | .tup ds => .tuple (pyA ds)
  | _ => .none
def pyA : List D → List PyData
  | [] => []
  | d :: ds => pyD d :: pyA ds
end
mutual
def pureD : D → Bool
  | .non => true | .bl _ => true | .int _ => true | .str _ => true
  | .lst ds => pureA ds
  | .tup ds => pureA ds
  | _ => false
def pureA : List D → Bool
  | [] => true
  | d :: ds => pureD d && pureA ds
end
def eqD (x y : D) : Bool := PyData.eqv (pyD x) (pyD y)
def okD (d : D) : Bool := pureD d && SeqAt.shaped (pyD d)
def flD : D → Bool
  | .non => true | .bl _ => true | .int _ => true | .str _ => true
  | _ => false
def sclD : D → D → Bool
  | .non, .non => true | .non, .int _ => true | .int _, .non => true | .non, .bl _ => true | .bl _, .non => true | .non, .str _ => true | .str _, .non => true
  | .int _, .int _ => true | .bl _, .bl _ => true | .str _, .str _ => true
  | .int _, .str _ => true | .str _, .int _ => true | .bl _, .str _ => true | .str _, .bl _ => true
  | _, _ => false
theorem pyA_map : ∀ ds : List D, pyA ds = ds.map pyD
  | [] => rfl
  | d :: ds => by rw [pyA, pyA_map ds]; rfl
/-! ### operators -/
@[simp] def wAdd (x y : D) (P : D → Prop) : Prop := match x, y with
  | .int i, .int j => P (.int (i + j))
  | .str a, .str b => a.length + b.length ≤ 16000000 ∧ P (.str (a ++ b))
  | .lst a, .lst b => a.length + b.length ≤ 16000000 ∧ P (.lst (a ++ b))
  | .tup a, .tup b => a.length + b.length ≤ 16000000 ∧ P (.tup (a ++ b))
  | _, _ => False
@[simp] def wInt (c : Int → Int → Prop) (f : Int → Int → D) (x y : D) (P : D → Prop) : Prop := match x, y with
  | .int i, .int j => c i j ∧ P (f i j)
  | _, _ => False
@[simp] def wInt0 (f : Int → Int → D) (x y : D) (P : D → Prop) : Prop := match x, y with
  | .int i, .int j => P (f i j)
  | _, _ => False
@[simp] def wSub : D → D → (D → Prop) → Prop := wInt0 fun i j => .int (i - j)
def CMulA (i j : Int) : Prop := CMul i j ∨ CMulW i j
@[simp] def wMul : D → D → (D → Prop) → Prop := wInt CMulA fun i j => .int (i * j)
@[simp] def wMod : D → D → (D → Prop) → Prop := wInt (fun _ j => j ≠ 0) fun i j => .int (i.fmod j)
def CDivA (i j : Int) : Prop := CDivN i j ∨ CDivW i j
@[simp] def wDiv : D → D → (D → Prop) → Prop := wInt CDivA fun i j => .int (i.fdiv j)
@[simp] def wPow : D → D → (D → Prop) → Prop := wInt CPow fun i j => .int (i ^ j.toNat)
@[simp] def wLt : D → D → (D → Prop) → Prop := wInt0 fun i j => .bl (decide (i < j))
@[simp] def wLe : D → D → (D → Prop) → Prop := wInt0 fun i j => .bl (decide (i ≤ j))
@[simp] def wGt : D → D → (D → Prop) → Prop := wInt0 fun i j => .bl (decide (j < i))
@[simp] def wGe : D → D → (D → Prop) → Prop := wInt0 fun i j => .bl (decide (j ≤ i))
def wEq (x y : D) (P : D → Prop) : Prop := (sclD x y || (okD x && okD y)) = true ∧ P (.bl (eqD x y))
def wNe (x y : D) (P : D → Prop) : Prop := (sclD x y || (okD x && okD y)) = true ∧ P (.bl (!eqD x y))
def isNon : D → Bool
  | .non => true
  | _ => false
@[simp] def wIsN (x y : D) (P : D → Prop) : Prop := match y with
  | .non => P (.bl (isNon x))
  | _ => False
@[simp] def wNotN (x y : D) (P : D → Prop) : Prop := match y with
  | .non => P (.bl (!isNon x))
  | _ => False
def subS (a s : Str) : Bool := !(Builtin.Str.occurrences s a 0 s.length 1).isEmpty
@[simp] def memD (x y : D) (P : Bool → Prop) : Prop := match y with
  | .lst ds => ((flD x && ds.all flD) || (okD x && okD (.lst ds))) = true ∧ P (ds.any fun z => eqD z x)
  | .tup ds => (flD x && ds.all flD) = true ∧ P (ds.any fun z => eqD z x)
  | .str s => match x with
    | .str a => P (subS a s)
    | _ => False
  | _ => False
@[simp] def wIn (x y : D) (P : D → Prop) : Prop := memD x y fun b => P (.bl b)
@[simp] def wNotIn (x y : D) (P : D → Prop) : Prop := memD x y fun b => P (.bl (!b))
@[simp] def wNeg (x : D) (P : D → Prop) : Prop := match x with
  | .int i => P (.int (-i))
  | _ => False
@[simp] def wIx (x y : D) (P : D → Prop) : Prop := match y with
  | .int i => match x with
    | .lst ds => match atI ds i with
      | some d => P d
      | none => False
    | .tup ds => match atI ds i with
      | some d => P d
      | none => False
    | .str z => z.length ≤ 16000000 ∧ match atI z.cps.toList i with
      | some c => P (.str ⟨#[c]⟩)
      | none => False
    | _ => False
  | _ => False

def rAddG (K : PySem.W.Frag) : R2 := fun x y H Q => (∃ i j, x = .int i ∧ y = .int j ∧ Q (.int (i + j)) H) ∨ (∃ i j, x = .str i ∧ y = .str j ∧ i.length + j.length ≤ sizeLine ∧ Q (.str (i ++ j)) H) ∨ rCat x y H Q ∨ rCatA K x y H Q
def rMulG : R2 := fun x y H Q => rI CMul (fun i j => .int (i * j)) x y H Q ∨ rI CMulW (fun i j => .int (i * j)) x y H Q
def rDivG : R2 := fun x y H Q => rI CDivN (fun i j => .int (i.fdiv j)) x y H Q ∨ rI CDivW (fun i j => .int (i / j)) x y H Q
def rEqG (K : PySem.W.Frag) : R2 := fun x y H Q => rEq x y H Q ∨ rEqD K x y H Q
def rNeG (K : PySem.W.Frag) : R2 := fun x y H Q => rNe x y H Q ∨ rNeD K x y H Q
def rInG (K : PySem.W.Frag) : R2 := fun x y H Q => rIn K false x y H Q ∨ rInD K x y H Q ∨ ∃ i j, x = .str i ∧ y = .str j ∧ Q (.bl (!(Builtin.Str.occurrences j i 0 j.length 1).isEmpty)) H
def rNotInG (K : PySem.W.Frag) : R2 := fun x y H Q => rIn K true x y H Q ∨ rNotInD K x y H Q ∨ ∃ i j, x = .str i ∧ y = .str j ∧ Q (.bl (!(!(Builtin.Str.occurrences j i 0 j.length 1).isEmpty))) H
section
variable {K : PySem.W.Frag} {C : WC}
theorem wI0 {f : Int → Int → D} {g : Int → Int → V} (h : ∀ (w : Wd) H i j, R K w H (g i j) (f i j)) : SndR2 K C (rI0 g) (wInt0 f) := by
  intro w H x y dx dy P Q _ hI rx ry hf hq
  cases dx with
  | int i =>
    cases dy with
    | int j => cases rx; cases ry; exact ⟨i, j, rfl, rfl, hq _ H _ (Step.refl hI) (h w H i j) hf⟩
    | _ => exact False.elim hf
  | _ => exact False.elim hf
theorem wI1 {c c' : Int → Int → Prop} {f : Int → Int → D} {g : Int → Int → V} (hc : ∀ i j, c i j → c' i j) (h : ∀ (w : Wd) H i j, c i j → R K w H (g i j) (f i j)) : SndR2 K C (rI c' g) (wInt c f) := by
  intro w H x y dx dy P Q _ hI rx ry hf hq
  cases dx with
  | int i =>
    cases dy with
    | int j => cases rx; cases ry; exact ⟨i, j, rfl, rfl, hc _ _ hf.1, hq _ H _ (Step.refl hI) (h w H i j hf.1) hf.2⟩
    | _ => exact False.elim hf
  | _ => exact False.elim hf
theorem s_sub : SndR2 K C (rI0 fun i j => .int (i - j)) wSub := wI0 fun _ _ _ _ => .int _
theorem s_lt : SndR2 K C (rI0 fun i j => .bl (decide (i < j))) wLt := wI0 fun _ _ _ _ => .bl _
theorem s_le : SndR2 K C (rI0 fun i j => .bl (decide (i ≤ j))) wLe := wI0 fun _ _ _ _ => .bl _
theorem s_gt : SndR2 K C (rI0 fun i j => .bl (decide (j < i))) wGt := wI0 fun _ _ _ _ => .bl _
theorem s_ge : SndR2 K C (rI0 fun i j => .bl (decide (j ≤ i))) wGe := wI0 fun _ _ _ _ => .bl _
theorem s_mod : SndR2 K C (rI (fun _ j => j ≠ 0) fun i j => .int (i.fmod j)) wMod := wI1 (fun _ _ h => h) fun _ _ _ _ _ => .int _
theorem s_pow : SndR2 K C (rI CPow fun i j => .int (i ^ j.toNat)) wPow := wI1 (fun _ _ h => h) fun _ _ _ _ _ => .int _
theorem wI2 {c1 c2 : Int → Int → Prop} {f : Int → Int → D} {g g2 : Int → Int → V} (h : ∀ (w : Wd) H i j, R K w H (g i j) (f i j)) (h2 : ∀ (w : Wd) H i j, c2 i j → R K w H (g2 i j) (f i j)) :
    SndR2 K C (fun x y H Q => rI c1 g x y H Q ∨ rI c2 g2 x y H Q) (wInt (fun i j => c1 i j ∨ c2 i j) f) := by
  intro w H x y dx dy P Q _ hI rx ry hf hq
  cases dx with
  | int i =>
    cases dy with
    | int j =>
      cases rx; cases ry
      obtain ⟨h1 | h1, p⟩ := hf
      · exact .inl ⟨i, j, rfl, rfl, h1, hq _ H _ (Step.refl hI) (h w H i j) p⟩
      · exact .inr ⟨i, j, rfl, rfl, h1, hq _ H _ (Step.refl hI) (h2 w H i j h1) p⟩
    | _ => exact False.elim hf
  | _ => exact False.elim hf
theorem s_mul : SndR2 K C rMulG wMul := wI2 (fun _ _ _ _ => .int _) fun _ _ _ _ _ => .int _
theorem s_div : SndR2 K C rDivG wDiv := wI2 (fun _ _ _ _ => .int _) fun _ _ i j h => by
  have e : i / j = i.fdiv j := (Int.fdiv_eq_ediv_of_nonneg i (Int.le_of_lt h.1)).symm
  rw [e]
  exact .int _
theorem size_ok2 {n : Nat} (h : n ≤ 16000000) : n ≤ sizeLine := Nat.le_trans h (by decide)
theorem s_add : SndR2 K C (rAddG K) wAdd := by
  intro w H x y dx dy P Q _ hI rx ry hf hq
  cases dx with
  | int i =>
    cases dy with
    | int j => cases rx; cases ry; exact .inl ⟨i, j, rfl, rfl, hq _ H _ (Step.refl hI) (.int _) hf⟩
    | _ => exact False.elim hf
  | str i =>
    cases dy with
    | str j => cases rx; cases ry; exact .inr (.inl ⟨i, j, rfl, rfl, size_ok2 hf.1, hq _ H _ (Step.refl hI) (.str _) hf.2⟩)
    | _ => exact False.elim hf
  | lst i =>
    cases dy with
    | lst j =>
      cases rx with
      | lst hx rx =>
        cases ry with
        | lst hy ry =>
          refine .inr (.inr (.inl ⟨_, _, _, _, rfl, rfl, (vis_some hx).2, (vis_some hy).2, size_ok2 (by rw [rx.length, ry.length]; exact hf.1), fun p hp => ?_⟩))
          obtain ⟨s, r⟩ := new_lst hI hp (rx.append ry)
          exact hq _ _ _ s r hf.2
    | _ => exact False.elim hf
  | tup i =>
    cases dy with
    | tup j =>
      cases rx with
      | tup hx rx =>
        cases ry with
        | tup hy ry =>
          refine .inr (.inr (.inr ⟨_, _, _, _, rfl, rfl, sqT_mono vis_ext hx, sqT_mono vis_ext hy, size_ok2 (by rw [rx.length, ry.length]; exact hf.1), fun e => ?_, fun e1 e2 => ?_, fun _ _ p hp => ?_⟩))
          · subst e
            cases rx
            exact hq _ _ _ (Step.refl hI) (.tup hy ry) hf.2
          · subst e2
            cases ry
            have h2 := hf.2
            rw [List.append_nil] at h2
            exact hq _ _ _ (Step.refl hI) (.tup hx rx) h2
          · obtain ⟨s, r⟩ := new_tup hI hp (rx.append ry)
            exact hq _ _ _ s r hf.2
    | _ => exact False.elim hf
  | _ => exact False.elim hf
mutual
theorem dp_of {hd : Nat → Option Addr} {H : Hp} : ∀ (d : D) (v : V), Rw K hd H v d → pureD d = true → Dp K H v (pyD d)
  | .non, _, r, _ => by cases r; exact .non
  | .bl _, _, r, _ => by cases r; exact .bl _
  | .int _, _, r, _ => by cases r; exact .int _
  | .str _, _, r, _ => by cases r; exact .str _
  | .lst ds, _, r, h => by
    cases r with
    | lst hx r => exact .lst (SqL.of hx) (dpA_of ds _ r (by simpa [pureD] using h))
  | .tup ds, _, r, h => by
    cases r with
    | tup hx r => exact .tup hx (dpA_of ds _ r (by simpa [pureD] using h))
  | .ty _, _, _, h => by simp [pureD] at h
  | .obj _ _ _, _, _, h => by simp [pureD] at h
  | .hdl _, _, _, h => by simp [pureD] at h
  | .cls _, _, _, h => by simp [pureD] at h
theorem dpA_of {hd : Nat → Option Addr} {H : Hp} : ∀ (ds : List D) (vs : List V), RwA K hd H vs ds → pureA ds = true → DpAll K H vs (pyA ds)
  | [], _, r, _ => by cases r; exact .nil
  | d :: ds, _, r, h => by
    cases r with
    | cons r1 r2 =>
      have h' : pureD d = true ∧ pureA ds = true := by simpa [pureA] using h
      exact .cons (dp_of d _ r1 h'.1) (dpA_of ds _ r2 h'.2)
end
mutual
theorem dp_mono {H H' : Hp} (e : Ext H H') : ∀ {v : V} {d : PyData}, Dp K H v d → Dp K H' v d
  | _, _, .non => .non
  | _, _, .bl b => .bl b
  | _, _, .int b => .int b
  | _, _, .str b => .str b
  | _, _, .lst h r => .lst (sqL_mono e h) (dpA_mono e r)
  | _, _, .tup h r => .tup (sqT_mono e h) (dpA_mono e r)
theorem dpA_mono {H H' : Hp} (e : Ext H H') : ∀ {v : List V} {d : List PyData}, DpAll K H v d → DpAll K H' v d
  | _, _, .nil => .nil
  | _, _, .cons h r => .cons (dp_mono e h) (dpA_mono e r)
end
theorem dp_at {w : Wd} {H : Hp} {v : V} {d : D} (r : R K w H v d) (h : okD d = true) : Dp K H v (pyD d) ∧ SeqAt.shaped (pyD d) = true := by
  have h' : pureD d = true ∧ SeqAt.shaped (pyD d) = true := by simpa [okD] using h
  exact ⟨dp_mono vis_ext (dp_of d v r h'.1), h'.2⟩
theorem scl_of {w : Wd} {H : Hp} {x y : V} {dx dy : D} (rx : R K w H x dx) (ry : R K w H y dy) (h : sclD dx dy = true) : scal x y = true ∧ decide (x = y) = eqD dx dy := by
  cases dx <;> cases dy <;> first
    | (cases rx; cases ry; refine ⟨rfl, ?_⟩; rw [Bool.eq_iff_iff]; simp [eqD, pyD, PyData.eqv]; done)
    | (exact absurd (show false = true from h) Bool.false_ne_true)
theorem s_eq : SndR2 K C (rEqG K) wEq := by
  intro w H x y dx dy P Q _ hI rx ry hf hq
  obtain ⟨h1, h2⟩ := hf
  rcases Bool.or_eq_true_iff.mp h1 with h | h
  · obtain ⟨a, b⟩ := scl_of rx ry h
    refine .inl ⟨a, ?_⟩
    rw [b]
    exact hq _ H _ (Step.refl hI) (.bl _) h2
  · obtain ⟨a, b⟩ := Bool.and_eq_true_iff.mp h
    obtain ⟨p1, p2⟩ := dp_at rx a
    obtain ⟨q1, q2⟩ := dp_at ry b
    exact .inr ⟨_, _, p1, q1, p2, q2, hq _ H _ (Step.refl hI) (.bl _) h2⟩
theorem s_ne : SndR2 K C (rNeG K) wNe := by
  intro w H x y dx dy P Q _ hI rx ry hf hq
  obtain ⟨h1, h2⟩ := hf
  rcases Bool.or_eq_true_iff.mp h1 with h | h
  · obtain ⟨a, b⟩ := scl_of rx ry h
    refine .inl ⟨a, ?_⟩
    rw [b]
    exact hq _ H _ (Step.refl hI) (.bl _) h2
  · obtain ⟨a, b⟩ := Bool.and_eq_true_iff.mp h
    obtain ⟨p1, p2⟩ := dp_at rx a
    obtain ⟨q1, q2⟩ := dp_at ry b
    exact .inr ⟨_, _, p1, q1, p2, q2, hq _ H _ (Step.refl hI) (.bl _) h2⟩
theorem non_of {w : Wd} {H : Hp} {x : V} {dx : D} (rx : R K w H x dx) : decide (x = .non) = isNon dx := by
  cases rx <;> rfl
theorem s_isN : SndR2 K C (fun x y H Q => y = .non ∧ Q (.bl (decide (x = .non))) H) wIsN := by
  intro w H x y dx dy P Q _ hI rx ry hf hq
  cases dy with
  | non => cases ry; refine ⟨rfl, ?_⟩; rw [non_of rx]; exact hq _ H _ (Step.refl hI) (.bl _) hf
  | _ => exact False.elim hf
theorem s_notN : SndR2 K C (fun x y H Q => y = .non ∧ Q (.bl (!decide (x = .non))) H) wNotN := by
  intro w H x y dx dy P Q _ hI rx ry hf hq
  cases dy with
  | non => cases ry; refine ⟨rfl, ?_⟩; rw [non_of rx]; exact hq _ H _ (Step.refl hI) (.bl _) hf
  | _ => exact False.elim hf
theorem fl_of {w : Wd} {H : Hp} {x : V} {dx : D} (rx : R K w H x dx) (h : flD dx = true) : flatV x = true := by
  cases rx <;> first | rfl | exact absurd (show false = true from h) Bool.false_ne_true
theorem flA_of {w : Wd} {H : Hp} : ∀ {xs : List V} {ds : List D}, RA K w H xs ds → ds.all flD = true → xs.all flatV = true
  | _, _, .nil, _ => rfl
  | _, _, .cons r t, h => by
    rw [List.all_cons, Bool.and_eq_true] at h
    rw [List.all_cons, fl_of (w := w) r h.1, flA_of (w := w) t h.2]
    rfl
theorem eqv_fl {w : Wd} {H : Hp} {x y : V} {dx dy : D} (rx : R K w H x dx) (ry : R K w H y dy) (h1 : flD dx = true) (h2 : flD dy = true) : eqV x y = eqD dx dy := by
  cases rx <;> first
    | (cases ry <;> first | (simp [eqD, pyD, PyData.eqv, eqV]; done) | exact absurd (show false = true from h2) Bool.false_ne_true)
    | exact absurd (show false = true from h1) Bool.false_ne_true
theorem in_fl {w : Wd} {H : Hp} {x : V} {dx : D} (rx : R K w H x dx) (h1 : flD dx = true) : ∀ {xs : List V} {ds : List D}, RA K w H xs ds → ds.all flD = true → inV x xs = ds.any fun z => eqD z dx
  | _, _, .nil, _ => rfl
  | _, _, .cons r t, h => by
    rw [List.all_cons, Bool.and_eq_true] at h
    have := in_fl rx h1 t h.2
    unfold inV at this ⊢
    rw [List.any_cons, List.any_cons, eqv_fl r rx h.1 h1, this]
theorem any_py {d : D} (ds : List D) : ((pyA ds).any fun z => PyData.eqv z (pyD d)) = ds.any fun z => eqD z d := by
  rw [pyA_map, List.any_map]
  rfl
theorem s_mem {r : R2} {g : Bool → Bool} (h1 : ∀ x y H Q, (∃ p xs, y = .ref p ∧ (SqL K H p xs ∨ SqT K H p xs) ∧ flatV x = true ∧ xs.all flatV = true ∧ Q (.bl (g (inV x xs))) H) → r x y H Q)
    (h2 : ∀ x y H Q, (∃ d ds, Dp K H x d ∧ Dp K H y (.list ds) ∧ SeqAt.shaped d = true ∧ SeqAt.shaped (.list ds) = true ∧ Q (.bl (g (ds.any fun z => PyData.eqv z d))) H) → r x y H Q)
    (h3 : ∀ x y H Q, (∃ i j, x = .str i ∧ y = .str j ∧ Q (.bl (g (!(Builtin.Str.occurrences j i 0 j.length 1).isEmpty))) H) → r x y H Q) : SndR2 K C r (fun x y P => memD x y fun b => P (.bl (g b))) := by
  intro w H x y dx dy P Q _ hI rx ry hf hq
  cases dy with
  | lst ds =>
    obtain ⟨c, p⟩ := hf
    rcases Bool.or_eq_true_iff.mp c with c | c
    · obtain ⟨c1, c2⟩ := Bool.and_eq_true_iff.mp c
      cases ry with
      | lst hy ry =>
        refine h1 _ _ _ _ ⟨_, _, rfl, .inl (SqL.of (vis_some hy).2), fl_of rx c1, flA_of (w := w) ry c2, ?_⟩
        rw [in_fl rx c1 ry c2]
        exact hq _ H _ (Step.refl hI) (.bl _) p
    · obtain ⟨c1, c2⟩ := Bool.and_eq_true_iff.mp c
      obtain ⟨p1, p2⟩ := dp_at rx c1
      obtain ⟨q1, q2⟩ := dp_at ry c2
      refine h2 _ _ _ _ ⟨pyD dx, pyA ds, p1, by simpa [pyD] using q1, p2, by simpa [pyD] using q2, ?_⟩
      rw [any_py]
      exact hq _ H _ (Step.refl hI) (.bl _) p
  | tup ds =>
    obtain ⟨c, p⟩ := hf
    obtain ⟨c1, c2⟩ := Bool.and_eq_true_iff.mp c
    cases ry with
    | tup hy ry =>
      refine h1 _ _ _ _ ⟨_, _, rfl, .inr (sqT_mono vis_ext hy), fl_of rx c1, flA_of (w := w) ry c2, ?_⟩
      rw [in_fl rx c1 ry c2]
      exact hq _ H _ (Step.refl hI) (.bl _) p
  | str s =>
    cases dx with
    | str a => cases rx; cases ry; exact h3 _ _ _ _ ⟨a, s, rfl, rfl, hq _ H _ (Step.refl hI) (.bl _) hf⟩
    | _ => exact False.elim hf
  | _ => exact False.elim hf
theorem s_in : SndR2 K C (rInG K) wIn := s_mem (g := fun b => b) (fun _ _ _ _ ⟨p, xs, a, b, c, d, e⟩ => .inl ⟨p, xs, a, b, c, d, e⟩) (fun _ _ _ _ h => .inr (.inl h)) fun _ _ _ _ h => .inr (.inr h)
theorem s_notIn : SndR2 K C (rNotInG K) wNotIn := s_mem (g := fun b => !b) (fun _ _ _ _ ⟨p, xs, a, b, c, d, e⟩ => .inl ⟨p, xs, a, b, c, d, e⟩) (fun _ _ _ _ h => .inr (.inl h)) fun _ _ _ _ h => .inr (.inr h)
theorem s_neg : SndR1 K C (rU fun i => .int (-i)) wNeg := by
  intro w H x dx P Q _ hI rx hf hq
  cases dx with
  | int i => cases rx; exact ⟨i, rfl, hq _ H _ (Step.refl hI) (.int _) hf⟩
  | _ => exact False.elim hf
theorem at_rw {w : Wd} {H : Hp} {xs : List V} {ds : List D} {i : Int} {d : D} (r : RA K w H xs ds) (h : atI ds i = some d) : ∃ v, atI xs i = some v ∧ R K w H v d := by
  unfold atI at h ⊢
  rw [r.length]
  cases e : ixN ds.length i with
  | none => rw [e] at h; cases h
  | some j =>
    rw [e] at h
    exact r.getD h
theorem s_ix : SndR2 K C (rIx K) wIx := by
  intro w H x y dx dy P Q _ hI rx ry hf hq
  cases dy with
  | int i =>
    cases ry
    cases dx with
    | lst ds =>
      have hf : (match atI ds i with | some d => P d | none => False) := hf
      cases e : atI ds i with
      | none => rw [e] at hf; exact hf.elim
      | some d =>
        rw [e] at hf
        cases rx with
        | lst hx rx =>
          obtain ⟨v, a, b⟩ := at_rw (w := w) rx e
          exact .inl ⟨_, _, i, v, rfl, rfl, SqL.of (vis_some hx).2, a, hq _ H _ (Step.refl hI) b hf⟩
    | tup ds =>
      have hf : (match atI ds i with | some d => P d | none => False) := hf
      cases e : atI ds i with
      | none => rw [e] at hf; exact hf.elim
      | some d =>
        rw [e] at hf
        cases rx with
        | tup hx rx =>
          obtain ⟨v, a, b⟩ := at_rw (w := w) rx e
          exact .inr (.inl ⟨_, _, i, v, rfl, rfl, sqT_mono vis_ext hx, a, hq _ H _ (Step.refl hI) b hf⟩)
    | str z =>
      have hf : z.length ≤ 16000000 ∧ (match atI z.cps.toList i with | some c => P (.str ⟨#[c]⟩) | none => False) := hf
      cases e : atI z.cps.toList i with
      | none => rw [e] at hf; exact hf.2.elim
      | some d =>
        rw [e] at hf
        cases rx
        exact .inr (.inr ⟨_, i, d, rfl, rfl, size_ok2 hf.1, e, hq _ H _ (Step.refl hI) (.str _) hf.2⟩)
    | _ => exact False.elim hf
  | _ => exact False.elim hf
end
section
variable {X : Cx} {C : WC}
theorem jo_add : JO X C (binaryOp .Add) (rAddG X.K) wAdd := ⟨op_add.or (op_add_str.or (op_cat.or op_catA)), s_add⟩
theorem jo_sub : JO X C (binaryOp .Sub) (rI0 fun i j => .int (i - j)) wSub := ⟨op_sub, s_sub⟩
theorem jo_mul : JO X C (binaryOp .Mult) rMulG wMul := ⟨op_mul.or op_mulW, s_mul⟩
theorem jo_mod : JO X C (binaryOp .Mod) (rI (fun _ j => j ≠ 0) fun i j => .int (i.fmod j)) wMod := ⟨op_modN, s_mod⟩
theorem jo_div : JO X C (binaryOp .FloorDiv) rDivG wDiv := ⟨op_fdivN.or op_fdivW, s_div⟩
theorem jo_pow : JO X C (binaryOp .Pow) (rI CPow fun i j => .int (i ^ j.toNat)) wPow := ⟨op_pow, s_pow⟩
theorem jo_lt : JO X C (compareOp .Lt) (rI0 fun i j => .bl (decide (i < j))) wLt := ⟨op_lt, s_lt⟩
theorem jo_le : JO X C (compareOp .LtE) (rI0 fun i j => .bl (decide (i ≤ j))) wLe := ⟨op_le, s_le⟩
theorem jo_gt : JO X C (compareOp .Gt) (rI0 fun i j => .bl (decide (j < i))) wGt := ⟨op_gt, s_gt⟩
theorem jo_ge : JO X C (compareOp .GtE) (rI0 fun i j => .bl (decide (j ≤ i))) wGe := ⟨op_ge, s_ge⟩
theorem jo_eq (hu : X.A.units + 65 < cLine) : JO X C (compareOp .Eq) (rEqG X.K) wEq := ⟨op_eq.or (op_eqD (by omega)), s_eq⟩
theorem jo_ne (hu : X.A.units + 65 < cLine) : JO X C (compareOp .NotEq) (rNeG X.K) wNe := ⟨op_ne.or (op_neD (by omega)), s_ne⟩
theorem jo_isN : JO X C (compareOp .Is) (fun x y H Q => y = .non ∧ Q (.bl (decide (x = .non))) H) wIsN := ⟨op_isN, s_isN⟩
theorem jo_notN : JO X C (compareOp .IsNot) (fun x y H Q => y = .non ∧ Q (.bl (!decide (x = .non))) H) wNotN := ⟨op_notN, s_notN⟩
theorem jo_in (hu : X.A.units + 65 < cLine) : JO X C (compareOp .In) (rInG X.K) wIn := ⟨op_in_seq.or ((op_inD hu).or op_in_str), s_in⟩
theorem jo_notIn (hu : X.A.units + 65 < cLine) : JO X C (compareOp .NotIn) (rNotInG X.K) wNotIn := ⟨op_notIn_seq.or ((op_notInD hu).or op_notin_str), s_notIn⟩
end
end Ad
/-! Ad4: slices, built-in calls, methods of texts, f-strings, walks, comprehensions, calls of the text's own defs. -/
namespace Ad
open PySem L2
/-! ### slices -/
abbrev ATO := List G → (Option Int → Prop) → Prop
def cutD (xs : List D) (lo hi : Option Int) : List D := (xs.drop (HT.sIx xs.length 0 lo)).take (HT.sIx xs.length xs.length hi - HT.sIx xs.length 0 lo)
def SndO (K : PySem.W.Frag) (C : WC) (t : TO) (a : ATO) : Prop := ∀ (w : Wd) (os : List (Addr × List V)) (σ : St) (H : Hp) (Γ : List G) (P : Option Int → Prop) (Q : Option Int → Hp → Prop), C w → RelE K w os σ H Γ → w.I H → a Γ P →
  (∀ o H', Step w H H' → P o → Q o H') → t σ H Q
structure JP (X : Cx) (C : WC) (e : Option Expr) (t : TO) (a : ATO) : Prop where
  p : PO X e t
  s : SndO X.K C t a
@[simp] abbrev aNoPart : ATO := fun _ P => P none
@[simp] abbrev aPart (a : ATE) : ATO := fun Γ P => a Γ fun x => match x with
  | .int i => P (some i)
  | _ => False
@[simp] def wSl (x : D) (lo hi : Option Int) (P : D → Prop) : Prop := match x with
  | .lst ds => P (.lst (cutD ds lo hi))
  | .tup ds => P (.tup (cutD ds lo hi))
  | .str z => z.length ≤ 16000000 ∧ P (.str (cutS z lo hi))
  | _ => False
@[simp] abbrev aSl (a : ATE) (l h : ATO) : ATE := fun Γ P => a Γ fun x => l Γ fun lo => h Γ fun hi => wSl x lo hi P
def rSlG (K : PySem.W.Frag) : V → Option Int → Option Int → Hp → VK → Prop := fun x lo hi H Q => rSlL K x lo hi H Q ∨ rSlA K x lo hi H Q ∨ rSlS x lo hi H Q
section
variable {K : PySem.W.Frag} {C : WC}
theorem snd_noPart : SndO K C tNoPart aNoPart := fun w os σ H Γ P Q _ _ hI ha hq => hq none H (Step.refl hI) ha
theorem snd_part {t : TE} {a : ATE} (h : SndE K C t a) : SndO K C (tPart t) (aPart a) := by
  intro w os σ H Γ P Q hc hr hI ha hq
  refine h w os σ H Γ _ _ hc hr hI ha fun v H1 d s1 r1 p1 => ?_
  cases d with
  | int i => exact ⟨i, r_int r1, hq _ H1 s1 p1⟩
  | _ => exact False.elim p1
theorem cut_rw {w : Wd} {H : Hp} {xs : List V} {ds : List D} (r : RA K w H xs ds) (lo hi : Option Int) : RA K w H (cutV xs lo hi) (cutD ds lo hi) := by
  unfold cutV cutD
  rw [r.length]
  exact (r.drop _).take _
theorem snd_sl {te : TE} {tl th : TO} {a : ATE} {l h : ATO} (h1 : SndE K C te a) (h2 : SndO K C tl l) (h3 : SndO K C th h) : SndE K C (tSl (rSlG K) te tl th) (aSl a l h) := by
  intro w os σ H Γ P Q hc hr hI ha hq
  refine h1 w os σ H Γ _ _ hc hr hI ha fun v H1 d s1 r1 p1 => ?_
  refine h2 w os σ H1 Γ _ _ hc (hr.step s1) s1.inv p1 fun lo H2 s2 p2 => ?_
  have s12 := s1.trans s2
  refine h3 w os σ H2 Γ _ _ hc (hr.step s12) s12.inv p2 fun hi H3 s3 p3 => ?_
  have s13 := s12.trans s3
  have r3 := (s2.trans s3).r r1
  cases d with
  | lst ds =>
    cases r3 with
    | lst hx rx =>
      refine .inl ⟨_, _, rfl, SqL.of (vis_some hx).2, fun p hp => ?_⟩
      obtain ⟨s, r⟩ := new_lst s13.inv hp (cut_rw (w := w) rx lo hi)
      exact hq _ _ _ (s13.trans s) r p3
  | tup ds =>
    cases r3 with
    | tup hx rx =>
      refine .inr (.inl ⟨_, _, rfl, sqT_mono vis_ext hx, fun e => ?_, fun _ p hp => ?_⟩)
      · have e2 : cutD ds lo hi = ds := by
          unfold cutD
          rw [← rx.length, e.1, e.2]
          simp [rx.length]
        have p3 : P (.tup (cutD ds lo hi)) := p3
        rw [e2] at p3
        exact hq _ _ _ s13 (.tup hx rx) p3
      · obtain ⟨s, r⟩ := new_tup s13.inv hp (cut_rw (w := w) rx lo hi)
        exact hq _ _ _ (s13.trans s) r p3
  | str z =>
    cases r3
    exact .inr (.inr ⟨_, rfl, size_ok2 p3.1, hq _ _ _ s13 (.str _) p3.2⟩)
  | _ => exact False.elim p3
end
theorem sl_gen {X : Cx} : SlR X (rSlG X.K) := sl_list.or (sl_tupA.or sl_str)

/-! ### built-in calls -/
def tyN : D → Option String
  | .non => some "NoneType" | .bl _ => some "bool" | .int _ => some "int" | .str _ => some "str" | .lst _ => some "list" | .tup _ => some "tuple"
  | _ => none
def isD (n : String) (x : D) : Bool := match x with
  | .bl _ => n == "bool" || n == "int"
  | .int _ => n == "int"
  | .str _ => n == "str"
  | .lst _ => n == "list"
  | .tup _ => n == "tuple"
  | _ => false
def okTy (n : String) : Bool := n == "bool" || n == "int" || n == "str" || n == "list" || n == "tuple" || n == "dict"
theorem kitB_is {n a : String} {x : D} (h : okTy n = true) (hx : tyN x = some a) : kitB a n = some (isD n x) := by
  have hn : n = "bool" ∨ n = "int" ∨ n = "str" ∨ n = "list" ∨ n = "tuple" ∨ n = "dict" := by simpa [okTy, or_assoc] using h
  have table : ∀ m ∈ ["bool", "int", "str", "list", "tuple", "dict"], kitB "NoneType" m = some false ∧ kitB "bool" m = some (m == "bool" || m == "int") ∧ kitB "int" m = some (m == "int") ∧ kitB "str" m = some (m == "str") ∧ kitB "list" m = some (m == "list") ∧ kitB "tuple" m = some (m == "tuple") := by decide +kernel
  have hm := table n (by rcases hn with e | e | e | e | e | e <;> rw [e] <;> simp)
  obtain ⟨t0, t1, t2, t3, t4, t5⟩ := hm
  cases x <;> first
    | (cases hx; assumption)
    | cases hx
@[simp] def wIsi (xs : List D) (P : D → Prop) : Prop := match xs with
  | [x, .ty n] => (okTy n && (tyN x).isSome) = true ∧ P (.bl (isD n x))
  | _ => False
@[simp] def wLen (xs : List D) (P : D → Prop) : Prop := match xs with
  | [.lst ds] => P (.int ds.length)
  | [.tup ds] => P (.int ds.length)
  | [.str z] => z.length ≤ 16000000 ∧ P (.int z.length)
  | _ => False
@[simp] def wToInt (xs : List D) (P : D → Prop) : Prop := match xs with
  | [.int i] => P (.int i)
  | [.bl k] => P (.int (if k then 1 else 0))
  | _ => False
def blsOf : List D → Option (List Bool)
  | [] => some []
  | .bl b :: r => (blsOf r).map (b :: ·)
  | _ :: _ => none
@[simp] def wAll (xs : List D) (P : D → Prop) : Prop := match xs with
  | [.lst ds] => match blsOf ds with
    | some bs => P (.bl (bs.all id))
    | none => False
  | _ => False
@[simp] def wStrI (xs : List D) (P : D → Prop) : Prop := match xs with
  | [.int i] => i.natAbs.log2 < 1920 ∧ P (.str (toString i))
  | _ => False
@[simp] def wList (xs : List D) (P : D → Prop) : Prop := match xs with
  | [.lst ds] => P (.lst ds)
  | [.tup ds] => P (.lst ds)
  | _ => False
@[simp] def wAbs (xs : List D) (P : D → Prop) : Prop := match xs with
  | [.int i] => P (.int (if i < 0 then -i else i))
  | _ => False
@[simp] def wMax2 (xs : List D) (P : D → Prop) : Prop := match xs with
  | [.int i, .int j] => P (.int (if j > i then j else i))
  | _ => False
@[simp] def wMin2 (xs : List D) (P : D → Prop) : Prop := match xs with
  | [.int i, .int j] => P (.int (if j < i then j else i))
  | _ => False
/-- list.index of something that is there -/
@[simp] def wIndex (ds : List D) (xs : List D) (P : D → Prop) : Prop := match xs with
  | [y] => (flD y && ds.all flD) = true ∧ match ds.findIdx? (fun z => eqD z y) with
    | some j => P (.int j)
    | none => False
  | _ => False
section
variable {K : PySem.W.Frag} {C : WC}
theorem ty_rw {w : Wd} {H : Hp} {x : V} {dx : D} {a : String} (r : R K w H x dx) (h : tyN dx = some a) : TyX K H x (.type a) := by
  cases r with
  | non => cases h; exact .base .non
  | bl b => cases h; exact .base (.bl b)
  | int i => cases h; exact .base (.int i)
  | str z => cases h; exact .base (.str z)
  | lst hx _ => cases h; exact .base (.lst (vis_some hx).2)
  | tup hx _ =>
    cases h
    rcases sqT_mono vis_ext hx with (hx | ⟨o, hx⟩) | ⟨o, its, n, hk, hc, _⟩
    · exact .base (.tup hx)
    · exact .fTuple hx
    · exact .kTuple hk hc
  | _ => cases h
theorem s_isi : SndRs K C (rIsi K) wIsi := by
  intro w H xs ds P Q _ hI r hf hq
  unfold wIsi at hf
  split at hf
  · rename_i x n
    cases r with
    | cons r1 r2 =>
      cases r2 with
      | cons r2 r3 =>
        cases r3
        cases r2
        obtain ⟨h, p⟩ := hf
        obtain ⟨h1, h2⟩ := Bool.and_eq_true_iff.mp h
        obtain ⟨a, ha⟩ := Option.isSome_iff_exists.mp h2
        exact ⟨_, _, _, _, _, rfl, .ty n, ty_rw r1 ha, kit_ty (kitB_is h1 ha), hq _ H _ (Step.refl hI) (.bl _) p⟩
  · exact hf.elim
theorem s_len : SndRs K C (fun xs H Q => ∃ x n, xs = [x] ∧ LenV K x H n ∧ Q (.int n) H) wLen := by
  intro w H xs ds P Q _ hI r hf hq
  unfold wLen at hf
  split at hf
  · cases r with
    | cons r1 r2 =>
      cases r2
      cases r1 with
      | lst hx rx => exact ⟨_, _, rfl, .inl ⟨_, SqL.of (vis_some hx).2, rfl⟩, hq _ H _ (Step.refl hI) (.int _) (by rw [rx.length]; exact hf)⟩
  · cases r with
    | cons r1 r2 =>
      cases r2
      cases r1 with
      | tup hx rx => exact ⟨_, _, rfl, .inr ⟨_, sqT_mono vis_ext hx, rfl⟩, hq _ H _ (Step.refl hI) (.int _) (by rw [rx.length]; exact hf)⟩
  · cases r with
    | cons r1 r2 =>
      cases r2
      cases r1
      exact ⟨_, _, rfl, ⟨size_ok2 hf.1, rfl⟩, hq _ H _ (Step.refl hI) (.int _) hf.2⟩
  · exact hf.elim
theorem s_int : SndRs K C (fun xs H Q => (∃ i, xs = [.int i] ∧ Q (.int i) H) ∨ ∃ k, xs = [.bl k] ∧ Q (.int (if k then 1 else 0)) H) wToInt := by
  intro w H xs ds P Q _ hI r hf hq
  unfold wToInt at hf
  split at hf
  · cases r with
    | cons r1 r2 => cases r2; cases r1; exact .inl ⟨_, rfl, hq _ H _ (Step.refl hI) (.int _) hf⟩
  · cases r with
    | cons r1 r2 => cases r2; cases r1; exact .inr ⟨_, rfl, hq _ H _ (Step.refl hI) (.int _) hf⟩
  · exact hf.elim
theorem bls_rw {w : Wd} {H : Hp} : ∀ {xs : List V} {ds : List D} {bs : List Bool}, RA K w H xs ds → blsOf ds = some bs → xs = bs.map V.bl
  | _, _, _, .nil, e => by cases e; rfl
  | _, d :: ds, bs, .cons r t, e => by
    cases d with
    | bl b =>
      unfold blsOf at e
      cases q : blsOf ds with
      | none => rw [q] at e; cases e
      | some cs =>
        rw [q] at e
        have e2 : b :: cs = bs := Option.some.inj e
        subst e2
        rw [bls_rw t q, r_bl r]
        rfl
    | _ => cases e
theorem s_all : SndRs K C (rAll K) wAll := by
  intro w H xs ds P Q _ hI r hf hq
  unfold wAll at hf
  split at hf
  · rename_i ds
    cases r with
    | cons r1 r2 =>
      cases r2
      cases r1 with
      | lst hx rx =>
        cases e : blsOf ds with
        | none => rw [e] at hf; exact hf.elim
        | some bs =>
          rw [e] at hf
          have e2 := bls_rw (w := w) rx e
          subst e2
          exact ⟨_, bs, rfl, SqL.of (vis_some hx).2, hq _ H _ (Step.refl hI) (.bl _) hf⟩
  · exact hf.elim
theorem s_strI : SndRs K C (fun xs H Q => ∃ i, xs = [.int i] ∧ i.natAbs.log2 < 1920 ∧ Q (.str (toString i)) H) wStrI := by
  intro w H xs ds P Q _ hI r hf hq
  unfold wStrI at hf
  split at hf
  · cases r with
    | cons r1 r2 => cases r2; cases r1; exact ⟨_, rfl, hf.1, hq _ H _ (Step.refl hI) (.str _) hf.2⟩
  · exact hf.elim
theorem s_list : SndRs K C (fun xs H Q => ∃ p ys, xs = [.ref p] ∧ (SqL K H p ys ∨ SqT K H p ys) ∧ ∀ l, H l = none → Q (.ref l) (upd H l (.lst ys))) wList := by
  intro w H xs ds P Q _ hI r hf hq
  unfold wList at hf
  split at hf
  · cases r with
    | cons r1 r2 =>
      cases r2
      cases r1 with
      | lst hx rx =>
        refine ⟨_, _, rfl, .inl (SqL.of (vis_some hx).2), fun l hl => ?_⟩
        obtain ⟨s, r⟩ := new_lst (w := w) hI hl rx
        exact hq _ _ _ s r hf
  · cases r with
    | cons r1 r2 =>
      cases r2
      cases r1 with
      | tup hx rx =>
        refine ⟨_, _, rfl, .inr (sqT_mono vis_ext hx), fun l hl => ?_⟩
        obtain ⟨s, r⟩ := new_lst (w := w) hI hl rx
        exact hq _ _ _ s r hf
  · exact hf.elim
theorem s_abs : SndRs K C (fun xs H Q => ∃ i, xs = [.int i] ∧ Q (.int (if i < 0 then -i else i)) H) wAbs := by
  intro w H xs ds P Q _ hI r hf hq
  unfold wAbs at hf
  split at hf
  · cases r with
    | cons r1 r2 => cases r2; cases r1; exact ⟨_, rfl, hq _ H _ (Step.refl hI) (.int _) hf⟩
  · exact hf.elim
theorem s_max2 : SndRs K C (fun xs H Q => ∃ i j, xs = [.int i, .int j] ∧ Q (.int (if j > i then j else i)) H) wMax2 := by
  intro w H xs ds P Q _ hI r hf hq
  unfold wMax2 at hf
  split at hf
  · cases r with
    | cons r1 r2 => cases r2 with
      | cons r2 r3 => cases r3; cases r1; cases r2; exact ⟨_, _, rfl, hq _ H _ (Step.refl hI) (.int _) hf⟩
  · exact hf.elim
theorem s_min2 : SndRs K C (fun xs H Q => ∃ i j, xs = [.int i, .int j] ∧ Q (.int (if j < i then j else i)) H) wMin2 := by
  intro w H xs ds P Q _ hI r hf hq
  unfold wMin2 at hf
  split at hf
  · cases r with
    | cons r1 r2 => cases r2 with
      | cons r2 r3 => cases r3; cases r1; cases r2; exact ⟨_, _, rfl, hq _ H _ (Step.refl hI) (.int _) hf⟩
  · exact hf.elim
theorem s_index : SndM K C (rIndex K) (fun x xs P => match x with | .lst ds => wIndex ds xs P | _ => False) := by
  intro w H x dx xs es P Q _ hI rx r hf hq
  cases dx with
  | lst ds =>
    have hf : wIndex ds es P := hf
    cases es with
    | nil => exact False.elim hf
    | cons y es2 =>
      cases es2 with
      | cons _ _ => exact False.elim hf
      | nil =>
        have hf : (flD y && ds.all flD) = true ∧ (match ds.findIdx? (fun z => eqD z y) with | some j => P (.int j) | none => False) := hf
        obtain ⟨hfl, hf⟩ := hf
        obtain ⟨f1, f2⟩ := Bool.and_eq_true_iff.mp hfl
        cases r with
        | cons ry r2 =>
          cases r2
          cases rx with
          | lst hx rx =>
            cases e : ds.findIdx? (fun z => eqD z y) with
            | none => rw [e] at hf; exact hf.elim
            | some j =>
              rw [e] at hf
              obtain ⟨hj, h1, h2⟩ := List.findIdx?_eq_some_iff_getElem.mp e
              have hjd : ds[j]? = some ds[j] := by simp [hj]
              obtain ⟨v, hv, rv⟩ := rx.getD hjd
              have fd : flD ds[j] = true := List.all_eq_true.mp f2 _ (List.getElem_mem hj)
              refine ⟨_, _, _, j, v, rfl, rfl, SqL.of (vis_some hx).2, fl_of ry f1, flA_of (w := w) rx f2, hv, ?_, fun m z' hm hz => ?_, hq _ H _ (Step.refl hI) (.int _) hf⟩
              · rw [eqv_fl (w := w) rv ry fd f1]; exact h1
              · obtain ⟨d', hd', rd'⟩ := rx.get hz
                obtain ⟨hml, he⟩ := List.getElem?_eq_some_iff.mp hd'
                subst he
                rw [eqv_fl (w := w) rd' ry (List.all_eq_true.mp f2 _ (List.getElem_mem hml)) f1]
                simpa using h2 m hm
  | _ => exact False.elim hf
end
/-! ### methods of texts, f-strings -/
@[simp] def wUpper (z : Str) (xs : List D) (P : D → Prop) : Prop := match xs with
  | [] => z.length ≤ 5000000 ∧ P (.str (Txt.upper z))
  | _ => False
def strsOf : List D → Option (List Str)
  | [] => some []
  | .str b :: r => (strsOf r).map (b :: ·)
  | _ :: _ => none
@[simp] def wJoin (z : Str) (xs : List D) (P : D → Prop) : Prop := match xs with
  | [.lst ds] => match strsOf ds with
    | some ys => (ys.map (·.length)).sum + ys.length * z.length ≤ 16000000 ∧ P (.str (Txt.join z ys))
    | none => False
  | _ => False
@[simp] def wSplit (z : Str) (xs : List D) (P : D → Prop) : Prop := match xs with
  | [.str y] => ((y.length == 0) = false ∧ z.length ≤ 16000000) ∧ P (.lst ((Txt.split z y).map .str))
  | _ => False
@[simp] def wFmt (x : D) (P : Str → Prop) : Prop := match x with
  | .str z => z.length ≤ 16000000 ∧ P z
  | .int i => i.natAbs.log2 < 1920 ∧ P (toString i)
  | _ => False
@[simp] abbrev aFmt (a : ATE) : ATE := fun Γ P => a Γ fun x => wFmt x fun z => P (.str z)
def aJs : List ATE → Str → List G → (Str → Prop) → Prop
  | [], acc, _, P => P acc
  | a :: as, acc, Γ, P => a Γ fun x => match x with
    | .str y => acc.length + y.length ≤ 16000000 ∧ aJs as (acc ++ y) Γ P
    | _ => False
def aJoined (as : List ATE) : ATE := fun Γ P => aJs as Str.empty Γ fun z => P (.str z)
section
variable {K : PySem.W.Frag} {C : WC}
theorem s_upper (z : Str) : SndRs K C ((fun x xs H Q => ∃ a, x = .str a ∧ xs = [] ∧ a.length ≤ 5592405 ∧ Q (.str (Txt.upper a)) H) (V.str z)) (wUpper z) := by
  intro w H xs ds P Q _ hI r hf hq
  unfold wUpper at hf
  split at hf
  · cases r
    exact ⟨z, rfl, rfl, by omega, hq _ H _ (Step.refl hI) (.str _) hf.2⟩
  · exact hf.elim
theorem strs_rw {w : Wd} {H : Hp} : ∀ {xs : List V} {ds : List D} {bs : List Str}, RA K w H xs ds → strsOf ds = some bs → xs = bs.map V.str
  | _, _, _, .nil, e => by cases e; rfl
  | _, d :: ds, bs, .cons r t, e => by
    cases d with
    | str b =>
      unfold strsOf at e
      cases q : strsOf ds with
      | none => rw [q] at e; cases e
      | some cs =>
        rw [q] at e
        have e2 : b :: cs = bs := Option.some.inj e
        subst e2
        rw [strs_rw t q, r_str r]
        rfl
    | _ => cases e
theorem s_join (z : Str) : SndRs K C ((fun x xs H Q => ∃ a p, ∃ ys : List Str, x = .str a ∧ xs = [.ref p] ∧ (SqL K H p (ys.map V.str) ∨ SqT K H p (ys.map V.str)) ∧
    (ys.map (·.length)).sum + ys.length * a.length ≤ 16777216 ∧ Q (.str (Txt.join a ys)) H) (V.str z)) (wJoin z) := by
  intro w H xs ds P Q _ hI r hf hq
  unfold wJoin at hf
  split at hf
  · rename_i ds
    cases r with
    | cons r1 r2 =>
      cases r2
      cases r1 with
      | lst hx rx =>
        cases e : strsOf ds with
        | none => rw [e] at hf; exact hf.elim
        | some bs =>
          rw [e] at hf
          have e2 := strs_rw (w := w) rx e
          subst e2
          exact ⟨z, _, bs, rfl, rfl, .inl (SqL.of (vis_some hx).2), by omega, hq _ H _ (Step.refl hI) (.str _) hf.2⟩
  · exact hf.elim
theorem rw_strs {w : Wd} {H : Hp} : ∀ ys : List Str, RA K w H (ys.map V.str) (ys.map D.str)
  | [] => .nil
  | y :: ys => .cons (.str y) (rw_strs ys)
theorem s_split (z : Str) : SndRs K C ((fun x xs H Q => ∃ a b, x = .str a ∧ xs = [.str b] ∧ (b.length == 0) = false ∧ a.length + 2 ≤ sizeLine ∧ rNewStrs (Txt.split a b) H Q) (V.str z)) (wSplit z) := by
  intro w H xs ds P Q _ hI r hf hq
  unfold wSplit at hf
  split at hf
  · cases r with
    | cons r1 r2 =>
      cases r2
      cases r1
      refine ⟨z, _, rfl, rfl, hf.1.1, Nat.le_trans (Nat.add_le_add_right hf.1.2 2) (by decide), fun p hp => ?_⟩
      obtain ⟨s, r⟩ := new_lst (w := w) hI hp (rw_strs _)
      exact hq _ _ _ s r hf.2
  · exact hf.elim
theorem snd_fmt {t : TE} {a : ATE} (h : SndE K C t a) : SndE K C (tFmt t) (aFmt a) := by
  intro w os σ H Γ P Q hc hr hI ha hq
  refine h w os σ H Γ _ _ hc hr hI ha fun v H1 d s1 r1 p1 => ?_
  cases d with
  | str z => cases r1; exact .inl ⟨z, rfl, size_ok2 p1.1, hq _ H1 _ s1 (.str _) p1.2⟩
  | int i => cases r1; exact .inr ⟨i, rfl, p1.1, hq _ H1 _ s1 (.str _) p1.2⟩
  | _ => exact False.elim p1
inductive SndJ (K : PySem.W.Frag) (C : WC) : List TE → List ATE → Prop where
  | nil : SndJ K C [] []
  | cons {t : TE} {a : ATE} {ts : List TE} {as : List ATE} (h : SndE K C t a) (r : SndJ K C ts as) : SndJ K C (t :: ts) (a :: as)
theorem snd_js {ts : List TE} {as : List ATE} (h : SndJ K C ts as) : ∀ (acc : Str) (w : Wd) (os : List (Addr × List V)) (σ : St) (H : Hp) (Γ : List G) (P : Str → Prop) (Q : Str → Hp → Prop), C w → RelE K w os σ H Γ → w.I H → aJs as acc Γ P →
    (∀ z H', Step w H H' → P z → Q z H') → tJs ts acc σ H Q := by
  induction h with
  | nil => intro acc w os σ H Γ P Q _ _ hI ha hq; exact hq acc H (Step.refl hI) ha
  | @cons t a ts as h _ ih =>
    intro acc w os σ H Γ P Q hc hr hI ha hq
    refine h w os σ H Γ _ _ hc hr hI ha fun v H1 d s1 r1 p1 => ?_
    cases d with
    | str y =>
      cases r1
      refine ⟨y, rfl, ?_, ih (acc ++ y) w os σ H1 Γ P Q hc (hr.step s1) s1.inv p1.2 fun z H2 s2 p2 => hq z H2 (s1.trans s2) p2⟩
      have e : (acc ++ y).length = acc.length + y.length := by
        show (acc.cps ++ y.cps).size = acc.cps.size + y.cps.size
        exact Array.size_append
      rw [e]
      exact size_ok2 p1.1
    | _ => exact False.elim p1
theorem snd_joined {ts : List TE} {as : List ATE} (h : SndJ K C ts as) : SndE K C (fun σ H Q => tJs ts Str.empty σ H fun out H1 => Q (.str out) H1) (aJoined as) := by
  intro w os σ H Γ P Q hc hr hI ha hq
  exact snd_js h Str.empty w os σ H Γ _ _ hc hr hI ha fun z H' s p => hq _ H' _ s (.str z) p
end
end Ad
/-! Ad5: targets, walks, comprehensions, calls of the text's own defs. -/
namespace Ad
open PySem L2
/-! ### targets -/
abbrev ATG := D → List G → (List G → Prop) → Prop
abbrev ATGs := List D → List G → (List G → Prop) → Prop
@[simp] abbrev gmN (i : Nat) : ATG := fun d Γ P => P (Γ.set i (.dat d))
@[simp] abbrev gmNil : ATGs := fun ds Γ P => match ds with
  | [] => P Γ
  | _ => False
@[simp] abbrev gmCons (a : ATG) (b : ATGs) : ATGs := fun ds Γ P => match ds with
  | d :: r => a d Γ fun Γ' => b r Γ' P
  | [] => False
@[simp] abbrev gmT (n : Nat) (a : ATGs) : ATG := fun d Γ P => match d with
  | .tup ds => ds.length = n ∧ a ds Γ P
  | _ => False
/-- what a target leaves: slots out of js as they were, no new owned list -/
structure Kept (js : List Nat) (σ σ' : St) (Γ Γ' : List G) : Prop where
  w : ∀ vs : List Nat, (∀ j ∈ js, j ∈ vs) → wipe σ' vs = wipe σ vs
  o : ∀ (i : Nat) (ds : List D), Γ'[i]? = some (.own ds) → Γ[i]? = some (.own ds) ∧ σ'[i]? = σ[i]?
def SndG (K : PySem.W.Frag) (C : WC) (js : List Nat) (g : TG) (a : ATG) : Prop := ∀ (w : Wd) (os : List (Addr × List V)) (σ : St) (H : Hp) (Γ : List G) (v : V) (d : D) (P : List G → Prop) (Q : St → Hp → Prop), C w → RelE K w os σ H Γ → w.I H → R K w H v d → a d Γ P →
  (∀ σ' Γ', RelE K w os σ' H Γ' → Kept js σ σ' Γ Γ' → P Γ' → Q σ' H) → g v σ H Q
def SndGs (K : PySem.W.Frag) (C : WC) (js : List Nat) (g : TGs) (a : ATGs) : Prop := ∀ (w : Wd) (os : List (Addr × List V)) (σ : St) (H : Hp) (Γ : List G) (v : List V) (d : List D) (P : List G → Prop) (Q : St → Hp → Prop), C w → RelE K w os σ H Γ → w.I H → RA K w H v d → a d Γ P →
  (∀ σ' Γ', RelE K w os σ' H Γ' → Kept js σ σ' Γ Γ' → P Γ' → Q σ' H) → g v σ H Q
theorem wipe_get {σ : St} : ∀ {vs : List Nat} (i : Nat), (wipe σ vs)[i]? = if i ∈ vs ∧ i < σ.length then some none else σ[i]?
  | [], i => by simp [wipe]
  | v :: vs, i => by
    unfold wipe
    by_cases h : v = i
    · subst h
      by_cases hl : v < σ.length
      · rw [List.getElem?_set_self (by rw [wipe_length]; exact hl), if_pos ⟨List.mem_cons_self, hl⟩]
      · rw [if_neg (fun z => hl z.2), List.getElem?_eq_none (by rw [List.length_set, wipe_length]; omega), List.getElem?_eq_none (by omega)]
    · rw [List.getElem?_set_ne h, wipe_get i]
      have e : (i ∈ v :: vs) ↔ i ∈ vs := by
        rw [List.mem_cons]
        exact ⟨fun z => z.elim (fun q => absurd q.symm h) (fun q => q), .inr⟩
      simp only [e]
theorem wipe_set {σ : St} {vs : List Nat} {j : Nat} {x : Option V} (h : j ∈ vs) : wipe (σ.set j x) vs = wipe σ vs := by
  apply List.ext_getElem?
  intro i
  rw [wipe_get, wipe_get, List.length_set]
  by_cases e : i ∈ vs ∧ i < σ.length
  · rw [if_pos e, if_pos e]
  · rw [if_neg e, if_neg e]
    by_cases q : j = i
    · subst q
      have hl : ¬ j < σ.length := fun z => e ⟨h, z⟩
      rw [List.getElem?_eq_none (by rw [List.length_set]; omega), List.getElem?_eq_none (by omega)]
    · rw [List.getElem?_set_ne q]
theorem wipe_idem {σ : St} {vs : List Nat} : wipe (wipe σ vs) vs = wipe σ vs := by
  apply List.ext_getElem?
  intro i
  rw [wipe_get, wipe_get, wipe_length]
  by_cases e : i ∈ vs ∧ i < σ.length
  · rw [if_pos e, if_pos e]
  · rw [if_neg e]
def wipeG (Γ : List G) : List Nat → List G
  | [] => Γ
  | v :: vs => (wipeG Γ vs).set v .no
theorem wipeG_length {Γ : List G} : ∀ vs : List Nat, (wipeG Γ vs).length = Γ.length
  | [] => rfl
  | v :: vs => by unfold wipeG; rw [List.length_set, wipeG_length vs]
theorem wipeG_get {Γ : List G} : ∀ {vs : List Nat} (i : Nat), (wipeG Γ vs)[i]? = if i ∈ vs ∧ i < Γ.length then some .no else Γ[i]?
  | [], i => by simp [wipeG]
  | v :: vs, i => by
    unfold wipeG
    by_cases h : v = i
    · subst h
      by_cases hl : v < Γ.length
      · rw [List.getElem?_set_self (by rw [wipeG_length]; exact hl), if_pos ⟨List.mem_cons_self, hl⟩]
      · rw [if_neg (fun z => hl z.2), List.getElem?_eq_none (by rw [List.length_set, wipeG_length]; omega), List.getElem?_eq_none (by omega)]
    · rw [List.getElem?_set_ne h, wipeG_get i]
      have e : (i ∈ v :: vs) ↔ i ∈ vs := by
        rw [List.mem_cons]
        exact ⟨fun z => z.elim (fun q => absurd q.symm h) (fun q => q), .inr⟩
      simp only [e]
section
variable {K : PySem.W.Frag} {C : WC} {w : Wd} {os : List (Addr × List V)} {σ : St} {H : Hp} {Γ : List G}
theorem RelE.set (r : RelE K w os σ H Γ) {i : Nat} {v : V} {d : D} (h : R K w H v d) : RelE K w os (σ.set i (some v)) H (Γ.set i (.dat d)) := by
  refine ⟨by rw [List.length_set, List.length_set, r.len], fun j g e => ?_, r.own⟩
  by_cases q : i = j
  · subst q
    have hl : i < Γ.length := by
      by_cases z : i < Γ.length
      · exact z
      · rw [List.getElem?_eq_none (by rw [List.length_set]; omega)] at e; cases e
    rw [List.getElem?_set_self hl] at e
    cases e
    exact ⟨v, by rw [List.getElem?_set_self (by rw [r.len]; exact hl)], h⟩
  · rw [List.getElem?_set_ne q] at e ⊢
    exact r.at_ j g e
theorem RelE.wipe (r : RelE K w os σ H Γ) (vs : List Nat) : RelE K w os (wipe σ vs) H (wipeG Γ vs) := by
  refine ⟨by rw [wipe_length, wipeG_length, r.len], fun j g e => ?_, r.own⟩
  rw [wipeG_get] at e
  rw [wipe_get]
  by_cases q : j ∈ vs ∧ j < Γ.length
  · rw [if_pos q] at e
    cases e
    trivial
  · rw [if_neg q] at e
    rw [if_neg (by rw [r.len]; exact q)]
    exact r.at_ j g e
/-- to another world that sees as much -/
theorem RelE.mv {w' : Wd} {H' : Hp} (r : RelE K w os σ H Γ) (hd : w'.hd = w.hd) (e : Ext (w.v H) (w'.v H')) (hI : ∀ H, w'.I H → w.I H) : RelE K w' os σ H' Γ := by
  refine ⟨r.len, fun i g h => ?_, fun H h p hp => r.own H (hI H h) p hp⟩
  have q := r.at_ i g h
  cases g with
  | no => trivial
  | dat d =>
    obtain ⟨v, h1, h2⟩ := q
    exact ⟨v, h1, by unfold R; rw [hd]; exact h2.mono e⟩
  | own ds =>
    obtain ⟨a, xs, h1, h2, h3⟩ := q
    exact ⟨a, xs, h1, h2, by unfold RA; rw [hd]; exact h3.mono e⟩
theorem kept_refl : Kept [] σ σ Γ Γ := ⟨fun _ _ => rfl, fun i ds e => ⟨e, rfl⟩⟩
theorem Kept.trans {js ks : List Nat} {σ1 σ2 : St} {Γ1 Γ2 : List G} (a : Kept js σ σ1 Γ Γ1) (b : Kept ks σ1 σ2 Γ1 Γ2) : Kept (js ++ ks) σ σ2 Γ Γ2 :=
  ⟨fun vs h => (b.w vs fun j hj => h j (List.mem_append_right _ hj)).trans (a.w vs fun j hj => h j (List.mem_append_left _ hj)), fun i ds e => by
    obtain ⟨h1, h2⟩ := b.o i ds e
    obtain ⟨h3, h4⟩ := a.o i ds h1
    exact ⟨h3, h2.trans h4⟩⟩
theorem kept_set {i : Nat} {v : V} {d : D} (hl : σ.length = Γ.length) : Kept [i] σ (σ.set i (some v)) Γ (Γ.set i (.dat d)) := by
  refine ⟨fun vs h => wipe_set (h i (by simp)), fun j ds e => ?_⟩
  by_cases q : i = j
  · subst q
    by_cases z : i < Γ.length
    · rw [List.getElem?_set_self z] at e; cases e
    · rw [List.getElem?_eq_none (by rw [List.length_set]; omega)] at e; cases e
  · rw [List.getElem?_set_ne q] at e ⊢
    exact ⟨e, rfl⟩
theorem snd_gName (i : Nat) : SndG K C [i] (gName i) (gmN i) := fun w os σ H Γ v d P Q _ hr _ rv ha hq => hq _ _ (hr.set rv) (kept_set hr.len) ha
theorem snd_gNil : SndGs K C [] gNil gmNil := by
  intro w os σ H Γ v d P Q _ hr _ rv ha hq
  cases d with
  | nil => cases rv; exact ⟨rfl, hq σ Γ hr kept_refl ha⟩
  | cons _ _ => exact False.elim ha
theorem snd_gCons {js ks : List Nat} {g : TG} {gs : TGs} {a : ATG} {b : ATGs} (h1 : SndG K C js g a) (h2 : SndGs K C ks gs b) : SndGs K C (js ++ ks) (gCons g gs) (gmCons a b) := by
  intro w os σ H Γ v d P Q hc hr hI rv ha hq
  cases d with
  | nil => exact False.elim ha
  | cons d r =>
    cases rv with
    | cons r1 r2 =>
      refine ⟨_, _, rfl, ?_⟩
      refine h1 w os σ H Γ _ _ _ _ hc hr hI r1 ha fun σ1 Γ1 hr1 k1 p1 => ?_
      exact h2 w os σ1 H Γ1 _ _ P Q hc hr1 hI r2 p1 fun σ2 Γ2 hr2 k2 p2 => hq σ2 Γ2 hr2 (k1.trans k2) p2
theorem snd_gTup {js : List Nat} {n : Nat} {gs : TGs} {a : ATGs} (h : SndGs K C js gs a) : SndG K C js (gTup K n gs) (gmT n a) := by
  intro w os σ H Γ v d P Q hc hr hI rv ha hq
  cases d with
  | tup ds =>
    cases rv with
    | tup hx rx => exact ⟨_, _, rfl, sqT_mono vis_ext hx, by rw [rx.length]; exact ha.1, h w os σ H Γ _ _ P Q hc hr hI rx ha.2 hq⟩
  | _ => exact False.elim ha
end
/-! ### what is walked -/
def WalkA (K : PySem.W.Frag) (J : It) (gs : List (V × D)) (ds : List D) : Prop := ∀ (w : Wd) (H : Hp), w.I H → (∀ p ∈ gs, R K w H p.1 p.2) →
  (∀ i, i < ds.length → J.go i H) ∧ J.stop ds.length H ∧ ∀ i x H', i < ds.length → J.yld i H x H' → Step w H H' ∧ ∃ d, ds[i]? = some d ∧ R K w H' x d
def SndI (K : PySem.W.Frag) (C : WC) (t : TI) (a : ATA) : Prop := ∀ (w : Wd) (os : List (Addr × List V)) (σ : St) (H : Hp) (Γ : List G) (P : List D → Prop) (Q : It → Hp → Prop), C w → RelE K w os σ H Γ → w.I H → a Γ P →
  (∀ J H' gs ds, Step w H H' → (∀ p ∈ gs, R K w H' p.1 p.2) → WalkA K J gs ds → P ds → Q J H') → t σ H Q
structure JI (X : Cx) (C : WC) (tg e : Expr) (t : TI) (a : ATA) : Prop where
  p : PI X tg e t
  s : SndI X.K C t a
/-- the items of a list, a tuple, a text -/
def itemsD : D → Option (List D)
  | .lst ds => some ds
  | .tup ds => some ds
  | .str z => some (z.cps.toList.map fun c => .str ⟨#[c]⟩)
  | _ => none
def aItems (a : ATE) : ATA := fun Γ P => a Γ fun x => match itemsD x with
  | some ds => P ds
  | none => False
def aRng1 (a : ATA) : ATA := fun Γ P => a Γ fun xs => match xs with
  | [.int n] => (-1000000 ≤ n ∧ n ≤ 1000000) ∧ P ((List.range n.toNat).map fun (i : Nat) => .int (i : Int))
  | _ => False
def aRng2 (a : ATA) : ATA := fun Γ P => a Γ fun xs => match xs with
  | [.int m, .int n] => (-1000000 ≤ m ∧ m ≤ 1000000 ∧ -1000000 ≤ n ∧ n ≤ 1000000) ∧ P ((List.range (n - m).toNat).map fun (i : Nat) => .int (m + (i : Int)))
  | _ => False
def zipD (xs ys : List D) : List D := List.zipWith (fun x y => .tup [x, y]) xs ys
def aZip (a : ATA) : ATA := fun Γ P => a Γ fun xs => match xs with
  | [.lst ds, .lst es] => P (zipD ds es)
  | [.tup ds, .tup es] => P (zipD ds es)
  | _ => False
def iAny (K : PySem.W.Frag) (te : TE) : TI := fun σ H R => te σ H fun x H1 => (∃ a, x = .ref a ∧ (∃ xs, SqL K H1 a xs) ∧ R (Itl K a) H1) ∨ (∃ a, x = .ref a ∧ (∃ xs, SqT K H1 a xs) ∧ R (Itt K a) H1) ∨ ∃ z, x = .str z ∧ R (Its z) H1
theorem pi_any {X : Cx} {tg l : Expr} {tl : TE} (hl : PE X l tl) : PI X tg l (iAny X.K tl) := by
  refine ⟨fun pins s σ H R I h => ?_⟩
  refine thn (hl.run pins s σ H _ I h) fun v s1 ⟨x, H1, I1, r1, q1⟩ => ?_
  rcases q1 with ⟨a, rfl, ⟨xs, hq⟩, q⟩ | ⟨a, rfl, ⟨xs, hq⟩, q⟩ | ⟨z, rfl, q⟩
  · cases r1
    obtain ⟨its, rv, p, hz⟩ := I1.list hq
    refine wpAny_pyIter_list p.isList ?_
    refine ⟨s1.heap.objs.size, [s1.heap.objs.size], _, _, H1, rfl, I1.kept (t' := s1.toks) fun b o e => Heap.get?_push_of_some _ e, turn_list a _, ⟨_, Heap.get?_push_size _ rfl, rfl, rfl⟩, fun b hb => ?_, q⟩
    have e : b = s1.heap.objs.size := by simpa using hb
    subst e
    exact I1.fpOk (Nat.le_refl _) (I1.hok.fresh (Nat.le_refl _))
  · cases r1
    obtain ⟨its, rv, p, hz⟩ := I1.tuple hq
    refine wpAny_pyIter_tuple (show s1.heap.IsTuple a its.toArray from p) ?_
    refine ⟨s1.heap.objs.size, [s1.heap.objs.size], _, _, H1, rfl, I1.kept (t' := s1.toks) fun b o e => Heap.get?_push_of_some _ e, turn_tuple a _, ⟨_, Heap.get?_push_size _ rfl, rfl, rfl⟩, fun b hb => ?_, q⟩
    have e : b = s1.heap.objs.size := by simpa using hb
    subst e
    exact I1.fpOk (Nat.le_refl _) (I1.hok.fresh (Nat.le_refl _))
  · obtain ⟨t, rfl⟩ := r1
    cases ha : z.cps.all (· < 128)
    · exact wpAny_pyIter_wide ha (pi_one (tk := s1.toks) I1 _ (turn_str _ z t "str_iterator" (.inr rfl)) ⟨_, Heap.get?_push_size _ rfl, rfl, rfl⟩ q)
    · exact wpAny_pyIter_ascii ha (pi_one (tk := s1.toks) I1 _ (turn_str _ z t "str_ascii_iterator" (.inl rfl)) ⟨_, Heap.get?_push_size _ rfl, rfl, rfl⟩ q)
theorem rd_inj {K : PySem.W.Frag} {w : Wd} {H : Hp} {a : Addr} {ds : List D} (h : R K w H (.ref a) (.lst ds)) : ∃ xs, H a = some (.lst xs) ∧ RA K w H xs ds := by
  cases h with
  | lst hx rx => exact ⟨_, (vis_some hx).2, rx⟩
theorem rt_inj {K : PySem.W.Frag} {w : Wd} {H : Hp} {a : Addr} {ds : List D} (h : R K w H (.ref a) (.tup ds)) : ∃ xs, SqT K H a xs ∧ RA K w H xs ds := by
  cases h with
  | tup hx rx => exact ⟨_, sqT_mono vis_ext hx, rx⟩
section
variable {K : PySem.W.Frag} {C : WC}
theorem walkA_list {a : Addr} {ds : List D} : WalkA K (Itl K a) [(.ref a, .lst ds)] ds := by
  intro w H hI hg
  obtain ⟨xs, hx, rx⟩ := rd_inj (hg (V.ref a, D.lst ds) (by simp))
  have hl := rx.length
  refine ⟨fun i hi => ⟨xs, xs[i]'(by omega), SqL.of hx, by simp [hl, hi]⟩, ⟨xs, SqL.of hx, by omega⟩, fun i x H' hi y => ?_⟩
  obtain ⟨rfl, y⟩ := y
  obtain ⟨d, h1, h2⟩ := rx.get (y xs (SqL.of hx))
  exact ⟨Step.refl hI, d, h1, h2⟩
theorem walkA_tup {a : Addr} {ds : List D} : WalkA K (Itt K a) [(.ref a, .tup ds)] ds := by
  intro w H hI hg
  obtain ⟨xs, hx, rx⟩ := rt_inj (hg (V.ref a, D.tup ds) (by simp))
  have hl := rx.length
  refine ⟨fun i hi => ⟨xs, xs[i]'(by omega), hx, by simp [hl, hi]⟩, ⟨xs, hx, by omega⟩, fun i x H' hi y => ?_⟩
  obtain ⟨rfl, y⟩ := y
  obtain ⟨d, h1, h2⟩ := rx.get (y xs hx)
  exact ⟨Step.refl hI, d, h1, h2⟩
theorem walkA_str {z : Str} : WalkA K (Its z) [] (z.cps.toList.map fun c => .str ⟨#[c]⟩) := by
  intro w H hI _
  have hl : (z.cps.toList.map fun c => D.str ⟨#[c]⟩).length = z.cps.size := by simp
  refine ⟨fun i hi => by rw [hl] at hi; exact hi, by rw [hl]; exact Nat.le_refl z.cps.size, fun i x H' hi y => ?_⟩
  obtain ⟨rfl, c, hc, rfl⟩ := y
  refine ⟨Step.refl hI, .str ⟨#[c]⟩, ?_, .str _⟩
  rw [List.getElem?_map, Array.getElem?_toList, hc]
  rfl
theorem walkA_rng {lo : Int} {n : Nat} : WalkA K (Itr lo n) [] ((List.range n).map fun (i : Nat) => .int (lo + (i : Int))) := by
  intro w H hI _
  have hl : ((List.range n).map fun (i : Nat) => D.int (lo + (i : Int))).length = n := by simp
  refine ⟨fun i hi => by rw [hl] at hi; exact hi, by rw [hl]; exact Nat.le_refl n, fun i x H' hi y => ?_⟩
  obtain ⟨rfl, rfl⟩ := y
  rw [hl] at hi
  refine ⟨Step.refl hI, .int (lo + (i : Int)), ?_, .int _⟩
  rw [List.getElem?_map, List.getElem?_range hi]
  rfl
theorem zip_get {xs ys : List D} {i : Nat} {x y : D} (h1 : xs[i]? = some x) (h2 : ys[i]? = some y) : (zipD xs ys)[i]? = some (.tup [x, y]) := by
  unfold zipD
  rw [List.getElem?_zipWith, h1, h2]
theorem zip_len (xs ys : List D) : (zipD xs ys).length = min xs.length ys.length := by unfold zipD; rw [List.length_zipWith]
theorem pair_new {w : Wd} {H : Hp} {T : Addr} {x y : V} {dx dy : D} (hI : w.I H) (hT : H T = none) (rx : R K w H x dx) (ry : R K w H y dy) : Step w H (upd H T (.tup [x, y])) ∧ R K w (upd H T (.tup [x, y])) (.ref T) (.tup [dx, dy]) :=
  new_tup hI hT (.cons rx (.cons ry .nil))
theorem walkA_zipL {a b : Addr} {ds es : List D} : WalkA K (Itz K a b) [(.ref a, .lst ds), (.ref b, .lst es)] (zipD ds es) := by
  intro w H hI hg
  obtain ⟨xs, hx, rx⟩ := rd_inj (hg (V.ref a, D.lst ds) (by simp))
  obtain ⟨ys, hy, ry⟩ := rd_inj (hg (V.ref b, D.lst es) (by simp))
  have hl := rx.length
  have hl2 := ry.length
  rw [zip_len]
  refine ⟨fun i hi => ⟨xs, ys, xs[i]'(by omega), ys[i]'(by omega), SqL.of hx, SqL.of hy, by simp [show i < xs.length by omega], by simp [show i < ys.length by omega]⟩, ⟨xs, ys, SqL.of hx, SqL.of hy, by omega⟩, fun i x H' hi y => ?_⟩
  obtain ⟨T, u, v, rfl, hT, rfl, h1, h2⟩ := y
  obtain ⟨d, a1, a2⟩ := rx.get (h1 xs (SqL.of hx))
  obtain ⟨e, b1, b2⟩ := ry.get (h2 ys (SqL.of hy))
  obtain ⟨s, r⟩ := pair_new (K := K) (w := w) hI hT a2 b2
  exact ⟨s, _, zip_get a1 b1, r⟩
theorem walkA_zipT {a b : Addr} {ds es : List D} : WalkA K (RZ.ItzT K a b) [(.ref a, .tup ds), (.ref b, .tup es)] (zipD ds es) := by
  intro w H hI hg
  obtain ⟨xs, hx, rx⟩ := rt_inj (hg (V.ref a, D.tup ds) (by simp))
  obtain ⟨ys, hy, ry⟩ := rt_inj (hg (V.ref b, D.tup es) (by simp))
  have hl := rx.length
  have hl2 := ry.length
  rw [zip_len]
  refine ⟨fun i hi => ⟨xs, ys, xs[i]'(by omega), ys[i]'(by omega), hx, hy, by simp [show i < xs.length by omega], by simp [show i < ys.length by omega]⟩, ⟨xs, ys, hx, hy, by omega⟩, fun i x H' hi y => ?_⟩
  obtain ⟨T, u, v, rfl, hT, rfl, h1, h2⟩ := y
  obtain ⟨d, a1, a2⟩ := rx.get (h1 xs hx)
  obtain ⟨e, b1, b2⟩ := ry.get (h2 ys hy)
  obtain ⟨s, r⟩ := pair_new (K := K) (w := w) hI hT a2 b2
  exact ⟨s, _, zip_get a1 b1, r⟩
theorem snd_any {t : TE} {a : ATE} (h : SndE K C t a) : SndI K C (iAny K t) (aItems a) := by
  intro w os σ H Γ P Q hc hr hI ha hq
  refine h w os σ H Γ _ _ hc hr hI ha fun v H1 d s1 r1 p1 => ?_
  cases d with
  | lst ds =>
    cases id r1 with
    | lst hx rx => exact .inl ⟨_, rfl, ⟨_, SqL.of (vis_some hx).2⟩, hq _ H1 _ _ s1 (fun p hp => by cases List.mem_singleton.mp hp; exact r1) walkA_list p1⟩
  | tup ds =>
    cases id r1 with
    | tup hx rx => exact .inr (.inl ⟨_, rfl, ⟨_, sqT_mono vis_ext hx⟩, hq _ H1 _ _ s1 (fun p hp => by cases List.mem_singleton.mp hp; exact r1) walkA_tup p1⟩)
  | str z =>
    cases r1
    exact .inr (.inr ⟨z, rfl, hq _ H1 [] _ s1 (fun p hp => by cases hp) walkA_str p1⟩)
  | _ => exact False.elim p1
theorem snd_rng1 {t : TA} {a : ATA} (h : SndA K C t a) : SndI K C (iRng1 t) (aRng1 a) := by
  intro w os σ H Γ P Q hc hr hI ha hq
  refine h w os σ H Γ _ _ hc hr hI ha fun vs H1 ds s1 r1 p1 => ?_
  split at p1
  · rename_i n
    cases r1 with
    | cons r1 r2 =>
      cases r2
      cases r1
      obtain ⟨hb, p1⟩ := p1
      refine ⟨n, rfl, by omega, by omega, hq _ H1 [] _ s1 (fun p hp => by cases hp) walkA_rng ?_⟩
      have e : (fun (i : Nat) => D.int (0 + (i : Int))) = fun (i : Nat) => D.int (i : Int) := by funext i; rw [Int.zero_add]
      rw [e]
      exact p1
  · exact p1.elim
theorem snd_rng2 {t : TA} {a : ATA} (h : SndA K C t a) : SndI K C (iRng2 t) (aRng2 a) := by
  intro w os σ H Γ P Q hc hr hI ha hq
  refine h w os σ H Γ _ _ hc hr hI ha fun vs H1 ds s1 r1 p1 => ?_
  split at p1
  · rename_i m n
    cases r1 with
    | cons r1 r2 =>
      cases r2 with
      | cons r2 r3 =>
        cases r3
        cases r1
        cases r2
        obtain ⟨hb, p1⟩ := p1
        exact ⟨m, n, rfl, by omega, hq _ H1 [] _ s1 (fun p hp => by cases hp) walkA_rng p1⟩
  · exact p1.elim
theorem snd_zip {t : TA} {a : ATA} (h : SndA K C t a) : SndI K C (RZ.iZipA K t) (aZip a) := by
  intro w os σ H Γ P Q hc hr hI ha hq
  refine h w os σ H Γ _ _ hc hr hI ha fun vs H1 ds s1 r1 p1 => ?_
  split at p1
  · cases r1 with
    | cons r1 r2 =>
      cases r2 with
      | cons r2 r3 =>
        cases r3
        cases id r1 with
        | lst hx rx =>
          cases id r2 with
          | lst hy ry =>
            refine ⟨_, _, _, _, rfl, .inl ⟨SqL.of (vis_some hx).2, SqL.of (vis_some hy).2, hq _ H1 _ _ s1 (fun p hp => ?_) walkA_zipL p1⟩⟩
            rcases List.mem_cons.mp hp with e | hp
            · rw [e]; exact r1
            · rw [List.mem_singleton.mp hp]; exact r2
  · cases r1 with
    | cons r1 r2 =>
      cases r2 with
      | cons r2 r3 =>
        cases r3
        cases id r1 with
        | tup hx rx =>
          cases id r2 with
          | tup hy ry =>
            refine ⟨_, _, _, _, rfl, .inr ⟨sqT_mono vis_ext hx, sqT_mono vis_ext hy, hq _ H1 _ _ s1 (fun p hp => ?_) walkA_zipT p1⟩⟩
            rcases List.mem_cons.mp hp with e | hp
            · rw [e]; exact r1
            · rw [List.mem_singleton.mp hp]; exact r2
  · exact p1.elim
end
end Ad
/-! Ad6: comprehensions, calls of the text's own defs, statements, a def's rule. -/
namespace Ad
open PySem L2
/-- closed under hiding a frame's own lists -/
def Cl (C : WC) : Prop := ∀ w os, C w → (∀ p, p ∈ os → p.1 ∉ w.ms) → C (Wd.plus w os)
def goA (body : D → List D → (List D → Prop) → Prop) : List D → List D → (List D → Prop) → Prop
  | [], acc, P => P acc
  | d :: ds, acc, P => body d acc fun acc' => goA body ds acc' P
def aLc (ai : ATA) (g : ATG) (tt : ATT) (te : ATE) (vs : List Nat) : ATA := fun Γ P => ai Γ fun ds => ds.length ≤ 1000000 ∧
  goA (fun d acc k => g d (wipeG Γ vs) fun Γ2 => tt Γ2 fun b => if b = true then te Γ2 fun y => k (acc ++ [y]) else k acc) ds [] P
@[simp] abbrev aYes : ATT := fun _ P => P true
section
variable {K : PySem.W.Frag} {C : WC} {w : Wd} {os : List (Addr × List V)} {σ : St} {H H' : Hp} {Γ : List G}
theorem snd_yes : SndT K C tYes aYes := fun w os σ H Γ P Q _ _ hI ha hq => hq true H (Step.refl hI) ha
theorem fresh_step (s : Step w H H') {p : Addr} (hp : H' p = none) : H p = none := by
  cases q : H p with
  | none => rfl
  | some o =>
    have hm : p ∉ w.ms := fresh_out s.inv hp
    have h2 := (vis_some (s.ext p o (vis_of hm q))).2
    rw [hp] at h2
    cases h2
def setO (os : List (Addr × List V)) (p : Addr) (ys : List V) : List (Addr × List V) := os.map fun q => if q.1 = p then (p, ys) else q
theorem setO_fst (os : List (Addr × List V)) (p : Addr) (ys : List V) : (setO os p ys).map (·.1) = os.map (·.1) := by
  unfold setO
  rw [List.map_map]
  apply List.map_congr_left
  intro q _
  show (if q.1 = p then (p, ys) else q).1 = q.1
  by_cases e : q.1 = p
  · rw [if_pos e, e]
  · rw [if_neg e]
theorem setO_v (p : Addr) (ys : List V) (H : Hp) : (w.plus (setO os p ys)).v H = (w.plus os).v H := by
  show vis ((setO os p ys).map (·.1) ++ w.ms) H = vis (os.map (·.1) ++ w.ms) H
  rw [setO_fst]
theorem own_set {p : Addr} {xs ys : List V} (hp : (p, xs) ∈ os) (hm : p ∉ w.ms) (hI : (w.plus os).I H) : (w.plus (setO os p ys)).I (upd H p (.lst ys)) ∧ Ext ((w.plus os).v H) ((w.plus (setO os p ys)).v (upd H p (.lst ys))) := by
  refine ⟨⟨w.loc H _ (fun a ha => upd_ne fun z => hm (z ▸ ha)) hI.1, fun q hq => ?_⟩, fun a o e => ?_⟩
  · obtain ⟨r, hr, rfl⟩ := List.mem_map.mp hq
    by_cases e : r.1 = p
    · simp only [if_pos e]
      exact upd_same
    · simp only [if_neg e]
      rw [upd_ne e]
      exact hI.2 r hr
  · rw [setO_v]
    obtain ⟨h1, h2⟩ := vis_some e
    refine vis_of h1 ?_
    rw [upd_ne (fun z => h1 (List.mem_append_left _ (by rw [z]; exact List.mem_map_of_mem hp)))]
    exact h2
theorem snd_lc (hC : Cl C) {js vs : List Nat} {wi : TI} {ai : ATA} {g : TG} {ag : ATG} {tt : TT} {at' : ATT} {te : TE} {ae : ATE} (hi : SndI K C wi ai) (hg : SndG K C js g ag) (hjs : ∀ j ∈ js, j ∈ vs) (ht : SndT K C tt at') (he : SndE K C te ae) :
    SndL K C (tLc wi g tt te vs) (aLc ai ag at' ae vs) := by
  intro w os σ H Γ P Q hc hr hI ha hq
  refine hi w os σ H Γ _ _ hc hr hI ha fun J H1 gs ds s1 hgs wk ⟨hz, p1⟩ => fun Dl hD => ?_
  have hm : Dl ∉ w.ms := fresh_out s1.inv hD
  have hD0 : H Dl = none := fresh_step s1 hD
  refine ⟨fun i m Hc => m = ds.length - i ∧ i ≤ ds.length ∧ ∃ (xs : List V) (acc : List D), acc.length ≤ i ∧ (w.plus [(Dl, xs)]).I Hc ∧ Ext (w.v H1) ((w.plus [(Dl, xs)]).v Hc) ∧ RA K (w.plus [(Dl, xs)]) Hc xs acc ∧
    goA (fun d acc k => ag d (wipeG Γ vs) fun Γ2 => at' Γ2 fun b => if b = true then ae Γ2 fun y => k (acc ++ [y]) else k acc) (ds.drop i) acc P, ⟨_, rfl, Nat.zero_le _, [], [], Nat.le_refl _, ?_⟩, ?_⟩
  · obtain ⟨e, i, r⟩ := new_own (K := K) (xs := []) (ds := []) s1.inv hD .nil
    exact ⟨i, e, r, by rw [List.drop_zero]; exact p1⟩
  · rintro i m Hc ⟨rfl, hil, xs, acc, hl, hI', e, ra, go⟩
    obtain ⟨g1, g2, g3⟩ := wk (w.plus [(Dl, xs)]) Hc hI' fun p hp => Rw.mono e (hgs p hp)
    by_cases hlt : i < ds.length
    · refine .inr ⟨g1 i hlt, fun Hn => ∃ (xs : List V) (acc : List D), acc.length ≤ i + 1 ∧ (w.plus [(Dl, xs)]).I Hn ∧ Ext (w.v H1) ((w.plus [(Dl, xs)]).v Hn) ∧ RA K (w.plus [(Dl, xs)]) Hn xs acc ∧
        goA (fun d acc k => ag d (wipeG Γ vs) fun Γ2 => at' Γ2 fun b => if b = true then ae Γ2 fun y => k (acc ++ [y]) else k acc) (ds.drop (i + 1)) acc P, fun Hn h => ⟨ds.length - (i + 1), by omega, rfl, hlt, h⟩, fun x H2 y => ?_⟩
      obtain ⟨s2, d, hd, rx⟩ := g3 i x H2 hlt y
      have ed : ds.drop i = d :: ds.drop (i + 1) := by
        rw [List.drop_eq_getElem_cons hlt]
        obtain ⟨_, e⟩ := List.getElem?_eq_some_iff.mp hd
        rw [e]
      rw [ed] at go
      have hcw := hC w [(Dl, xs)] hc fun p hp => by rw [List.mem_singleton.mp hp]; exact hm
      have hrw : RelE K (w.plus [(Dl, xs)]) os (wipe σ vs) H2 (wipeG Γ vs) := ((hr.wipe vs).mv rfl (s1.ext.tr (e.tr s2.ext)) fun _ h => h.1)
      refine hg _ os (wipe σ vs) H2 (wipeG Γ vs) x d _ _ hcw hrw s2.inv rx go fun σ2 Γ2 hr2 k2 p2 => ⟨(k2.w vs hjs).trans wipe_idem, ?_⟩
      refine ht _ os σ2 H2 Γ2 _ _ hcw hr2 s2.inv p2 fun b H3 s3 p3 => ?_
      cases b with
      | true =>
        refine he _ os σ2 H3 Γ2 _ _ hcw (hr2.step s3) s3.inv p3 fun v H4 z s4 r4 p4 => ?_
        have s24 := (s2.trans s3).trans s4
        refine ⟨xs, s4.inv.2 (Dl, xs) (by simp), Nat.lt_of_le_of_lt (by have e1 := ra.length; omega : xs.length ≤ 1000000) (by decide), xs ++ [v], acc ++ [z], ?_, ?_⟩
        · rw [List.length_append, List.length_singleton]
          omega
        · obtain ⟨i1, e1⟩ := own_set (w := w) (os := [(Dl, xs)]) (xs := xs) (ys := xs ++ [v]) (by simp) hm s4.inv
          have eo : setO [(Dl, xs)] Dl (xs ++ [v]) = [(Dl, xs ++ [v])] := by simp [setO]
          rw [eo] at i1 e1
          refine ⟨i1, e.tr (s24.ext.tr e1), ?_, p4⟩
          exact RwA.append ((s24.ra ra).mono e1) (.cons (Rw.mono e1 r4) .nil)
      | false =>
        have s23 := s2.trans s3
        exact ⟨xs, acc, by omega, s3.inv, e.tr s23.ext, s23.ra ra, p3⟩
    · have ei : i = ds.length := by omega
      subst ei
      rw [List.drop_length] at go
      exact .inl ⟨g2, hq Dl Hc xs acc hD0 (s1.ext.tr e) hI' ra go⟩
/-! ### calls -/
def spOf (K : PySem.W.Frag) (C : WC) (A : List D → (D → Prop) → Prop) : Sp := fun vs H Q _ => ∃ (w : Wd) (ds : List D) (P : D → Prop), C w ∧ w.I H ∧ RA K w H vs ds ∧ A ds P ∧ ∀ v H' d, Step w H H' → R K w H' v d → P d → Q v H'
@[simp] abbrev aCall (A : List D → (D → Prop) → Prop) (dds : List D) (a : ATA) : ATE := fun Γ P => a Γ fun ds => A (ds ++ dds) P
theorem snd_call {C' : WC} {A : List D → (D → Prop) → Prop} {dvs : List V} {dds : List D} {E : XK} {t : TA} {a : ATA} (hC : ∀ w, C w → C' w) (hd : ∀ (w : Wd) H, RA K w H dvs dds) (h : SndA K C t a) : SndE K C (tCall (spOf K C' A) dvs E t) (aCall A dds a) := by
  intro w os σ H Γ P Q hc hr hI ha hq
  refine h w os σ H Γ _ _ hc hr hI ha fun vs H1 ds s1 r1 p1 => ?_
  exact ⟨w, ds ++ dds, P, hC w hc, s1.inv, r1.append (hd w H1), p1, fun v H' d s r p => hq v H' d (s1.trans s) r p⟩
end
/-! ### statements -/
structure AE where
  nx : List G → Prop
  rt : D → Prop
  bk : List G → Prop := fun _ => False
  ct : List G → Prop := fun _ => False
abbrev ATS := AE → List G → Prop
structure RelS (K : PySem.W.Frag) (w : Wd) (os : List (Addr × List V)) (gs : List (V × D)) (H0 : Hp) (σ : St) (H : Hp) (Γ : List G) : Prop where
  st : Step w H0 H
  fr : ∀ p ∈ os, p.1 ∉ w.ms ∧ H0 p.1 = none
  inv : (w.plus os).I H
  rel : RelE K (w.plus os) os σ H Γ
  dj : ∀ (i j : Nat) (ds es : List D), Γ[i]? = some (.own ds) → Γ[j]? = some (.own es) → σ[i]? = σ[j]? → i = j
  gh : ∀ p ∈ gs, R K (w.plus os) H p.1 p.2
structure EndsOk (K : PySem.W.Frag) (w : Wd) (gs : List (V × D)) (H0 : Hp) (A : AE) (D' : Ends) : Prop where
  nx : ∀ os σ H Γ, RelS K w os gs H0 σ H Γ → A.nx Γ → D'.nx σ H
  bk : ∀ os σ H Γ, RelS K w os gs H0 σ H Γ → A.bk Γ → D'.bk σ H
  ct : ∀ os σ H Γ, RelS K w os gs H0 σ H Γ → A.ct Γ → D'.ct σ H
  rt : ∀ v H d, Step w H0 H → R K w H v d → A.rt d → D'.rt v H
def SndS (K : PySem.W.Frag) (C : WC) (t : TS) (a : ATS) : Prop := ∀ (w : Wd) (os : List (Addr × List V)) (gs : List (V × D)) (H0 : Hp) (σ : St) (H : Hp) (Γ : List G) (A : AE) (D' : Ends), C w → RelS K w os gs H0 σ H Γ → a A Γ → EndsOk K w gs H0 A D' → t D' σ H
structure JS (X : Cx) (C : WC) (st : Stmt) (t : TS) (a : ATS) : Prop where
  p : PS X st t
  s : SndS X.K C t a
structure JSs (X : Cx) (C : WC) (sts : List Stmt) (t : TS) (a : ATS) : Prop where
  p : PSs X sts t
  s : SndS X.K C t a
@[simp] abbrev aNext : ATS := fun A Γ => A.nx Γ
@[simp] abbrev aSeq (a b : ATS) : ATS := fun A Γ => a { A with nx := b A } Γ
@[simp] abbrev aBreak : ATS := fun A Γ => A.bk Γ
@[simp] abbrev aCont : ATS := fun A Γ => A.ct Γ
@[simp] abbrev aDrop (a : ATE) : ATS := fun A Γ => a Γ fun _ => A.nx Γ
@[simp] abbrev aRet (a : ATE) : ATS := fun A Γ => a Γ A.rt
@[simp] abbrev aRetN : ATS := fun A _ => A.rt .non
@[simp] abbrev aIfS (c : ATT) (a b : ATS) : ATS := fun A Γ => c Γ fun k => if k = true then a A Γ else b A Γ
@[simp] abbrev aAsg (a : ATE) (g : ATG) : ATS := fun A Γ => a Γ fun d => g d Γ A.nx
/-- name = a new list, owned by the frame -/
@[simp] abbrev aOwn (a : ATA) (i : Nat) : ATS := fun A Γ => a Γ fun ds => A.nx (Γ.set i (.own ds))
/-- from here on the list in slot i is data -/
@[simp] abbrev aFrz (i : Nat) (a : ATS) : ATS := fun A Γ => match Γ[i]? with
  | some (.own ds) => a A (Γ.set i (.dat (.lst ds)))
  | _ => a A Γ
@[simp] abbrev aApp (i : Nat) (a : ATE) : ATS := fun A Γ => match Γ[i]? with
  | some (.own ds) => ds.length ≤ 1000000 ∧ a Γ fun y => A.nx (Γ.set i (.own (ds ++ [y])))
  | _ => False
def aFor (ai : ATA) (g : ATG) (b : ATS) : ATS := fun A Γ => ai Γ fun ds => ∃ Inv : Nat → List G → Prop, Inv 0 Γ ∧
  (∀ i d Γ', ds[i]? = some d → Inv i Γ' → g d Γ' fun Γ2 => b { A with nx := Inv (i + 1), ct := Inv (i + 1), bk := A.nx } Γ2) ∧ ∀ Γ', Inv ds.length Γ' → A.nx Γ'
def aWhile (c : ATT) (b : ATS) : ATS := fun A Γ => ∃ W : Nat → List G → Prop, (∃ m, W m Γ) ∧ ∀ m Γ', W m Γ' →
  c Γ' fun k => if k = true then b { A with nx := fun Γ2 => ∃ m', m' < m ∧ W m' Γ2, ct := fun Γ2 => ∃ m', m' < m ∧ W m' Γ2, bk := A.nx } Γ' else A.nx Γ'
section
variable {K : PySem.W.Frag} {C : WC} {w : Wd} {os : List (Addr × List V)} {gs : List (V × D)} {H0 : Hp} {σ : St} {H H' : Hp} {Γ : List G}
theorem RelS.step (r : RelS K w os gs H0 σ H Γ) (s : Step (w.plus os) H H') : RelS K w os gs H0 σ H' Γ := by
  refine ⟨r.st.trans (Step.un (fun p hp => .inr ((s.inv.2 p hp).trans (r.inv.2 p hp).symm)) s), r.fr, s.inv, r.rel.step s, r.dj, fun p hp => s.r (r.gh p hp)⟩
theorem RelS.kept (r : RelS K w os gs H0 σ H Γ) {σ' : St} {Γ' : List G} {js : List Nat} (h : RelE K (w.plus os) os σ' H Γ') (k : Kept js σ σ' Γ Γ') : RelS K w os gs H0 σ' H Γ' :=
  ⟨r.st, r.fr, r.inv, h, fun i j ds es e1 e2 e3 => by
    obtain ⟨a1, a2⟩ := k.o i ds e1
    obtain ⟨b1, b2⟩ := k.o j es e2
    exact r.dj i j ds es a1 b1 (a2.symm.trans (e3.trans b2)), r.gh⟩
theorem snd_next : SndS K C tNext aNext := fun w os gs H0 σ H Γ A D' _ r ha e => e.nx os σ H Γ r ha
theorem snd_seq {t u : TS} {a b : ATS} (h1 : SndS K C t a) (h2 : SndS K C u b) : SndS K C (tSeq t u) (aSeq a b) := by
  intro w os gs H0 σ H Γ A D' hc r ha e
  exact h1 w os gs H0 σ H Γ _ _ hc r ha ⟨fun os' σ' H' Γ' r' p => h2 w os' gs H0 σ' H' Γ' A D' hc r' p e, e.bk, e.ct, e.rt⟩
theorem snd_break : SndS K C tBreak aBreak := fun w os gs H0 σ H Γ A D' _ r ha e => e.bk os σ H Γ r ha
theorem snd_cont : SndS K C tCont aCont := fun w os gs H0 σ H Γ A D' _ r ha e => e.ct os σ H Γ r ha
theorem snd_drop (hC : Cl C) {t : TE} {a : ATE} (h : SndE K C t a) : SndS K C (tDrop t) (aDrop a) := by
  intro w os gs H0 σ H Γ A D' hc r ha e
  exact h _ os σ H Γ _ _ (hC w os hc fun p hp => (r.fr p hp).1) r.rel r.inv ha fun v H' d s _ p => e.nx os σ H' Γ (r.step s) p
theorem snd_ret (hC : Cl C) {t : TE} {a : ATE} (h : SndE K C t a) : SndS K C (tRet t) (aRet a) := by
  intro w os gs H0 σ H Γ A D' hc r ha e
  exact h _ os σ H Γ _ _ (hC w os hc fun p hp => (r.fr p hp).1) r.rel r.inv ha fun v H' d s rv p => e.rt v H' d (r.step s).st (R.un rv) p
theorem snd_retN : SndS K C tRetN aRetN := fun w os gs H0 σ H Γ A D' _ r ha e => e.rt .non H .non r.st .non ha
theorem snd_ifS (hC : Cl C) {c : TT} {t u : TS} {k : ATT} {a b : ATS} (h : SndT K C c k) (h1 : SndS K C t a) (h2 : SndS K C u b) : SndS K C (tIfS c t u) (aIfS k a b) := by
  intro w os gs H0 σ H Γ A D' hc r ha e
  refine h _ os σ H Γ _ _ (hC w os hc fun p hp => (r.fr p hp).1) r.rel r.inv ha fun b H' s p => ?_
  cases b with
  | true => exact h1 w os gs H0 σ H' Γ A D' hc (r.step s) p e
  | false => exact h2 w os gs H0 σ H' Γ A D' hc (r.step s) p e
theorem snd_asg (hC : Cl C) {js : List Nat} {t : TE} {a : ATE} {g : TG} {ag : ATG} (h : SndE K C t a) (hg : SndG K C js g ag) : SndS K C (tAsg t g) (aAsg a ag) := by
  intro w os gs H0 σ H Γ A D' hc r ha e
  refine h _ os σ H Γ _ _ (hC w os hc fun p hp => (r.fr p hp).1) r.rel r.inv ha fun v H' d s rv p => ?_
  have r' := r.step s
  exact hg _ os σ H' Γ v d _ _ (hC w os hc fun p hp => (r.fr p hp).1) r'.rel r'.inv rv p fun σ2 Γ2 h2 k2 p2 => e.nx os σ2 H' Γ2 (r'.kept h2 k2) p2
theorem snd_own (hC : Cl C) {i : Nat} {t : TE} {a : ATA} (h : SndL K C t a) : SndS K C (tAsg t (gName i)) (aOwn a i) := by
  intro w os gs H0 σ H Γ A D' hc r ha e
  refine h _ os σ H Γ _ _ (hC w os hc fun p hp => (r.fr p hp).1) r.rel r.inv ha fun p H' xs ds hp ex iv ra p1 => ?_
  have hpo : ∀ q ∈ os, q.1 ≠ p := fun q hq z => by
    have := r.inv.2 q hq
    rw [z, hp] at this
    cases this
  have hpm : p ∉ w.ms := fun m => by
    obtain ⟨o, eo⟩ := w.live H r.inv.1 p m
    rw [hp] at eo; cases eo
  have ho : ∀ q, q ∈ (p, xs) :: os → H' q.1 = some (.lst q.2) := fun q hq => by
    rcases List.mem_cons.mp hq with z | z
    · rw [z]; exact iv.2 (p, xs) (by simp)
    · exact iv.1.2 q z
  have ex' : Ext ((w.plus os).v H) ((w.plus ((p, xs) :: os)).v H') := ex
  have ra' : RA K (w.plus ((p, xs) :: os)) H' xs ds := ra
  have st1 : Step w H H' := by
    refine Step.un (os := (p, xs) :: os) (fun q hq => ?_) ⟨fun a o e => ?_, ⟨iv.1.1, ho⟩⟩
    · rcases List.mem_cons.mp hq with z | z
      · exact .inl (by rw [z]; unfold Wd.v; rw [vis_out hpm]; exact hp)
      · exact .inr ((iv.1.2 q z).trans (r.inv.2 q z).symm)
    · obtain ⟨h1, h2⟩ := vis_some e
      exact ex' a o (vis_of (fun z => h1 (List.mem_cons_of_mem _ z)) h2)
  refine e.nx ((p, xs) :: os) (σ.set i (some (.ref p))) H' (Γ.set i (.own ds)) ⟨r.st.trans st1, fun q hq => ?_, ⟨iv.1.1, ho⟩, ⟨by rw [List.length_set, List.length_set, r.rel.len], fun j g eg => ?_, fun H2 h2 => h2.2⟩, fun j k ds1 es1 e1 e2 e3 => ?_, fun q hq => Rw.mono ex' (r.gh q hq)⟩ p1
  · rcases List.mem_cons.mp hq with z | z
    · rw [z]; exact ⟨hpm, fresh_step r.st hp⟩
    · exact r.fr q z
  · by_cases q : i = j
    · subst q
      have hl : i < Γ.length := by
        by_cases z : i < Γ.length
        · exact z
        · rw [List.getElem?_eq_none (by rw [List.length_set]; omega)] at eg; cases eg
      rw [List.getElem?_set_self hl] at eg
      cases eg
      exact ⟨p, xs, by rw [List.getElem?_set_self (by rw [r.rel.len]; exact hl)], List.mem_cons_self, ra'⟩
    · rw [List.getElem?_set_ne q] at eg ⊢
      have rg := r.rel.at_ j g eg
      cases g with
      | no => trivial
      | dat d =>
        obtain ⟨v, h1, h2⟩ := rg
        exact ⟨v, h1, Rw.mono ex' h2⟩
      | own es =>
        obtain ⟨a, ys, h1, h2, h3⟩ := rg
        exact ⟨a, ys, h1, List.mem_cons_of_mem _ h2, RwA.mono ex' h3⟩
  · -- two owned slots
    have old : ∀ (j : Nat) (es : List D), i ≠ j → (Γ.set i (.own ds))[j]? = some (.own es) → ∃ a, σ[j]? = some (some (.ref a)) ∧ a ≠ p := fun j es hj e1 => by
      rw [List.getElem?_set_ne hj] at e1
      obtain ⟨a, ys, h1, h2, _⟩ := r.rel.at_ j _ e1
      exact ⟨a, h1, hpo (a, ys) h2⟩
    have inr : ∀ (j : Nat) (es : List D), (Γ.set i (.own ds))[j]? = some (.own es) → j < Γ.length := fun j es e1 => by
      by_cases z : j < Γ.length
      · exact z
      · rw [List.getElem?_eq_none (by rw [List.length_set]; omega)] at e1; cases e1
    by_cases qj : i = j
    · by_cases qk : i = k
      · exact qj.symm.trans qk
      · exfalso
        subst qj
        obtain ⟨a, h1, h2⟩ := old k es1 qk e2
        rw [List.getElem?_set_self (by rw [r.rel.len]; exact inr i ds1 e1), List.getElem?_set_ne qk, h1] at e3
        cases e3
        exact h2 rfl
    · by_cases qk : i = k
      · exfalso
        subst qk
        obtain ⟨a, h1, h2⟩ := old j ds1 qj e1
        rw [List.getElem?_set_self (by rw [r.rel.len]; exact inr i es1 e2), List.getElem?_set_ne qj, h1] at e3
        cases e3
        exact h2 rfl
      · rw [List.getElem?_set_ne qj] at e1 e3
        rw [List.getElem?_set_ne qk] at e2 e3
        exact r.dj j k ds1 es1 e1 e2 e3
end
end Ad
/-! Ad7: owned lists that turn, loops, a def's rule, the derivations' rules. -/
namespace Ad
open PySem L2
section
variable {K : PySem.W.Frag} {C : WC} {w : Wd} {os : List (Addr × List V)} {gs : List (V × D)} {H0 : Hp} {σ : St} {H H' : Hp} {Γ : List G}
/-- an owned list becomes data -/
theorem RelS.freeze (r : RelS K w os gs H0 σ H Γ) {i : Nat} {ds : List D} (h : Γ[i]? = some (.own ds)) : ∃ os', RelS K w os' gs H0 σ H (Γ.set i (.dat (.lst ds))) := by
  obtain ⟨a, xs, h1, h2, h3⟩ := r.rel.at_ i _ h
  have hl : i < Γ.length := (List.getElem?_eq_some_iff.mp h).1
  -- the others
  let os' := os.filter fun q => decide (q.1 ≠ a)
  have sub : ∀ q, q ∈ os' → q ∈ os ∧ q.1 ≠ a := fun q hq => by
    obtain ⟨m1, m2⟩ := List.mem_filter.mp hq
    exact ⟨m1, of_decide_eq_true m2⟩
  have ex : Ext ((w.plus os).v H) ((w.plus os').v H) := fun b o e => by
    obtain ⟨m1, m2⟩ := vis_some e
    refine vis_of (fun z => m1 ?_) m2
    rcases List.mem_append.mp z with z | z
    · obtain ⟨q, hq, rfl⟩ := List.mem_map.mp z
      exact List.mem_append_left _ (List.mem_map_of_mem (sub q hq).1)
    · exact List.mem_append_right _ z
  have va : (w.plus os').v H a = some (.lst xs) := by
    refine vis_of (fun z => ?_) (r.inv.2 (a, xs) h2)
    rcases List.mem_append.mp z with z | z
    · obtain ⟨q, hq, e⟩ := List.mem_map.mp z
      exact (sub q hq).2 e
    · exact (r.fr (a, xs) h2).1 z
  refine ⟨os', r.st, fun q hq => r.fr q (sub q hq).1, ⟨r.inv.1, fun q hq => r.inv.2 q (sub q hq).1⟩, ⟨by rw [List.length_set, r.rel.len], fun j g e => ?_, fun H2 h2 q hq => h2.2 q hq⟩, fun j k es fs e1 e2 e3 => ?_, fun q hq => Rw.mono ex (r.gh q hq)⟩
  · by_cases q : i = j
    · subst q
      rw [List.getElem?_set_self hl] at e
      cases e
      exact ⟨.ref a, h1, .lst va (RwA.mono ex h3)⟩
    · rw [List.getElem?_set_ne q] at e
      have rg := r.rel.at_ j g e
      cases g with
      | no => trivial
      | dat d =>
        obtain ⟨v, k1, k2⟩ := rg
        exact ⟨v, k1, Rw.mono ex k2⟩
      | own es =>
        obtain ⟨b, ys, k1, k2, k3⟩ := rg
        refine ⟨b, ys, k1, List.mem_filter.mpr ⟨k2, decide_eq_true fun z => q ?_⟩, RwA.mono ex k3⟩
        have z : b = a := z
        exact r.dj i j ds es h e (by rw [h1, k1, z])
  · have back : ∀ (j : Nat) (es : List D), (Γ.set i (.dat (.lst ds)))[j]? = some (.own es) → Γ[j]? = some (.own es) := fun j es e => by
      by_cases q : i = j
      · subst q
        rw [List.getElem?_set_self hl] at e
        cases e
      · rw [List.getElem?_set_ne q] at e
        exact e
    exact r.dj j k es fs (back j es e1) (back k fs e2) e3
theorem snd_frz (i : Nat) {t : TS} {a : ATS} (h : SndS K C t a) : SndS K C t (aFrz i a) := by
  intro w os gs H0 σ H Γ A D' hc r ha e
  unfold aFrz at ha
  split at ha
  · rename_i ds q
    obtain ⟨os', r'⟩ := r.freeze q
    exact h w os' gs H0 σ H _ A D' hc r' ha e
  · exact h w os gs H0 σ H Γ A D' hc r ha e
/-- an owned list in slot i holds ys now -/
theorem RelS.put (r : RelS K w os gs H0 σ H Γ) {i : Nat} {ds es : List D} {a : Addr} {xs ys : List V} (h : Γ[i]? = some (.own ds)) (h1 : σ[i]? = some (some (.ref a))) (h2 : (a, xs) ∈ os) (h3 : RA K (w.plus os) H ys es) :
    RelS K w (setO os a ys) gs H0 σ (upd H a (.lst ys)) (Γ.set i (.own es)) := by
  have hl : i < Γ.length := (List.getElem?_eq_some_iff.mp h).1
  have hm : a ∉ w.ms := (r.fr (a, xs) h2).1
  obtain ⟨iv, ex⟩ := own_set (ys := ys) h2 hm r.inv
  have h0 : H0 a = none := (r.fr (a, xs) h2).2
  refine ⟨⟨fun b o e => ?_, iv.1⟩, fun q hq => ?_, iv, ⟨by rw [List.length_set, r.rel.len], fun j g e => ?_, fun H2 k2 q hq => k2.2 q hq⟩, fun j k fs gs' e1 e2 e3 => ?_, fun q hq => Rw.mono ex (r.gh q hq)⟩
  · have hb : b ≠ a := fun z => by
      have := (vis_some e).2
      rw [z, h0] at this
      cases this
    obtain ⟨m1, m2⟩ := vis_some (r.st.ext b o e)
    exact vis_of m1 (by rw [upd_ne hb]; exact m2)
  · obtain ⟨q', hq', rfl⟩ := List.mem_map.mp hq
    by_cases z : q'.1 = a
    · simp only [if_pos z]
      exact ⟨hm, h0⟩
    · simp only [if_neg z]
      exact r.fr q' hq'
  · by_cases q : i = j
    · subst q
      rw [List.getElem?_set_self hl] at e
      cases e
      exact ⟨a, ys, h1, List.mem_map.mpr ⟨(a, xs), h2, by simp⟩, RwA.mono ex h3⟩
    · rw [List.getElem?_set_ne q] at e
      have rg := r.rel.at_ j g e
      cases g with
      | no => trivial
      | dat d =>
        obtain ⟨v, k1, k2⟩ := rg
        exact ⟨v, k1, Rw.mono ex k2⟩
      | own fs =>
        obtain ⟨b, zs, k1, k2, k3⟩ := rg
        refine ⟨b, zs, k1, List.mem_map.mpr ⟨(b, zs), k2, ?_⟩, RwA.mono ex k3⟩
        have hb : b ≠ a := fun z => q (r.dj i j ds fs h e (by rw [h1, k1, z]))
        simp [hb]
  · have back : ∀ (j : Nat) (es' : List D), (Γ.set i (.own es))[j]? = some (.own es') → ∃ fs', Γ[j]? = some (.own fs') := fun j es' e => by
      by_cases q : i = j
      · subst q
        exact ⟨ds, h⟩
      · rw [List.getElem?_set_ne q] at e
        exact ⟨es', e⟩
    obtain ⟨f1, b1⟩ := back j fs e1
    obtain ⟨f2, b2⟩ := back k gs' e2
    exact r.dj j k f1 f2 b1 b2 e3
theorem snd_app (hC : Cl C) {i : Nat} {t : TE} {a : ATE} (h : SndE K C t a) : SndS K C (tDrop (tBM K "list" rAppend (tVar i) (tCons t tNil))) (aApp i a) := by
  intro w os gs H0 σ H Γ A D' hc r ha e
  unfold aApp at ha
  split at ha
  · rename_i ds q
    obtain ⟨hz, ha⟩ := ha
    obtain ⟨b, xs, h1, h2, h3⟩ := r.rel.at_ i _ q
    refine ⟨.ref b, h1, .inl ⟨rfl, xs, SqL.of (r.inv.2 (b, xs) h2)⟩, ?_⟩
    refine h _ os σ H Γ _ _ (hC w os hc fun p hp => (r.fr p hp).1) r.rel r.inv ha fun v H' d s rv p => ?_
    have r' := r.step s
    have hH : H' b = some (.lst xs) := r'.inv.2 (b, xs) h2
    have hx := h3.length
    refine ⟨b, xs, v, rfl, rfl, hH, Nat.lt_of_le_of_lt (by omega : xs.length ≤ 1000000) (by decide), ?_⟩
    exact e.nx _ σ _ _ (r'.put q h1 h2 (RwA.append (s.ra h3) (.cons rv .nil))) p
  · exact ha.elim
theorem snd_for (hC : Cl C) {js : List Nat} {wi : TI} {ai : ATA} {g : TG} {ag : ATG} {tb : TS} {ab : ATS} (hi : SndI K C wi ai) (hg : SndG K C js g ag) (hb : SndS K C tb ab) : SndS K C (tFor wi g tb) (aFor ai ag ab) := by
  intro w os gs H0 σ H Γ A D' hc r ha e
  refine hi _ os σ H Γ _ _ (hC w os hc fun p hp => (r.fr p hp).1) r.rel r.inv ha fun J H1 gs2 ds s1 hgs wk ⟨Iv, i0, turn, fin⟩ => ?_
  have r1 := r.step s1
  refine ⟨fun i m σ' Hc => m = ds.length - i ∧ i ≤ ds.length ∧ ∃ os' Γ', RelS K w os' (gs ++ gs2) H0 σ' Hc Γ' ∧ Iv i Γ', ⟨_, rfl, Nat.zero_le _, os, Γ, ⟨r1.st, r1.fr, r1.inv, r1.rel, r1.dj, fun p hp => ?_⟩, i0⟩, ?_⟩
  · rcases List.mem_append.mp hp with z | z
    · exact r1.gh p z
    · exact hgs p z
  · rintro i m σ' Hc ⟨rfl, hil, os', Γ', r', iv⟩
    obtain ⟨g1, g2, g3⟩ := wk (w.plus os') Hc r'.inv fun p hp => r'.gh p (List.mem_append_right _ hp)
    have less : ∀ {os2 : List (Addr × List V)} {σ2 : St} {H2 : Hp} {Γ2 : List G}, RelS K w os2 (gs ++ gs2) H0 σ2 H2 Γ2 → RelS K w os2 gs H0 σ2 H2 Γ2 := fun r2 => ⟨r2.st, r2.fr, r2.inv, r2.rel, r2.dj, fun p hp => r2.gh p (List.mem_append_left _ hp)⟩
    by_cases hlt : i < ds.length
    · refine .inr ⟨g1 i hlt, fun σ2 H2 => ∃ os2 Γ2, RelS K w os2 (gs ++ gs2) H0 σ2 H2 Γ2 ∧ Iv (i + 1) Γ2, fun σ2 H2 h => ⟨ds.length - (i + 1), by omega, rfl, hlt, h⟩, fun x H2 y => ?_⟩
      obtain ⟨s2, d, hd, rx⟩ := g3 i x H2 hlt y
      have r2 := r'.step s2
      refine hg _ os' σ' H2 Γ' x d _ _ (hC w os' hc fun p hp => (r'.fr p hp).1) r2.rel r2.inv rx (turn i d Γ' hd iv) fun σ3 Γ3 h3 k3 p3 => ?_
      exact hb w os' (gs ++ gs2) H0 σ3 H2 Γ3 _ _ hc (r2.kept h3 k3) p3 ⟨fun os4 σ4 H4 Γ4 r4 p4 => ⟨os4, Γ4, r4, p4⟩, fun os4 σ4 H4 Γ4 r4 p4 => e.nx os4 σ4 H4 Γ4 (less r4) p4, fun os4 σ4 H4 Γ4 r4 p4 => ⟨os4, Γ4, r4, p4⟩, e.rt⟩
    · have ei : i = ds.length := by omega
      subst ei
      exact .inl ⟨g2, e.nx os' σ' Hc Γ' (less r') (fin Γ' iv)⟩
theorem snd_while (hC : Cl C) {c : TT} {ac : ATT} {tb : TS} {ab : ATS} (h : SndT K C c ac) (hb : SndS K C tb ab) : SndS K C (tWhile c tb) (aWhile ac ab) := by
  intro w os gs H0 σ H Γ A D' hc r ⟨W, ⟨m0, w0⟩, turn⟩ e
  refine ⟨fun m σ' Hc => ∃ os' Γ', RelS K w os' gs H0 σ' Hc Γ' ∧ W m Γ', ⟨m0, os, Γ, r, w0⟩, ?_⟩
  rintro m σ' Hc ⟨os', Γ', r', wm⟩
  refine h _ os' σ' Hc Γ' _ _ (hC w os' hc fun p hp => (r'.fr p hp).1) r'.rel r'.inv (turn m Γ' wm) fun b H1 s p => ?_
  have r1 := r'.step s
  cases b with
  | true =>
    refine ⟨fun σ2 H2 => ∃ m', m' < m ∧ ∃ os2 Γ2, RelS K w os2 gs H0 σ2 H2 Γ2 ∧ W m' Γ2, fun σ2 H2 h => h, ?_⟩
    refine hb w os' gs H0 σ' H1 Γ' _ _ hc r1 p ⟨fun os4 σ4 H4 Γ4 r4 p4 => ?_, fun os4 σ4 H4 Γ4 r4 p4 => e.nx os4 σ4 H4 Γ4 r4 p4, fun os4 σ4 H4 Γ4 r4 p4 => ?_, e.rt⟩
    · obtain ⟨m', hm, q⟩ := p4
      exact ⟨m', hm, os4, Γ4, r4, q⟩
    · obtain ⟨m', hm, q⟩ := p4
      exact ⟨m', hm, os4, Γ4, r4, q⟩
  | false => exact e.nx os' σ' H1 Γ' r1 p
end
/-! ### a def -/
def startG (n : Nat) (ds : List D) : List G := ds.map .dat ++ List.replicate (n - ds.length) .no
theorem start_rel {K : PySem.W.Frag} {w : Wd} {H : Hp} {N : List Str} {vs : List V} {ds : List D} (hI : w.I H) (r : RA K w H vs ds) : RelS K w [] [] H (start N vs) H (startG N.length ds) := by
  have hp : w.plus [] = w.plus [] := rfl
  have hl := r.length
  have iv : (w.plus []).I H := ⟨hI, fun p hp => (by cases hp)⟩
  refine ⟨Step.refl hI, fun p hp => (by cases hp), iv, ⟨?_, fun i g e => ?_, fun H2 _ p hp => (by cases hp)⟩, fun i j ds' es e1 _ _ => ?_, fun p hp => (by cases hp)⟩
  · unfold L2.start startG
    simp [hl]
  · unfold startG at e
    unfold L2.start
    by_cases hi : i < ds.length
    · rw [List.getElem?_append_left (by simpa using hi)] at e
      rw [List.getElem?_append_left (by simpa [hl] using hi)]
      rw [List.getElem?_map] at e ⊢
      cases q : ds[i]? with
      | none => rw [q] at e; cases e
      | some d =>
        rw [q] at e
        cases e
        obtain ⟨v, h1, h2⟩ := r.getD q
        rw [h1]
        exact ⟨v, rfl, h2⟩
    · rw [List.getElem?_append_right (by simpa using hi)] at e
      rw [List.getElem?_replicate] at e
      split at e
      · cases e; trivial
      · cases e
  · exfalso
    unfold startG at e1
    by_cases hi : i < ds.length
    · rw [List.getElem?_append_left (by simpa using hi), List.getElem?_map] at e1
      cases q : ds[i]? with
      | none => rw [q] at e1; cases e1
      | some d => rw [q] at e1; cases e1
    · rw [List.getElem?_append_right (by simpa using hi), List.getElem?_replicate] at e1
      split at e1 <;> cases e1
abbrev FnS (K : PySem.W.Frag) (x qual : Str) (st : Stmt) (dvs : List V) (f : Addr) (fd : FuncData) : Prop := FunD K x qual (defArgs st) (defBody st) (defScope st) dvs [] f fd
theorem fn_rule {P : Program} {w : World} {K : PySem.W.Frag} {mg : Str → Option Value} {base : Heap} {x qual : Str} {st : Stmt} {dvs : List V} {f : Addr} {fd : FuncData} {N ps : List Str} {k : Nat} {C : WC} {Ab : List D → (D → Prop) → Prop} {a : ATS}
    (F : FnS K x qual st dvs f fd) (S : FnScope N ps (defScope st)) (hlen : ∀ ds P, Ab ds P → ds.length = ps.length) (hA : ∀ ds P, Ab ds P → a { nx := fun _ => P .non, rt := P } (startG N.length ds))
    (hJ : ∀ (cdv : Value) (A : Around) (outer : List Env) (s : Shared) (H : Hp) (E : XK), Room k (A.deeper (PyProof.Rows.envOfC qual (defScope st) s.heap.objs.size f cdv)) → ∃ t, JSs (cxOf CX0 P w K mg base N qual (defScope st) f cdv A outer s H E).nox C (defBody st) t a) :
    FnOk P w K mg base CX0 (k + 1) f fd ps (spOf K C Ab) := by
  refine F.ok S (fun vs H Q E h => ?_) (fun cdv A outer s H vs Q E hr h => ?_)
  · obtain ⟨_, ds, _, _, _, r, ha, _⟩ := h
    rw [r.length]
    exact hlen _ _ ha
  · obtain ⟨wd, ds, P', hc, hI, r, ha, hq⟩ := h
    obtain ⟨t, j⟩ := hJ cdv A outer s H E hr
    refine ⟨t, PSs.nox j.p, ?_⟩
    exact j.s wd [] [] H _ H _ _ _ hc (start_rel hI r) (hA ds P' ha) ⟨fun os σ H' Γ r' p => hq .non H' .non r'.st .non p, fun os σ H' Γ r' p => p.elim, fun os σ H' Γ r' p => p.elim, fun v H' d s rv p => hq v H' d s rv p⟩
end Ad
/-! Ad8: the rules that a derivation is made of. -/
namespace Ad
open PySem L2
def rUpper : V → List V → Hp → VK → Prop := fun x xs H Q => ∃ a, x = .str a ∧ xs = [] ∧ a.length ≤ 5592405 ∧ Q (.str (Txt.upper a)) H
def rJoin (K : PySem.W.Frag) : V → List V → Hp → VK → Prop := fun x xs H Q => ∃ a p, ∃ ys : List Str, x = .str a ∧ xs = [.ref p] ∧ (SqL K H p (ys.map V.str) ∨ SqT K H p (ys.map V.str)) ∧ (ys.map (·.length)).sum + ys.length * a.length ≤ 16777216 ∧ Q (.str (Txt.join a ys)) H
def rSplit : V → List V → Hp → VK → Prop := fun x xs H Q => ∃ a b, x = .str a ∧ xs = [.str b] ∧ (b.length == 0) = false ∧ a.length + 2 ≤ sizeLine ∧ rNewStrs (Txt.split a b) H Q
section
variable {X : Cx} {C : WC} {e a b c o l iter tg elt : Expr} {es rest : List Expr} {pos apos p2 : Pos} {te ta tb tc to tl : TE} {aa ab ac ae ao : ATE} {t : TA} {ag : ATA}
theorem je_var (i : Nat) {x : Str} (hN : X.N[i]? = some x := by rfl) (hv : Vis X.env.scope x := by first | exact Or.inl rfl | exact Or.inr (Or.inl rfl) | exact Or.inr (Or.inr rfl)) (hd : (x == ("__debug__" : Str)) = false := by decide)
    (hcd : (x == ("__classdict__" : Str)) = false := by decide) : JE X C (.Name x pos) (tVar i) (aVar i) := ⟨pe_var hN hv hd hcd, snd_var⟩
theorem je_int {i : Int} {j : Nat} : JE X C (.Constant (.int i) j pos) (tC (.int i)) (aC (.int i)) := ⟨pe_int, snd_c fun _ _ => .int i⟩
theorem je_bl {i : Bool} {j : Nat} : JE X C (.Constant (.bool i) j pos) (tC (.bl i)) (aC (.bl i)) := ⟨pe_bl, snd_c fun _ _ => .bl i⟩
theorem je_non {j : Nat} : JE X C (.Constant .none j pos) (tC .non) (aC .non) := ⟨pe_non, snd_c fun _ _ => .non⟩
theorem je_str {x : Str} {j : Nat} : JE X C (.Constant (.str x) j pos) (tC (.str x)) (aC (.str x)) := ⟨pe_str, snd_c fun _ _ => .str x⟩
theorem je_gstr {x z : Str} (hm : ∃ u, X.mg x = some (.str z u)) (hg : Gl X x := by rfl) (hd : (x == ("__debug__" : Str)) = false := by decide) : JE X C (.Name x pos) (tC (.str z)) (aC (.str z)) := by
  obtain ⟨u, hm⟩ := hm
  exact ⟨pe_glob hg hm ⟨u, rfl⟩ hd, snd_c fun _ _ => .str z⟩
theorem je_gint {x : Str} {i : Int} (hm : ∃ u, X.mg x = some (.int i u)) (hg : Gl X x := by rfl) (hd : (x == ("__debug__" : Str)) = false := by decide) : JE X C (.Name x pos) (tC (.int i)) (aC (.int i)) := by
  obtain ⟨u, hm⟩ := hm
  exact ⟨pe_glob hg hm ⟨u, rfl⟩ hd, snd_c fun _ _ => .int i⟩
theorem je_gtup {x : Str} {u : Addr} {vs : List V} {ds : List D} (hm : X.mg x = some (.ref u)) (hs : ∀ H, SqT X.K H u vs) (hr : ∀ (w : Wd) H, RA X.K w H vs ds) (hg : Gl X x := by rfl) (hd : (x == ("__debug__" : Str)) = false := by decide) :
    JE X C (.Name x pos) (tC (.ref u)) (aC (.tup ds)) := ⟨pe_glob hg hm rfl hd, snd_c fun w H => .tup (hs _) (hr w H)⟩
/-- a built-in class as a value -/
theorem je_ty {x : Str} {n : String} (hm : X.mg x = none) (hv : bootBuiltins x = some (.type n)) (hg : Gl X x := by rfl) (hn : x ≠ "__name__" := by decide) (hd : (x == ("__debug__" : Str)) = false := by decide) : JE X C (.Name x pos) (tC (.ty n)) (aC (.ty n)) :=
  ⟨pe_bltn hg hm hv rfl hn hd, snd_c fun _ _ => .ty n⟩
theorem je_op {op : Operator} {r : R2} {g : D → D → (D → Prop) → Prop} (ho : JO X C (binaryOp op) r g) (ha : JE X C a ta aa) (hb : JE X C b tb ab) : JE X C (.BinOp a op b pos) (tOp r ta tb) (aOp g aa ab) := ⟨pe_op ho.p ha.p hb.p, snd_op ho.s ha.s hb.s⟩
theorem je_neg (ha : JE X C a ta aa) : JE X C (.UnaryOp .USub a pos) (tUn (rU fun i => .int (-i)) ta) (aUn wNeg aa) := ⟨pe_un un_neg ha.p, snd_un s_neg ha.s⟩
theorem je_cmp {op : CmpOp} {r : R2} {g : D → D → (D → Prop) → Prop} (ho : JO X C (compareOp op) r g) (ha : JE X C a ta aa) (hb : JE X C b tb ab) (hm : behindInMarks op b = false := by rfl) : JE X C (.Compare a [op] [b] pos) (tOp r ta tb) (aOp g aa ab) :=
  ⟨pe_cmpR ho.p ha.p hb.p hm, snd_op ho.s ha.s hb.s⟩
theorem je_chain {op op' : CmpOp} {r r' : R2} {g g' : D → D → (D → Prop) → Prop} (ho : JO X C (compareOp op) r g) (ho' : JO X C (compareOp op') r' g') (ha : JE X C a ta aa) (hb : JE X C b tb ab) (hc : JE X C c tc ac) (hm : lastMarks [op, op'] [b, c] = false := by with_unfolding_all rfl) :
    JE X C (.Compare a [op, op'] [b, c] pos) (tChain r r' ta tb tc) (aChain g g' aa ab ac) := ⟨pe_chain ho.p ho'.p ha.p hb.p hc.p hm, snd_chain ho.s ho'.s ha.s hb.s hc.s⟩
theorem jt_cmp {op : CmpOp} {r : R2} {g : D → D → (D → Prop) → Prop} (ho : JO X C (compareOp op) r g) (ha : JE X C a ta aa) (hb : JE X C b tb ab) (hm : behindInMarks op b = false := by rfl) : JT X C (.Compare a [op] [b] pos) (tTest (tOp r ta tb)) (aB (aOp g aa ab)) :=
  ⟨pt_cmpR ho.p ha.p hb.p hm, snd_test (snd_op ho.s ha.s hb.s)⟩
theorem jt_chain {op op' : CmpOp} {r r' : R2} {g g' : D → D → (D → Prop) → Prop} (ho : JO X C (compareOp op) r g) (ho' : JO X C (compareOp op') r' g') (ha : JE X C a ta aa) (hb : JE X C b tb ab) (hc : JE X C c tc ac) (hm : lastMarks [op, op'] [b, c] = false := by with_unfolding_all rfl) :
    JT X C (.Compare a [op, op'] [b, c] pos) (tTest (tChain r r' ta tb tc)) (aB (aChain g g' aa ab ac)) := ⟨pt_chain ho.p ho'.p ha.p hb.p hc.p hm, snd_test (snd_chain ho.s ho'.s ha.s hb.s hc.s)⟩
theorem jt_val (h : JE X C e te ae) (he : ∀ whole, isTrue e X.env whole = (do let v ← whole; standAt e.pos; holding [v] (truthy v)) := by intro _; rfl) : JT X C e (tB te) (aB ae) := ⟨pt_val h.p he, snd_B h.s⟩
theorem jt_not {tt : TT} {at' : ATT} (h : JT X C a tt at') : JT X C (.UnaryOp .Not a pos) (tNot tt) (aNot at') := ⟨pt_not h.p, snd_not h.s⟩
theorem jw_and1 {tt : TT} {at' : ATT} (h : JT X C a tt at') : JW X C (.BoolOp .And [a] pos) tt at' := ⟨pw_and1 h.p, h.s⟩
theorem jw_or1 {tt : TT} {at' : ATT} (h : JT X C a tt at') : JW X C (.BoolOp .Or [a] pos) tt at' := ⟨pw_or1 h.p, h.s⟩
theorem jw_and {tt tu : TT} {at' au : ATT} (h : JT X C a tt at') (h2 : JW X C (.BoolOp .And (b :: rest) pos) tu au) : JW X C (.BoolOp .And (a :: b :: rest) pos) (tAnd tt tu) (aAnd at' au) := ⟨pw_and h.p h2.p, snd_and h.s h2.s⟩
theorem jw_or {tt tu : TT} {at' au : ATT} (h : JT X C a tt at') (h2 : JW X C (.BoolOp .Or (b :: rest) pos) tu au) : JW X C (.BoolOp .Or (a :: b :: rest) pos) (tOr tt tu) (aOr at' au) := ⟨pw_or h.p h2.p, snd_or h.s h2.s⟩
theorem jt_w {tt : TT} {at' : ATT} (h : JW X C e tt at') : JT X C e tt at' := ⟨h.p.pt, h.s⟩
theorem je_one {op : BoolOp} (h : JE X C a ta aa) : JE X C (.BoolOp op [a] pos) ta aa := ⟨pe_one h.p, h.s⟩
theorem je_and (h : JE X C a ta aa) (h2 : JE X C (.BoolOp .And (b :: rest) pos) tb ab) : JE X C (.BoolOp .And (a :: b :: rest) pos) (tAndV ta tb) (aAndV aa ab) := ⟨pe_and h.p h2.p, snd_andV h.s h2.s⟩
theorem je_or (h : JE X C a ta aa) (h2 : JE X C (.BoolOp .Or (b :: rest) pos) tb ab) : JE X C (.BoolOp .Or (a :: b :: rest) pos) (tOrV ta tb) (aOrV aa ab) := ⟨pe_or h.p h2.p, snd_orV h.s h2.s⟩
theorem je_not (h : JE X C a ta aa) : JE X C (.UnaryOp .Not a pos) (tNotV ta) (aV (aNot (aB aa))) := ⟨pe_not h.p, snd_notV h.s⟩
theorem je_if {tt : TT} {at' : ATT} (h : JT X C c tt at') (ha : JE X C a ta aa) (hb : JE X C b tb ab) : JE X C (.IfExp c a b pos) (tIf tt ta tb) (aIf at' aa ab) := ⟨pe_ifExp h.p ha.p hb.p, snd_if h.s ha.s hb.s⟩
theorem ja_nil : JA X C [] tNil aNil := ⟨pa_nil, snd_nil⟩
theorem ja_cons (h : JE X C e te ae) (hr : JA X C es t ag) (hs : starEach (e :: es) X.env = (false, eval e X.env) :: starEach es X.env := by rfl) : JA X C (e :: es) (tCons te t) (aCons ae ag) := ⟨pa_cons h.p hr.p hs, snd_cons h.s hr.s⟩
theorem je_tup {k : Nat} (h : JA X C es t ag) : JE X C (.Tuple es k pos) (tTup t) (aTup ag) := ⟨pe_tup h.p, snd_tup h.s⟩
theorem jl_lst (h : JA X C es t ag) : JL X C (.List es pos) (tLst t) (aLstL ag) := ⟨pe_lst h.p, snd_lst h.s⟩
theorem je_L (h : JL X C e te ag) : JE X C e te (aL ag) := ⟨h.p, snd_L h.s⟩
theorem je_ix (ha : JE X C a ta aa) (hb : JE X C b tb ab) (hs : PlainIx b := by intro _ _; rfl) : JE X C (.Subscript a b pos) (tOp (rIx X.K) ta tb) (aOp wIx aa ab) := ⟨pe_ix ix_seq ha.p hb.p hs, snd_op s_ix ha.s hb.s⟩
theorem jp_none : JP X C none tNoPart aNoPart := ⟨po_none, snd_noPart⟩
theorem jp_some (h : JE X C e te ae) : JP X C (some e) (tPart te) (aPart ae) := ⟨po_some h.p, snd_part h.s⟩
theorem je_sl {lo hi : Option Expr} {tlo thi : TO} {alo ahi : ATO} (h : JE X C e te ae) (hl : JP X C lo tlo alo) (hh : JP X C hi thi ahi) : JE X C (.Subscript e (.Slice lo hi none p2) pos) (tSl (rSlG X.K) te tlo thi) (aSl ae alo ahi) :=
  ⟨pe_slice sl_gen h.p hl.p hh.p, snd_sl h.s hl.s hh.s⟩
theorem je_callB {x : Str} {p : Pos} {id : String} {r : List V → Hp → VK → Prop} {f : List D → (D → Prop) → Prop} (hc : CallR X (.builtin id) r) (hs : SndRs X.K C r f) (hm : X.mg x = none) (hv : bootBuiltins x = some (.builtin id)) (ha : JA X C (e :: es) t ag) (hg : Gl X x := by rfl) (hn : x ≠ "__name__" := by decide) (hdb : (x == ("__debug__" : Str)) = false := by decide)
    (he : starEach (e :: es) X.env = (false, eval e X.env) :: starEach es X.env := by rfl) (hpl : (backTo pos (starEach es X.env)).any (·.1) = false := by rfl) : JE X C (.Call (.Name x p) (e :: es) [] pos) (tCB r t) (aCB f ag) :=
  ⟨pe_callB hc hg hm hv ha.p hn hdb he hpl, snd_CB hs ha.s⟩
theorem je_callTy {x : Str} {p : Pos} {id : String} {r : List V → Hp → VK → Prop} {f : List D → (D → Prop) → Prop} (hc : CallR X (.type id) r) (hs : SndRs X.K C r f) (hm : X.mg x = none) (hv : bootBuiltins x = some (.type id)) (ha : JA X C (e :: es) t ag) (hg : Gl X x := by rfl) (hn : x ≠ "__name__" := by decide) (hdb : (x == ("__debug__" : Str)) = false := by decide)
    (he : starEach (e :: es) X.env = (false, eval e X.env) :: starEach es X.env := by rfl) (hpl : (backTo pos (starEach es X.env)).any (·.1) = false := by rfl) : JE X C (.Call (.Name x p) (e :: es) [] pos) (tCB r t) (aCB f ag) :=
  ⟨pe_callTy hc hg hm hv ha.p hn hdb he hpl, snd_CB hs ha.s⟩
theorem je_upper (ho : JE X C o to ao) (hbase : attributeBase o "upper" X.env (eval o X.env) = eval o X.env := by rfl) (hline : (apos.endLine == pos.line) = true := by rfl) : JE X C (.Call (.Attribute o "upper" apos) [] [] pos) (tM0 rUpper to) (aMs wUpper ao aNil) := ⟨pe_upper ho.p hbase hline, snd_M0 s_upper ho.s⟩
theorem je_join (ho : JE X C o to ao) (he : JE X C e te ae) (hs : starEach [e] X.env = [(false, eval e X.env)] := by rfl) (hbase : attributeBase o "join" X.env (eval o X.env) = eval o X.env := by rfl) (hline : (apos.endLine == pos.line) = true := by rfl) :
    JE X C (.Call (.Attribute o "join" apos) [e] [] pos) (tM1 (rJoin X.K) to te) (aMs wJoin ao (aCons ae aNil)) := ⟨pe_join ho.p he.p hs hbase hline, snd_M1 s_join ho.s he.s⟩
theorem je_split (ho : JE X C o to ao) (he : JE X C e te ae) (hs : starEach [e] X.env = [(false, eval e X.env)] := by rfl) (hbase : attributeBase o "split" X.env (eval o X.env) = eval o X.env := by rfl) (hline : (apos.endLine == pos.line) = true := by rfl) :
    JE X C (.Call (.Attribute o "split" apos) [e] [] pos) (tM1 rSplit to te) (aMs wSplit ao (aCons ae aNil)) := ⟨pe_split ho.p he.p hs hbase hline, snd_M1 s_split ho.s he.s⟩
theorem je_index (ho : JE X C o to ao) (ha : JA X C (e :: es) t ag) (hbase : attributeBase o "index" X.env (eval o X.env) = eval o X.env := by rfl)
    (hfew : ((backTo pos (starEach (e :: es) X.env)).all (fun x => !x.1) && (backToKw pos (keywordEach [] X.env)).all (fun x => x.1.isSome) && decide ((e :: es).length + ([] : List Keyword).length + (if ([] : List Keyword).isEmpty then 0 else 1) < 30)) = true := by rfl)
    (hline : (apos.endLine == pos.line) = true := by rfl) (hs : starEach (e :: es) X.env = (false, eval e X.env) :: starEach es X.env := by rfl) (hplain : (backTo pos (starEach es X.env)).any (·.1) = false := by rfl) :
    JE X C (.Call (.Attribute o "index" apos) (e :: es) [] pos) (tBM X.K "list" (rIndex X.K) to t) (aMl wIndex ao ag) :=
  ⟨pe_bm PySem.F.plainAttrs_list PySem.F.slot_list_index PySem.F.type_list_index mt_index ho.p ha.p hbase hfew hline hs hplain, snd_Ml s_index ho.s ha.s⟩
theorem je_fmt (h : JE X C e te ae) : JE X C (.FormattedValue e (-1) none pos) (tFmt te) (aFmt ae) := ⟨pe_fmt h.p, snd_fmt h.s⟩
inductive JJ (X : Cx) (C : WC) : List Expr → List TE → List ATE → Prop where
  | nil : JJ X C [] [] []
  | cons {e : Expr} {t : TE} {a : ATE} {es : List Expr} {ts : List TE} {as : List ATE} (h : JE X C e t a) (r : JJ X C es ts as) : JJ X C (e :: es) (t :: ts) (a :: as)
theorem JJ.p {es : List Expr} {ts : List TE} {as : List ATE} (h : JJ X C es ts as) : PJ X es ts := by
  induction h with
  | nil => exact .nil
  | cons h _ ih => exact .cons h.p ih
theorem JJ.s {es : List Expr} {ts : List TE} {as : List ATE} (h : JJ X C es ts as) : SndJ X.K C ts as := by
  induction h with
  | nil => exact .nil
  | cons h _ ih => exact .cons h.s ih
theorem je_joined {v1 v2 : Expr} {ts : List TE} {as : List ATE} (h : JJ X C (v1 :: v2 :: rest) ts as) : JE X C (.JoinedStr (v1 :: v2 :: rest) pos) (fun σ H Q => tJs ts Str.empty σ H fun out H1 => Q (.str out) H1) (aJoined as) := ⟨pe_joined h.p, snd_joined h.s⟩
theorem je_joined1 (h : JE X C e te ae) : JE X C (.JoinedStr [e] pos) te ae := ⟨pe_joined1 h.p, h.s⟩
theorem je_call {x : Str} {p : Pos} {k : Nat} {f : Addr} {fd : FuncData} {ps : List Str} {C' : WC} {A : List D → (D → Prop) → Prop} {dvs : List V} {ds : List Value} {dds : List D} (F : FnOk X.prog X.w X.K X.mg X.base CX0 k f fd ps (spOf X.K C' A)) (hr : Room k X.A) (hm : X.mg x = some (.ref f)) (hk : PySem.W.keepIn X.K (.ref f) = true) (hb : Binds X.K fd ps ds) (hd : Vals dvs ds)
    (hdd : ∀ (w : Wd) H, RA X.K w H dvs dds) (hC : ∀ w, C w → C' w) (ha : JA X C (e :: es) t ag) (hg : Gl X x := by rfl) (hdb : (x == ("__debug__" : Str)) = false := by decide) (he : starEach (e :: es) X.env = (false, eval e X.env) :: starEach es X.env := by rfl) (hpl : (backTo pos (starEach es X.env)).any (·.1) = false := by rfl) :
    JE X C (.Call (.Name x p) (e :: es) [] pos) (tCall (spOf X.K C' A) dvs E0 t) (aCall A dds ag) := ⟨pe_call F hr hg hm hk hb hd pass0 ha.p hdb he hpl, snd_call hC hdd ha.s⟩
theorem je_call0 {x : Str} {p : Pos} {k : Nat} {f : Addr} {fd : FuncData} {ps : List Str} {C' : WC} {A : List D → (D → Prop) → Prop} {dvs : List V} {ds : List Value} {dds : List D} (F : FnOk X.prog X.w X.K X.mg X.base CX0 k f fd ps (spOf X.K C' A)) (hr : Room k X.A) (hm : X.mg x = some (.ref f)) (hk : PySem.W.keepIn X.K (.ref f) = true) (hb : Binds X.K fd ps ds) (hd : Vals dvs ds)
    (hdd : ∀ (w : Wd) H, RA X.K w H dvs dds) (hC : ∀ w, C w → C' w) (hg : Gl X x := by rfl) (hdb : (x == ("__debug__" : Str)) = false := by decide) :
    JE X C (.Call (.Name x p) [] [] pos) (tCall (spOf X.K C' A) dvs E0 tNil) (aCall A dds aNil) := ⟨pe_call0 F hr hg hm hk hb hd pass0 hdb, snd_call hC hdd snd_nil⟩
/-! walks -/
theorem ji_any (h : JE X C l tl aa) : JI X C tg l (iAny X.K tl) (aItems aa) := ⟨pi_any h.p, snd_any h.s⟩
theorem ji_rng1 {p : Pos} (hm : X.mg "range" = none) (ha : JA X C [a] t ag) (hg : Gl X "range" := by rfl) (hs : starEach [a] X.env = [(false, eval a X.env)] := by rfl) : JI X C tg (.Call (.Name "range" p) [a] [] pos) (iRng1 t) (aRng1 ag) := ⟨pi_range1 hg hm ha.p hs, snd_rng1 ha.s⟩
theorem ji_rng2 {p : Pos} (hm : X.mg "range" = none) (ha : JA X C [a, b] t ag) (hg : Gl X "range" := by rfl) (hs : starEach [a, b] X.env = [(false, eval a X.env), (false, eval b X.env)] := by rfl) (hs2 : starEach [b] X.env = [(false, eval b X.env)] := by rfl) : JI X C tg (.Call (.Name "range" p) [a, b] [] pos) (iRng2 t) (aRng2 ag) := ⟨pi_range2 hg hm ha.p hs hs2, snd_rng2 ha.s⟩
theorem ji_zip {p tpos : Pos} {elts : List Expr} {kk : Nat} (hm : X.mg "zip" = none) (ha : JA X C [a, b] t ag) (hg : Gl X "zip" := by rfl) (hs : starEach [a, b] X.env = (false, eval a X.env) :: starEach [b] X.env := by rfl) (hpl : (backTo pos (starEach [b] X.env)).any (·.1) = false := by rfl) :
    JI X C (.Tuple elts kk tpos) (.Call (.Name "zip" p) [a, b] [] pos) (RZ.iZipA X.K t) (aZip ag) := ⟨RZ.pi_zipA hg hm ha.p hs hpl, snd_zip ha.s⟩
/-! targets -/
structure JG (X : Cx) (C : WC) (js : List Nat) (tg : Expr) (g : TG) (a : ATG) : Prop where
  p : PG X tg g
  s : SndG X.K C js g a
structure JGs (X : Cx) (C : WC) (js : List Nat) (tg : List Expr) (g : TGs) (a : ATGs) : Prop where
  p : PGs X tg g
  s : SndGs X.K C js g a
theorem jg_name (i : Nat) {x : Str} (hN : X.N.Nodup) (hi : X.N[i]? = some x := by rfl) (hx : Loc X.env.scope x := by first | exact Or.inl rfl | exact Or.inr rfl) (hf : X.fn x = true ∨ X.env.scope.names.lookup x = some .local := by first | exact .inl rfl | exact .inr rfl) : JG X C [i] (.Name x pos) (gName i) (gmN i) := ⟨pg_name hN hi hx hf, snd_gName i⟩
theorem jgs_nil : JGs X C [] [] gNil gmNil := ⟨pgs_nil, snd_gNil⟩
theorem jgs_cons {js ks : List Nat} {g : TG} {gs : TGs} {a : ATG} {b : ATGs} (h : JG X C js e g a) (h2 : JGs X C ks es gs b) (hs : (assignEach (e :: es) X.env).map (·.2) = assign e X.env :: (assignEach es X.env).map (·.2) := by rfl) : JGs X C (js ++ ks) (e :: es) (gCons g gs) (gmCons a b) := ⟨pgs_cons h.p h2.p hs, snd_gCons h.s h2.s⟩
theorem jg_tup {js : List Nat} {k n : Nat} {gs : TGs} {a : ATGs} (hc : X.calm = true) (h : JGs X C js es gs a) (hn : (assignEach es X.env).length = n := by rfl) (hst : (assignEach es X.env).findIdx? (·.1) = none := by rfl) : JG X C js (.Tuple es k pos) (gTup X.K n gs) (gmT n a) := ⟨pg_tup hc h.p hn hst, snd_gTup h.s⟩
/-! comprehensions -/
structure JTs (X : Cx) (C : WC) (ifs : List Expr) (t : TT) (a : ATT) : Prop where
  p : PTs X ifs t
  s : SndT X.K C t a
theorem jts_nil : JTs X C [] tYes aYes := ⟨pts_nil, snd_yes⟩
theorem jts_one {t : TT} {a : ATT} (h : JT X C c t a) : JTs X C [c] t a := ⟨pts_one h.p, h.s⟩
theorem jl_lc {js : List Nat} {ifs : List Expr} {scope : Scope} {own : List (Str × Nat)} {wi : TI} {ai : ATA} {g : TG} {agt : ATG} {tt : TT} {at' : ATT} (hC : Cl C) (hc : X.calm = true) (hN : X.N.Nodup) (hi : JI X C tg iter wi ai) (ok : BlkOk X.N X.env.scope scope own)
    (hg : ∀ (s : Shared) (H : Hp) (Ca : Addr) (cl : List (Str × Addr)) (fp : List Addr), JG (X.blk s H scope (PySem.compEnvC scope cl Ca X.env) fp) C js tg g agt) (hjs : ∀ j ∈ js, j ∈ own.map (·.2))
    (ht : ∀ (s : Shared) (H : Hp) (Ca : Addr) (cl : List (Str × Addr)) (fp : List Addr), JTs (X.blk s H scope (PySem.compEnvC scope cl Ca X.env) fp) C ifs tt at')
    (he : ∀ (s : Shared) (H : Hp) (Ca : Addr) (cl : List (Str × Addr)) (fp : List Addr), JE (X.blk s H scope (PySem.compEnvC scope cl Ca X.env) fp) C elt te ae) (hs : ∀ x, foldedSetIterable iter X.env x = pure x := by intro _; rfl) :
    JL X C (.ListComp elt [⟨tg, iter, ifs, 0⟩] scope pos) (tLc wi g tt te (own.map (·.2))) (aLc ai agt at' ae (own.map (·.2))) :=
  ⟨pe_lc hc hN hi.p ok (fun s H Ca cl fp => (hg s H Ca cl fp).p) (fun s H Ca cl fp => (ht s H Ca cl fp).p) (fun s H Ca cl fp => (he s H Ca cl fp).p) hs,
    snd_lc hC hi.s (hg X.s_0 X.H_0 0 [] []).s hjs (ht X.s_0 X.H_0 0 [] []).s (he X.s_0 X.H_0 0 [] []).s⟩
/-! statements -/
variable {st : Stmt} {sts body orelse : List Stmt} {ts tu : TS} {as au : ATS}
theorem jss_nil : JSs X C [] tNext aNext := ⟨pss_nil, snd_next⟩
theorem jss_cons (h : JS X C st ts as) (h2 : JSs X C sts tu au) : JSs X C (st :: sts) (tSeq ts tu) (aSeq as au) := ⟨pss_cons h.p h2.p, snd_seq h.s h2.s⟩
theorem jss_one (h : JS X C st ts as) : JSs X C [st] ts as := ⟨pss_one h.p, h.s⟩
/-- the list in slot i is data from here on -/
theorem jss_frz (i : Nat) (h : JSs X C sts ts as) : JSs X C sts ts (aFrz i as) := ⟨h.p, snd_frz i h.s⟩
theorem js_break : JS X C (.Break pos) tBreak aBreak := ⟨ps_break, snd_break⟩
theorem js_cont : JS X C (.Continue pos) tCont aCont := ⟨ps_continue, snd_cont⟩
theorem js_pass : JS X C (.Pass pos) tNext aNext := ⟨ps_pass, snd_next⟩
theorem js_ret (hC : Cl C) (h : JE X C e te ae) : JS X C (.Return (some e) pos) (tRet te) (aRet ae) := ⟨ps_ret h.p, snd_ret hC h.s⟩
theorem js_retN : JS X C (.Return none pos) tRetN aRetN := ⟨ps_retN, snd_retN⟩
theorem js_expr (hC : Cl C) (h : JE X C e te ae) (hs : swapsWith e none pos.line X.env = pure false := by rfl) : JS X C (.Expr e pos) (tDrop te) (aDrop ae) := ⟨ps_expr h.p hs, snd_drop hC h.s⟩
theorem js_if {tt : TT} {at' : ATT} (hC : Cl C) (h : JT X C c tt at') (h1 : JSs X C body ts as) (h2 : JSs X C orelse tu au) : JS X C (.If c body orelse pos) (tIfS tt ts tu) (aIfS at' as au) := ⟨ps_if h.p h1.p h2.p, snd_ifS hC h.s h1.s h2.s⟩
theorem js_set (i : Nat) {x : Str} {p : Pos} (hC : Cl C) (hN : X.N.Nodup) (h : JE X C e te ae) (hi : X.N[i]? = some x := by rfl) (hx : Loc X.env.scope x := by first | exact Or.inl rfl | exact Or.inr rfl) (hs : swapsWith e (some (.Name x p)) pos.line X.env = pure false := by rfl)
    (hf : X.fn x = true ∨ X.env.scope.names.lookup x = some .local := by first | exact .inl rfl | exact .inr rfl) : JS X C (.Assign [.Name x p] e pos) (tAsg te (gName i)) (aAsg ae (gmN i)) := ⟨ps_set hN hi hx h.p hs hf, snd_asg hC h.s (snd_gName i)⟩
theorem js_own (i : Nat) {x : Str} {p : Pos} (hC : Cl C) (hN : X.N.Nodup) (h : JL X C e te ag) (hi : X.N[i]? = some x := by rfl) (hx : Loc X.env.scope x := by first | exact Or.inl rfl | exact Or.inr rfl) (hs : swapsWith e (some (.Name x p)) pos.line X.env = pure false := by rfl)
    (hf : X.fn x = true ∨ X.env.scope.names.lookup x = some .local := by first | exact .inl rfl | exact .inr rfl) : JS X C (.Assign [.Name x p] e pos) (tAsg te (gName i)) (aOwn ag i) := ⟨ps_set hN hi hx h.p hs hf, snd_own hC h.s⟩
theorem js_asg {js : List Nat} {g : TG} {agt : ATG} (hC : Cl C) (h : JE X C e te ae) (hg : JG X C js tg g agt) (hs : swapsWithSole [tg] e pos.line X.env = pure false := by rfl) (hw : swappedStores [tg] e X.env = pure none := by rfl) (h1 : (assignEach [tg] X.env).map (·.2) = [assign tg X.env] := by rfl) :
    JS X C (.Assign [tg] e pos) (tAsg te g) (aAsg ae agt) := ⟨ps_asg h.p hg.p hs hw h1, snd_asg hC h.s hg.s⟩
theorem js_setLc (i : Nat) {js : List Nat} {y : Str} {py spos : Pos} {ifs : List Expr} {scope : Scope} {own : List (Str × Nat)} {wi : TI} {ai : ATA} {g : TG} {agt : ATG} {tt : TT} {at' : ATT} (hC : Cl C) (hc : X.calm = true) (hN : X.N.Nodup) (hy : X.N[i]? = some y) (hyl : X.env.scope.names.lookup y = some .local)
    (hsw : swapsWith (.ListComp elt [⟨tg, iter, ifs, 0⟩] scope pos) (some (.Name y py)) spos.line X.env = pure true) (hi : JI X C tg iter wi ai) (ok : BlkOk X.N X.env.scope scope own)
    (hg : ∀ (s : Shared) (H : Hp) (Ca : Addr) (cl : List (Str × Addr)) (fp : List Addr), JG (X.blk s H scope (PySem.compEnvC scope cl Ca X.env) fp) C js tg g agt) (hjs : ∀ j ∈ js, j ∈ own.map (·.2))
    (ht : ∀ (s : Shared) (H : Hp) (Ca : Addr) (cl : List (Str × Addr)) (fp : List Addr), JTs (X.blk s H scope (PySem.compEnvC scope cl Ca X.env) fp) C ifs tt at')
    (he : ∀ (s : Shared) (H : Hp) (Ca : Addr) (cl : List (Str × Addr)) (fp : List Addr), JE (X.blk s H scope (PySem.compEnvC scope cl Ca X.env) fp) C elt te ae) (hs : ∀ x, foldedSetIterable iter X.env x = pure x := by intro _; rfl) :
    JS X C (.Assign [.Name y py] (.ListComp elt [⟨tg, iter, ifs, 0⟩] scope pos) spos) (tAsg (tLc wi g tt te (own.map (·.2))) (gName i)) (aAsg (aL (aLc ai agt at' ae (own.map (·.2)))) (gmN i)) :=
  ⟨ps_setLc hc hN hy hyl hsw hi.p ok (fun s H Ca cl fp => (hg s H Ca cl fp).p) (fun s H Ca cl fp => (ht s H Ca cl fp).p) (fun s H Ca cl fp => (he s H Ca cl fp).p) hs,
    snd_asg hC (snd_L (snd_lc hC hi.s (hg X.s_0 X.H_0 0 [] []).s hjs (ht X.s_0 X.H_0 0 [] []).s (he X.s_0 X.H_0 0 [] []).s)) (snd_gName i)⟩
theorem js_for {js : List Nat} {wi : TI} {ai : ATA} {g : TG} {agt : ATG} (hC : Cl C) (hc : X.calm = true) (hi : JI X C tg iter wi ai) (hg : JG X C js tg g agt) (hb : JSs X C body ts as) (hp : PassesOwn (model X.prog X.w) X.A X.env X.xe) (hs : ∀ x, foldedSetIterable iter X.env x = pure x := by intro _; rfl) :
    JS X C (.For tg iter body [] pos) (tFor wi g ts) (aFor ai agt as) := ⟨ps_for hp hc hi.p hg.p hb.p hs, snd_for hC hi.s hg.s hb.s⟩
theorem js_while {tt : TT} {at' : ATT} (hC : Cl C) (h : JT X C c tt at') (hb : JSs X C body ts as) (hp : PassesOwn (model X.prog X.w) X.A X.env X.xe) : JS X C (.While c body [] pos) (tWhile tt ts) (aWhile at' as) := ⟨ps_while hp h.p hb.p, snd_while hC h.s hb.s⟩
theorem js_app (i : Nat) {x : Str} {p : Pos} (hC : Cl C) (he : JE X C e te ae) (hN : X.N[i]? = some x := by rfl) (hv : Vis X.env.scope x := by first | exact Or.inl rfl | exact Or.inr (Or.inl rfl) | exact Or.inr (Or.inr rfl)) (hd : (x == ("__debug__" : Str)) = false := by decide) (hcd : (x == ("__classdict__" : Str)) = false := by decide)
    (hsx : starEach [e] X.env = [(false, eval e X.env)] := by rfl) (hbase : attributeBase (.Name x p) "append" X.env (eval (.Name x p) X.env) = eval (.Name x p) X.env := by rfl)
    (hfew : ((backTo pos (starEach [e] X.env)).all (fun x => !x.1) && (backToKw pos (keywordEach [] X.env)).all (fun x => x.1.isSome) && decide ([e].length + ([] : List Keyword).length + (if ([] : List Keyword).isEmpty then 0 else 1) < 30)) = true := by rfl)
    (hline : (apos.endLine == pos.line) = true := by rfl) (hplain : (backTo pos (starEach [] X.env)).any (·.1) = false := by rfl) (hs : swapsWith (.Call (.Attribute (.Name x p) "append" apos) [e] [] pos) none p2.line X.env = pure false := by rfl) :
    JS X C (.Expr (.Call (.Attribute (.Name x p) "append" apos) [e] [] pos) p2) (tDrop (tBM X.K "list" rAppend (tVar i) (tCons te tNil))) (aApp i ae) :=
  ⟨ps_expr (pe_bm PySem.F.plainAttrs_list PySem.F.slot_list_append PySem.F.type_list_append mt_append (pe_var hN hv hd hcd) (pa_cons he.p pa_nil hsx) hbase hfew hline hsx hplain) hs, snd_app hC he.s⟩
end
end Ad
/-! Ad9: a def by its name, and its calls. -/
namespace Ad
open PySem L2
theorem hu65 {k : Nat} {A : Around} (hr : Room k A) : A.units + 65 < cLine := by have := hr.un; omega
/-- a def of the text keeps Ab, by at most level k -/
structure Fnc (P : Program) (w : World) (K : PySem.W.Frag) (mg : Str → Option Value) (base : Heap) (x : Str) (k : Nat) (ps : List Str) (C : WC) (Ab : List D → (D → Prop) → Prop) : Prop where
  ex : ∃ fd, FnOk P w K mg base CX0 k (He.ga K x) fd ps (spOf K C Ab) ∧ Binds K fd ps [] ∧ ∀ n, n < ps.length → n = 0 → KBn K fd ps 0 ps (fun _ ws => ws) (fun _ zs => zs)
  m : mg x = some (.ref (He.ga K x))
  k : PySem.W.keepIn K (.ref (He.ga K x)) = true
section
variable {X : Cx} {C C' : WC} {e : Expr} {es : List Expr} {pos p : Pos} {te : TE} {ae : ATE} {t tk : TA} {ag ak : ATA} {x : Str} {k j : Nat} {ps : List Str} {A : List D → (D → Prop) → Prop}
theorem je_fnc (F : Fnc X.prog X.w X.K X.mg X.base x k ps C' A) (hr : Room j X.A) (hk : k ≤ j) (hC : ∀ w, C w → C' w) (ha : JA X C (e :: es) t ag) (hg : Gl X x := by rfl) (hdb : (x == ("__debug__" : Str)) = false := by decide) (he : starEach (e :: es) X.env = (false, eval e X.env) :: starEach es X.env := by rfl) (hpl : (backTo pos (starEach es X.env)).any (·.1) = false := by rfl) :
    JE X C (.Call (.Name x p) (e :: es) [] pos) (tCall (spOf X.K C' A) [] E0 t) (aCall A [] ag) := by
  obtain ⟨fd, F1, b, _⟩ := F.ex
  exact je_call F1 (hr.mono hk) F.m F.k b .nil (fun _ _ => .nil) hC ha hg hdb he hpl
theorem je_fnc0 (F : Fnc X.prog X.w X.K X.mg X.base x k ps C' A) (hr : Room j X.A) (hk : k ≤ j) (hC : ∀ w, C w → C' w) (hg : Gl X x := by rfl) (hdb : (x == ("__debug__" : Str)) = false := by decide) :
    JE X C (.Call (.Name x p) [] [] pos) (tCall (spOf X.K C' A) [] E0 tNil) (aCall A [] aNil) := by
  obtain ⟨fd, F1, b, _⟩ := F.ex
  exact je_call0 F1 (hr.mono hk) F.m F.k b .nil (fun _ _ => .nil) hC hg hdb
/-! f(k = v), every parameter by its name -/
structure JK (X : Cx) (C : WC) (kws : List Keyword) (t : TA) (a : ATA) : Prop where
  p : PK X kws t
  s : SndA X.K C t a
theorem jk_nil : JK X C [] tNil aNil := ⟨pk_nil, snd_nil⟩
theorem jk_cons {nm : Option Str} {kp : Pos} {kws : List Keyword} (h : JE X C e te ae) (h2 : JK X C kws t ag) : JK X C (⟨nm, e, kp⟩ :: kws) (tCons te t) (aCons ae ag) := ⟨pk_cons h.p h2.p, snd_cons h.s h2.s⟩
theorem je_fnk {kws : List Keyword} (F : Fnc X.prog X.w X.K X.mg X.base x k ps C' A) (hr : Room j X.A) (hk : k ≤ j) (hC : ∀ w, C w → C' w) (h0 : 0 < ps.length) (hkw : JK X C kws tk ak) (hg : Gl X x := by rfl)
    (hall : (backToKw pos (keywordEach kws X.env)).all (·.1.isSome) = true := by rfl) (hks : (backToKw pos (keywordEach kws X.env)).filterMap (·.1) = ps := by rfl) (hdb : (x == ("__debug__" : Str)) = false := by decide)
    (hpl : ((backTo pos (starEach [] X.env)).any (·.1) || (backToKw pos (keywordEach kws X.env)).any (·.1.isNone)) = false := by rfl) :
    JE X C (.Call (.Name x p) [] kws pos) (tCallN 0 ps.length (spOf X.K C' A) (fun _ zs => zs) E0 tNil tk) (aCall A [] ak) := by
  obtain ⟨fd, F1, b, kb⟩ := F.ex
  have kb0 := kb 0 h0 rfl
  refine ⟨⟨fun pins s σ H Q I h => ?_⟩, ?_⟩
  · refine wpAny_Call_Name_kw (ld_glob I hg F.m ?_ hdb)
    refine PySem.W.callWith_KW0 (h₀ := X.base) I.ok.mod.kin F.k hall ?_ hpl
    refine thn (hkw.p.run pos pins s σ H _ I h) fun ws s2 ⟨zs, H2, I2, rz, l1, l2, q2⟩ => ⟨I2.kIn, ?_⟩
    rw [hks]
    exact run_fnN (us := []) (vs := []) F1 (hr.mono hk) kb0 pass0 I2 .nil rz rfl l2 q2
  · intro w os σ H Γ P Q hc hr hI ha hq
    refine hkw.s w os σ H Γ _ _ hc hr hI ha fun vs H1 ds s1 r1 p1 => ⟨rfl, ?_, ?_⟩
    · have e1 := F1.len vs H1 (fun v H' => ∃ d, Step w H1 H' ∧ R X.K w H' v d ∧ P d) (fun _ _ _ => False) ⟨w, ds, P, hC w hc, s1.inv, r1, by have p2 := p1; rw [List.append_nil] at p2; exact p2, fun v H' d s r p => ⟨d, s, r, p⟩⟩
      exact e1
    · exact ⟨w, ds, P, hC w hc, s1.inv, r1, by have p2 := p1; rw [List.append_nil] at p2; exact p2, fun v H' d s r p => hq v H' d (s1.trans s) r p⟩
end
theorem fnc_mk {P : Program} {w : World} {K : PySem.W.Frag} {mg : Str → Option Value} {base : Heap} {x : Str} {st : Stmt} {N ps : List Str} {k : Nat} {C : WC} {Ab : List D → (D → Prop) → Prop} {a : ATS}
    (hF : ∃ fd, FnS K x x st [] (He.ga K x) fd) (m : mg x = some (.ref (He.ga K x))) (S : FnScope N ps (defScope st))
    (hb : ∀ (kV doc pm : Value) (an : Option Addr) (cdv ct : Value) (us : List Value), us.length = ps.length → bindArgs (PySem.W.fnOf x x (defArgs st) (defBody st) (defScope st) .none kV doc pm an cdv ct) ⟨us, []⟩ = pure (ps.zip us))
    (hk : ∀ (kV doc pm : Value) (an : Option Addr) (cdv ct : Value) (us : List Value), us.length = ps.length → bindArgs (PySem.W.fnOf x x (defArgs st) (defBody st) (defScope st) .none kV doc pm an cdv ct) ⟨[], ps.zip us⟩ = pure (ps.zip us))
    (hlen : ∀ ds P, Ab ds P → ds.length = ps.length) (hA : ∀ ds P, Ab ds P → a { nx := fun _ => P .non, rt := P } (startG N.length ds))
    (hJ : ∀ (fd : FuncData) (cdv : Value) (A : Around) (outer : List Env) (s : Shared) (H : Hp) (E : XK), Room k (A.deeper (PyProof.Rows.envOfC x (defScope st) s.heap.objs.size (He.ga K x) cdv)) → ∃ t, JSs (cxOf CX0 P w K mg base N x (defScope st) (He.ga K x) cdv A outer s H E).nox C (defBody st) t a) :
    Fnc P w K mg base x (k + 1) ps C Ab := by
  obtain ⟨fd, F⟩ := hF
  refine ⟨⟨fd, fn_rule F S hlen hA (hJ fd), F.bindsN hb, fun n _ _ => ?_⟩, m, F.kp⟩
  obtain ⟨oc, od, dV, kV, doc, pm, an, cdv, ct, osl, rfl, lk, hcd, hD, hK⟩ := F.ex
  rcases hD with ⟨_, rfl⟩ | ⟨e, _⟩
  · exact ⟨fun s us ws X l1 l2 => by
      have : us = [] := List.length_eq_zero_iff.mp l1
      subst this
      exact .of_eq (hk kV doc pm an cdv ct ws l2), fun _ r => r⟩
  · exact absurd rfl e
/-- a promise that nobody asks for -/
theorem fnc_none {P : Program} {w : World} {K : PySem.W.Frag} {mg : Str → Option Value} {base : Heap} {x : Str} {k j : Nat} {ps : List Str} {C C' : WC} {Ab Ab' : List D → (D → Prop) → Prop} (F : Fnc P w K mg base x j ps C' Ab') (h : ∀ ds P, ¬ Ab ds P) : Fnc P w K mg base x k ps C Ab := by
  obtain ⟨fd, F1, b, kb⟩ := F.ex
  exact ⟨⟨fd, ⟨fun vs H Q E ⟨_, _, _, _, _, _, ha, _⟩ => (h _ _ ha).elim, fun A outer s H args us vs Q E _ _ _ _ ⟨_, _, _, _, _, _, ha, _⟩ => (h _ _ ha).elim⟩, b, kb⟩, F.m, F.k⟩
theorem Fnc.mono {P : Program} {w : World} {K : PySem.W.Frag} {mg : Str → Option Value} {base : Heap} {x : Str} {k j : Nat} {ps : List Str} {C : WC} {Ab : List D → (D → Prop) → Prop} (F : Fnc P w K mg base x j ps C Ab) (h : j ≤ k) : Fnc P w K mg base x k ps C Ab := by
  obtain ⟨fd, F1, b, kb⟩ := F.ex
  exact ⟨⟨fd, F1.mono h, b, kb⟩, F.m, F.k⟩
end Ad
namespace Ad
open PySem L2
/-- nothing is promised -/
theorem fnc_false {P : Program} {w : World} {K : PySem.W.Frag} {mg : Str → Option Value} {base : Heap} {x : Str} {st : Stmt} {ps : List Str} {k : Nat} {C : WC}
    (hF : ∃ fd, FnS K x x st [] (He.ga K x) fd) (m : mg x = some (.ref (He.ga K x)))
    (hb : ∀ (kV doc pm : Value) (an : Option Addr) (cdv ct : Value) (us : List Value), us.length = ps.length → bindArgs (PySem.W.fnOf x x (defArgs st) (defBody st) (defScope st) .none kV doc pm an cdv ct) ⟨us, []⟩ = pure (ps.zip us))
    (hk : ∀ (kV doc pm : Value) (an : Option Addr) (cdv ct : Value) (us : List Value), us.length = ps.length → bindArgs (PySem.W.fnOf x x (defArgs st) (defBody st) (defScope st) .none kV doc pm an cdv ct) ⟨[], ps.zip us⟩ = pure (ps.zip us)) {Ab : List D → (D → Prop) → Prop} (h : ∀ ds P, ¬ Ab ds P) :
    Fnc P w K mg base x k ps C Ab := by
  obtain ⟨fd, F⟩ := hF
  refine ⟨⟨fd, ⟨fun vs H Q E ⟨_, _, _, _, _, _, ha, _⟩ => (h _ _ ha).elim, fun A outer s H args us vs Q E _ _ _ _ ⟨_, _, _, _, _, _, ha, _⟩ => (h _ _ ha).elim⟩, F.bindsN hb, fun n _ _ => ?_⟩, m, F.kp⟩
  obtain ⟨oc, od, dV, kV, doc, pm, an, cdv, ct, osl, rfl, lk, hcd, hD, hK⟩ := F.ex
  rcases hD with ⟨_, rfl⟩ | ⟨e, _⟩
  · exact ⟨fun s us ws X l1 l2 => by
      have : us = [] := List.length_eq_zero_iff.mp l1
      subst this
      exact .of_eq (hk kV doc pm an cdv ct ws l2), fun _ r => r⟩
  · exact absurd rfl e
end Ad
namespace Ad
open PySem L2
/-- a, b = e1, e2 -/
@[simp] abbrev aPar (i j : Nat) (a : ATA) : ATS := fun A Γ => a Γ fun ds => match ds with
  | [d, e] => A.nx ((Γ.set i (.dat d)).set j (.dat e))
  | _ => False
section
variable {K : PySem.W.Frag} {C : WC}
theorem snd_par (hC : Cl C) {i j : Nat} {t : TA} {a : ATA} (h : SndA K C t a) : SndS K C (tPar i j t) (aPar i j a) := by
  intro w os gs H0 σ H Γ A D' hc r ha e
  refine h _ os σ H Γ _ _ (hC w os hc fun p hp => (r.fr p hp).1) r.rel r.inv ha fun vs H1 ds s r1 p => ?_
  have rr := r.step s
  split at p
  · cases r1 with
    | cons r1 r2 =>
      cases r2 with
      | cons r2 r3 =>
        cases r3
        exact ⟨_, _, rfl, e.nx os _ H1 _ ((rr.kept (rr.rel.set r1) (kept_set rr.rel.len)).kept ((rr.rel.set r1).set r2) (kept_set (rr.rel.set r1).len)) p⟩
  · exact p.elim
end
theorem js_par (i j : Nat) {X : Cx} {C : WC} {a b : Expr} {pos px py pt : Pos} {kt k2 : Nat} {pt2 : Pos} {x y : Str} {t : TA} {ag : ATA} (hC : Cl C) (hN : X.N.Nodup) (ha : JA X C [a, b] t ag) (hc : X.calm = true := by rfl) (hi : X.N[i]? = some x := by rfl) (hj : X.N[j]? = some y := by rfl) (hij : i ≠ j := by decide)
    (hx : X.env.scope.names.lookup x = some .local := by rfl) (hy : X.env.scope.names.lookup y = some .local := by rfl)
    (hw : swappedStores [.Tuple [.Name x px, .Name y py] kt pt] (.Tuple [a, b] k2 pt2) X.env = pure (some [x, y]) := by rfl)
    (hs : swapsWithSole [.Tuple [.Name x px, .Name y py] kt pt] (.Tuple [a, b] k2 pt2) pos.line X.env = pure false := by rfl) :
    JS X C (.Assign [.Tuple [.Name x px, .Name y py] kt pt] (.Tuple [a, b] k2 pt2) pos) (tPar i j t) (aPar i j ag) := ⟨ps_par hc hN hi hj hij hx hy ha.p hw hs, snd_par hC ha.s⟩
end Ad
namespace Ad
open PySem L2
/-- a block that is never come to -/
@[simp] abbrev aNever : ATS := fun _ _ => False
theorem jss_never {X : Cx} {C : WC} {sts : List Stmt} : JSs X C sts tNever aNever := ⟨pss_never, fun _ _ _ _ _ _ _ _ _ _ _ ha _ => ha.elim⟩
end Ad
/-! AdB: the laws' bag of numbers: what is drawn is some number below the bound, no more is told. -/
namespace Ad
open PySem L2
def BagAt (b c : Addr) (H : Hp) : Prop := ∃ (ns : List Int) (i g s : Int), H b = some (.lst [.ref c, .int i, .int g, .int s]) ∧ H c = some (.lst (ns.map V.int)) ∧ 0 ≤ i ∧ 0 ≤ g ∧ 0 ≤ s ∧ s < 4294967296 ∧ ns.length ≤ 63
def BagW (w : Wd) : Prop := ∃ b c, w.hd 0 = some b ∧ b ∈ w.ms ∧ c ∈ w.ms ∧ b ≠ c ∧ (∀ H, w.I H → BagAt b c H) ∧ ∀ H H', w.I H → (∀ a, a ∈ w.ms → a ≠ b → H' a = H a) → BagAt b c H' → w.I H'
theorem bag_cl : Cl BagW := by
  rintro w os ⟨b, c, h1, h2, h3, h4, h5, h6⟩ hd
  refine ⟨b, c, h1, List.mem_append_right _ h2, List.mem_append_right _ h3, h4, fun H h => h5 H h.1, fun H H' h k hb => ⟨h6 H H' h.1 (fun a ha hn => k a (List.mem_append_right _ ha) hn) hb, fun p hp => ?_⟩⟩
  exact (k p.1 (List.mem_append_left _ (List.mem_map_of_mem hp)) fun z => hd p hp (z ▸ h2)).trans (h.2 p hp)
def A_l_pull (ds : List D) (P : D → Prop) : Prop := ∃ m : Int, ds = [.hdl 0, .int m] ∧ 0 < m ∧ m.natAbs.log2 < 9000 ∧ ∀ k : Int, 0 ≤ k → k < m → P (.int k)
/-- the bag's world with another bag -/
theorem bag_step {w : Wd} {b c : Addr} {H H' : Hp} (hm : b ∈ w.ms) (h6 : ∀ H H', w.I H → (∀ a, a ∈ w.ms → a ≠ b → H' a = H a) → BagAt b c H' → w.I H') (hI : w.I H) (k : ∀ a, a ≠ b → H' a = H a) (hb : BagAt b c H') : Step w H H' := by
  refine ⟨fun a o e => ?_, h6 H H' hI (fun a _ hn => k a hn) hb⟩
  obtain ⟨h1, h2⟩ := vis_some e
  exact vis_of h1 ((k a fun z => h1 (z ▸ hm)).trans h2)
section
variable {P : Program} {w : World} {K : PySem.W.Frag} {mg : Str → Option Value} {base : Heap}
abbrev pIx (K : PySem.W.Frag) (i : Int) : TE := tOp (rIxL K) (tVar 0) (tC (.int i))
abbrev pP : R2 := rI0 fun i j => .int (i + j)
abbrev pT : R2 := rI CMul fun i j => .int (i * j)
abbrev pM : R2 := rI (fun _ j => j ≠ 0) fun i j => .int (i.fmod j)
abbrev pI (t : TE) : TE := tCB (fun xs H Q => (∃ i, xs = [.int i] ∧ Q (.int i) H) ∨ ∃ k, xs = [.bl k] ∧ Q (.int (if k then 1 else 0)) H) (tCons t tNil)
abbrev pSt (i : Int) (t : TE) : TS := tAsg t (gSub (tVar 0) (tC (.int i)) rSetL)
/-- what _law_pull's body does: the cell, the great cell's digit, the mixed number -/
def t_pull1 (K : PySem.W.Frag) : TS := tIfS (tAnd (tTest (tOp rEq (pIx K 2) (tC (.int 0)))) (tTest (tOp (rI0 fun i j => .bl (decide (i < j))) (pIx K 1) (tCB (fun xs H Q => ∃ p ys, xs = [.ref p] ∧ (SqL K H p ys ∨ SqT K H p ys) ∧ Q (.int ys.length) H) (tCons (pIx K 0) tNil)))))
    (tSeq (tAsg (tOp (rIxL K) (pIx K 0) (pIx K 1)) (gName 2))
    (tSeq (pSt 1 (tOp pP (pIx K 1) (tC (.int 1))))
    (tIfS (tTest (tOp (rI0 fun i j => .bl (decide (j ≤ i))) (tVar 2) (tOp (rI CPow fun i j => .int (i ^ j.toNat)) (tC (.int 10)) (tC (.int 18)))))
      (pSt 2 (tVar 2))
      (pSt 3 (tOp pM (pI (tOp pP (tOp pP (tOp pT (pIx K 3) (tC (.int 48611))) (tOp pT (tOp pM (pI (tVar 2)) (tC (.int 2147483399))) (tC (.int 7577)))) (tC (.int 29)))) (tC (.int 2147483563))))))) tNext
def t_pull3 (K : PySem.W.Frag) : TS := tRet (tOp pM (pI (tOp pP (tOp (rI CDivN fun i j => .int (i.fdiv j)) (pIx K 3) (tC (.int 53))) (tOp pT (tOp pM (pI (pIx K 3)) (tC (.int 8117))) (tC (.int 41))))) (tVar 1))
def t_pull2 (K : PySem.W.Frag) : TS :=
  tSeq (tIfS (tTest (tOp (rI0 fun i j => .bl (decide (j < i))) (pIx K 2) (tC (.int 0))))
    (tSeq (tAsg (tOp pM (pI (pIx K 2)) (tVar 1)) (gName 3))
    (tSeq (pSt 2 (tOp rDivG (pIx K 2) (tVar 1)))
    (tRet (tVar 3)))) tNext)
  (tSeq (pSt 3 (tOp pM (pI (tOp pP (tOp pP (tOp pT (pIx K 3) (pIx K 3)) (tOp pT (pIx K 3) (tC (.int 30011)))) (tC (.int 1400321)))) (tC (.int 2147483563))))
  (t_pull3 K))
theorem fmod_b {x m : Int} (h : 0 < m) : 0 ≤ x.fmod m ∧ x.fmod m < m := ⟨Int.fmod_nonneg_of_pos x h, Int.fmod_lt_of_pos x h⟩
theorem pull_tail {b c : Addr} {H : Hp} {ns : List Int} {i g s m : Int} (hb : H b = some (.lst [.ref c, .int i, .int g, .int s])) (hc : H c = some (.lst (ns.map V.int))) (hbc : b ≠ c) (h0 : 0 ≤ i) (h1 : 0 ≤ g) (h2 : 0 ≤ s) (h3 : s < 4294967296) (h4 : ns.length ≤ 63)
    (hm : 0 < m) (hl : m.natAbs.log2 < 9000) {D' : Ends} {v2 v3 : Option V} (k : ∀ (x : Int) (H' : Hp), 0 ≤ x → x < m → (∀ a, a ≠ b → H' a = H a) → BagAt b c H' → D'.rt (.int x) H') : t_pull2 K D' [some (.ref b), some (.int m), v2, v3] H := by
  have up : ∀ (xs : List V) (H1 : Hp), (∀ a, a ≠ b → H1 a = H a) → ∀ a, a ≠ b → (upd H1 b (.lst xs)) a = H a := fun xs H1 e a ha => by rw [upd_ne ha]; exact e a ha
  refine ⟨_, rfl, b, _, _, _, rfl, rfl, SqL.of hb, rfl, _, _, rfl, rfl, _, rfl, ?_⟩
  refine ite2 (fun hg => ?_) (fun hg => ?_)
  · have hg' : (0 : Int) < g := of_decide_eq_true hg
    refine ⟨_, rfl, b, _, _, _, rfl, rfl, SqL.of hb, rfl, .inl ⟨_, rfl, ?_⟩⟩
    refine ⟨_, rfl, _, _, rfl, rfl, by omega, ?_⟩
    refine ⟨_, rfl, b, _, _, _, rfl, rfl, SqL.of hb, rfl, _, rfl, .inr ⟨_, _, rfl, rfl, ⟨hm, hl⟩, ?_⟩⟩
    refine ⟨_, rfl, b, _, _, 2, rfl, rfl, hb, rfl, _, rfl, ?_⟩
    obtain ⟨f1, f2⟩ := fmod_b (x := g) hm
    refine k _ _ f1 f2 (fun a ha => upd_ne ha) ⟨ns, i, g / m, s, upd_same, by rw [upd_ne hbc.symm]; exact hc, h0, Int.ediv_nonneg h1 (by omega), h2, h3, h4⟩
  · refine ⟨_, rfl, b, _, _, _, rfl, rfl, SqL.of hb, rfl, _, rfl, b, _, _, _, rfl, rfl, SqL.of hb, rfl, _, _, rfl, rfl, .inl (by omega), ?_⟩
    refine ⟨_, rfl, b, _, _, _, rfl, rfl, SqL.of hb, rfl, _, _, rfl, rfl, .inl (by omega), ?_⟩
    refine ⟨_, _, rfl, rfl, _, _, rfl, rfl, .inl ⟨_, rfl, _, _, rfl, rfl, (by show (2147483563 : Int) ≠ 0; decide), ?_⟩⟩
    obtain ⟨f1, f2⟩ := fmod_b (x := s * s + s * 30011 + 1400321) (show (0 : Int) < 2147483563 by decide)
    refine ⟨_, rfl, b, _, _, 3, rfl, rfl, hb, rfl, ?_⟩
    have key : ∀ z : Int, 0 ≤ z → z < 2147483563 → t_pull3 K D' [some (.ref b), some (.int m), v2, v3] (upd H b (.lst [.ref c, .int i, .int g, .int z])) := fun z z1 z2 => by
      have hb2 : (upd H b (.lst [.ref c, .int i, .int g, .int z])) b = some (.lst [.ref c, .int i, .int g, .int z]) := upd_same
      refine ⟨_, rfl, b, _, _, _, rfl, rfl, SqL.of hb2, rfl, _, _, rfl, rfl, ⟨(by show (53 : Int) ≠ 0; decide), (by show (53 : Int).natAbs < 1073741824; decide)⟩, ?_⟩
      refine ⟨_, rfl, b, _, _, _, rfl, rfl, SqL.of hb2, rfl, .inl ⟨_, rfl, _, _, rfl, rfl, (by show (8117 : Int) ≠ 0; decide), ?_⟩⟩
      refine ⟨_, _, rfl, rfl, .inr ⟨(by show -(2 ^ 64) < (41 : Int); decide), (by show (41 : Int) < 2 ^ 64; decide)⟩, _, _, rfl, rfl, .inl ⟨_, rfl, _, rfl, _, _, rfl, rfl, (by show m ≠ 0; omega), ?_⟩⟩
      obtain ⟨e1, e2⟩ := fmod_b (x := z.fdiv 53 + z.fmod 8117 * 41) hm
      exact k _ _ e1 e2 (fun a ha => upd_ne ha) ⟨ns, i, g, z, upd_same, by rw [upd_ne hbc.symm]; exact hc, h0, h1, z1, by omega, h4⟩
    exact key _ f1 f2
theorem pull_all {b c : Addr} {H : Hp} {m : Int} (hB : BagAt b c H) (hbc : b ≠ c) (hm : 0 < m) (hl : m.natAbs.log2 < 9000) {D' : Ends} (k : ∀ (x : Int) (H' : Hp), 0 ≤ x → x < m → (∀ a, a ≠ b → H' a = H a) → BagAt b c H' → D'.rt (.int x) H') :
    tSeq (t_pull1 K) (t_pull2 K) D' [some (.ref b), some (.int m), none, none] H := by
  obtain ⟨ns, i, g, s, hb, hc, h0, h1, h2, h3, h4⟩ := hB
  have done : ∀ {H1 : Hp} {v2 : Option V}, BagAt b c H1 → (∀ a, a ≠ b → H1 a = H a) → t_pull2 K D' [some (.ref b), some (.int m), v2, none] H1 := fun {H1 v2} hB e => by
    obtain ⟨ns, i, g, s, hb, hc, h0, h1, h2, h3, h4⟩ := hB
    exact pull_tail hb hc hbc h0 h1 h2 h3 h4 hm hl fun x H' a1 a2 a3 a4 => k x H' a1 a2 (fun a ha => (a3 a ha).trans (e a ha)) a4
  refine ⟨_, rfl, b, _, _, _, rfl, rfl, SqL.of hb, rfl, rfl, _, rfl, ?_⟩
  refine ite2 (fun hg => ?_) (fun hg => ?_)
  · refine ⟨_, rfl, b, _, _, _, rfl, rfl, SqL.of hb, rfl, _, rfl, b, _, _, _, rfl, rfl, SqL.of hb, rfl, c, _, rfl, .inl (SqL.of hc), _, _, rfl, rfl, _, rfl, ?_⟩
    refine ite2 (fun hi => ?_) (fun hi => ?_)
    · have hi' : i < ((ns.map V.int).length : Int) := of_decide_eq_true hi
      rw [List.length_map] at hi'
      have hn : i.toNat < ns.length := by omega
      have hat : atI (ns.map V.int) i = some (V.int ns[i.toNat]) := by
        refine at_of (j := i.toNat) (by omega) ?_
        rw [List.getElem?_map, List.getElem?_eq_getElem hn]
        rfl
      refine ⟨_, rfl, b, _, _, _, rfl, rfl, SqL.of hb, rfl, _, rfl, b, _, _, _, rfl, rfl, SqL.of hb, rfl, c, _, i, _, rfl, rfl, SqL.of hc, hat, ?_⟩
      generalize ns[i.toNat] = z
      refine ⟨_, rfl, b, _, _, _, rfl, rfl, SqL.of hb, rfl, _, _, rfl, rfl, ?_⟩
      refine ⟨_, rfl, b, _, _, 1, rfl, rfl, hb, rfl, ?_⟩
      have hb2 : (upd H b (.lst [.ref c, .int (i + 1), .int g, .int s])) b = some (.lst [.ref c, .int (i + 1), .int g, .int s]) := upd_same
      refine ⟨_, rfl, _, _, rfl, rfl, ⟨by decide, by decide, by decide⟩, _, _, rfl, rfl, _, rfl, ?_⟩
      refine ite2 (fun hz => ?_) (fun hz => ?_)
      · have hz' : (10 : Int) ^ 18 ≤ z := of_decide_eq_true hz
        refine ⟨_, rfl, _, rfl, b, _, _, 2, rfl, rfl, hb2, rfl, ?_⟩
        refine done ⟨ns, i + 1, z, s, upd_same, ?_, by omega, by omega, h2, h3, h4⟩ fun a ha => ?_
        · rw [upd_ne hbc.symm, upd_ne hbc.symm]; exact hc
        · rw [upd_ne ha, upd_ne ha]
      · obtain ⟨f1, f2⟩ := fmod_b (x := z) (show (0 : Int) < 2147483399 by decide)
        refine ⟨_, rfl, b, _, _, _, rfl, rfl, SqL.of hb2, rfl, _, _, rfl, rfl, .inl (by omega), ?_⟩
        refine ⟨_, rfl, .inl ⟨_, rfl, _, _, rfl, rfl, (by show (2147483399 : Int) ≠ 0; decide), ?_⟩⟩
        refine ⟨_, _, rfl, rfl, .inr ⟨(by show -(2 ^ 64) < (7577 : Int); decide), (by show (7577 : Int) < 2 ^ 64; decide)⟩, _, _, rfl, rfl, _, _, rfl, rfl, .inl ⟨_, rfl, _, _, rfl, rfl, (by show (2147483563 : Int) ≠ 0; decide), ?_⟩⟩
        obtain ⟨g1, g2⟩ := fmod_b (x := s * 48611 + z.fmod 2147483399 * 7577 + 29) (show (0 : Int) < 2147483563 by decide)
        refine ⟨_, rfl, b, _, _, 3, rfl, rfl, hb2, rfl, ?_⟩
        refine done ⟨ns, i + 1, g, _, upd_same, ?_, by omega, h1, g1, by omega, h4⟩ fun a ha => ?_
        · rw [upd_ne hbc.symm, upd_ne hbc.symm]; exact hc
        · rw [upd_ne ha, upd_ne ha]
    · exact done ⟨ns, i, g, s, hb, hc, h0, h1, h2, h3, h4⟩ fun _ _ => rfl
  · exact done ⟨ns, i, g, s, hb, hc, h0, h1, h2, h3, h4⟩ fun _ _ => rfl
/-- _law_pull -/
theorem fnc_pull {x : Str} {st : Stmt} {N : List Str} {ps : List Str} {k : Nat} (hF : ∃ fd, FnS K x x st [] (He.ga K x) fd) (m : mg x = some (.ref (He.ga K x))) (S : FnScope N ps (defScope st)) (hN : N.length = 4) (hps : ps.length = 2)
    (hb : ∀ (kV doc pm : Value) (an : Option Addr) (cdv ct : Value) (us : List Value), us.length = ps.length → bindArgs (PySem.W.fnOf x x (defArgs st) (defBody st) (defScope st) .none kV doc pm an cdv ct) ⟨us, []⟩ = pure (ps.zip us))
    (hk : ∀ (kV doc pm : Value) (an : Option Addr) (cdv ct : Value) (us : List Value), us.length = ps.length → bindArgs (PySem.W.fnOf x x (defArgs st) (defBody st) (defScope st) .none kV doc pm an cdv ct) ⟨[], ps.zip us⟩ = pure (ps.zip us))
    (hJ : ∀ (fd : FuncData) (cdv : Value) (A : Around) (outer : List Env) (s : Shared) (H : Hp) (E : XK), Room k (A.deeper (PyProof.Rows.envOfC x (defScope st) s.heap.objs.size (He.ga K x) cdv)) →
      PSs (cxOf CX0 P w K mg base N x (defScope st) (He.ga K x) cdv A outer s H E).nox (defBody st) (tSeq (t_pull1 K) (t_pull2 K))) : Fnc P w K mg base x (k + 1) ps BagW A_l_pull := by
  have z : ∀ {k : Nat}, Fnc P w K mg base x k ps BagW (fun _ _ => False) := fnc_false hF m hb hk fun _ _ h => h
  obtain ⟨⟨fd0, _, b0, kb0⟩, _, k0⟩ := z (k := 0)
  obtain ⟨fd, F⟩ := hF
  refine ⟨⟨fd, ?_, F.bindsN hb, ?_⟩, m, F.kp⟩
  · refine FunD.ok F S (fun vs H Q E h => ?_) (fun cdv A outer s H vs Q E hr h => ?_)
    · obtain ⟨_, ds, _, _, _, r, ⟨m, rfl, _⟩, _⟩ := h
      rw [r.length, hps]
      rfl
    · obtain ⟨wd, ds, P', ⟨b, c, h1, h2, h3, h4, h5, h6⟩, hI, r, ⟨m, rfl, hm, hl, hP⟩, hq⟩ := h
      refine ⟨_, PSs.nox (hJ fd cdv A outer s H E hr), ?_⟩
      cases r with
      | cons r1 r2 =>
        cases r2 with
        | cons r2 r3 =>
          cases r3
          cases r2
          cases r1 with
          | hdl e =>
            rw [h1] at e
            cases e
            have e4 : L2.start N [.ref b, .int m] = [some (.ref b), some (.int m), none, none] := by
              unfold L2.start
              rw [hN]
              rfl
            rw [e4]
            exact pull_all (h5 H hI) h4 hm hl fun x H' a1 a2 a3 a4 => hq _ _ _ (bag_step h2 h6 hI a3 a4) (.int x) (hP x a1 a2)
  · intro n _ _
    obtain ⟨oc, od, dV, kV, doc, pm, an, cdv, ct, osl, rfl, lk, hcd, hD, hK⟩ := F.ex
    rcases hD with ⟨_, rfl⟩ | ⟨e, _⟩
    · exact ⟨fun s us ws X l1 l2 => by
        have : us = [] := List.length_eq_zero_iff.mp l1
        subst this
        exact .of_eq (hk kV doc pm an cdv ct ws l2), fun _ r => r⟩
    · exact absurd rfl e
/-- _law_bag -/
def spBag (K : PySem.W.Frag) : Sp := fun vs H Q _ => ∃ (a : Addr) (ns : List Int), vs = [.ref a] ∧ SqL K H a (ns.map V.int) ∧ ns.length ≤ 63 ∧ ∀ b c H', Ext H H' → H b = none → H c = none → b ≠ c → BagAt b c H' → Q (.ref b) H'
def t_bag (K : PySem.W.Frag) : TS := tRet (tLst (tCons (tCB (fun xs H Q => ∃ p ys, xs = [.ref p] ∧ (SqL K H p ys ∨ SqT K H p ys) ∧ ∀ l, H l = none → Q (.ref l) (upd H l (.lst ys))) (tCons (tSl (rSlL K) (tVar 0) tNoPart (tPart (tC (.int 63)))) tNil))
  (tCons (tC (.int 0)) (tCons (tC (.int 0)) (tCons (tOp pP (tC (.int 57460)) (tCB (fun xs H Q => ∃ p ys, xs = [.ref p] ∧ (SqL K H p ys ∨ SqT K H p ys) ∧ Q (.int ys.length) H) (tCons (tVar 0) tNil))) tNil)))))
theorem ext_new {H : Hp} {p : Addr} {o : HO} (h : H p = none) : Ext H (upd H p o) := fun a u e => by
  rw [upd_ne (ne_of_none e h)]
  exact e
theorem cutV_int (ns : List Int) (lo hi : Option Int) : ∃ ms : List Int, cutV (ns.map V.int) lo hi = ms.map V.int ∧ ms.length ≤ ns.length := by
  unfold cutV
  rw [← List.map_drop, ← List.map_take]
  exact ⟨_, rfl, by rw [List.length_take, List.length_drop]; omega⟩
theorem bag_all (vs : List V) (H : Hp) (Q : VK) (E : XK) (h : spBag K vs H Q E) : t_bag K { nx := fun _ H' => Q .non H', rt := Q } (L2.start ["x"] vs) H := by
  obtain ⟨a, ns, rfl, hS, hl, k⟩ := h
  obtain ⟨ms, e, hm⟩ := cutV_int ns none (some 63)
  refine ⟨_, rfl, _, rfl, _, _, rfl, hS, fun p hp => ?_⟩
  rw [e]
  refine ⟨p, _, rfl, .inl (SqL.of upd_same), fun c hc => ?_⟩
  have hcp : c ≠ p := fun z => by rw [z, upd_same] at hc; cases hc
  have e1 : Ext H (upd H p (.lst (ms.map V.int))) := ext_new hp
  have e2 : Ext H (upd (upd H p (.lst (ms.map V.int))) c (.lst (ms.map V.int))) := e1.tr (ext_new hc)
  refine ⟨_, rfl, a, _, rfl, .inl (sqL_mono e2 hS), _, _, rfl, rfl, ?_⟩
  refine ⟨(by show 4 ≤ sizeLine; decide), fun b hb => ?_⟩
  have hbc : b ≠ c := fun z => by rw [z, upd_same] at hb; cases hb
  have hb0 : H b = none := by
    cases q : H b with
    | none => rfl
    | some o => rw [e2 b o q] at hb; cases hb
  have hc0 : H c = none := by
    cases q : H c with
    | none => rfl
    | some o => rw [e1 c o q] at hc; cases hc
  refine k b c _ (e2.tr (ext_new hb)) hb0 hc0 hbc ⟨ms, 0, 0, 57460 + ((ns.map V.int).length : Int), upd_same, by rw [upd_ne hbc.symm, upd_same], by omega, by omega, by omega, ?_, by omega⟩
  rw [List.length_map]
  omega
/-- the law's own promise -/
def spLaw (K : PySem.W.Frag) : Sp := fun vs H Q _ => ∃ (a : Addr) (ns : List Int), vs = [.ref a] ∧ SqL K H a (ns.map V.int) ∧ ns.length ≤ 63 ∧ ∀ H', Q (.bl true) H'
def bagWd (b c : Addr) : Wd where
  ms := [b, c]
  hd := fun n => if n = 0 then some b else none
  I := fun H => BagAt b c H
  loc := fun H H' k h => by
    obtain ⟨ns, i, g, s, h1, h2, h3⟩ := h
    exact ⟨ns, i, g, s, (k b (by simp)).trans h1, (k c (by simp)).trans h2, h3⟩
  live := fun H h a ha => by
    obtain ⟨ns, i, g, s, h1, h2, h3⟩ := h
    rcases List.mem_cons.mp ha with e | ha
    · rw [e]; exact ⟨_, h1⟩
    · rw [List.mem_singleton.mp ha]; exact ⟨_, h2⟩
theorem bagWd_ok {b c : Addr} (h : b ≠ c) : BagW (bagWd b c) := ⟨b, c, rfl, by simp [bagWd], by simp [bagWd], h, fun H h => h, fun H H' _ _ h => h⟩
/-- a law: _law_bag_here = _law_bag(_law_script), then the rest over data -/
theorem law_mk {x : Str} {st st1 : Stmt} {rest : List Stmt} {N : List Str} {k : Nat} {fd : FuncData} {y z : Str} {N' : List Str} {a : ATS} {f : Addr} (F : FnS K x x st [] f fd) (S : FnScope N [y] (defScope st)) (hN : N = y :: z :: N') (hB : defBody st = st1 :: rest)
    (hJ : ∀ (cdv : Value) (A : Around) (outer : List Env) (s : Shared) (H : Hp) (E : XK), Room k (A.deeper (PyProof.Rows.envOfC x (defScope st) s.heap.objs.size f cdv)) → PS (cxOf CX0 P w K mg base N x (defScope st) f cdv A outer s H E).nox st1 (tAsg (tCall (spBag K) [] E0 (tCons (tVar 0) tNil)) (gName 1)) ∧
      ∃ t, JSs (cxOf CX0 P w K mg base N x (defScope st) f cdv A outer s H E).nox BagW rest t a)
    (hA : a { nx := fun _ => False, rt := fun d => d = .bl true } (.no :: .dat (.hdl 0) :: List.replicate N'.length .no)) : FnOk P w K mg base CX0 (k + 1) f fd [y] (spLaw K) := by
  refine FunD.ok F S (fun vs H Q E h => ?_) (fun cdv A outer s H vs Q E hr h => ?_)
  · obtain ⟨a, ns, rfl, _⟩ := h
    rfl
  · obtain ⟨ad, ns, rfl, hS, hl, kq⟩ := h
    obtain ⟨j1, t, j2⟩ := hJ cdv A outer s H E hr
    rw [hB]
    refine ⟨_, PSs.nox (pss_cons j1 j2.p), ?_⟩
    subst hN
    refine ⟨_, rfl, ad, ns, rfl, hS, hl, fun b c H' ex hb hc hbc hBag => ?_⟩
    have hs : (L2.start (y :: z :: N') [V.ref ad]).set 1 (some (.ref b)) = some (.ref ad) :: some (.ref b) :: List.replicate N'.length none := by
      unfold L2.start
      rfl
    show t _ ((L2.start (y :: z :: N') [V.ref ad]).set 1 (some (.ref b))) H'
    rw [hs]
    have iv : ((bagWd b c).plus []).I H' := ⟨hBag, fun p hp => (by cases hp)⟩
    refine j2.s (bagWd b c) [] [] H' _ H' _ _ _ (bagWd_ok hbc) ⟨Step.refl hBag, fun p hp => (by cases hp), iv, ⟨by simp, fun i g e => ?_, fun H2 _ p hp => (by cases hp)⟩, fun i j ds es e1 _ _ => ?_, fun p hp => (by cases hp)⟩ hA ⟨fun _ _ _ _ _ p => p.elim, fun _ _ _ _ _ p => p.elim, fun _ _ _ _ _ p => p.elim, fun v H2 d _ rv p => ?_⟩
    · match i, e with
      | 0, e => cases e; trivial
      | 1, e => cases e; exact ⟨.ref b, rfl, .hdl rfl⟩
      | i + 2, e =>
        have e2 : (List.replicate N'.length G.no)[i]? = some g := e
        rw [List.getElem?_replicate] at e2
        split at e2
        · cases e2; trivial
        · cases e2
    · exfalso
      match i, e1 with
      | 0, e => cases e
      | 1, e => cases e
      | i + 2, e =>
        have e2 : (List.replicate N'.length G.no)[i]? = some (.own ds) := e
        rw [List.getElem?_replicate] at e2
        split at e2 <;> cases e2
    · subst p
      rw [r_bl rv]
      exact kq H2
end
end Ad
/-! AdX: what simp knows of data. -/
namespace Ad
open PySem L2
@[simp] theorem eqD_ii (i j : Int) : eqD (.int i) (.int j) = decide (i = j) := by simp [eqD, pyD, PyData.eqv, Bool.beq_eq_decide_eq]
@[simp] theorem eqD_ss (i j : Str) : eqD (.str i) (.str j) = decide (i = j) := by simp [eqD, pyD, PyData.eqv, Bool.beq_eq_decide_eq]
@[simp] theorem eqD_bb (i j : Bool) : eqD (.bl i) (.bl j) = decide (i = j) := by cases i <;> cases j <;> rfl
@[simp] theorem wEq_ii {i j : Int} {P : D → Prop} : wEq (.int i) (.int j) P ↔ P (.bl (decide (i = j))) := by simp [wEq, sclD]
@[simp] theorem wEq_ss {i j : Str} {P : D → Prop} : wEq (.str i) (.str j) P ↔ P (.bl (decide (i = j))) := by simp [wEq, sclD]
@[simp] theorem wEq_bb {i j : Bool} {P : D → Prop} : wEq (.bl i) (.bl j) P ↔ P (.bl (decide (i = j))) := by simp only [wEq, sclD, eqD_bb, Bool.true_or, true_and]
@[simp] theorem wNe_ii {i j : Int} {P : D → Prop} : wNe (.int i) (.int j) P ↔ P (.bl (!decide (i = j))) := by simp [wNe, sclD]
@[simp] theorem wNe_ss {i j : Str} {P : D → Prop} : wNe (.str i) (.str j) P ↔ P (.bl (!decide (i = j))) := by simp [wNe, sclD]
@[simp] theorem startG_1 (a : D) (n : Nat) : startG (n + 1) [a] = .dat a :: List.replicate n .no := rfl
@[simp] theorem startG_2 (a b : D) (n : Nat) : startG (n + 2) [a, b] = .dat a :: .dat b :: List.replicate n .no := rfl
@[simp] theorem startG_3 (a b c : D) (n : Nat) : startG (n + 3) [a, b, c] = .dat a :: .dat b :: .dat c :: List.replicate n .no := rfl
@[simp] theorem startG_0 (n : Nat) : startG n [] = List.replicate n .no := rfl
theorem toNat_inj {a b : Char} (h : a.toNat = b.toNat) : a = b := Char.ext (UInt32.toNat_inj.mp h)
@[simp] theorem ofS_inj {a b : String} : (Str.ofString a = Str.ofString b) ↔ a = b := by
  constructor
  · intro h
    rw [Str.ofString_eq_toList, Str.ofString_eq_toList] at h
    have h1 : (a.toList.map Char.toNat).toArray = (b.toList.map Char.toNat).toArray := congrArg Str.cps h
    have h2 : a.toList.map Char.toNat = b.toList.map Char.toNat := by simpa using congrArg Array.toList h1
    have h3 : a.toList = b.toList := (List.map_inj_right fun x y e => toNat_inj e).mp h2
    exact String.toList_inj.mp h3
  · intro h; rw [h]
/-! ### comprehensions -/
theorem goA_map {body : D → List D → (List D → Prop) → Prop} (f : D → D) : ∀ {ds acc : List D} {P : List D → Prop}, (∀ d ∈ ds, ∀ (acc : List D) (k : List D → Prop), k (acc ++ [f d]) → body d acc k) → P (acc ++ ds.map f) → goA body ds acc P
  | [], acc, P, _, h => by
    show P acc
    simpa using h
  | d :: ds, acc, P, hb, h => by
    refine hb d (by simp) acc _ (goA_map f (fun e he => hb e (by simp [he])) ?_)
    simpa using h
/-- some item each time, of which Z holds -/
theorem goA_all {body : D → List D → (List D → Prop) → Prop} (Z : D → D → Prop) : ∀ {ds acc : List D} {P : List D → Prop}, (∀ d ∈ ds, ∀ (acc : List D) (k : List D → Prop), (∀ y, Z d y → k (acc ++ [y])) → body d acc k) → (∀ ys : List D, ys.length = ds.length → (∀ y ∈ ys, ∃ d ∈ ds, Z d y) → P (acc ++ ys)) → goA body ds acc P
  | [], acc, P, _, h => by
    show P acc
    simpa using h [] rfl (by simp)
  | d :: ds, acc, P, hb, h => by
    refine hb d (by simp) acc _ fun y hy => goA_all Z (fun e he => hb e (by simp [he])) fun ys hl hz => ?_
    have := h (y :: ys) (by simp [hl]) (by
      intro z hzm
      rcases List.mem_cons.mp hzm with e | e
      · exact ⟨d, by simp, by rw [e]; exact hy⟩
      · obtain ⟨d', h1, h2⟩ := hz z e
        exact ⟨d', by simp [h1], h2⟩)
    simpa using this
theorem blsOf_map (f : D → Bool) : ∀ ds : List D, blsOf (ds.map fun d => .bl (f d)) = some (ds.map f)
  | [] => rfl
  | d :: ds => by
    show (blsOf (ds.map fun d => .bl (f d))).map (f d :: ·) = _
    rw [blsOf_map f ds]
    rfl
theorem blsOf_bl : ∀ bs : List Bool, blsOf (bs.map D.bl) = some bs
  | [] => rfl
  | b :: bs => by
    show (blsOf (bs.map D.bl)).map (b :: ·) = _
    rw [blsOf_bl bs]
    rfl
theorem strsOf_map : ∀ zs : List Str, strsOf (zs.map D.str) = some zs
  | [] => rfl
  | z :: zs => by
    show (strsOf (zs.map D.str)).map (z :: ·) = _
    rw [strsOf_map zs]
    rfl
/-! ### the laws' helpers over data -/
def kindM : D → Nat
  | .non => 0 | .bl _ => 1 | .int _ => 2 | .str _ => 3 | .lst _ => 4 | .tup _ => 5
  | _ => 7
def A_l_kind (ds : List D) (P : D → Prop) : Prop := ∃ v, ds = [v] ∧ (tyN v).isSome = true ∧ P (.int (kindM v))
def A_l_pick (ds : List D) (P : D → Prop) : Prop := ∃ xs, (ds = [.hdl 0, .lst xs] ∨ ds = [.hdl 0, .tup xs]) ∧ xs ≠ [] ∧ xs.length < 1000000 ∧ ∀ d ∈ xs, P d
mutual
def sameM : D → D → Bool
  | .lst xs, .lst ys => sameA xs ys
  | .tup xs, .tup ys => sameA xs ys
  | .non, .non => true
  | .bl a, .bl b => a == b
  | .int a, .int b => a == b
  | .str a, .str b => a == b
  | _, _ => false
def sameA : List D → List D → Bool
  | [], [] => true
  | x :: xs, y :: ys => sameM x y && sameA xs ys
  | _, _ => false
end
mutual
/-- how deep _law_same goes -/
def dpt : D → Nat
  | .lst xs => dptA xs + 1
  | .tup xs => dptA xs + 1
  | _ => 1
def dptA : List D → Nat
  | [] => 0
  | x :: xs => max (dpt x) (dptA xs)
end
mutual
/-- nothing but data in it -/
def tyd : D → Bool
  | .lst xs => decide (xs.length ≤ 1000000) && tydA xs
  | .tup xs => decide (xs.length ≤ 1000000) && tydA xs
  | .non => true | .bl _ => true | .int _ => true
  | .str z => decide (z.length ≤ 100000)
  | _ => false
def tydA : List D → Bool
  | [] => true
  | x :: xs => tyd x && tydA xs
end
def A_l_same (n : Nat) (ds : List D) (P : D → Prop) : Prop := ∃ x y, ds = [x, y] ∧ tyd x = true ∧ tyd y = true ∧ dpt y ≤ n ∧ P (.bl (sameM x y))
end Ad
/-! AdK: the rules that name the fragment, with its name given: for use inside comprehensions. -/
namespace Ad
open PySem L2
section
variable {X : Cx} {Kf : PySem.W.Frag} {C C' : WC} {e a b l o : Expr} {es : List Expr} {pos p apos p2 : Pos} {te ta tb tl to : TE} {ae aa ab ao : ATE} {t tk : TA} {ag ak : ATA} {x : Str} {k j : Nat} {ps : List Str} {A : List D → (D → Prop) → Prop}
theorem jo_addK (hK : X.K = Kf) : JO X C (binaryOp .Add) (rAddG Kf) wAdd := by subst hK; exact jo_add
theorem jo_eqK (hK : X.K = Kf) (hu : X.A.units + 65 < cLine) : JO X C (compareOp .Eq) (rEqG Kf) wEq := by subst hK; exact jo_eq hu
theorem jo_neK (hK : X.K = Kf) (hu : X.A.units + 65 < cLine) : JO X C (compareOp .NotEq) (rNeG Kf) wNe := by subst hK; exact jo_ne hu
theorem jo_inK (hK : X.K = Kf) (hu : X.A.units + 65 < cLine) : JO X C (compareOp .In) (rInG Kf) wIn := by subst hK; exact jo_in hu
theorem jo_notInK (hK : X.K = Kf) (hu : X.A.units + 65 < cLine) : JO X C (compareOp .NotIn) (rNotInG Kf) wNotIn := by subst hK; exact jo_notIn hu
theorem je_ixK (hK : X.K = Kf) (ha : JE X C a ta aa) (hb : JE X C b tb ab) (hs : PlainIx b := by intro _ _; rfl) : JE X C (.Subscript a b pos) (tOp (rIx Kf) ta tb) (aOp wIx aa ab) := by subst hK; exact je_ix ha hb hs
theorem je_slK {lo hi : Option Expr} {tlo thi : TO} {alo ahi : ATO} (hK : X.K = Kf) (h : JE X C e te ae) (hl : JP X C lo tlo alo) (hh : JP X C hi thi ahi) : JE X C (.Subscript e (.Slice lo hi none p2) pos) (tSl (rSlG Kf) te tlo thi) (aSl ae alo ahi) := by subst hK; exact je_sl h hl hh
theorem je_joinK (hK : X.K = Kf) (ho : JE X C o to ao) (he : JE X C e te ae) (hs : starEach [e] X.env = [(false, eval e X.env)] := by rfl) (hbase : attributeBase o "join" X.env (eval o X.env) = eval o X.env := by rfl) (hline : (apos.endLine == pos.line) = true := by rfl) :
    JE X C (.Call (.Attribute o "join" apos) [e] [] pos) (tM1 (rJoin Kf) to te) (aMs wJoin ao (aCons ae aNil)) := by subst hK; exact je_join ho he hs hbase hline
theorem je_fncK (hK : X.K = Kf) (F : Fnc X.prog X.w Kf X.mg X.base x k ps C' A) (hr : Room j X.A) (hk : k ≤ j) (hC : ∀ w, C w → C' w) (ha : JA X C (e :: es) t ag) (hg : Gl X x := by rfl) (hdb : (x == ("__debug__" : Str)) = false := by decide) (he : starEach (e :: es) X.env = (false, eval e X.env) :: starEach es X.env := by rfl) (hpl : (backTo pos (starEach es X.env)).any (·.1) = false := by rfl) :
    JE X C (.Call (.Name x p) (e :: es) [] pos) (tCall (spOf Kf C' A) [] E0 t) (aCall A [] ag) := by subst hK; exact je_fnc F hr hk hC ha hg hdb he hpl
theorem je_fnc0K (hK : X.K = Kf) (F : Fnc X.prog X.w Kf X.mg X.base x k ps C' A) (hr : Room j X.A) (hk : k ≤ j) (hC : ∀ w, C w → C' w) (hg : Gl X x := by rfl) (hdb : (x == ("__debug__" : Str)) = false := by decide) :
    JE X C (.Call (.Name x p) [] [] pos) (tCall (spOf Kf C' A) [] E0 tNil) (aCall A [] aNil) := by subst hK; exact je_fnc0 F hr hk hC hg hdb
theorem ji_anyK {tg : Expr} (hK : X.K = Kf) (h : JE X C l tl aa) : JI X C tg l (iAny Kf tl) (aItems aa) := by subst hK; exact ji_any h
theorem ji_zipK {p tpos : Pos} {elts : List Expr} {kk : Nat} (hK : X.K = Kf) (hm : X.mg "zip" = none) (ha : JA X C [a, b] t ag) (hg : Gl X "zip" := by rfl) (hs : starEach [a, b] X.env = (false, eval a X.env) :: starEach [b] X.env := by rfl) (hpl : (backTo pos (starEach [b] X.env)).any (·.1) = false := by rfl) :
    JI X C (.Tuple elts kk tpos) (.Call (.Name "zip" p) [a, b] [] pos) (RZ.iZipA Kf t) (aZip ag) := by subst hK; exact ji_zip hm ha hg hs hpl
theorem jg_tupK {js : List Nat} {k n : Nat} {gs : TGs} {a : ATGs} (hK : X.K = Kf) (hc : X.calm = true) (h : JGs X C js es gs a) (hn : (assignEach es X.env).length = n := by rfl) (hst : (assignEach es X.env).findIdx? (·.1) = none := by rfl) : JG X C js (.Tuple es k pos) (gTup Kf n gs) (gmT n a) := by subst hK; exact jg_tup hc h hn hst
end
end Ad
namespace Ad
open PySem L2
/-- slots: 0 _law_bag_here, 1 _law_some -/
def a_l_pick : ATS :=
  aRet (aOp wIx (aVar 1) (aCall A_l_pull [] (aCons (aVar 0) (aCons (aCB wLen (aCons (aVar 1) (aNil))) (aNil)))))
def a_l_kind : ATS :=
  aSeq (aAsg (aL (aLstL (aCons (aOp wIsN (aVar 0) (aC .non)) (aCons (aCB wIsi (aCons (aVar 0) (aCons (aC (.ty "bool")) (aNil)))) (aCons (aCB wIsi (aCons (aVar 0) (aCons (aC (.ty "int")) (aNil)))) (aCons (aCB wIsi (aCons (aVar 0) (aCons (aC (.ty "str")) (aNil)))) (aNil))))))) (gmN 1))
  (aSeq (aAsg (aOp wAdd (aVar 1) (aL (aLstL (aCons (aCB wIsi (aCons (aVar 0) (aCons (aC (.ty "list")) (aNil)))) (aCons (aCB wIsi (aCons (aVar 0) (aCons (aC (.ty "tuple")) (aNil)))) (aCons (aCB wIsi (aCons (aVar 0) (aCons (aC (.ty "dict")) (aNil)))) (aCons (aC (.bl true)) (aNil)))))))) (gmN 1))
  (aRet (aMl wIndex (aVar 1) (aCons (aC (.bl true)) (aNil)))))
def a_l_same (A : List D → (D → Prop) → Prop) : ATS :=
  aSeq (aIfS (aB (aOp wNe (aCall A_l_kind [] (aCons (aVar 0) (aNil))) (aCall A_l_kind [] (aCons (aVar 1) (aNil))))) (aRet (aC (.bl false))) (aNext))
  (aSeq (aIfS (aB (aOp wIn (aCall A_l_kind [] (aCons (aVar 1) (aNil))) (aTup (aCons (aC (.int 4)) (aCons (aC (.int 5)) (aNil)))))) (aRet (aAndV (aOp wEq (aCB wLen (aCons (aVar 0) (aNil))) (aCB wLen (aCons (aVar 1) (aNil)))) (aCB wAll (aCons (aL (aLc (aZip (aCons (aVar 0) (aCons (aVar 1) (aNil)))) (gmT 2 (gmCons (gmN 3) (gmCons (gmN 4) (gmNil)))) (aYes) (aCall A [] (aCons (aVar 3) (aCons (aVar 4) (aNil)))) [3, 4])) (aNil))))) (aNext))
  (aSeq (aIfS (aB (aOp wEq (aCall A_l_kind [] (aCons (aVar 1) (aNil))) (aC (.int 6)))) (aNever) (aNext))
  (aRet (aOp wEq (aVar 0) (aVar 1)))))
theorem len_l_pick : ∀ ds P, A_l_pick ds P → ds.length = 2 := by rintro ds P ⟨xs, rfl | rfl, _⟩ <;> rfl
theorem atI_of {xs : List D} {k : Int} (h0 : 0 ≤ k) (h1 : k < xs.length) : ∃ d ∈ xs, atI xs k = some d := by
  have hn : k.toNat < xs.length := by omega
  refine ⟨xs[k.toNat], List.getElem_mem hn, ?_⟩
  obtain ⟨j, rfl⟩ := Int.eq_ofNat_of_zero_le h0
  exact atI_nat (by simp)
theorem log_small {m : Int} (h : 0 < m) (h1 : m < 2 ^ 100) : m.natAbs.log2 < 9000 := by
  have h2 : m.natAbs < 2 ^ 100 := by omega
  have h3 : m.natAbs ≠ 0 := by omega
  have := (Nat.log2_lt h3).mpr h2
  omega
theorem pure_l_pick : ∀ ds P, A_l_pick ds P → a_l_pick { nx := fun _ => P .non, rt := P } (startG 2 ds) := by
  rintro ds P ⟨xs, h, hne, hl, hP⟩
  have hpos : 0 < xs.length := List.length_pos_iff.mpr hne
  have go : ∀ k : Int, 0 ≤ k → k < xs.length → ∃ d ∈ xs, atI xs k = some d := fun k a b => atI_of a b
  rcases h with rfl | rfl
  · simp only [a_l_pick, aRet, aOp, aVar, aCall, aCons, aCB, aNil, wLen, startG_2, List.getElem?_cons_zero, List.getElem?_cons_succ, A_l_pull, List.append_nil]
    refine ⟨xs.length, rfl, by omega, log_small (by omega) (by omega), fun k h0 h1 => ?_⟩
    obtain ⟨d, hd, e⟩ := go k h0 h1
    simp only [wIx, e]
    exact hP d hd
  · simp only [a_l_pick, aRet, aOp, aVar, aCall, aCons, aCB, aNil, wLen, startG_2, List.getElem?_cons_zero, List.getElem?_cons_succ, A_l_pull, List.append_nil]
    refine ⟨xs.length, rfl, by omega, log_small (by omega) (by omega), fun k h0 h1 => ?_⟩
    obtain ⟨d, hd, e⟩ := go k h0 h1
    simp only [wIx, e]
    exact hP d hd
theorem len_l_kind : ∀ ds P, A_l_kind ds P → ds.length = 1 := by rintro ds P ⟨v, rfl, _⟩; rfl
theorem pure_l_kind : ∀ ds P, A_l_kind ds P → a_l_kind { nx := fun _ => P .non, rt := P } (startG 2 ds) := by
  rintro ds P ⟨v, rfl, hv, hP⟩
  cases v <;> first
    | (simp [a_l_kind, isD, okTy, tyN, isNon, wIndex, flD, eqD_bb, List.findIdx?_cons]; exact hP)
    | cases hv
@[simp] theorem kind_1 {x : D} {P : D → Prop} : A_l_kind [x] P ↔ (tyN x).isSome = true ∧ P (.int (kindM x)) := by
  constructor
  · rintro ⟨v, h, a, b⟩
    cases h
    exact ⟨a, b⟩
  · rintro ⟨a, b⟩
    exact ⟨x, rfl, a, b⟩
theorem tyd_ty {x : D} (h : tyd x = true) : (tyN x).isSome = true := by cases x <;> first | rfl | cases h
theorem tyd_mem : ∀ {xs : List D} {x : D}, tydA xs = true → x ∈ xs → tyd x = true
  | y :: ys, x, h, hm => by
    have h' : tyd y = true ∧ tydA ys = true := by simpa [tydA] using h
    rcases List.mem_cons.mp hm with e | e
    · rw [e]; exact h'.1
    · exact tyd_mem h'.2 e
theorem dpt_mem : ∀ {xs : List D} {x : D}, x ∈ xs → dpt x ≤ dptA xs
  | y :: ys, x, hm => by
    show dpt x ≤ max (dpt y) (dptA ys)
    rcases List.mem_cons.mp hm with e | e
    · rw [e]; exact Nat.le_max_left _ _
    · exact Nat.le_trans (dpt_mem e) (Nat.le_max_right _ _)
theorem len_l_same (n : Nat) : ∀ ds P, A_l_same n ds P → ds.length = 2 := by rintro ds P ⟨x, y, rfl, _⟩; rfl
theorem sameA_zip : ∀ (xs ys : List D), xs.length = ys.length → sameA xs ys = ((zipD xs ys).map fun d => match d with | .tup [a, b] => sameM a b | _ => false).all id
  | [], [], _ => rfl
  | x :: xs, y :: ys, h => by
    have := sameA_zip xs ys (by simpa using h)
    show (sameM x y && sameA xs ys) = _
    rw [this]
    rfl
theorem sameA_len : ∀ (xs ys : List D), xs.length ≠ ys.length → sameA xs ys = false
  | [], [], h => absurd rfl h
  | [], _ :: _, _ => rfl
  | _ :: _, [], _ => rfl
  | x :: xs, y :: ys, h => by
    show (sameM x y && sameA xs ys) = false
    rw [sameA_len xs ys (by simpa using h), Bool.and_false]
theorem zip_mem : ∀ {xs ys : List D} {d : D}, d ∈ zipD xs ys → ∃ a b, d = .tup [a, b] ∧ a ∈ xs ∧ b ∈ ys
  | x :: xs, y :: ys, d, h => by
    have h' : d = .tup [x, y] ∨ d ∈ zipD xs ys := by simpa [zipD] using h
    rcases h' with e | e
    · exact ⟨x, y, e, by simp, by simp⟩
    · obtain ⟨a, b, h1, h2, h3⟩ := zip_mem e
      exact ⟨a, b, h1, by simp [h2], by simp [h3]⟩
  | [], _, d, h => by simp [zipD] at h
  | _ :: _, [], d, h => by simp [zipD] at h
/-- all of the pairs, one by one -/
theorem same_all {n : Nat} {xs ys : List D} {ai : ATA} {Γ : List G} {P : D → Prop} (hx : tydA xs = true) (hy : tydA ys = true) (hd : dptA ys ≤ n) (hl : xs.length = ys.length) (hz : xs.length ≤ 1000000) (hP : P (.bl (sameA xs ys))) (hai : ∀ Q : List D → Prop, Q (zipD xs ys) → ai Γ Q) (hG : Γ.length = 5) :
    aLc ai (gmT 2 (gmCons (gmN 3) (gmCons (gmN 4) gmNil))) aYes (aCall (A_l_same n) [] (aCons (aVar 3) (aCons (aVar 4) aNil))) [3, 4] Γ fun ds => wAll [.lst ds] P := by
  refine hai _ ⟨by rw [zip_len]; omega, ?_⟩
  refine goA_map (fun d => .bl (match d with | .tup [a, b] => sameM a b | _ => false)) (fun d hm acc k hk => ?_) ?_
  · obtain ⟨a, b, rfl, ha, hb⟩ := zip_mem hm
    match Γ, hG with
    | [g0, g1, g2, g3, g4], _ =>
      simp only [wipeG, gmT, gmCons, gmN, gmNil, aYes, aCall, aCons, aVar, aNil, List.set_cons_succ, List.set_cons_zero, List.getElem?_cons_succ, List.getElem?_cons_zero, List.length_cons, List.length_nil, if_true, true_and, List.append_nil, A_l_same]
      exact ⟨a, b, rfl, tyd_mem hx ha, tyd_mem hy hb, Nat.le_trans (dpt_mem hb) hd, hk⟩
  · rw [List.nil_append]
    show (match blsOf ((zipD xs ys).map fun d => D.bl (match d with | .tup [a, b] => sameM a b | _ => false)) with
      | some bs => P (.bl (bs.all id))
      | none => False)
    rw [blsOf_map]
    show P (.bl (List.all _ id))
    rw [← sameA_zip xs ys hl]
    exact hP
theorem pure_l_same (n : Nat) : ∀ ds P, A_l_same (n + 1) ds P → a_l_same (A_l_same n) { nx := fun _ => P .non, rt := P } (startG 5 ds) := by
  rintro ds P ⟨x, y, rfl, hx, hy, hd, hP⟩
  have tx := tyd_ty hx
  have ty := tyd_ty hy
  simp only [a_l_same, aSeq, aIfS, aB, aOp, aCall, aCons, aNil, aVar, aC, aRet, aNext, aNever, startG_2, List.getElem?_cons_zero, List.getElem?_cons_succ, List.append_nil, kind_1, tx, ty, true_and, wNe_ii, wEq_ii]
  by_cases hk : (kindM x : Int) = kindM y
  · simp only [hk, decide_true, Bool.not_true, Bool.false_eq_true, if_false]
    cases x <;> cases y <;> first
      | (cases hx; done)
      | (cases hy; done)
      | (simp [kindM] at hk; done)
      | skip
    case non.non => simpa [kindM, flD, sameM, wEq, sclD, eqD, pyD, PyData.eqv] using hP
    case bl.bl a b => cases a <;> cases b <;> simpa [kindM, flD, sameM, wEq, sclD] using hP
    case int.int => simpa [kindM, flD, sameM, wEq, sclD, Bool.beq_eq_decide_eq] using hP
    case str.str => simpa [kindM, flD, sameM, wEq, sclD, Bool.beq_eq_decide_eq] using hP
    case lst.lst xs ys =>
      have hx' : xs.length ≤ 1000000 ∧ tydA xs = true := by simpa [tyd] using hx
      have hy' : ys.length ≤ 1000000 ∧ tydA ys = true := by simpa [tyd] using hy
      have hd' : dptA ys ≤ n := by simpa [dpt] using hd
      have hP : P (.bl (sameA xs ys)) := by simpa [sameM] using hP
      simp [kindM, flD, wLen]
      by_cases hl : xs.length = ys.length
      · simp [hl]
        exact same_all hx'.2 hy'.2 hd' hl hx'.1 hP (fun Q q => by simpa [aZip] using q) rfl
      · rw [sameA_len xs ys hl] at hP
        have hl' : ¬ (xs.length : Int) = ys.length := by omega
        simpa [hl'] using hP
    case tup.tup xs ys =>
      have hx' : xs.length ≤ 1000000 ∧ tydA xs = true := by simpa [tyd] using hx
      have hy' : ys.length ≤ 1000000 ∧ tydA ys = true := by simpa [tyd] using hy
      have hd' : dptA ys ≤ n := by simpa [dpt] using hd
      have hP : P (.bl (sameA xs ys)) := by simpa [sameM] using hP
      simp [kindM, flD, wLen]
      by_cases hl : xs.length = ys.length
      · simp [hl]
        exact same_all hx'.2 hy'.2 hd' hl hx'.1 hP (fun Q q => by simpa [aZip] using q) rfl
      · rw [sameA_len xs ys hl] at hP
        have hl' : ¬ (xs.length : Int) = ys.length := by omega
        simpa [hl'] using hP
  · have : sameM x y = false := by
      cases x <;> cases y <;> first
        | rfl
        | exact absurd rfl hk
    rw [this] at hP
    simpa [hk] using hP
end Ad
namespace Ad
open PySem L2
/-! ### what the text's words are -/
abbrev kwS : List Str := ["proc", "if", "else", "while", "break", "return", "print", "and", "or", "not", "mod"]
abbrev sgS : List Str := ["+", "-", "*", "//", "mod", "<", "<=", "==", "and", "or"]
def c_KEYWORDS : List D := kwS.map .str
def c_SIGNS : List D := sgS.map .str
abbrev smallS : Str := "abcdefghijklmnopqrstuvwxyz"
abbrev greatS : Str := "ABCDEFGHIJKLMNOPQRSTUVWXYZ"
def inS (z : Str) (l : List Str) : Bool := l.any fun k => decide (k = z)
def wordM (z sg : Str) (m : Int) : Bool := decide (1 ≤ (z.length : Int)) && decide ((z.length : Int) ≤ m) && !inS z kwS && z.cps.toList.all fun c => subS ⟨#[c]⟩ sg
def wordD (v : D) (sg : Str) (m : Int) : Bool := match v with
  | .str z => wordM z sg m
  | _ => false
def ownM (v : D) : Bool := wordD v smallS 4
def sharedM (v : D) : Bool := wordD v greatS 4
def numM (v : D) : Bool := match v with
  | .int _ => true
  | _ => false
def rngM (v : D) : Bool := match v with
  | .int i => decide (0 ≤ i) && decide (i ≤ 999999)
  | _ => false
def sgM (v : D) : Bool := match v with
  | .str z => inS z sgS
  | _ => false
/-- an expression nested at most so deep -/
def fitsM : Nat → D → Bool
  | 0, _ => false
  | n + 1, v => match v with
    | .tup [.str w, x] => if w = "num" then rngM x else if w = "name" then ownM x || sharedM x else if w = "not" then fitsM n x else false
    | .tup [.str w, s, x, y] => if w = "num" ∨ w = "name" ∨ w = "not" then false else decide (w = "op") && sgM s && fitsM n x && fitsM n y
    | _ => false
def A_is_number (ds : List D) (P : D → Prop) : Prop := ∃ v, ds = [v] ∧ tyd v = true ∧ P (.bl (numM v))
def A_is_word (ds : List D) (P : D → Prop) : Prop := ∃ v sg m, ds = [v, .str sg, .int m] ∧ tyd v = true ∧ P (.bl (wordD v sg m))
def A_is_own (ds : List D) (P : D → Prop) : Prop := ∃ v, ds = [v] ∧ tyd v = true ∧ P (.bl (ownM v))
def A_is_shared (ds : List D) (P : D → Prop) : Prop := ∃ v, ds = [v] ∧ tyd v = true ∧ P (.bl (sharedM v))
def A_fits (n : Nat) (ds : List D) (P : D → Prop) : Prop := ∃ v d, ds = [v, .int (d : Nat)] ∧ d < n ∧ tyd v = true ∧ P (.bl (fitsM d v))
def A_is_expression (ds : List D) (P : D → Prop) : Prop := ∃ v, ds = [v] ∧ tyd v = true ∧ P (.bl (fitsM 6 v))
/-- slots: 0 value -/
def a_is_number : ATS :=
  aRet (aAndV (aCB wIsi (aCons (aVar 0) (aCons (aC (.ty "int")) (aNil)))) (aV (aNot (aB (aCB wIsi (aCons (aVar 0) (aCons (aC (.ty "bool")) (aNil))))))))

/-- slots: 0 value, 1 signs, 2 most, 3 sign -/
def a_is_word : ATS :=
  aSeq (aIfS (aOr (aNot (aB (aCB wIsi (aCons (aVar 0) (aCons (aC (.ty "str")) (aNil)))))) (aOr (aNot (aB (aChain wLe wLe (aC (.int 1)) (aCB wLen (aCons (aVar 0) (aNil))) (aVar 2)))) (aB (aOp wIn (aVar 0) (aC (.tup c_KEYWORDS)))))) (aRet (aC (.bl false))) (aNext))
  (aRet (aCB wAll (aCons (aL (aLc (aItems (aVar 0)) (gmN 3) (aYes) (aOp wIn (aVar 3) (aVar 1)) [3])) (aNil))))

/-- slots: 0 value -/
def a_is_own : ATS :=
  aRet (aCall A_is_word [] (aCons (aVar 0) (aCons (aC (.str "abcdefghijklmnopqrstuvwxyz")) (aCons (aC (.int 4)) (aNil)))))

/-- slots: 0 value -/
def a_is_shared : ATS :=
  aRet (aCall A_is_word [] (aCons (aVar 0) (aCons (aC (.str "ABCDEFGHIJKLMNOPQRSTUVWXYZ")) (aCons (aC (.int 4)) (aNil)))))

/-- slots: 0 value, 1 deep, 2 word -/
def a_fits (A : List D → (D → Prop) → Prop) : ATS :=
  aSeq (aIfS (aOr (aB (aOp wLt (aVar 1) (aC (.int 1)))) (aOr (aNot (aB (aCB wIsi (aCons (aVar 0) (aCons (aC (.ty "tuple")) (aNil)))))) (aOr (aB (aOp wLt (aCB wLen (aCons (aVar 0) (aNil))) (aC (.int 2)))) (aNot (aB (aCB wIsi (aCons (aOp wIx (aVar 0) (aC (.int 0))) (aCons (aC (.ty "str")) (aNil))))))))) (aRet (aC (.bl false))) (aNext))
  (aSeq (aAsg (aOp wIx (aVar 0) (aC (.int 0))) (gmN 2))
  (aSeq (aIfS (aB (aOp wEq (aVar 2) (aC (.str "num")))) (aRet (aAndV (aOp wEq (aCB wLen (aCons (aVar 0) (aNil))) (aC (.int 2))) (aAndV (aCall A_is_number [] (aCons (aOp wIx (aVar 0) (aC (.int 1))) (aNil))) (aChain wLe wLe (aC (.int 0)) (aOp wIx (aVar 0) (aC (.int 1))) (aC (.int 999999)))))) (aNext))
  (aSeq (aIfS (aB (aOp wEq (aVar 2) (aC (.str "name")))) (aRet (aAndV (aOp wEq (aCB wLen (aCons (aVar 0) (aNil))) (aC (.int 2))) (aOrV (aCall A_is_own [] (aCons (aOp wIx (aVar 0) (aC (.int 1))) (aNil))) (aCall A_is_shared [] (aCons (aOp wIx (aVar 0) (aC (.int 1))) (aNil)))))) (aNext))
  (aSeq (aIfS (aB (aOp wEq (aVar 2) (aC (.str "not")))) (aRet (aAndV (aOp wEq (aCB wLen (aCons (aVar 0) (aNil))) (aC (.int 2))) (aCall A [] (aCons (aOp wIx (aVar 0) (aC (.int 1))) (aCons (aOp wSub (aVar 1) (aC (.int 1))) (aNil)))))) (aNext))
  (aSeq (aIfS (aOr (aB (aOp wNe (aVar 2) (aC (.str "op")))) (aOr (aB (aOp wNe (aCB wLen (aCons (aVar 0) (aNil))) (aC (.int 4)))) (aOr (aNot (aB (aCB wIsi (aCons (aOp wIx (aVar 0) (aC (.int 1))) (aCons (aC (.ty "str")) (aNil)))))) (aB (aOp wNotIn (aOp wIx (aVar 0) (aC (.int 1))) (aC (.tup c_SIGNS))))))) (aRet (aC (.bl false))) (aNext))
  (aRet (aAndV (aCall A [] (aCons (aOp wIx (aVar 0) (aC (.int 2))) (aCons (aOp wSub (aVar 1) (aC (.int 1))) (aNil)))) (aCall A [] (aCons (aOp wIx (aVar 0) (aC (.int 3))) (aCons (aOp wSub (aVar 1) (aC (.int 1))) (aNil)))))))))))

/-- slots: 0 value -/
def a_is_expression : ATS :=
  aRet (aCall (A_fits 7) [] (aCons (aVar 0) (aCons (aC (.int 6)) (aNil))))

/-! ### the law's draws -/
def lowS (z : Str) : Bool := z.cps.toList.all fun c => decide (97 ≤ c) && decide (c ≤ 122)
def A_l_keywords (ds : List D) (P : D → Prop) : Prop := ds = [] ∧ P (.lst c_KEYWORDS)
def A_l_signs (ds : List D) (P : D → Prop) : Prop := ds = [] ∧ P (.lst c_SIGNS)
def A_l_word (ds : List D) (P : D → Prop) : Prop := ∃ m : Int, ds = [.hdl 0, .int m] ∧ 1 ≤ m ∧ m ≤ 100 ∧ ∀ z : Str, lowS z = true → 1 ≤ (z.length : Int) → (z.length : Int) ≤ m → inS z kwS = false → P (.str z)
def A_l_constant (ds : List D) (P : D → Prop) : Prop := ds = [.hdl 0] ∧ ∀ k : Int, 0 ≤ k → k ≤ 999999 → P (.int k)
def nameM (v : D) : Bool := ownM v || sharedM v
/-- a number or a name -/
def leafM (t : D) : Bool := match t with
  | .tup [.str w, x] => (decide (w = "num") && rngM x) || (decide (w = "name") && nameM x)
  | _ => false
def A_l_expr (ds : List D) (P : D → Prop) : Prop := ∃ xs, ds = [.hdl 0, .lst xs, .int 1] ∧ xs ≠ [] ∧ xs.length < 1000000 ∧ (∀ x ∈ xs, nameM x = true ∧ tyd x = true) ∧ ∀ t, leafM t = true → tyd t = true → P t
/-- a chain of expressions, just so deep -/
inductive Ch : Nat → D → Prop where
  | leaf {t : D} : leafM t = true → tyd t = true → Ch 1 t
  | neg {n : Nat} {t : D} : Ch n t → Ch (n + 1) (.tup [.str "not", t])
  | one {n : Nat} {s t o : D} : sgM s = true → tyd s = true → Ch n t → leafM o = true → tyd o = true → Ch (n + 1) (.tup [.str "op", s, t, o])
  | two {n : Nat} {s t o : D} : sgM s = true → tyd s = true → Ch n t → leafM o = true → tyd o = true → Ch (n + 1) (.tup [.str "op", s, o, t])
def A_l_chain_of (ds : List D) (P : D → Prop) : Prop := ∃ (n : Nat) (xs : List D), ds = [.hdl 0, .int (n : Nat), .lst xs] ∧ 1 ≤ n ∧ n ≤ 7 ∧ xs ≠ [] ∧ xs.length < 1000000 ∧ (∀ x ∈ xs, nameM x = true ∧ tyd x = true) ∧ ∀ t, Ch n t → P t
def odds : List D := [.non, .bl true, .int (-1), .int 1000000, .int (2 ^ (40 : Int).toNat), .str "", .str "abcde", .str "Ab", .str "if", .str "mod", .str "a1", .lst [], .lst [.tup [.str "num", .int 1]], .tup []]
def A_l_odd (ds : List D) (P : D → Prop) : Prop := ds = [.hdl 0] ∧ ∀ d ∈ odds, P d
/-- never an expression -/
def Bad (d : D) : Prop := tyd d = true ∧ ∀ n, fitsM n d = false
def A_l_bent (n : Nat) (ds : List D) (P : D → Prop) : Prop := ∃ (m : Nat) (t : D), ds = [.hdl 0, t] ∧ Ch m t ∧ m ≤ n ∧ ∀ d, Bad d → P d
/-- slots:  -/
def a_l_keywords : ATS :=
  aRet (aL (aLstL (aCons (aC (.str "proc")) (aCons (aC (.str "if")) (aCons (aC (.str "else")) (aCons (aC (.str "while")) (aCons (aC (.str "break")) (aCons (aC (.str "return")) (aCons (aC (.str "print")) (aCons (aC (.str "and")) (aCons (aC (.str "or")) (aCons (aC (.str "not")) (aCons (aC (.str "mod")) (aNil))))))))))))))

/-- slots: 0 _law_bag_here, 1 _law_most, 2 _law_letters, 3 _law_word_here, 4 _law_k -/
def a_l_word : ATS :=
  aSeq (aAsg (aC (.str "abcdefghijklmnopqrstuvwxyz")) (gmN 2))
  (aSeq (aAsg (aMs wJoin (aC (.str "")) (aCons (aL (aLc (aRng1 (aCons (aOp wAdd (aC (.int 1)) (aCall A_l_pull [] (aCons (aVar 0) (aCons (aVar 1) (aNil))))) (aNil))) (gmN 4) (aYes) (aOp wIx (aVar 2) (aCall A_l_pull [] (aCons (aVar 0) (aCons (aC (.int 26)) (aNil))))) [4])) aNil)) (gmN 3))
  (aRet (aIf (aB (aOp wIn (aVar 3) (aCall A_l_keywords [] aNil))) (aSl (aVar 3) (aNoPart) (aPart (aC (.int 1)))) (aVar 3))))

/-- slots:  -/
def a_l_signs : ATS :=
  aRet (aL (aLstL (aCons (aC (.str "+")) (aCons (aC (.str "-")) (aCons (aC (.str "*")) (aCons (aC (.str "//")) (aCons (aC (.str "mod")) (aCons (aC (.str "<")) (aCons (aC (.str "<=")) (aCons (aC (.str "==")) (aCons (aC (.str "and")) (aCons (aC (.str "or")) (aNil)))))))))))))

/-- slots: 0 _law_bag_here -/
def a_l_constant : ATS :=
  aRet (aCall A_l_pick [] (aCons (aVar 0) (aCons (aL (aLstL (aCons (aC (.int 0)) (aCons (aC (.int 1)) (aCons (aC (.int 2)) (aCons (aC (.int 3)) (aCons (aCall A_l_pull [] (aCons (aVar 0) (aCons (aC (.int 10)) (aNil)))) (aCons (aCall A_l_pull [] (aCons (aVar 0) (aCons (aOp wPow (aC (.int 10)) (aC (.int 6))) (aNil)))) (aCons (aC (.int 999999)) (aNil)))))))))) (aNil))))

/-- slots: 0 _law_bag_here, 1 _law_names, 2 _law_deep, 3 _law_way, 4 _law_sign, 5 _law_one -/
def a_l_expr (A : List D → (D → Prop) → Prop) : ATS :=
  aSeq (aAsg (aCall A_l_pull [] (aCons (aVar 0) (aCons (aC (.int 7)) (aNil)))) (gmN 3))
  (aSeq (aIfS (aOr (aB (aOp wLt (aVar 2) (aC (.int 2)))) (aB (aOp wLt (aVar 3) (aC (.int 3))))) (aSeq (aIfS (aAnd (aB (aOp wEq (aOp wMod (aVar 3) (aC (.int 2))) (aC (.int 0)))) (aB (aOp wNe (aVar 1) (aL (aLstL (aNil)))))) (aRet (aTup (aCons (aC (.str "name")) (aCons (aCall A_l_pick [] (aCons (aVar 0) (aCons (aVar 1) (aNil)))) (aNil))))) (aNext))
  (aRet (aTup (aCons (aC (.str "num")) (aCons (aCall A_l_constant [] (aCons (aVar 0) (aNil))) (aNil)))))) (aNext))
  (aSeq (aIfS (aB (aOp wEq (aVar 3) (aC (.int 3)))) (aRet (aTup (aCons (aC (.str "not")) (aCons (aCall A [] (aCons (aVar 0) (aCons (aVar 1) (aCons (aOp wSub (aVar 2) (aC (.int 1))) (aNil))))) (aNil))))) (aNext))
  (aSeq (aAsg (aCall A_l_pick [] (aCons (aVar 0) (aCons (aCall A_l_signs [] aNil) (aNil)))) (gmN 4))
  (aSeq (aAsg (aCall A [] (aCons (aVar 0) (aCons (aVar 1) (aCons (aOp wSub (aVar 2) (aC (.int 1))) (aNil))))) (gmN 5))
  (aRet (aTup (aCons (aC (.str "op")) (aCons (aVar 4) (aCons (aVar 5) (aCons (aCall A [] (aCons (aVar 0) (aCons (aVar 1) (aCons (aOp wSub (aVar 2) (aC (.int 1))) (aNil))))) (aNil)))))))))))

/-- slots: 0 _law_bag_here, 1 _law_deep, 2 _law_names, 3 _law_found, 4 _law_k, 5 _law_way, 6 _law_other, 7 _law_sign -/
def a_l_chain_of : ATS :=
  aSeq (aAsg (aCall A_l_expr [] (aCons (aVar 0) (aCons (aVar 2) (aCons (aC (.int 1)) (aNil))))) (gmN 3))
  (aSeq (aFor (aRng1 (aCons (aOp wSub (aVar 1) (aC (.int 1))) (aNil))) (gmN 4) (aSeq (aAsg (aCall A_l_pull [] (aCons (aVar 0) (aCons (aC (.int 3)) (aNil)))) (gmN 5))
  (aSeq (aAsg (aCall A_l_expr [] (aCons (aVar 0) (aCons (aVar 2) (aCons (aC (.int 1)) (aNil))))) (gmN 6))
  (aSeq (aAsg (aCall A_l_pick [] (aCons (aVar 0) (aCons (aCall A_l_signs [] aNil) (aNil)))) (gmN 7))
  (aAsg (aOp wIx (aL (aLstL (aCons (aTup (aCons (aC (.str "not")) (aCons (aVar 3) (aNil)))) (aCons (aTup (aCons (aC (.str "op")) (aCons (aVar 7) (aCons (aVar 3) (aCons (aVar 6) (aNil)))))) (aCons (aTup (aCons (aC (.str "op")) (aCons (aVar 7) (aCons (aVar 6) (aCons (aVar 3) (aNil)))))) (aNil)))))) (aVar 5)) (gmN 3))))))
  (aRet (aVar 3)))

/-- slots: 0 _law_bag_here -/
def a_l_odd : ATS :=
  aRet (aCall A_l_pick [] (aCons (aVar 0) (aCons (aL (aLstL (aCons (aC .non) (aCons (aC (.bl true)) (aCons (aUn wNeg (aC (.int 1))) (aCons (aC (.int 1000000)) (aCons (aOp wPow (aC (.int 2)) (aC (.int 40))) (aCons (aC (.str "")) (aCons (aC (.str "abcde")) (aCons (aC (.str "Ab")) (aCons (aC (.str "if")) (aCons (aC (.str "mod")) (aCons (aC (.str "a1")) (aCons (aL (aLstL (aNil))) (aCons (aL (aLstL (aCons (aTup (aCons (aC (.str "num")) (aCons (aC (.int 1)) (aNil)))) (aNil)))) (aCons (aTup (aNil)) (aNil))))))))))))))))) (aNil))))

/-- slots: 0 _law_bag_here, 1 _law_tree, 2 _law_way, 3 _law_odd_here -/
def a_l_bent (A : List D → (D → Prop) → Prop) : ATS :=
  aSeq (aAsg (aCall A_l_pull [] (aCons (aVar 0) (aCons (aC (.int 5)) (aNil)))) (gmN 2))
  (aSeq (aIfS (aAnd (aB (aOp wEq (aOp wIx (aVar 1) (aC (.int 0))) (aC (.str "not")))) (aB (aOp wGt (aVar 2) (aC (.int 0))))) (aRet (aTup (aCons (aC (.str "not")) (aCons (aCall A [] (aCons (aVar 0) (aCons (aOp wIx (aVar 1) (aC (.int 1))) (aNil)))) (aNil))))) (aNext))
  (aSeq (aIfS (aAnd (aB (aOp wEq (aOp wIx (aVar 1) (aC (.int 0))) (aC (.str "op")))) (aB (aOp wGt (aVar 2) (aC (.int 0))))) (aRet (aOp wAdd (aSl (aVar 1) (aNoPart) (aPart (aC (.int 2)))) (aIf (aB (aOp wEq (aOp wMod (aVar 2) (aC (.int 2))) (aC (.int 1)))) (aTup (aCons (aCall A [] (aCons (aVar 0) (aCons (aOp wIx (aVar 1) (aC (.int 2))) (aNil)))) (aCons (aOp wIx (aVar 1) (aC (.int 3))) (aNil)))) (aTup (aCons (aOp wIx (aVar 1) (aC (.int 2))) (aCons (aCall A [] (aCons (aVar 0) (aCons (aOp wIx (aVar 1) (aC (.int 3))) (aNil)))) (aNil))))))) (aNext))
  (aSeq (aAsg (aCall A_l_odd [] (aCons (aVar 0) (aNil))) (gmN 3))
  (aSeq (aIfS (aB (aOp wIn (aOp wIx (aVar 1) (aC (.int 0))) (aTup (aCons (aC (.str "num")) (aCons (aC (.str "name")) (aNil)))))) (aRet (aCall A_l_pick [] (aCons (aVar 0) (aCons (aL (aLstL (aCons (aTup (aCons (aOp wIx (aVar 1) (aC (.int 0))) (aCons (aVar 3) (aNil)))) (aCons (aOp wAdd (aVar 1) (aTup (aCons (aC (.int 1)) (aNil)))) (aCons (aSl (aVar 1) (aNoPart) (aPart (aC (.int 1)))) (aCons (aCB wList (aCons (aVar 1) (aNil))) (aCons (aVar 3) (aCons (aTup (aCons (aC (.str "nam")) (aCons (aC (.int 1)) (aNil)))) (aNil))))))))) (aNil))))) (aNext))
  (aSeq (aIfS (aB (aOp wEq (aOp wIx (aVar 1) (aC (.int 0))) (aC (.str "not")))) (aRet (aCall A_l_pick [] (aCons (aVar 0) (aCons (aL (aLstL (aCons (aTup (aCons (aC (.str "not")) (aNil))) (aCons (aOp wAdd (aVar 1) (aTup (aCons (aOp wIx (aVar 1) (aC (.int 1))) (aNil)))) (aCons (aTup (aCons (aC (.str "not")) (aCons (aVar 3) (aNil)))) (aCons (aCB wList (aCons (aVar 1) (aNil))) (aNil))))))) (aNil))))) (aNext))
  (aRet (aCall A_l_pick [] (aCons (aVar 0) (aCons (aL (aLstL (aCons (aSl (aVar 1) (aNoPart) (aPart (aC (.int 3)))) (aCons (aOp wAdd (aVar 1) (aTup (aCons (aOp wIx (aVar 1) (aC (.int 2))) (aNil)))) (aCons (aTup (aCons (aC (.str "op")) (aCons (aC (.str "")) (aCons (aOp wIx (aVar 1) (aC (.int 2))) (aCons (aOp wIx (aVar 1) (aC (.int 3))) (aNil)))))) (aCons (aTup (aCons (aC (.str "op")) (aCons (aC (.str ">")) (aCons (aOp wIx (aVar 1) (aC (.int 2))) (aCons (aOp wIx (aVar 1) (aC (.int 3))) (aNil)))))) (aCons (aTup (aCons (aC (.str "op")) (aCons (aCall A_l_pick [] (aCons (aVar 0) (aCons (aL (aLstL (aCons (aC (.int 3)) (aCons (aL (aLstL (aCons (aC (.str "+")) (aNil)))) (aCons (aTup (aCons (aC (.str "+")) (aNil))) (aNil)))))) (aNil)))) (aCons (aOp wIx (aVar 1) (aC (.int 2))) (aCons (aOp wIx (aVar 1) (aC (.int 3))) (aNil)))))) (aCons (aTup (aCons (aC (.str "op")) (aCons (aOp wIx (aVar 1) (aC (.int 1))) (aCons (aVar 3) (aCons (aOp wIx (aVar 1) (aC (.int 3))) (aNil)))))) (aCons (aCB wList (aCons (aVar 1) (aNil))) (aNil)))))))))) (aNil))))))))))

/-- slots: 0 _law_script, 1 _law_bag_here, 2 _law_names, 3 _law_turn, 4 _law_deep, 5 _law_tree, 6 _law_odd_here, 7 _law_due -/
def a_law : ATS :=
  aSeq (aAsg (aL (aLstL (aCons (aCall A_l_word [] (aCons (aVar 1) (aCons (aC (.int 4)) (aNil)))) (aCons (aMs wUpper (aCall A_l_word [] (aCons (aVar 1) (aCons (aC (.int 4)) (aNil)))) aNil) (aCons (aC (.str "abcd")) (aCons (aC (.str "Z")) (aNil))))))) (gmN 2))
  (aSeq (aFor (aRng1 (aCons (aC (.int 6)) (aNil))) (gmN 3) (aSeq (aAsg (aOp wAdd (aC (.int 1)) (aCall A_l_pull [] (aCons (aVar 1) (aCons (aC (.int 7)) (aNil))))) (gmN 4))
  (aSeq (aAsg (aCall A_l_chain_of [] (aCons (aVar 1) (aCons (aVar 4) (aCons (aVar 2) (aNil))))) (gmN 5))
  (aSeq (aIfS (aNot (aB (aCall (A_l_same 4) [] (aCons (aL (aLstL (aCons (aCall A_is_expression [] (aCons (aVar 5) (aNil))) (aCons (aCall A_is_expression [] (aCons (aVar 5) (aNil))) (aNil))))) (aCons (aL (aLstL (aCons (aOp wLt (aVar 4) (aC (.int 7))) (aCons (aOp wLt (aVar 4) (aC (.int 7))) (aNil))))) (aNil)))))) (aRet (aC (.bl false))) (aNext))
  (aIfS (aNot (aB (aCall (A_l_same 4) [] (aCons (aCall A_is_expression [] (aCons (aCall (A_l_bent 8) [] (aCons (aVar 1) (aCons (aVar 5) (aNil)))) (aNil))) (aCons (aC (.bl false)) (aNil)))))) (aRet (aC (.bl false))) (aNext))))))
  (aSeq (aAsg (aCall A_l_pick [] (aCons (aVar 1) (aCons (aL (aLstL (aCons (aTup (aCons (aC (.str "num")) (aCons (aC (.int 0)) (aNil)))) (aCons (aTup (aCons (aC (.str "num")) (aCons (aC (.int 999999)) (aNil)))) (aCons (aTup (aCons (aC (.str "num")) (aCons (aC (.int 1000000)) (aNil)))) (aCons (aTup (aCons (aC (.str "num")) (aCons (aUn wNeg (aC (.int 1))) (aNil)))) (aCons (aTup (aCons (aC (.str "num")) (aCons (aC (.bl false)) (aNil)))) (aCons (aTup (aCons (aC (.str "name")) (aCons (aC (.str "abcde")) (aNil)))) (aCons (aTup (aCons (aC (.str "name")) (aCons (aC (.str "ABCD")) (aNil)))) (aCons (aTup (aCons (aC (.str "name")) (aCons (aC (.str "ABCDE")) (aNil)))) (aCons (aTup (aCons (aC (.str "name")) (aCons (aC (.str "not")) (aNil)))) (aCons (aTup (aCons (aC (.str "name")) (aCons (aC (.str "prin")) (aNil)))) (aCons (aTup (aCons (aC (.str "name")) (aCons (aC (.str "MOD")) (aNil)))) (aCons (aC .non) (aCons (aC (.int 3)) (aCons (aC (.str "a")) (aCons (aL (aLstL (aCons (aC (.str "num")) (aCons (aC (.int 1)) (aNil))))) (aNil)))))))))))))))))) (aNil)))) (gmN 6))
  (aSeq (aAsg (aOp wIn (aVar 6) (aL (aLstL (aCons (aTup (aCons (aC (.str "num")) (aCons (aC (.int 0)) (aNil)))) (aCons (aTup (aCons (aC (.str "num")) (aCons (aC (.int 999999)) (aNil)))) (aCons (aTup (aCons (aC (.str "name")) (aCons (aC (.str "ABCD")) (aNil)))) (aCons (aTup (aCons (aC (.str "name")) (aCons (aC (.str "prin")) (aNil)))) (aCons (aTup (aCons (aC (.str "name")) (aCons (aC (.str "MOD")) (aNil)))) (aNil))))))))) (gmN 7))
  (aRet (aCall (A_l_same 4) [] (aCons (aCall A_is_expression [] (aCons (aVar 6) (aNil))) (aCons (aOrV (aAndV (aVar 7) (aOp wNe (aVar 6) (aTup (aCons (aC (.str "num")) (aCons (aC (.bl false)) (aNil)))))) (aCall (A_l_same 4) [] (aCons (aVar 6) (aCons (aTup (aCons (aC (.str "num")) (aCons (aC (.int 0)) (aNil)))) (aNil))))) (aNil))))))))
end Ad
namespace Ad
open PySem L2
theorem sub1 (c : Nat) (z : Str) : subS ⟨#[c]⟩ z = decide (c ∈ z.cps.toList) := PySem.StrLaws.found_one z c
@[simp] theorem at0 {α : Type} {x : α} {xs : List α} : atI (x :: xs) 0 = some x := atI_nat (j := 0) rfl
@[simp] theorem at1 {α : Type} {x y : α} {xs : List α} : atI (x :: y :: xs) 1 = some y := atI_nat (j := 1) rfl
@[simp] theorem at2 {α : Type} {x y z : α} {xs : List α} : atI (x :: y :: z :: xs) 2 = some z := atI_nat (j := 2) rfl
@[simp] theorem at3 {α : Type} {x y z u : α} {xs : List α} : atI (x :: y :: z :: u :: xs) 3 = some u := atI_nat (j := 3) rfl
theorem any_strs (z : Str) : ∀ l : List Str, ((l.map D.str).any fun d => eqD d (.str z)) = inS z l
  | [] => rfl
  | k :: l => by
    have := any_strs z l
    unfold inS at this ⊢
    rw [List.map_cons, List.any_cons, List.any_cons, this, eqD_ss]
theorem all_fl : ∀ l : List Str, (l.map D.str).all flD = true
  | [] => rfl
  | k :: l => by rw [List.map_cons, List.all_cons, all_fl l]; rfl
theorem len_is_number : ∀ ds P, A_is_number ds P → ds.length = 1 := by rintro ds P ⟨v, rfl, _⟩; rfl
theorem pure_is_number : ∀ ds P, A_is_number ds P → a_is_number { nx := fun _ => P .non, rt := P } (startG 1 ds) := by
  rintro ds P ⟨v, rfl, hv, hP⟩
  cases v <;> first
    | (simpa [a_is_number, isD, okTy, tyN, numM] using hP)
    | cases hv
theorem len_is_word : ∀ ds P, A_is_word ds P → ds.length = 3 := by rintro ds P ⟨v, _, _, rfl, _⟩; rfl
theorem pure_is_word : ∀ ds P, A_is_word ds P → a_is_word { nx := fun _ => P .non, rt := P } (startG 4 ds) := by
  rintro ds P ⟨v, sg, m, rfl, hv, hP⟩
  cases v with
  | str z =>
    have hz : z.length ≤ 100000 := by simpa [tyd] using hv
    have hz2 : z.length ≤ 16000000 := by omega
    have hz3 : z.cps.size ≤ 100000 := hz
    have hmem : ((c_KEYWORDS.any fun d => eqD d (.str z)) = inS z kwS) := any_strs z kwS
    have hfl : c_KEYWORDS.all flD = true := all_fl kwS
    simp only [a_is_word, aSeq, aIfS, aOr, aNot, aB, aCB, aCons, aVar, aC, aNil, aChain, aOp, aRet, aNext, startG_3, List.getElem?_cons_zero, List.getElem?_cons_succ, wIsi, okTy, tyN, isD, wLen, wLe, wInt0, wIn, memD, flD, hfl, hmem, hz2]
    simp only [wordD, wordM] at hP
    by_cases h1 : 1 ≤ (z.length : Int)
    · by_cases h2 : (z.length : Int) ≤ m
      · cases h3 : inS z kwS with
        | true => simpa [h1, h2, h3] using hP
        | false =>
          simp [h1, h2, h3]
          simp [h1, h2, h3] at hP
          refine ⟨by simpa using by omega, ?_⟩
          refine goA_map (fun d => .bl (match d with | .str y => subS y sg | _ => false)) (fun d hm acc k hk => ?_) ?_
          · obtain ⟨c, _, rfl⟩ := List.mem_map.mp hm
            simpa [wipeG] using hk
          · rw [List.nil_append, blsOf_map, List.map_map]
            have e : (List.map ((fun (d : D) => match d with | .str y => subS y sg | _ => false) ∘ fun c => D.str ⟨#[c]⟩) z.cps.toList).all id = z.cps.toList.all fun c => subS ⟨#[c]⟩ sg := by
              rw [List.all_map]; rfl
            show P (.bl (List.all _ id))
            rw [e]
            simpa using hP
      · simpa [h1, h2] using hP
    · simpa [h1] using hP
  | _ => first
    | (simpa [a_is_word, isD, okTy, tyN, wordD] using hP)
    | cases hv
theorem len_is_own : ∀ ds P, A_is_own ds P → ds.length = 1 := by rintro ds P ⟨v, rfl, _⟩; rfl
theorem len_is_shared : ∀ ds P, A_is_shared ds P → ds.length = 1 := by rintro ds P ⟨v, rfl, _⟩; rfl
theorem pure_is_own : ∀ ds P, A_is_own ds P → a_is_own { nx := fun _ => P .non, rt := P } (startG 1 ds) := by
  rintro ds P ⟨v, rfl, hv, hP⟩
  simp only [a_is_own, aRet, aCall, aCons, aVar, aC, aNil, startG_1, List.getElem?_cons_zero, List.append_nil]
  exact ⟨v, smallS, 4, rfl, hv, hP⟩
theorem pure_is_shared : ∀ ds P, A_is_shared ds P → a_is_shared { nx := fun _ => P .non, rt := P } (startG 1 ds) := by
  rintro ds P ⟨v, rfl, hv, hP⟩
  simp only [a_is_shared, aRet, aCall, aCons, aVar, aC, aNil, startG_1, List.getElem?_cons_zero, List.append_nil]
  exact ⟨v, greatS, 4, rfl, hv, hP⟩
@[simp] theorem A_is_number_1 {v : D} {P : D → Prop} : A_is_number [v] P ↔ tyd v = true ∧ P (.bl (numM v)) := ⟨fun ⟨_, h, a, b⟩ => by cases h; exact ⟨a, b⟩, fun ⟨a, b⟩ => ⟨v, rfl, a, b⟩⟩
@[simp] theorem A_is_own_1 {v : D} {P : D → Prop} : A_is_own [v] P ↔ tyd v = true ∧ P (.bl (ownM v)) := ⟨fun ⟨_, h, a, b⟩ => by cases h; exact ⟨a, b⟩, fun ⟨a, b⟩ => ⟨v, rfl, a, b⟩⟩
@[simp] theorem A_is_shared_1 {v : D} {P : D → Prop} : A_is_shared [v] P ↔ tyd v = true ∧ P (.bl (sharedM v)) := ⟨fun ⟨_, h, a, b⟩ => by cases h; exact ⟨a, b⟩, fun ⟨a, b⟩ => ⟨v, rfl, a, b⟩⟩
theorem len_fits (n : Nat) : ∀ ds P, A_fits n ds P → ds.length = 2 := by rintro ds P ⟨v, d, rfl, _⟩; rfl
theorem fitsM_no {v : D} (h : ∀ xs, v ≠ .tup xs) (d : Nat) : fitsM d v = false := by
  cases d with
  | zero => rfl
  | succ n =>
    cases v <;> first
      | rfl
      | exact absurd rfl (h _)
theorem any_sg (z : Str) : (c_SIGNS.any fun d => eqD d (.str z)) = inS z sgS := any_strs z sgS
theorem all_sg : c_SIGNS.all flD = true := all_fl sgS
theorem kw5 (w : Str) : (w = "num" ∧ ¬ w = "name" ∧ ¬ w = "not" ∧ ¬ w = "op") ∨ (¬ w = "num" ∧ w = "name" ∧ ¬ w = "not" ∧ ¬ w = "op") ∨ (¬ w = "num" ∧ ¬ w = "name" ∧ w = "not" ∧ ¬ w = "op") ∨ (¬ w = "num" ∧ ¬ w = "name" ∧ ¬ w = "not" ∧ w = "op") ∨ (¬ w = "num" ∧ ¬ w = "name" ∧ ¬ w = "not" ∧ ¬ w = "op") := by
  by_cases h1 : w = "num"
  · subst h1; exact .inl ⟨rfl, by decide +kernel, by decide +kernel, by decide +kernel⟩
  · by_cases h2 : w = "name"
    · subst h2; exact .inr (.inl ⟨h1, rfl, by decide +kernel, by decide +kernel⟩)
    · by_cases h3 : w = "not"
      · subst h3; exact .inr (.inr (.inl ⟨h1, h2, rfl, by decide +kernel⟩))
      · by_cases h4 : w = "op"
        · exact .inr (.inr (.inr (.inl ⟨h1, h2, h3, h4⟩)))
        · exact .inr (.inr (.inr (.inr ⟨h1, h2, h3, h4⟩)))
theorem A_fits_go {n d : Nat} {v : D} {P : D → Prop} (hd : d < n) (hv : tyd v = true) (h : P (.bl (fitsM d v))) : A_fits n [v, .int (d : Int)] P := ⟨v, d, rfl, hd, hv, h⟩
theorem pure_fits (n : Nat) : ∀ ds P, A_fits (n + 1) ds P → a_fits (A_fits n) { nx := fun _ => P .non, rt := P } (startG 3 ds) := by
  rintro ds P ⟨v, d, rfl, hd, hv, hP⟩
  cases v with
  | tup xs =>
    cases d with
    | zero =>
      have hP : P (.bl false) := hP
      simpa [a_fits] using hP
    | succ d =>
      have hd' : d < n := by omega
      have hpos : ¬ ((d : Int) + 1 < 1) := by omega
      match xs, hv, hP with
      | [], hv, hP => simpa [a_fits, isD, okTy, tyN, hpos, fitsM] using hP
      | [a], hv, hP => simpa [a_fits, isD, okTy, tyN, hpos, fitsM] using hP
      | a :: b :: rest, hv, hP =>
        have hv' : (rest.length + 1 + 1 ≤ 1000000) ∧ tyd a = true ∧ tyd b = true ∧ tydA rest = true := by simpa [tyd, tydA] using hv
        obtain ⟨hlen, ha, hb, hr⟩ := hv'
        cases a with
        | str w =>
          match rest, hr, hP with
          | [], _, hP =>
            rcases kw5 w with ⟨h1, h2, h3, h4⟩ | ⟨h1, h2, h3, h4⟩ | ⟨h1, h2, h3, h4⟩ | ⟨h1, h2, h3, h4⟩ | ⟨h1, h2, h3, h4⟩
            · have hP : P (.bl (rngM b)) := by simpa [fitsM, h1] using hP
              simp [a_fits, isD, okTy, tyN, hpos, h1, hb]
              cases b with
              | int i =>
                by_cases h0 : 0 ≤ i
                · simpa [numM, rngM, h0] using hP
                · simpa [numM, rngM, h0] using hP
              | _ => first
                | (simpa [numM, rngM] using hP)
                | cases hb
            · have hP : P (.bl (ownM b || sharedM b)) := by simpa [fitsM, h1, h2] using hP
              simp [a_fits, isD, okTy, tyN, hpos, h1, h2, hb]
              cases ho : ownM b <;> simpa [ho] using hP
            · have hP : P (.bl (fitsM d b)) := by simpa [fitsM, h1, h2, h3] using hP
              simp [a_fits, isD, okTy, tyN, hpos, h1, h2, h3, hb]
              exact A_fits_go hd' hb hP
            · have hP : P (.bl false) := by simpa [fitsM, h1, h2, h3] using hP
              simpa [a_fits, isD, okTy, tyN, hpos, h1, h2, h3, h4] using hP
            · have hP : P (.bl false) := by simpa [fitsM, h1, h2, h3] using hP
              simpa [a_fits, isD, okTy, tyN, hpos, h1, h2, h3, h4] using hP
          | [c], _, hP =>
            have hP : P (.bl false) := by simpa [fitsM] using hP
            rcases kw5 w with ⟨h1, h2, h3, h4⟩ | ⟨h1, h2, h3, h4⟩ | ⟨h1, h2, h3, h4⟩ | ⟨h1, h2, h3, h4⟩ | ⟨h1, h2, h3, h4⟩ <;>
              simpa [a_fits, isD, okTy, tyN, hpos, h1, h2, h3, h4] using hP
          | [c, e], hr, hP =>
            have hr' : tyd c = true ∧ tyd e = true := by simpa [tydA] using hr
            rcases kw5 w with ⟨h1, h2, h3, h4⟩ | ⟨h1, h2, h3, h4⟩ | ⟨h1, h2, h3, h4⟩ | ⟨h1, h2, h3, h4⟩ | ⟨h1, h2, h3, h4⟩
            · have hP : P (.bl false) := by simpa [fitsM, h1] using hP
              simpa [a_fits, isD, okTy, tyN, hpos, h1, h2, h3, h4] using hP
            · have hP : P (.bl false) := by simpa [fitsM, h1, h2] using hP
              simpa [a_fits, isD, okTy, tyN, hpos, h1, h2, h3, h4] using hP
            · have hP : P (.bl false) := by simpa [fitsM, h1, h2, h3] using hP
              simpa [a_fits, isD, okTy, tyN, hpos, h1, h2, h3, h4] using hP
            · have hP : P (.bl (sgM b && fitsM d c && fitsM d e)) := by simpa [fitsM, h1, h2, h3, h4] using hP
              cases b with
              | str z =>
                simp [a_fits, isD, okTy, tyN, hpos, h1, h2, h3, h4, flD, all_sg, any_sg]
                cases hs : inS z sgS with
                | false => simpa [sgM, hs] using hP
                | true =>
                  simp
                  refine ⟨c, d, rfl, hd', hr'.1, ?_⟩
                  cases hf : fitsM d c with
                  | false => simpa [sgM, hs, hf] using hP
                  | true =>
                    simp
                    exact A_fits_go hd' hr'.2 (by simpa [sgM, hs, hf] using hP)
              | _ => first
                | (simpa [a_fits, isD, okTy, tyN, hpos, h1, h2, h3, h4, sgM] using hP)
                | cases hb
            · have hP : P (.bl false) := by simpa [fitsM, h1, h2, h3, h4] using hP
              simpa [a_fits, isD, okTy, tyN, hpos, h1, h2, h3, h4] using hP
          | c :: e :: f :: r, _, hP =>
            have hP : P (.bl false) := by simpa [fitsM] using hP
            have l2 : ¬ ((r.length : Int) + 1 + 1 + 1 + 1 + 1 = 2) := by omega
            have l4 : ¬ ((r.length : Int) + 1 + 1 + 1 + 1 + 1 = 4) := by omega
            have l1 : ¬ ((r.length : Int) + 1 + 1 + 1 + 1 + 1 < 2) := by omega
            rcases kw5 w with ⟨h1, h2, h3, h4⟩ | ⟨h1, h2, h3, h4⟩ | ⟨h1, h2, h3, h4⟩ | ⟨h1, h2, h3, h4⟩ | ⟨h1, h2, h3, h4⟩ <;>
              simpa [a_fits, isD, okTy, tyN, hpos, h1, h2, h3, h4, l1, l2, l4] using hP
        | _ => first
          | (simpa [a_fits, isD, okTy, tyN, hpos, fitsM] using hP)
          | cases ha
  | _ =>
    first
      | (rw [fitsM_no (by intro xs h; cases h)] at hP
         by_cases h0 : (d : Int) < 1
         · simpa [a_fits, isD, okTy, tyN, h0] using hP
         · simpa [a_fits, isD, okTy, tyN, h0] using hP)
      | cases hv
end Ad
namespace Ad
open PySem L2
theorem len_is_expression : ∀ ds P, A_is_expression ds P → ds.length = 1 := by rintro ds P ⟨v, rfl, _⟩; rfl
theorem pure_is_expression : ∀ ds P, A_is_expression ds P → a_is_expression { nx := fun _ => P .non, rt := P } (startG 1 ds) := by
  rintro ds P ⟨v, rfl, hv, hP⟩
  simp only [a_is_expression, aRet, aCall, aCons, aVar, aC, aNil, startG_1, List.getElem?_cons_zero, List.append_nil]
  exact ⟨v, 6, rfl, by decide, hv, hP⟩
@[simp] theorem A_is_expression_1 {v : D} {P : D → Prop} : A_is_expression [v] P ↔ tyd v = true ∧ P (.bl (fitsM 6 v)) := ⟨fun ⟨_, h, a, b⟩ => by cases h; exact ⟨a, b⟩, fun ⟨a, b⟩ => ⟨v, rfl, a, b⟩⟩
theorem len_l_keywords : ∀ ds P, A_l_keywords ds P → ds.length = 0 := by rintro ds P ⟨rfl, _⟩; rfl
theorem len_l_signs : ∀ ds P, A_l_signs ds P → ds.length = 0 := by rintro ds P ⟨rfl, _⟩; rfl
theorem pure_l_keywords : ∀ ds P, A_l_keywords ds P → a_l_keywords { nx := fun _ => P .non, rt := P } (startG 0 ds) := by
  rintro ds P ⟨rfl, hP⟩
  exact ⟨by decide, hP⟩
theorem pure_l_signs : ∀ ds P, A_l_signs ds P → a_l_signs { nx := fun _ => P .non, rt := P } (startG 0 ds) := by
  rintro ds P ⟨rfl, hP⟩
  exact ⟨by decide, hP⟩
@[simp] theorem A_l_keywords_0 {P : D → Prop} : A_l_keywords [] P ↔ P (.lst c_KEYWORDS) := ⟨fun ⟨_, h⟩ => h, fun h => ⟨rfl, h⟩⟩
@[simp] theorem A_l_signs_0 {P : D → Prop} : A_l_signs [] P ↔ P (.lst c_SIGNS) := ⟨fun ⟨_, h⟩ => h, fun h => ⟨rfl, h⟩⟩
/-- drawing a number -/
theorem A_pull_go {m : Int} {P : D → Prop} (h : 0 < m) (h1 : m < 2 ^ 100) (hP : ∀ k : Int, 0 ≤ k → k < m → P (.int k)) : A_l_pull [.hdl 0, .int m] P := ⟨m, rfl, h, log_small h h1, hP⟩
theorem A_pick_go {xs : List D} {P : D → Prop} (h : xs ≠ []) (h1 : xs.length < 1000000) (hP : ∀ d ∈ xs, P d) : A_l_pick [.hdl 0, .lst xs] P := ⟨xs, .inl rfl, h, h1, hP⟩
theorem small_codes : smallS.cps.toList = List.range' 97 26 := by decide +kernel
theorem great_codes : greatS.cps.toList = List.range' 65 26 := by decide +kernel
theorem len_l_word : ∀ ds P, A_l_word ds P → ds.length = 2 := by rintro ds P ⟨m, rfl, _⟩; rfl
/-- joined single signs -/
theorem join1 : ∀ cs : List Nat, Txt.join "" (cs.map fun c => (⟨#[c]⟩ : Str)) = ⟨cs.toArray⟩ := fun cs => by
  rw [TL.join_eq]
  refine TL.ext_tl ?_
  rw [TL.tl_join]
  have e : ∀ l : List Nat, TL.joinL [] (l.map fun c => [c]) = l := by
    intro l
    induction l with
    | nil => rfl
    | cons a r ih =>
      cases r with
      | nil => rfl
      | cons b r => 
        show [a] ++ ([] ++ TL.joinL [] ((b :: r).map fun c => [c])) = a :: b :: r
        rw [ih]; rfl
  rw [List.map_map]
  exact e cs
theorem strsOf_one : ∀ cs : List Nat, strsOf (cs.map fun c => D.str ⟨#[c]⟩) = some (cs.map fun c => (⟨#[c]⟩ : Str)) := fun cs => by
  have := strsOf_map (cs.map fun c => (⟨#[c]⟩ : Str))
  rw [List.map_map] at this
  exact this
theorem sum_ones : ∀ cs : List Nat, ((cs.map fun c => (⟨#[c]⟩ : Str)).map (·.length)).sum = cs.length := fun cs => by
  induction cs with
  | nil => rfl
  | cons a r ih =>
    rw [List.map_cons, List.map_cons, List.sum_cons, ih]
    show 1 + r.length = r.length + 1
    omega
theorem inS_len1 (c : Nat) : inS ⟨#[c]⟩ kwS = false := by
  unfold inS
  rw [List.any_eq_false]
  intro k hk
  have hl : ∀ k ∈ kwS, k.length ≠ 1 := by decide +kernel
  have := hl k hk
  simp only [decide_eq_true_eq]
  intro e
  rw [e] at this
  exact this rfl
theorem okD_low {z : Str} (h : lowS z = true) : okD (.str z) = true := by
  have : z.cps.all (· < 0x110000) = true := by
    rw [Array.all_eq_true_iff_forall_mem]
    intro c hc
    have h2 := List.all_eq_true.mp h c (Array.mem_toList_iff.mpr hc)
    simp at h2
    simp
    omega
  simp [okD, pureD, pyD, SeqAt.shaped, PyData.canLay0, PyData.depth, PyData.strOk, this]
theorem pure_l_word : ∀ ds P, A_l_word ds P → a_l_word { nx := fun _ => P .non, rt := P } (startG 5 ds) := by
  rintro ds P ⟨m, rfl, hm, hm2, hP⟩
  have hfl : c_KEYWORDS.all flD = true := all_fl kwS
  have hmem : ∀ z, ((c_KEYWORDS.any fun d => eqD d (.str z)) = inS z kwS) := fun z => any_strs z kwS
  simp only [a_l_word, aSeq, aAsg, aC, gmN, aMs, aCons, aNil, aL, aRet, startG_2, List.replicate, List.set_cons_succ, List.set_cons_zero, aLc, aRng1, aOp, aCall, aVar, List.getElem?_cons_succ, List.getElem?_cons_zero, List.append_nil]
  refine A_pull_go (by omega) (by omega) fun k k0 k1 => ?_
  simp only [wAdd]
  refine ⟨by omega, ?_, ?_⟩
  · simp
    omega
  -- the signs
  refine goA_all (fun _ y => ∃ c, y = .str ⟨#[c]⟩ ∧ 97 ≤ c ∧ c ≤ 122) (fun d _ acc kk hk => ?_) fun ys hl hy => ?_
  · simp only [wipeG, List.set_cons_succ, List.set_cons_zero, aYes, if_true]
    refine A_pull_go (by omega) (by omega) fun j j0 j1 => ?_
    simp only [wIx]
    refine ⟨by decide, ?_⟩
    obtain ⟨n, rfl⟩ := Int.eq_ofNat_of_zero_le j0
    have hn : n < 26 := by omega
    have e : atI smallS.cps.toList (n : Int) = some (97 + n) := by
      refine atI_nat ?_
      rw [small_codes, List.getElem?_range' hn]
      simp
    rw [e]
    exact hk _ ⟨97 + n, rfl, by omega, by omega⟩
  · -- the text of these
    have hcs : ∃ cs : List Nat, ys = cs.map (fun c => D.str ⟨#[c]⟩) ∧ ∀ c ∈ cs, 97 ≤ c ∧ c ≤ 122 := by
      clear hl
      induction ys with
      | nil => exact ⟨[], rfl, by simp⟩
      | cons y ys ih =>
        obtain ⟨cs, e1, e2⟩ := ih fun z hz => hy z (by simp [hz])
        obtain ⟨_, _, c, e3, e4⟩ := hy y (by simp)
        exact ⟨c :: cs, by rw [e1, e3]; rfl, fun x hx => by
          rcases List.mem_cons.mp hx with e | e
          · rw [e]; exact e4
          · exact e2 x e⟩
    obtain ⟨cs, rfl, hb⟩ := hcs
    have hlen : cs.length = (1 + k).toNat := by simpa using hl
    rw [List.nil_append]
    simp only [wJoin, strsOf_one, sum_ones, join1]
    have h0 : (Str.ofString "").length = 0 := by decide
    refine ⟨by rw [h0, List.length_map]; omega, ?_⟩
    have hlow : lowS ⟨cs.toArray⟩ = true := by
      unfold lowS
      rw [List.all_eq_true]
      intro c hc
      have := hb c (by simpa using hc)
      simp
      omega
    have hzl : (⟨cs.toArray⟩ : Str).length = cs.length := by show cs.toArray.size = _; simp
    have hne : cs ≠ [] := by
      intro e
      rw [e] at hlen
      simp at hlen
      omega
    simp only [aIf, aB, aOp, aVar, aSl, aNoPart, aPart, aC, aCall, aNil, List.append_nil, A_l_keywords_0, List.getElem?_cons_succ, List.getElem?_cons_zero, List.set_cons_succ, List.set_cons_zero, wIn, memD, flD, hfl, hmem, Bool.true_and, Bool.true_or, true_and, wSl]
    cases hk : inS ⟨cs.toArray⟩ kwS with
    | false =>
      simp only [Bool.false_eq_true, if_false]
      refine hP _ hlow ?_ ?_ hk
      · rw [hzl]; omega
      · rw [hzl]; omega
    | true =>
      simp only [if_true]
      refine ⟨by rw [hzl]; omega, ?_⟩
      obtain ⟨c, r, rfl⟩ := List.exists_cons_of_ne_nil hne
      have ec : cutS ⟨(c :: r).toArray⟩ none (some 1) = ⟨#[c]⟩ := by
        unfold cutS
        rw [hzl]
        have h1 : HT.sIx (r.length + 1) 0 none = 0 := rfl
        have h2 : HT.sIx (r.length + 1) (r.length + 1) (some 1) = 1 := by
          rw [show (1 : Int) = ((1 : Nat) : Int) from rfl, HT.sIx_nat]
          omega
        rw [List.length_cons, h1, h2]
        simp
      rw [ec]
      have hc := hb c (by simp)
      refine hP _ ?_ ?_ ?_ (inS_len1 c)
      · simp [lowS]; omega
      · show (1 : Int) ≤ ((1 : Nat) : Int); omega
      · show ((1 : Nat) : Int) ≤ m; omega
theorem len_l_constant : ∀ ds P, A_l_constant ds P → ds.length = 1 := by rintro ds P ⟨rfl, _⟩; rfl
theorem pure_l_constant : ∀ ds P, A_l_constant ds P → a_l_constant { nx := fun _ => P .non, rt := P } (startG 1 ds) := by
  rintro ds P ⟨rfl, hP⟩
  simp only [a_l_constant, aRet, aCall, aCons, aVar, aC, aNil, aL, aLstL, aOp, wPow, wInt, startG_1, List.getElem?_cons_zero, List.append_nil]
  refine A_pull_go (by omega) (by omega) fun k k0 k1 => ⟨⟨by decide, by decide, by decide⟩, ?_⟩
  refine A_pull_go (by decide) (by decide) fun j j0 j1 => ⟨by simp, ?_⟩
  have j1 : j < 1000000 := j1
  refine A_pick_go (by simp) (by simp) fun d hd => ?_
  simp at hd
  rcases hd with rfl | rfl | rfl | rfl | rfl | rfl | rfl <;> exact hP _ (by omega) (by omega)
end Ad
namespace Ad
open PySem L2
local macro_rules | `(tactic| walk_at "ad") => `(tactic| simp only [aSeq, aIfS, aRet, aRetN, aNext, aAsg, aDrop, aCall, aCons, aNil, aVar, aC, aOp, aUn, aTup, aLstL, aL, aB, aAnd, aOr, aNot, aV, aIf, aAndV, aOrV, aCB, aMs, aMl, gmN, aPar,
  List.getElem?_cons_zero, List.getElem?_cons_succ, List.set_cons_succ, List.set_cons_zero, List.append_nil, List.replicate, startG_0, startG_1, startG_2, startG_3, if_true, A_l_signs_0, A_l_keywords_0])
/-! ### names and trees -/
theorem word_codes {z sg : Str} {m : Int} (h : wordM z sg m = true) : (z.length : Int) ≤ m ∧ ∀ c ∈ z.cps.toList, c ∈ sg.cps.toList := by
  simp only [wordM, Bool.and_eq_true, decide_eq_true_eq, List.all_eq_true] at h
  refine ⟨h.1.1.2, fun c hc => ?_⟩
  have := h.2 c hc
  rw [sub1] at this
  exact of_decide_eq_true this
theorem name_str {x : D} (h : nameM x = true) : ∃ z, x = .str z ∧ z.length ≤ 4 ∧ PyData.strOk z = true := by
  cases x with
  | str z =>
    have h' : wordM z smallS 4 = true ∨ wordM z greatS 4 = true := by simpa [nameM, ownM, sharedM, wordD] using h
    have key : ∀ c, c ∈ smallS.cps.toList ∨ c ∈ greatS.cps.toList → c < 0x110000 := fun c hc => by
      rw [small_codes, great_codes] at hc
      rcases hc with hc | hc <;> (have := List.mem_range'_1.mp hc; omega)
    rcases h' with h' | h'
    · obtain ⟨h1, h2⟩ := word_codes h'
      refine ⟨z, rfl, by omega, ?_⟩
      rw [PyData.strOk, Array.all_eq_true_iff_forall_mem]
      intro c hc
      exact decide_eq_true (key c (.inl (h2 c (Array.mem_toList_iff.mpr hc))))
    · obtain ⟨h1, h2⟩ := word_codes h'
      refine ⟨z, rfl, by omega, ?_⟩
      rw [PyData.strOk, Array.all_eq_true_iff_forall_mem]
      intro c hc
      exact decide_eq_true (key c (.inr (h2 c (Array.mem_toList_iff.mpr hc))))
  | _ => simp [nameM, ownM, sharedM, wordD] at h
theorem ok_strs : ∀ {xs : List D}, (∀ x ∈ xs, ∃ z, x = .str z ∧ PyData.strOk z = true) → pureA xs = true ∧ PyData.canLayAll0 (pyA xs) = true ∧ PyData.depthAll (pyA xs) = 0
  | [], _ => ⟨rfl, rfl, rfl⟩
  | x :: xs, h => by
    obtain ⟨a, b, c⟩ := ok_strs (xs := xs) fun y hy => h y (by simp [hy])
    obtain ⟨z, rfl, hz⟩ := h x (by simp)
    refine ⟨by simp [pureA, pureD, a], by simp [pyA, pyD, PyData.canLayAll0, PyData.canLay0, hz, b], by simp [pyA, pyD, PyData.depthAll, PyData.depth, c]⟩
theorem okD_strs {xs : List D} (h : ∀ x ∈ xs, ∃ z, x = .str z ∧ PyData.strOk z = true) : okD (.lst xs) = true := by
  obtain ⟨a, b, c⟩ := ok_strs h
  simp [okD, pureD, a, pyD, SeqAt.shaped, PyData.canLay0, b, PyData.depth, c]
theorem len_l_expr : ∀ ds P, A_l_expr ds P → ds.length = 3 := by rintro ds P ⟨xs, rfl, _⟩; rfl
theorem leaf_num {k : Int} (h0 : 0 ≤ k) (h1 : k ≤ 999999) : leafM (.tup [.str "num", .int k]) = true := by simp [leafM, rngM, h0, h1]
theorem leaf_name {x : D} (h : nameM x = true) : leafM (.tup [.str "name", x]) = true := by simp [leafM, h]
theorem tyd_num {k : Int} : tyd (.tup [.str "num", .int k]) = true := by
  have : (Str.ofString "num").length ≤ 100000 := by decide +kernel
  simp [tyd, tydA, this]
theorem tyd_name {x : D} (h : tyd x = true) : tyd (.tup [.str "name", x]) = true := by
  have : (Str.ofString "name").length ≤ 100000 := by decide +kernel
  simp [tyd, tydA, h, this]
theorem pure_l_expr (A : List D → (D → Prop) → Prop) : ∀ ds P, A_l_expr ds P → a_l_expr A { nx := fun _ => P .non, rt := P } (startG 6 ds) := by
  rintro ds P ⟨xs, rfl, hne, hlen, hxs, hP⟩
  have hok : okD (.lst xs) = true := okD_strs fun x hx => by
    obtain ⟨z, e, _, h2⟩ := name_str (hxs x hx).1
    exact ⟨z, e, h2⟩
  have hok0 : okD (.lst []) = true := by decide
  have hempty : eqD (.lst xs) (.lst []) = false := by
    cases xs with
    | nil => exact absurd rfl hne
    | cons x xs => rfl
  simp only [a_l_expr, aSeq, aAsg, aCall, aCons, aVar, aC, aNil, gmN, startG_3, List.getElem?_cons_zero, List.append_nil, List.replicate, List.set_cons_succ, List.set_cons_zero]
  refine A_pull_go (by omega) (by omega) fun k k0 k1 => ?_
  simp
  have num : A_l_constant [.hdl 0] fun x => P (.tup [.str "num", x]) := ⟨rfl, fun k h0 h1 => hP _ (leaf_num h0 h1) tyd_num⟩
  by_cases he : k.fmod 2 = 0
  · simp [he, wNe, hok, hok0, hempty]
    refine A_pick_go hne hlen fun x hx => hP _ (leaf_name (hxs x hx).1) (tyd_name (hxs x hx).2)
  · simp [he]
    exact num
theorem ty_of_leaf {t : D} (h : Ch 1 t) : True := trivial
theorem tyd_not {t : D} (h : tyd t = true) : tyd (.tup [.str "not", t]) = true := by
  have : (Str.ofString "not").length ≤ 100000 := by decide +kernel
  simp [tyd, tydA, h, this]
theorem tyd_op {s a b : D} (h : tyd s = true) (h1 : tyd a = true) (h2 : tyd b = true) : tyd (.tup [.str "op", s, a, b]) = true := by
  have : (Str.ofString "op").length ≤ 100000 := by decide +kernel
  simp [tyd, tydA, h, h1, h2, this]
theorem Ch.ty {n : Nat} {t : D} (h : Ch n t) : tyd t = true := by
  induction h with
  | leaf _ h => exact h
  | neg _ ih => exact tyd_not ih
  | one _ hs _ _ ho ih => exact tyd_op hs ih ho
  | two _ hs _ _ ho ih => exact tyd_op hs ho ih
theorem Ch.pos {n : Nat} {t : D} (h : Ch n t) : 1 ≤ n := by cases h <;> omega
theorem sg_mem {s : D} (h : s ∈ c_SIGNS) : sgM s = true ∧ tyd s = true := by
  have : ∀ s ∈ c_SIGNS, sgM s = true ∧ tyd s = true := by
    intro s hs
    obtain ⟨z, hz, rfl⟩ := List.mem_map.mp hs
    have : ∀ z ∈ sgS, inS z sgS = true ∧ z.length ≤ 100000 := by decide +kernel
    obtain ⟨a, b⟩ := this z hz
    exact ⟨a, by simp [tyd, b]⟩
  exact this s h
theorem A_expr_go {xs : List D} {P : D → Prop} (h : xs ≠ []) (h1 : xs.length < 1000000) (h2 : ∀ x ∈ xs, nameM x = true ∧ tyd x = true) (hP : ∀ t, leafM t = true → tyd t = true → P t) : A_l_expr [.hdl 0, .lst xs, .int 1] P := ⟨xs, rfl, h, h1, h2, hP⟩
theorem len_l_chain_of : ∀ ds P, A_l_chain_of ds P → ds.length = 3 := by rintro ds P ⟨n, xs, rfl, _⟩; rfl
theorem pure_l_chain_of : ∀ ds P, A_l_chain_of ds P → a_l_chain_of { nx := fun _ => P .non, rt := P } (startG 8 ds) := by
  rintro ds P ⟨n, xs, rfl, hn1, hn7, hne, hlen, hxs, hP⟩
  simp only [a_l_chain_of, aSeq, aAsg, aCall, aCons, aVar, aC, aNil, gmN, startG_3, List.getElem?_cons_zero, List.getElem?_cons_succ, List.append_nil, List.replicate, List.set_cons_succ, List.set_cons_zero]
  refine A_expr_go hne hlen hxs fun t ht htt => ?_
  simp only [aFor, aRng1, aOp, aVar, aC, aCons, aNil, wSub, wInt0, List.getElem?_cons_succ, List.getElem?_cons_zero]
  refine ⟨by omega, fun i Γ => ∃ t g4 g5 g6 g7, Ch (i + 1) t ∧ Γ = [.dat (.hdl 0), .dat (.int n), .dat (.lst xs), .dat t, g4, g5, g6, g7], ⟨t, .no, .no, .no, .no, .leaf ht htt, rfl⟩, ?_, ?_⟩
  · rintro i d Γ hd ⟨t, g4, g5, g6, g7, hc, rfl⟩
    walk_at "ad"
    refine A_pull_go (by omega) (by omega) fun k k0 k1 => ?_
    refine A_expr_go hne hlen hxs fun o ho hot => ?_
    refine A_pick_go (by decide) (by decide) fun s hs => ?_
    obtain ⟨s1, s2⟩ := sg_mem hs
    have hk : k = 0 ∨ k = 1 ∨ k = 2 := by omega
    rcases hk with rfl | rfl | rfl
    · simp [wIx]
      exact .neg hc
    · simp [wIx]
      exact .one s1 s2 hc ho hot
    · simp [wIx]
      exact .two s1 s2 hc ho hot
  · rintro Γ ⟨t, g4, g5, g6, g7, hc, rfl⟩
    simp only [aRet, aVar, List.getElem?_cons_succ, List.getElem?_cons_zero]
    refine hP t ?_
    have e : ((List.range ((n : Int) - 1).toNat).map fun (i : Nat) => D.int (i : Int)).length + 1 = n := by
      rw [List.length_map, List.length_range]
      omega
    rw [e] at hc
    exact hc
theorem len_l_odd : ∀ ds P, A_l_odd ds P → ds.length = 1 := by rintro ds P ⟨rfl, _⟩; rfl
theorem pure_l_odd : ∀ ds P, A_l_odd ds P → a_l_odd { nx := fun _ => P .non, rt := P } (startG 1 ds) := by
  rintro ds P ⟨rfl, hP⟩
  simp only [a_l_odd]
  walk_at "ad"
  refine ⟨⟨by decide, by decide, by decide⟩, ?_⟩
  refine ⟨by simp, ?_⟩
  refine ⟨by simp, ?_⟩
  refine ⟨by simp, ?_⟩
  refine ⟨by simp, ?_⟩
  refine ⟨by simp, ?_⟩
  exact A_pick_go (by simp) (by simp) fun d hd => hP d hd
end Ad
namespace Ad
open PySem L2
local macro_rules | `(tactic| walk_at "ad") => `(tactic| simp only [aSeq, aIfS, aRet, aRetN, aNext, aAsg, aDrop, aCall, aCons, aNil, aVar, aC, aOp, aUn, aTup, aLstL, aL, aB, aAnd, aOr, aNot, aV, aIf, aAndV, aOrV, aCB, aMs, aMl, gmN, aPar,
  List.getElem?_cons_zero, List.getElem?_cons_succ, List.set_cons_succ, List.set_cons_zero, List.append_nil, List.replicate, startG_0, startG_1, startG_2, startG_3, if_true, A_l_signs_0, A_l_keywords_0])
/-! ### what is bent is no expression -/
theorem bad_not {d : D} (h : Bad d) : Bad (.tup [.str "not", d]) := by
  refine ⟨tyd_not h.1, fun n => ?_⟩
  cases n with
  | zero => rfl
  | succ n => simp [fitsM, h.2 n]
theorem bad_op2 {s d e : D} (hs : tyd s = true) (h : Bad d) (he : tyd e = true) : Bad (.tup [.str "op", s, d, e]) := by
  refine ⟨tyd_op hs h.1 he, fun n => ?_⟩
  cases n with
  | zero => rfl
  | succ n => simp [fitsM, h.2 n]
theorem bad_op3 {s d e : D} (hs : tyd s = true) (h : tyd d = true) (he : Bad e) : Bad (.tup [.str "op", s, d, e]) := by
  refine ⟨tyd_op hs h he.1, fun n => ?_⟩
  cases n with
  | zero => rfl
  | succ n => simp [fitsM, he.2 n]
theorem bad_sg {s d e : D} (hs : tyd s = true) (h0 : sgM s = false) (h : tyd d = true) (he : tyd e = true) : Bad (.tup [.str "op", s, d, e]) := by
  refine ⟨tyd_op hs h he, fun n => ?_⟩
  cases n with
  | zero => rfl
  | succ n => simp [fitsM, h0]
theorem bad_lst {xs : List D} (h : tyd (.lst xs) = true) : Bad (.lst xs) := ⟨h, fun n => by cases n <;> rfl⟩
theorem bad_len {xs : List D} (h : tyd (.tup xs) = true) (h2 : xs.length ≠ 2) (h4 : xs.length ≠ 4) : Bad (.tup xs) := by
  refine ⟨h, fun n => ?_⟩
  cases n with
  | zero => rfl
  | succ n =>
    match xs, h2, h4 with
    | [], _, _ => rfl
    | [a], _, _ => cases a <;> rfl
    | [a, b], h2, _ => exact absurd rfl h2
    | [a, b, c], _, _ => cases a <;> rfl
    | [a, b, c, d], _, h4 => exact absurd rfl h4
    | a :: b :: c :: d :: e :: r, _, _ => cases a <;> rfl
theorem odd_bad : ∀ d ∈ odds, Bad d ∧ rngM d = false ∧ nameM d = false := by
  have hw : ∀ z : Str, inS z ["", "abcde", "Ab", "if", "mod", "a1"] = true → wordM z smallS 4 = false ∧ wordM z greatS 4 = false := by
    intro z hz
    have : ∀ z ∈ (["", "abcde", "Ab", "if", "mod", "a1"] : List Str), ((z.length : Int) < 1 ∨ (z.length : Int) > 4 ∨ inS z kwS = true ∨ (z.cps.toList.any fun c => !decide (c ∈ smallS.cps.toList)) = true) ∧ ((z.length : Int) < 1 ∨ (z.length : Int) > 4 ∨ inS z kwS = true ∨ (z.cps.toList.any fun c => !decide (c ∈ greatS.cps.toList)) = true) := by decide +kernel
    have hm : z ∈ (["", "abcde", "Ab", "if", "mod", "a1"] : List Str) := by
      obtain ⟨k, hk, e⟩ := List.any_eq_true.mp hz
      rw [← of_decide_eq_true e]
      exact hk
    have key : ∀ sg : Str, ((z.length : Int) < 1 ∨ (z.length : Int) > 4 ∨ inS z kwS = true ∨ (z.cps.toList.any fun c => !decide (c ∈ sg.cps.toList)) = true) → wordM z sg 4 = false := by
      intro sg h
      unfold wordM
      rcases h with h | h | h | h
      · have : ¬ 1 ≤ (z.length : Int) := by omega
        simp [this]
      · have : ¬ (z.length : Int) ≤ 4 := by omega
        simp [this]
      · simp [h]
      · have : (z.cps.toList.all fun c => subS ⟨#[c]⟩ sg) = false := by
          rw [List.all_eq_false]
          obtain ⟨c, hc, e⟩ := List.any_eq_true.mp h
          refine ⟨c, hc, ?_⟩
          rw [sub1]
          simpa using e
        simp [this]
    obtain ⟨h1, h2⟩ := this z hm
    exact ⟨key _ h1, key _ h2⟩
  have str : ∀ z : Str, inS z ["", "abcde", "Ab", "if", "mod", "a1"] = true → Bad (.str z) ∧ rngM (.str z) = false ∧ nameM (.str z) = false := fun z hz => by
    obtain ⟨h1, h2⟩ := hw z hz
    have hl : ∀ z ∈ (["", "abcde", "Ab", "if", "mod", "a1"] : List Str), z.length ≤ 100000 := by decide +kernel
    have hm : z ∈ (["", "abcde", "Ab", "if", "mod", "a1"] : List Str) := by
      obtain ⟨k, hk, e⟩ := List.any_eq_true.mp hz
      rw [← of_decide_eq_true e]
      exact hk
    refine ⟨⟨by simp [tyd, hl z hm], fun n => by cases n <;> rfl⟩, rfl, ?_⟩
    simp [nameM, ownM, sharedM, wordD, h1, h2]
  intro d hd
  have int : ∀ i : Int, rngM (.int i) = false → Bad (.int i) ∧ rngM (.int i) = false ∧ nameM (.int i) = false := fun i h => ⟨⟨rfl, fun n => by cases n <;> rfl⟩, h, rfl⟩
  simp only [odds, List.mem_cons, List.not_mem_nil, or_false] at hd
  rcases hd with rfl | rfl | rfl | rfl | rfl | rfl | rfl | rfl | rfl | rfl | rfl | rfl | rfl | rfl
  · exact ⟨⟨rfl, fun n => by cases n <;> rfl⟩, rfl, rfl⟩
  · exact ⟨⟨rfl, fun n => by cases n <;> rfl⟩, rfl, rfl⟩
  · exact int _ (by decide)
  · exact int _ (by decide)
  · exact int _ (by decide +kernel)
  · exact str _ (by decide +kernel)
  · exact str _ (by decide +kernel)
  · exact str _ (by decide +kernel)
  · exact str _ (by decide +kernel)
  · exact str _ (by decide +kernel)
  · exact str _ (by decide +kernel)
  · exact ⟨bad_lst rfl, rfl, rfl⟩
  · exact ⟨bad_lst (by decide +kernel), rfl, rfl⟩
  · exact ⟨bad_len rfl (by decide) (by decide), rfl, rfl⟩
theorem A_odd_go {P : D → Prop} (h : ∀ d, Bad d → rngM d = false → nameM d = false → P d) : A_l_odd [.hdl 0] P := ⟨rfl, fun d hd => by
  obtain ⟨a, b, c⟩ := odd_bad d hd
  exact h d a b c⟩
theorem bad_num {d : D} (h : tyd d = true) (h1 : rngM d = false) : Bad (.tup [.str "num", d]) := by
  have : (Str.ofString "num").length ≤ 100000 := by decide +kernel
  refine ⟨by simp [tyd, tydA, h, this], fun n => ?_⟩
  cases n with
  | zero => rfl
  | succ n => simp [fitsM, h1]
theorem bad_name {d : D} (h : tyd d = true) (h1 : nameM d = false) : Bad (.tup [.str "name", d]) := by
  have : (Str.ofString "name").length ≤ 100000 := by decide +kernel
  refine ⟨by simp [tyd, tydA, h, this], fun n => ?_⟩
  have h1' : ownM d = false ∧ sharedM d = false := by simpa [nameM] using h1
  cases n with
  | zero => rfl
  | succ n => simp [fitsM, h1'.1, h1'.2]
theorem bad_nam : Bad (.tup [.str "nam", .int 1]) := by
  refine ⟨by decide +kernel, fun n => ?_⟩
  cases n with
  | zero => rfl
  | succ n => simp [fitsM]
theorem len_l_bent (n : Nat) : ∀ ds P, A_l_bent n ds P → ds.length = 2 := by rintro ds P ⟨m, t, rfl, _⟩; rfl
/-- an op's parts -/
theorem op_parts {m : Nat} {xs : List D} (h : Ch m (.tup (.str "op" :: xs))) : ∃ s c e i j, xs = [s, c, e] ∧ sgM s = true ∧ tyd s = true ∧ Ch i c ∧ Ch j e ∧ i < m ∧ j < m := by
  cases h with
  | leaf hl _ =>
    exfalso
    match xs, hl with
    | [], hl => simp [leafM] at hl
    | [a], hl => simp [leafM] at hl
    | a :: b :: r, hl => simp [leafM] at hl
  | one hs hst ht ho hot =>
    have := ht.pos
    exact ⟨_, _, _, _, 1, rfl, hs, hst, ht, .leaf ho hot, by omega, by omega⟩
  | two hs hst ht ho hot =>
    have := ht.pos
    exact ⟨_, _, _, 1, _, rfl, hs, hst, .leaf ho hot, ht, by omega, by omega⟩
theorem tyd_take {w x : D} {r : List D} (h : tyd (.tup (w :: x :: r)) = true) : True := trivial
theorem tydA_app : ∀ {xs ys : List D}, tydA xs = true → tydA ys = true → tydA (xs ++ ys) = true
  | [], _, _, h => h
  | x :: xs, ys, h, h2 => by
    have h' : tyd x = true ∧ tydA xs = true := by simpa [tydA] using h
    simp [tydA, h'.1, tydA_app h'.2 h2]
theorem leaf_cases {t : D} (h : leafM t = true) : (∃ x, t = .tup [.str "num", x] ∧ rngM x = true) ∨ ∃ x, t = .tup [.str "name", x] ∧ nameM x = true := by
  cases t with
  | tup xs =>
    match xs, h with
    | [.str w, x], h =>
      have h' : (w = "num" ∧ rngM x = true) ∨ (w = "name" ∧ nameM x = true) := by simpa [leafM] using h
      rcases h' with ⟨rfl, h2⟩ | ⟨rfl, h2⟩
      · exact .inl ⟨x, rfl, h2⟩
      · exact .inr ⟨x, rfl, h2⟩
    | [], h => simp [leafM] at h
    | [_], h => simp [leafM] at h
    | _ :: _ :: _ :: _, h => simp [leafM] at h
    | [.non, _], h => simp [leafM] at h
    | [.bl _, _], h => simp [leafM] at h
    | [.int _, _], h => simp [leafM] at h
    | [.ty _, _], h => simp [leafM] at h
    | [.lst _, _], h => simp [leafM] at h
    | [.tup _, _], h => simp [leafM] at h
    | [.obj _ _ _, _], h => simp [leafM] at h
    | [.hdl _, _], h => simp [leafM] at h
    | [.cls _, _], h => simp [leafM] at h
  | _ => simp [leafM] at h
theorem bent_op (n : Nat) {m i j : Nat} {s c e : D} {P : D → Prop} (hm : m ≤ n) (hs : sgM s = true) (hst : tyd s = true) (hc : Ch i c) (he : Ch j e) (hi : i ≤ m) (hj : j ≤ m) (hP : ∀ d, Bad d → P d) :
    a_l_bent (A_l_bent n) { nx := fun _ => P .non, rt := P } (startG 4 [.hdl 0, .tup [.str "op", s, c, e]]) := by
  have hct := hc.ty
  have het := he.ty
  have hop : (Str.ofString "op").length ≤ 100000 := by decide +kernel
  simp only [a_l_bent]
  walk_at "ad"
  refine A_pull_go (by omega) (by omega) fun k k0 k1 => ?_
  simp
  by_cases hk : 0 < k
  · rw [if_pos hk]
    have ec : cutD [D.str (Str.ofString "op"), s, c, e] none (some 2) = [D.str (Str.ofString "op"), s] := rfl
    rw [ec]
    simp
    by_cases h1 : k.fmod 2 = 1
    · rw [if_pos h1]
      exact ⟨i, c, rfl, hc, by omega, fun d hd => hP _ (bad_op2 hst hd het)⟩
    · rw [if_neg h1]
      exact ⟨j, e, rfl, he, by omega, fun d hd => hP _ (bad_op3 hst hct hd)⟩
  · rw [if_neg hk]
    refine A_odd_go fun d hd h1 h2 => ⟨⟨by simp [flD], by simp [flD], by simp [flD]⟩, ?_⟩
    refine A_pick_go (by simp) (by simp) fun g hg => ?_
    have ec : cutD [D.str (Str.ofString "op"), s, c, e] none (some 3) = [D.str (Str.ofString "op"), s, c] := rfl
    rw [ec]
    refine A_pick_go (by simp) (by simp) fun y hy => hP y ?_
    simp at hy hg
    have hs0 : ∀ z : Str, inS z ["", ">"] = true → sgM (.str z) = false ∧ tyd (.str z) = true := by
      intro z hz
      have : ∀ z ∈ (["", ">"] : List Str), inS z sgS = false ∧ z.length ≤ 100000 := by decide +kernel
      obtain ⟨k, hk, e⟩ := List.any_eq_true.mp hz
      have e2 := of_decide_eq_true e
      subst e2
      obtain ⟨a, b⟩ := this k hk
      exact ⟨a, by simp [tyd, b]⟩
    rcases hy with rfl | rfl | rfl | rfl | rfl | rfl | rfl
    · exact bad_len (by simp [tyd, tydA, hop, hst, hct]) (by simp) (by simp)
    · exact bad_len (by simp [tyd, tydA, hop, hst, hct, het]) (by simp) (by simp)
    · obtain ⟨a, b⟩ := hs0 (Str.ofString "") (by decide +kernel)
      exact bad_sg b a hct het
    · obtain ⟨a, b⟩ := hs0 (Str.ofString ">") (by decide +kernel)
      exact bad_sg b a hct het
    · rcases hg with rfl | rfl | rfl
      · exact bad_sg rfl rfl hct het
      · exact bad_sg (by decide +kernel) rfl hct het
      · exact bad_sg (by decide +kernel) rfl hct het
    · exact bad_op2 hst hd het
    · exact bad_lst (by simp [tyd, tydA, hop, hst, hct, het])
theorem pure_l_bent (n : Nat) : ∀ ds P, A_l_bent (n + 1) ds P → a_l_bent (A_l_bent n) { nx := fun _ => P .non, rt := P } (startG 4 ds) := by
  rintro ds P ⟨m, t, rfl, hc, hm, hP⟩
  have ht := hc.ty
  cases hc with
  | leaf hl _ =>
    simp only [a_l_bent]
    walk_at "ad"
    refine A_pull_go (by omega) (by omega) fun k k0 k1 => ?_
    rcases leaf_cases hl with ⟨x, rfl, hx⟩ | ⟨x, rfl, hx⟩
    · have hx2 : tyd (Str.ofString "num" |> D.str) = true ∧ tyd x = true := by simpa [tyd, tydA] using ht
      simp
      refine A_odd_go fun d hd h1 h2 => ⟨⟨by simp [flD], by simp [flD]⟩, A_pick_go (by simp) (by simp) fun y hy => hP y ?_⟩
      simp at hy
      rcases hy with rfl | rfl | rfl | rfl | rfl | rfl
      · exact bad_num hd.1 h1
      · exact bad_len (by simp [tyd, tydA]; exact ⟨by simpa [tyd] using hx2.1, hx2.2⟩) (by simp) (by simp)
      · exact bad_len (xs := [.str "num"]) (by simp [tyd, tydA]; simpa [tyd] using hx2.1) (by simp) (by simp)
      · exact bad_lst (by simpa [tyd] using ht)
      · exact hd
      · exact bad_nam
    · have hx2 : tyd (Str.ofString "name" |> D.str) = true ∧ tyd x = true := by simpa [tyd, tydA] using ht
      simp
      refine A_odd_go fun d hd h1 h2 => ⟨⟨by simp [flD], by simp [flD]⟩, A_pick_go (by simp) (by simp) fun y hy => hP y ?_⟩
      simp at hy
      rcases hy with rfl | rfl | rfl | rfl | rfl | rfl
      · exact bad_name hd.1 h2
      · exact bad_len (by simp [tyd, tydA]; exact ⟨by simpa [tyd] using hx2.1, hx2.2⟩) (by simp) (by simp)
      · exact bad_len (xs := [.str "name"]) (by simp [tyd, tydA]; simpa [tyd] using hx2.1) (by simp) (by simp)
      · exact bad_lst (by simpa [tyd] using ht)
      · exact hd
      · exact bad_nam
  | @neg m' t' hc =>
    have hx2 : tyd (Str.ofString "not" |> D.str) = true ∧ tyd t' = true := by simpa [tyd, tydA] using ht
    simp only [a_l_bent]
    walk_at "ad"
    refine A_pull_go (by omega) (by omega) fun k k0 k1 => ?_
    simp
    by_cases hk : 0 < k
    · rw [if_pos hk]
      exact ⟨m', t', rfl, hc, by omega, fun d hd => hP _ (bad_not hd)⟩
    · rw [if_neg hk]
      refine A_odd_go fun d hd h1 h2 => ⟨⟨by simp [flD], by simp [flD], by simp [flD]⟩, A_pick_go (by simp) (by simp) fun y hy => hP y ?_⟩
      simp at hy
      rcases hy with rfl | rfl | rfl | rfl
      · exact bad_len (by simp [tyd, tydA]; simpa [tyd] using hx2.1) (by simp) (by simp)
      · exact bad_len (by simp [tyd, tydA]; exact ⟨by simpa [tyd] using hx2.1, hx2.2⟩) (by simp) (by simp)
      · exact bad_not hd
      · exact bad_lst (by simpa [tyd] using ht)
  | @one m' s c e hs hst hc ho hot => exact bent_op n (by omega : m' ≤ n) hs hst hc (.leaf ho hot) (Nat.le_refl _) hc.pos hP
  | @two m' s c e hs hst hc ho hot => exact bent_op n (by omega : m' ≤ n) hs hst (.leaf ho hot) hc hc.pos (Nat.le_refl _) hP
end Ad
namespace Ad
open PySem L2
local macro_rules | `(tactic| walk_at "ad") => `(tactic| simp only [aSeq, aIfS, aRet, aRetN, aNext, aAsg, aDrop, aCall, aCons, aNil, aVar, aC, aOp, aUn, aTup, aLstL, aL, aB, aAnd, aOr, aNot, aV, aIf, aAndV, aOrV, aCB, aMs, aMl, gmN, aPar,
  List.getElem?_cons_zero, List.getElem?_cons_succ, List.set_cons_succ, List.set_cons_zero, List.append_nil, List.replicate, startG_0, startG_1, startG_2, startG_3, if_true, A_l_signs_0, A_l_keywords_0])
theorem zero_fits : ∀ ds P, ¬ A_fits 0 ds P := by
  rintro ds P ⟨v, d, _, h, _⟩
  omega
theorem dpt_pos : ∀ x, 1 ≤ dpt x := by intro x; cases x <;> simp [dpt]
theorem zero_l_same : ∀ ds P, ¬ A_l_same 0 ds P := by
  rintro ds P ⟨x, y, _, _, _, h, _⟩
  have := dpt_pos y
  omega
theorem zero_l_bent : ∀ ds P, ¬ A_l_bent 0 ds P := by
  rintro ds P ⟨m, t, _, h, h2, _⟩
  have := h.pos
  omega
theorem leaf_fits {t : D} (hl : leafM t = true) : ∀ m, fitsM m t = decide (1 ≤ m) := by
  intro m
  cases m with
  | zero => simp [fitsM]
  | succ m =>
    rcases leaf_cases hl with ⟨x, rfl, hx⟩ | ⟨x, rfl, hx⟩
    · simp [fitsM, hx]
    · have : (ownM x || sharedM x) = true := hx
      simp [fitsM, Bool.or_eq_true_iff.mp this]
/-- a chain so deep fits just where the room is as deep -/
theorem Ch.fits {n : Nat} {t : D} (h : Ch n t) : ∀ m, fitsM m t = decide (n ≤ m) := by
  induction h with
  | leaf hl ht => exact leaf_fits hl
  | neg hc ih =>
    intro m
    cases m with
    | zero => simp [fitsM]
    | succ m => simp [fitsM, ih m]
  | @one n s t o hs hst hc ho hot ih =>
    intro m
    have h0 := hc.pos
    cases m with
    | zero => simp [fitsM]
    | succ m =>
      simp [fitsM, ih m, hs, leaf_fits ho m]
      omega
  | @two n s t o hs hst hc ho hot ih =>
    intro m
    have h0 := hc.pos
    cases m with
    | zero => simp [fitsM]
    | succ m =>
      simp [fitsM, ih m, hs, leaf_fits ho m]
      omega
theorem is_expr_go {v : D} {P : D → Prop} (h : tyd v = true) (hP : P (.bl (fitsM 6 v))) : A_is_expression [v] P := ⟨v, rfl, h, hP⟩
theorem word_go {m : Int} {P : D → Prop} (h1 : 1 ≤ m) (h2 : m ≤ 100) (hP : ∀ z : Str, lowS z = true → 1 ≤ (z.length : Int) → (z.length : Int) ≤ m → inS z kwS = false → P (.str z)) : A_l_word [.hdl 0, .int m] P := ⟨m, rfl, h1, h2, hP⟩
theorem same_go {n : Nat} {x y : D} {P : D → Prop} (hx : tyd x = true) (hy : tyd y = true) (hd : dpt y ≤ n) (hP : P (.bl (sameM x y))) : A_l_same n [x, y] P := ⟨x, y, rfl, hx, hy, hd, hP⟩
theorem low_in {c : Nat} (h : 97 ≤ c) (h2 : c ≤ 122) : subS ⟨#[c]⟩ smallS = true := by
  have e : ∀ k, k < 26 → subS ⟨#[97 + k]⟩ smallS = true := by decide +kernel
  have := e (c - 97) (by omega)
  rwa [show 97 + (c - 97) = c by omega] at this
theorem up_in {c : Nat} (h : 97 ≤ c) (h2 : c ≤ 122) : subS ⟨#[PyProof.Rows.up1 c]⟩ greatS = true ∧ 65 ≤ PyProof.Rows.up1 c ∧ PyProof.Rows.up1 c ≤ 90 := by
  have e : ∀ k, k < 26 → subS ⟨#[PyProof.Rows.up1 (97 + k)]⟩ greatS = true ∧ 65 ≤ PyProof.Rows.up1 (97 + k) ∧ PyProof.Rows.up1 (97 + k) ≤ 90 := by decide +kernel
  have := e (c - 97) (by omega)
  rwa [show 97 + (c - 97) = c by omega] at this
theorem low_all {z : Str} (h : lowS z = true) : ∀ c ∈ z.cps.toList, 97 ≤ c ∧ c ≤ 122 := fun c hc => by
  have := List.all_eq_true.mp h c hc
  simpa using this
theorem name_low {z : Str} (h : lowS z = true) (h1 : 1 ≤ (z.length : Int)) (h4 : (z.length : Int) ≤ 4) (hk : inS z kwS = false) : nameM (.str z) = true ∧ tyd (.str z) = true := by
  have ha : (z.cps.toList.all fun c => subS ⟨#[c]⟩ smallS) = true := List.all_eq_true.mpr fun c hc => low_in (low_all h c hc).1 (low_all h c hc).2
  have : ownM (.str z) = true := by simp only [ownM, wordD, wordM, h1, h4, hk, ha, decide_true, Bool.not_false, Bool.and_self]
  exact ⟨by simp [nameM, this], by simp [tyd]; omega⟩
theorem upper_low {z : Str} (h : lowS z = true) : PySem.Txt.upper z = ⟨z.cps.map PyProof.Rows.up1⟩ := PyProof.Rows.upper_ascii fun c hc => by
  have := low_all h c hc
  omega
theorem name_up {z : Str} (h : lowS z = true) (h1 : 1 ≤ (z.length : Int)) (h4 : (z.length : Int) ≤ 4) : nameM (.str (PySem.Txt.upper z)) = true ∧ tyd (.str (PySem.Txt.upper z)) = true := by
  rw [upper_low h]
  have hl : (⟨z.cps.map PyProof.Rows.up1⟩ : Str).length = z.length := by simp [Str.length]
  have hm : ∀ c ∈ (z.cps.map PyProof.Rows.up1).toList, subS ⟨#[c]⟩ greatS = true ∧ 65 ≤ c ∧ c ≤ 90 := fun c hc => by
    rw [Array.toList_map] at hc
    obtain ⟨d, hd, rfl⟩ := List.mem_map.mp hc
    exact up_in (low_all h d hd).1 (low_all h d hd).2
  have ha : ((z.cps.map PyProof.Rows.up1).toList.all fun c => subS ⟨#[c]⟩ greatS) = true := List.all_eq_true.mpr fun c hc => (hm c hc).1
  have hk : inS ⟨z.cps.map PyProof.Rows.up1⟩ kwS = false := by
    cases q : inS ⟨z.cps.map PyProof.Rows.up1⟩ kwS with
    | false => rfl
    | true =>
      exfalso
      obtain ⟨k, k1, k2⟩ := List.any_eq_true.mp q
      have k2 := of_decide_eq_true k2
      have low : ∀ k ∈ kwS, ∀ c ∈ k.cps.toList, 97 ≤ c := by decide +kernel
      have lw := low k k1
      rw [k2] at lw
      cases e : z.cps.toList with
      | nil =>
        have : z.length = 0 := by
          show z.cps.size = 0
          rw [← Array.length_toList, e]
          rfl
        omega
      | cons c cs =>
        have hc : PyProof.Rows.up1 c ∈ (z.cps.map PyProof.Rows.up1).toList := by
          rw [Array.toList_map, e]
          simp
        have a := hm _ hc
        have b := lw _ hc
        omega
  have : sharedM (.str ⟨z.cps.map PyProof.Rows.up1⟩) = true := by simp only [sharedM, wordD, wordM, hl, h1, h4, hk, ha, decide_true, Bool.not_false, Bool.and_self]
  exact ⟨by simp [nameM, this], by simp [tyd, hl]; omega⟩
abbrev pickL : List D := [.tup [.str "num", .int 0], .tup [.str "num", .int 999999], .tup [.str "num", .int 1000000], .tup [.str "num", .int (-1)], .tup [.str "num", .bl false], .tup [.str "name", .str "abcde"], .tup [.str "name", .str "ABCD"], .tup [.str "name", .str "ABCDE"], .tup [.str "name", .str "not"], .tup [.str "name", .str "prin"], .tup [.str "name", .str "MOD"], .non, .int 3, .str "a", .lst [.str "num", .int 1]]
abbrev dueL : List D := [.tup [.str "num", .int 0], .tup [.str "num", .int 999999], .tup [.str "name", .str "ABCD"], .tup [.str "name", .str "prin"], .tup [.str "name", .str "MOD"]]
abbrev numF : D := .tup [.str "num", .bl false]
abbrev num0 : D := .tup [.str "num", .int 0]
def dueB (y : D) : Bool := if (dueL.any fun z => eqD z y) = true then (if (!eqD y numF) = true then true else sameM y num0) else sameM y num0
def okLast (y : D) : Bool := tyd y && (okD y && okD (.lst dueL)) && okD numF && (fitsM 6 y == dueB y)
theorem last_ok : ∀ y ∈ pickL, okLast y = true := by decide +kernel
theorem pure_law : a_law { nx := fun _ => False, rt := fun d => d = .bl true } (.no :: .dat (.hdl 0) :: List.replicate 6 .no) := by
  simp only [a_law]
  walk_at "ad"
  refine word_go (by omega) (by omega) fun z1 a1 a2 a3 a4 => ?_
  refine word_go (by omega) (by omega) fun z2 b1 b2 b3 b4 => ?_
  have n1 := name_low a1 a2 a3 a4
  have n2 := name_up b1 b2 b3
  have n3 : nameM (.str "abcd") = true ∧ tyd (.str "abcd") = true := by decide +kernel
  have n4 : nameM (.str "Z") = true ∧ tyd (.str "Z") = true := by decide +kernel
  refine ⟨by omega, by simp, ?_⟩
  generalize hns : [D.str z1, D.str (PySem.Txt.upper z2), D.str (Str.ofString "abcd"), D.str (Str.ofString "Z")] = ns
  have hn : ∀ x ∈ ns, nameM x = true ∧ tyd x = true := by
    rw [← hns]
    intro x hx
    simp at hx
    rcases hx with rfl | rfl | rfl | rfl
    · exact n1
    · exact n2
    · exact n3
    · exact n4
  have hn0 : ns ≠ [] := by rw [← hns]; simp
  have hnl : ns.length < 1000000 := by rw [← hns]; simp
  simp only [aFor, aRng1, aCons, aC, aNil]
  refine ⟨by omega, fun i Γ => ∃ g3 g4 g5, Γ = [.no, .dat (.hdl 0), .dat (.lst ns), g3, g4, g5, .no, .no], ⟨.no, .no, .no, rfl⟩, ?_, ?_⟩
  · rintro i d Γ hd ⟨g3, g4, g5, rfl⟩
    walk_at "ad"
    refine A_pull_go (by omega) (by omega) fun k k0 k1 => ?_
    obtain ⟨j, rfl⟩ := Int.eq_ofNat_of_zero_le k0
    have e : (1 : Int) + (j : Int) = ((j + 1 : Nat) : Int) := by omega
    simp only [wAdd, wLt, wInt0, e, flD]
    refine ⟨j + 1, ns, rfl, by omega, by omega, hn0, hnl, hn, fun t ht => ?_⟩
    refine is_expr_go ht.ty (is_expr_go ht.ty ⟨by simp, by simp, ?_⟩)
    refine same_go (by simp [tyd, tydA]) (by simp [tyd, tydA]) (by simp [dpt, dptA]) ?_
    have e2 : sameM (.lst [.bl (fitsM 6 t), .bl (fitsM 6 t)]) (.lst [.bl (decide (((j + 1 : Nat) : Int) < 7)), .bl (decide (((j + 1 : Nat) : Int) < 7))]) = true := by
      have : decide (((j + 1 : Nat) : Int) < 7) = fitsM 6 t := by rw [ht.fits 6]; apply decide_eq_decide.mpr; omega
      rw [this]; simp [sameM, sameA]
    simp only [e2, Bool.not_true, Bool.false_eq_true, if_false]
    refine ⟨j + 1, t, rfl, ht, by omega, fun u hu => ?_⟩
    refine is_expr_go hu.1 (same_go (by simp [tyd]) (by simp [tyd]) (by simp [dpt]) ?_)
    have e3 : sameM (.bl (fitsM 6 u)) (.bl false) = true := by rw [hu.2 6]; rfl
    simp only [e3, Bool.not_true, Bool.false_eq_true, if_false]
    exact ⟨_, _, _, rfl⟩
  · rintro Γ ⟨g3, g4, g5, rfl⟩
    walk_at "ad"
    simp only [wNeg]
    refine ⟨by decide, by decide, by decide, by decide, by decide, by decide, by decide, by decide, by decide, by decide, by decide, by decide, by decide, ?_⟩
    refine A_pick_go (xs := pickL) (by simp) (by simp) fun y hy => ?_
    have h := last_ok y hy
    simp only [okLast, Bool.and_eq_true, beq_iff_eq] at h
    obtain ⟨⟨⟨hy1, hy2, hy3⟩, hy4⟩, hy5⟩ := h
    have hs : ∀ b c : Bool, b = c → sameM (.bl b) (.bl c) = true := by rintro b _ rfl; cases b <;> rfl
    refine ⟨by decide, by decide, by decide, by decide, by decide, by decide, ?_⟩
    refine ⟨by show ((flD y && dueL.all flD) || (okD y && okD (.lst dueL))) = true; rw [hy2, hy3]; simp, is_expr_go hy1 ?_⟩
    show (match D.bl (dueL.any fun z => eqD z y) with
      | D.bl c => _
      | _ => False)
    by_cases q : (dueL.any fun z => eqD z y) = true
    · simp only [q, if_true]
      refine ⟨by decide, by rw [hy2, hy4]; simp, ?_⟩
      by_cases q2 : (!eqD y numF) = true
      · simp only [q2, if_true]
        refine same_go (by simp [tyd]) (by simp [tyd]) (by simp [dpt]) ?_
        rw [hs]
        rw [hy5, dueB, if_pos q, if_pos q2]
      · simp only [q2, if_false]
        refine ⟨by decide, same_go hy1 (by decide +kernel) (by decide +kernel) (same_go (by simp [tyd]) (by simp [tyd]) (by simp [dpt]) ?_)⟩
        rw [hs]
        rw [hy5, dueB, if_pos q, if_neg q2]
    · simp only [q, if_false]
      refine ⟨by decide, same_go hy1 (by decide +kernel) (by decide +kernel) (same_go (by simp [tyd]) (by simp [tyd]) (by simp [dpt]) ?_)⟩
      rw [hs]
      rw [hy5, dueB, if_neg q]
end Ad
namespace Ad
open PySem L2
def top (i : Nat) : Stmt := PySem.Challenge.pw_pricedcalls_k06_expressions_judged.main.body.getD i (.Pass ⟨0, 0, 0, 0⟩)
abbrev v_KEYWORDS : List Str := ["proc", "if", "else", "while", "break", "return", "print", "and", "or", "not", "mod"]
theorem r_KEYWORDS (K : PySem.W.Frag) (w : Wd) (H : Hp) : RA K w H (v_KEYWORDS.map V.str) c_KEYWORDS := rw_strs v_KEYWORDS
abbrev v_SIGNS : List Str := ["+", "-", "*", "//", "mod", "<", "<=", "==", "and", "or"]
theorem r_SIGNS (K : PySem.W.Frag) (w : Wd) (H : Hp) : RA K w H (v_SIGNS.map V.str) c_SIGNS := rw_strs v_SIGNS
structure Txt (K : PySem.W.Frag) (mg : Str → Option Value) : Prop where
  b_all : mg "all" = none
  b_bool : mg "bool" = none
  b_dict : mg "dict" = none
  b_int : mg "int" = none
  b_isinstance : mg "isinstance" = none
  b_len : mg "len" = none
  b_list : mg "list" = none
  b_range : mg "range" = none
  b_str : mg "str" = none
  b_tuple : mg "tuple" = none
  b_zip : mg "zip" = none
  g_GREAT : ∃ u, mg "GREAT" = some (.str "ABCDEFGHIJKLMNOPQRSTUVWXYZ" u)
  g_KEYWORDS : mg "KEYWORDS" = some (.ref (He.ga K "KEYWORDS"))
  t_KEYWORDS : ∀ H, SqT K H (He.ga K "KEYWORDS") (v_KEYWORDS.map V.str)
  g_MOST_NESTED : ∃ u, mg "MOST_NESTED" = some (.int 6 u)
  g_MOST_NUMBER : ∃ u, mg "MOST_NUMBER" = some (.int 999999 u)
  g_SIGNS : mg "SIGNS" = some (.ref (He.ga K "SIGNS"))
  t_SIGNS : ∀ H, SqT K H (He.ga K "SIGNS") (v_SIGNS.map V.str)
  g_SMALL : ∃ u, mg "SMALL" = some (.str "abcdefghijklmnopqrstuvwxyz" u)
section
variable {P : Program} {w : World} {K : PySem.W.Frag} {mg : Str → Option Value} {base : Heap}
abbrev s_is_number : Stmt := top 1
abbrev n_is_number : List Str := ["value"]
theorem sc_is_number : FnScope n_is_number ["value"] (defScope s_is_number) := ⟨rfl, rfl, rfl, by decide +kernel, rfl, by decide +kernel, by decide +kernel⟩
theorem ok_is_number (T : Txt K mg) (hF : ∃ fd, FnS K "is_number" "is_number" s_is_number [] (He.ga K "is_number") fd) (m : mg "is_number" = some (.ref (He.ga K "is_number")))
    {Ab : List D → (D → Prop) → Prop} (hlen : ∀ ds P, Ab ds P → ds.length = 1) (hA : ∀ ds P, Ab ds P → a_is_number { nx := fun _ => P .non, rt := P } (startG 1 ds)) :
    Fnc P w K mg base "is_number" (0 + 1) ["value"] (fun _ => True) Ab := by
  have hC : Cl (fun _ => True) := fun _ _ _ _ => trivial
  delta a_is_number at hA
  refine fnc_mk (st := s_is_number) (N := n_is_number) hF m sc_is_number (fun _ _ _ _ _ _ us hl => match us, hl with | [_], _ => rfl) (fun _ _ _ _ _ _ us hl => match us, hl with | [_], _ => rfl) hlen hA fun fd cdv A' outer s H E hr => ?_
  exact ⟨_, jss_one (js_ret hC (je_and (je_callB call_isi s_isi T.b_isinstance PyProof.Rows.boot_isinstance (ja_cons (je_var 0) (ja_cons (je_ty T.b_int PyProof.Rows.boot_int) (ja_nil)))) (je_one (je_not (je_callB call_isi s_isi T.b_isinstance PyProof.Rows.boot_isinstance (ja_cons (je_var 0) (ja_cons (je_ty T.b_bool PyProof.Rows.boot_bool) (ja_nil))))))))⟩

abbrev s_is_word : Stmt := top 9
abbrev n_is_word : List Str := ["value", "signs", "most", "sign"]
theorem sc_is_word : FnScope n_is_word ["value", "signs", "most"] (defScope s_is_word) := ⟨rfl, rfl, rfl, by decide +kernel, rfl, by decide +kernel, by decide +kernel⟩
theorem ok_is_word (T : Txt K mg) (hF : ∃ fd, FnS K "is_word" "is_word" s_is_word [] (He.ga K "is_word") fd) (m : mg "is_word" = some (.ref (He.ga K "is_word")))
    {Ab : List D → (D → Prop) → Prop} (hlen : ∀ ds P, Ab ds P → ds.length = 3) (hA : ∀ ds P, Ab ds P → a_is_word { nx := fun _ => P .non, rt := P } (startG 4 ds)) :
    Fnc P w K mg base "is_word" (0 + 1) ["value", "signs", "most"] (fun _ => True) Ab := by
  have hC : Cl (fun _ => True) := fun _ _ _ _ => trivial
  delta a_is_word at hA
  refine fnc_mk (st := s_is_word) (N := n_is_word) hF m sc_is_word (fun _ _ _ _ _ _ us hl => match us, hl with | [_, _, _], _ => rfl) (fun _ _ _ _ _ _ us hl => match us, hl with | [_, _, _], _ => rfl) hlen hA fun fd cdv A' outer s H E hr => ?_
  exact ⟨_, jss_cons (js_if hC (jt_w (jw_or (jt_not (jt_val (je_callB call_isi s_isi T.b_isinstance PyProof.Rows.boot_isinstance (ja_cons (je_var 0) (ja_cons (je_ty T.b_str PyProof.Rows.boot_str) (ja_nil)))))) (jw_or (jt_not (jt_chain jo_le jo_le (je_int) (je_callB call_len s_len T.b_len PySem.boot_len (ja_cons (je_var 0) (ja_nil))) (je_var 2))) (jw_or1 (jt_cmp (jo_in (hu65 hr)) (je_var 0) (je_gtup T.g_KEYWORDS T.t_KEYWORDS (r_KEYWORDS _))))))) (jss_one (js_ret hC (je_bl))) (jss_nil))
      (jss_one (js_ret hC (je_callB (cr_all (by rfl)) s_all T.b_all PyProof.Rows.boot_all (ja_cons (je_L (jl_lc (own := [("sign", 3)]) hC rfl sc_is_word.nd (ji_any (je_var 0)) (blkOk_by (N := n_is_word) (sc := defScope s_is_word) (by decide +kernel)) (fun _ _ _ _ _ => jg_name 3 sc_is_word.nd) (by decide) (fun _ _ _ _ _ => jts_nil) (fun _ _ _ _ _ => je_cmp (jo_inK (Kf := K) (by rfl) (hu65 hr)) (je_var 3) (je_var 1)))) (ja_nil)))))⟩

abbrev s_is_own : Stmt := top 10
abbrev n_is_own : List Str := ["value"]
theorem sc_is_own : FnScope n_is_own ["value"] (defScope s_is_own) := ⟨rfl, rfl, rfl, by decide +kernel, rfl, by decide +kernel, by decide +kernel⟩
theorem ok_is_own (T : Txt K mg) (h_is_word : Fnc P w K mg base "is_word" 1 ["value", "signs", "most"] (fun _ => True) A_is_word) (hF : ∃ fd, FnS K "is_own" "is_own" s_is_own [] (He.ga K "is_own") fd) (m : mg "is_own" = some (.ref (He.ga K "is_own")))
    {Ab : List D → (D → Prop) → Prop} (hlen : ∀ ds P, Ab ds P → ds.length = 1) (hA : ∀ ds P, Ab ds P → a_is_own { nx := fun _ => P .non, rt := P } (startG 1 ds)) :
    Fnc P w K mg base "is_own" (1 + 1) ["value"] (fun _ => True) Ab := by
  have hC : Cl (fun _ => True) := fun _ _ _ _ => trivial
  delta a_is_own at hA
  refine fnc_mk (st := s_is_own) (N := n_is_own) hF m sc_is_own (fun _ _ _ _ _ _ us hl => match us, hl with | [_], _ => rfl) (fun _ _ _ _ _ _ us hl => match us, hl with | [_], _ => rfl) hlen hA fun fd cdv A' outer s H E hr => ?_
  exact ⟨_, jss_one (js_ret hC (je_fnc (h_is_word) hr (by decide) (fun _ h => h) (ja_cons (je_var 0) (ja_cons (je_gstr T.g_SMALL) (ja_cons (je_int) (ja_nil))))))⟩

abbrev s_is_shared : Stmt := top 11
abbrev n_is_shared : List Str := ["value"]
theorem sc_is_shared : FnScope n_is_shared ["value"] (defScope s_is_shared) := ⟨rfl, rfl, rfl, by decide +kernel, rfl, by decide +kernel, by decide +kernel⟩
theorem ok_is_shared (T : Txt K mg) (h_is_word : Fnc P w K mg base "is_word" 1 ["value", "signs", "most"] (fun _ => True) A_is_word) (hF : ∃ fd, FnS K "is_shared" "is_shared" s_is_shared [] (He.ga K "is_shared") fd) (m : mg "is_shared" = some (.ref (He.ga K "is_shared")))
    {Ab : List D → (D → Prop) → Prop} (hlen : ∀ ds P, Ab ds P → ds.length = 1) (hA : ∀ ds P, Ab ds P → a_is_shared { nx := fun _ => P .non, rt := P } (startG 1 ds)) :
    Fnc P w K mg base "is_shared" (1 + 1) ["value"] (fun _ => True) Ab := by
  have hC : Cl (fun _ => True) := fun _ _ _ _ => trivial
  delta a_is_shared at hA
  refine fnc_mk (st := s_is_shared) (N := n_is_shared) hF m sc_is_shared (fun _ _ _ _ _ _ us hl => match us, hl with | [_], _ => rfl) (fun _ _ _ _ _ _ us hl => match us, hl with | [_], _ => rfl) hlen hA fun fd cdv A' outer s H E hr => ?_
  exact ⟨_, jss_one (js_ret hC (je_fnc (h_is_word) hr (by decide) (fun _ h => h) (ja_cons (je_var 0) (ja_cons (je_gstr T.g_GREAT) (ja_cons (je_int) (ja_nil))))))⟩

abbrev s_fits : Stmt := top 12
abbrev n_fits : List Str := ["value", "deep", "word"]
theorem sc_fits : FnScope n_fits ["value", "deep"] (defScope s_fits) := ⟨rfl, rfl, rfl, by decide +kernel, rfl, by decide +kernel, by decide +kernel⟩
theorem ok_fits (T : Txt K mg) {A : List D → (D → Prop) → Prop} {lv : Nat} (h_fits : Fnc P w K mg base "fits" lv ["value", "deep"] (fun _ => True) A) (h_is_number : Fnc P w K mg base "is_number" 1 ["value"] (fun _ => True) A_is_number) (h_is_own : Fnc P w K mg base "is_own" 2 ["value"] (fun _ => True) A_is_own) (h_is_shared : Fnc P w K mg base "is_shared" 2 ["value"] (fun _ => True) A_is_shared) (hF : ∃ fd, FnS K "fits" "fits" s_fits [] (He.ga K "fits") fd) (m : mg "fits" = some (.ref (He.ga K "fits")))
    {Ab : List D → (D → Prop) → Prop} (hlen : ∀ ds P, Ab ds P → ds.length = 2) (hA : ∀ ds P, Ab ds P → a_fits A { nx := fun _ => P .non, rt := P } (startG 3 ds)) (hl_is_number : 1 ≤ lv) (hl_is_own : 2 ≤ lv) (hl_is_shared : 2 ≤ lv) :
    Fnc P w K mg base "fits" (lv + 1) ["value", "deep"] (fun _ => True) Ab := by
  have hC : Cl (fun _ => True) := fun _ _ _ _ => trivial
  delta a_fits at hA
  refine fnc_mk (st := s_fits) (N := n_fits) hF m sc_fits (fun _ _ _ _ _ _ us hl => match us, hl with | [_, _], _ => rfl) (fun _ _ _ _ _ _ us hl => match us, hl with | [_, _], _ => rfl) hlen hA fun fd cdv A' outer s H E hr => ?_
  exact ⟨_, jss_cons (js_if hC (jt_w (jw_or (jt_cmp jo_lt (je_var 1) (je_int)) (jw_or (jt_not (jt_val (je_callB call_isi s_isi T.b_isinstance PyProof.Rows.boot_isinstance (ja_cons (je_var 0) (ja_cons (je_ty T.b_tuple PyProof.Rows.boot_tuple) (ja_nil)))))) (jw_or (jt_cmp jo_lt (je_callB call_len s_len T.b_len PySem.boot_len (ja_cons (je_var 0) (ja_nil))) (je_int)) (jw_or1 (jt_not (jt_val (je_callB call_isi s_isi T.b_isinstance PyProof.Rows.boot_isinstance (ja_cons (je_ix (je_var 0) (je_int)) (ja_cons (je_ty T.b_str PyProof.Rows.boot_str) (ja_nil))))))))))) (jss_one (js_ret hC (je_bl))) (jss_nil))
      (jss_cons (js_set 2 hC sc_fits.nd (je_ix (je_var 0) (je_int)))
      (jss_cons (js_if hC (jt_cmp (jo_eq (hu65 hr)) (je_var 2) (je_str)) (jss_one (js_ret hC (je_and (je_cmp (jo_eq (hu65 hr)) (je_callB call_len s_len T.b_len PySem.boot_len (ja_cons (je_var 0) (ja_nil))) (je_int)) (je_and (je_fnc (h_is_number) hr (by omega) (fun _ h => h) (ja_cons (je_ix (je_var 0) (je_int)) (ja_nil))) (je_one (je_chain jo_le jo_le (je_int) (je_ix (je_var 0) (je_int)) (je_gint T.g_MOST_NUMBER))))))) (jss_nil))
      (jss_cons (js_if hC (jt_cmp (jo_eq (hu65 hr)) (je_var 2) (je_str)) (jss_one (js_ret hC (je_and (je_cmp (jo_eq (hu65 hr)) (je_callB call_len s_len T.b_len PySem.boot_len (ja_cons (je_var 0) (ja_nil))) (je_int)) (je_one (je_or (je_fnc (h_is_own) hr (by omega) (fun _ h => h) (ja_cons (je_ix (je_var 0) (je_int)) (ja_nil))) (je_one (je_fnc (h_is_shared) hr (by omega) (fun _ h => h) (ja_cons (je_ix (je_var 0) (je_int)) (ja_nil))))))))) (jss_nil))
      (jss_cons (js_if hC (jt_cmp (jo_eq (hu65 hr)) (je_var 2) (je_str)) (jss_one (js_ret hC (je_and (je_cmp (jo_eq (hu65 hr)) (je_callB call_len s_len T.b_len PySem.boot_len (ja_cons (je_var 0) (ja_nil))) (je_int)) (je_one (je_fnc (h_fits) hr (by omega) (fun _ h => h) (ja_cons (je_ix (je_var 0) (je_int)) (ja_cons (je_op jo_sub (je_var 1) (je_int)) (ja_nil)))))))) (jss_nil))
      (jss_cons (js_if hC (jt_w (jw_or (jt_cmp (jo_ne (hu65 hr)) (je_var 2) (je_str)) (jw_or (jt_cmp (jo_ne (hu65 hr)) (je_callB call_len s_len T.b_len PySem.boot_len (ja_cons (je_var 0) (ja_nil))) (je_int)) (jw_or (jt_not (jt_val (je_callB call_isi s_isi T.b_isinstance PyProof.Rows.boot_isinstance (ja_cons (je_ix (je_var 0) (je_int)) (ja_cons (je_ty T.b_str PyProof.Rows.boot_str) (ja_nil)))))) (jw_or1 (jt_cmp (jo_notIn (hu65 hr)) (je_ix (je_var 0) (je_int)) (je_gtup T.g_SIGNS T.t_SIGNS (r_SIGNS _)))))))) (jss_one (js_ret hC (je_bl))) (jss_nil))
      (jss_one (js_ret hC (je_and (je_fnc (h_fits) hr (by omega) (fun _ h => h) (ja_cons (je_ix (je_var 0) (je_int)) (ja_cons (je_op jo_sub (je_var 1) (je_int)) (ja_nil)))) (je_one (je_fnc (h_fits) hr (by omega) (fun _ h => h) (ja_cons (je_ix (je_var 0) (je_int)) (ja_cons (je_op jo_sub (je_var 1) (je_int)) (ja_nil)))))))))))))⟩

abbrev s_is_expression : Stmt := top 13
abbrev n_is_expression : List Str := ["value"]
theorem sc_is_expression : FnScope n_is_expression ["value"] (defScope s_is_expression) := ⟨rfl, rfl, rfl, by decide +kernel, rfl, by decide +kernel, by decide +kernel⟩
theorem ok_is_expression (T : Txt K mg) (h_fits : Fnc P w K mg base "fits" 9 ["value", "deep"] (fun _ => True) (A_fits 7)) (hF : ∃ fd, FnS K "is_expression" "is_expression" s_is_expression [] (He.ga K "is_expression") fd) (m : mg "is_expression" = some (.ref (He.ga K "is_expression")))
    {Ab : List D → (D → Prop) → Prop} (hlen : ∀ ds P, Ab ds P → ds.length = 1) (hA : ∀ ds P, Ab ds P → a_is_expression { nx := fun _ => P .non, rt := P } (startG 1 ds)) :
    Fnc P w K mg base "is_expression" (9 + 1) ["value"] (fun _ => True) Ab := by
  have hC : Cl (fun _ => True) := fun _ _ _ _ => trivial
  delta a_is_expression at hA
  refine fnc_mk (st := s_is_expression) (N := n_is_expression) hF m sc_is_expression (fun _ _ _ _ _ _ us hl => match us, hl with | [_], _ => rfl) (fun _ _ _ _ _ _ us hl => match us, hl with | [_], _ => rfl) hlen hA fun fd cdv A' outer s H E hr => ?_
  exact ⟨_, jss_one (js_ret hC (je_fnc (h_fits) hr (by decide) (fun _ h => h) (ja_cons (je_var 0) (ja_cons (je_gint T.g_MOST_NESTED) (ja_nil)))))⟩

abbrev s_l_pick : Stmt := top 17
abbrev n_l_pick : List Str := ["_law_bag_here", "_law_some"]
theorem sc_l_pick : FnScope n_l_pick ["_law_bag_here", "_law_some"] (defScope s_l_pick) := ⟨rfl, rfl, rfl, by decide +kernel, rfl, by decide +kernel, by decide +kernel⟩
theorem ok_l_pick (T : Txt K mg) (h_l_pull : Fnc P w K mg base "_law_pull" 1 ["_law_bag_here", "_law_many"] BagW A_l_pull) (hF : ∃ fd, FnS K "_law_pick" "_law_pick" s_l_pick [] (He.ga K "_law_pick") fd) (m : mg "_law_pick" = some (.ref (He.ga K "_law_pick")))
    {Ab : List D → (D → Prop) → Prop} (hlen : ∀ ds P, Ab ds P → ds.length = 2) (hA : ∀ ds P, Ab ds P → a_l_pick { nx := fun _ => P .non, rt := P } (startG 2 ds)) :
    Fnc P w K mg base "_law_pick" (1 + 1) ["_law_bag_here", "_law_some"] BagW Ab := by
  have hC : Cl BagW := bag_cl
  delta a_l_pick at hA
  refine fnc_mk (st := s_l_pick) (N := n_l_pick) hF m sc_l_pick (fun _ _ _ _ _ _ us hl => match us, hl with | [_, _], _ => rfl) (fun _ _ _ _ _ _ us hl => match us, hl with | [_, _], _ => rfl) hlen hA fun fd cdv A' outer s H E hr => ?_
  exact ⟨_, jss_one (js_ret hC (je_ix (je_var 1) (je_fnc (h_l_pull) hr (by decide) (fun _ h => h) (ja_cons (je_var 0) (ja_cons (je_callB call_len s_len T.b_len PySem.boot_len (ja_cons (je_var 1) (ja_nil))) (ja_nil))))))⟩

abbrev s_l_kind : Stmt := top 18
abbrev n_l_kind : List Str := ["_law_value_z", "_law_found"]
theorem sc_l_kind : FnScope n_l_kind ["_law_value_z"] (defScope s_l_kind) := ⟨rfl, rfl, rfl, by decide +kernel, rfl, by decide +kernel, by decide +kernel⟩
theorem ok_l_kind (T : Txt K mg) (hF : ∃ fd, FnS K "_law_kind" "_law_kind" s_l_kind [] (He.ga K "_law_kind") fd) (m : mg "_law_kind" = some (.ref (He.ga K "_law_kind")))
    {Ab : List D → (D → Prop) → Prop} (hlen : ∀ ds P, Ab ds P → ds.length = 1) (hA : ∀ ds P, Ab ds P → a_l_kind { nx := fun _ => P .non, rt := P } (startG 2 ds)) :
    Fnc P w K mg base "_law_kind" (0 + 1) ["_law_value_z"] (fun _ => True) Ab := by
  have hC : Cl (fun _ => True) := fun _ _ _ _ => trivial
  delta a_l_kind at hA
  refine fnc_mk (st := s_l_kind) (N := n_l_kind) hF m sc_l_kind (fun _ _ _ _ _ _ us hl => match us, hl with | [_], _ => rfl) (fun _ _ _ _ _ _ us hl => match us, hl with | [_], _ => rfl) hlen hA fun fd cdv A' outer s H E hr => ?_
  exact ⟨_, jss_cons (js_set 1 hC sc_l_kind.nd (je_L (jl_lst (ja_cons (je_cmp jo_isN (je_var 0) (je_non)) (ja_cons (je_callB call_isi s_isi T.b_isinstance PyProof.Rows.boot_isinstance (ja_cons (je_var 0) (ja_cons (je_ty T.b_bool PyProof.Rows.boot_bool) (ja_nil)))) (ja_cons (je_callB call_isi s_isi T.b_isinstance PyProof.Rows.boot_isinstance (ja_cons (je_var 0) (ja_cons (je_ty T.b_int PyProof.Rows.boot_int) (ja_nil)))) (ja_cons (je_callB call_isi s_isi T.b_isinstance PyProof.Rows.boot_isinstance (ja_cons (je_var 0) (ja_cons (je_ty T.b_str PyProof.Rows.boot_str) (ja_nil)))) (ja_nil))))))))
      (jss_cons (js_set 1 hC sc_l_kind.nd (je_op jo_add (je_var 1) (je_L (jl_lst (ja_cons (je_callB call_isi s_isi T.b_isinstance PyProof.Rows.boot_isinstance (ja_cons (je_var 0) (ja_cons (je_ty T.b_list PyProof.Rows.boot_list) (ja_nil)))) (ja_cons (je_callB call_isi s_isi T.b_isinstance PyProof.Rows.boot_isinstance (ja_cons (je_var 0) (ja_cons (je_ty T.b_tuple PyProof.Rows.boot_tuple) (ja_nil)))) (ja_cons (je_callB call_isi s_isi T.b_isinstance PyProof.Rows.boot_isinstance (ja_cons (je_var 0) (ja_cons (je_ty T.b_dict PyProof.Rows.boot_dict) (ja_nil)))) (ja_cons (je_bl) (ja_nil)))))))))
      (jss_one (js_ret hC (je_index (je_var 1) (ja_cons (je_bl) (ja_nil))))))⟩

abbrev s_l_same : Stmt := top 19
abbrev n_l_same : List Str := ["_law_found", "_law_due", "_law_key", "_law_one", "_law_other"]
theorem sc_l_same : FnScope n_l_same ["_law_found", "_law_due"] (defScope s_l_same) := ⟨rfl, rfl, rfl, by decide +kernel, rfl, by decide +kernel, by decide +kernel⟩
theorem ok_l_same (T : Txt K mg) {A : List D → (D → Prop) → Prop} {lv : Nat} (h_l_same : Fnc P w K mg base "_law_same" lv ["_law_found", "_law_due"] (fun _ => True) A) (h_l_kind : Fnc P w K mg base "_law_kind" 1 ["_law_value_z"] (fun _ => True) A_l_kind) (hF : ∃ fd, FnS K "_law_same" "_law_same" s_l_same [] (He.ga K "_law_same") fd) (m : mg "_law_same" = some (.ref (He.ga K "_law_same")))
    {Ab : List D → (D → Prop) → Prop} (hlen : ∀ ds P, Ab ds P → ds.length = 2) (hA : ∀ ds P, Ab ds P → a_l_same A { nx := fun _ => P .non, rt := P } (startG 5 ds)) (hl_l_kind : 1 ≤ lv) :
    Fnc P w K mg base "_law_same" (lv + 1) ["_law_found", "_law_due"] (fun _ => True) Ab := by
  have hC : Cl (fun _ => True) := fun _ _ _ _ => trivial
  delta a_l_same at hA
  refine fnc_mk (st := s_l_same) (N := n_l_same) hF m sc_l_same (fun _ _ _ _ _ _ us hl => match us, hl with | [_, _], _ => rfl) (fun _ _ _ _ _ _ us hl => match us, hl with | [_, _], _ => rfl) hlen hA fun fd cdv A' outer s H E hr => ?_
  exact ⟨_, jss_cons (js_if hC (jt_cmp (jo_ne (hu65 hr)) (je_fnc (h_l_kind) hr (by omega) (fun _ h => h) (ja_cons (je_var 0) (ja_nil))) (je_fnc (h_l_kind) hr (by omega) (fun _ h => h) (ja_cons (je_var 1) (ja_nil)))) (jss_one (js_ret hC (je_bl))) (jss_nil))
      (jss_cons (js_if hC (jt_cmp (jo_in (hu65 hr)) (je_fnc (h_l_kind) hr (by omega) (fun _ h => h) (ja_cons (je_var 1) (ja_nil))) (je_tup (ja_cons (je_int) (ja_cons (je_int) (ja_nil))))) (jss_one (js_ret hC (je_and (je_cmp (jo_eq (hu65 hr)) (je_callB call_len s_len T.b_len PySem.boot_len (ja_cons (je_var 0) (ja_nil))) (je_callB call_len s_len T.b_len PySem.boot_len (ja_cons (je_var 1) (ja_nil)))) (je_one (je_callB (cr_all (by rfl)) s_all T.b_all PyProof.Rows.boot_all (ja_cons (je_L (jl_lc (own := [("_law_one", 3), ("_law_other", 4)]) hC rfl sc_l_same.nd (ji_zip T.b_zip (ja_cons (je_var 0) (ja_cons (je_var 1) (ja_nil)))) (blkOk_by (N := n_l_same) (sc := defScope s_l_same) (by decide +kernel)) (fun _ _ _ _ _ => jg_tupK (Kf := K) (by rfl) (by rfl) (jgs_cons (jg_name 3 sc_l_same.nd) (jgs_cons (jg_name 4 sc_l_same.nd) (jgs_nil)))) (by decide) (fun _ _ _ _ _ => jts_nil) (fun _ _ _ _ _ => je_fncK (Kf := K) (by rfl) (h_l_same) hr (by omega) (fun _ h => h) (ja_cons (je_var 3) (ja_cons (je_var 4) (ja_nil)))))) (ja_nil))))))) (jss_nil))
      (jss_cons (js_if hC (jt_cmp (jo_eq (hu65 hr)) (je_fnc (h_l_kind) hr (by omega) (fun _ h => h) (ja_cons (je_var 1) (ja_nil))) (je_int)) (jss_never) (jss_nil))
      (jss_one (js_ret hC (je_cmp (jo_eq (hu65 hr)) (je_var 0) (je_var 1))))))⟩

abbrev s_l_keywords : Stmt := top 20
abbrev n_l_keywords : List Str := []
theorem sc_l_keywords : FnScope n_l_keywords [] (defScope s_l_keywords) := ⟨rfl, rfl, rfl, by decide +kernel, rfl, by decide +kernel, by decide +kernel⟩
theorem ok_l_keywords (T : Txt K mg) (hF : ∃ fd, FnS K "_law_keywords" "_law_keywords" s_l_keywords [] (He.ga K "_law_keywords") fd) (m : mg "_law_keywords" = some (.ref (He.ga K "_law_keywords")))
    {Ab : List D → (D → Prop) → Prop} (hlen : ∀ ds P, Ab ds P → ds.length = 0) (hA : ∀ ds P, Ab ds P → a_l_keywords { nx := fun _ => P .non, rt := P } (startG 0 ds)) :
    Fnc P w K mg base "_law_keywords" (0 + 1) [] (fun _ => True) Ab := by
  have hC : Cl (fun _ => True) := fun _ _ _ _ => trivial
  delta a_l_keywords at hA
  refine fnc_mk (st := s_l_keywords) (N := n_l_keywords) hF m sc_l_keywords (fun _ _ _ _ _ _ us hl => match us, hl with | [], _ => rfl) (fun _ _ _ _ _ _ us hl => match us, hl with | [], _ => rfl) hlen hA fun fd cdv A' outer s H E hr => ?_
  exact ⟨_, jss_one (js_ret hC (je_L (jl_lst (ja_cons (je_str) (ja_cons (je_str) (ja_cons (je_str) (ja_cons (je_str) (ja_cons (je_str) (ja_cons (je_str) (ja_cons (je_str) (ja_cons (je_str) (ja_cons (je_str) (ja_cons (je_str) (ja_cons (je_str) (ja_nil)))))))))))))))⟩

abbrev s_l_word : Stmt := top 21
abbrev n_l_word : List Str := ["_law_bag_here", "_law_most", "_law_letters", "_law_word_here", "_law_k"]
theorem sc_l_word : FnScope n_l_word ["_law_bag_here", "_law_most"] (defScope s_l_word) := ⟨rfl, rfl, rfl, by decide +kernel, rfl, by decide +kernel, by decide +kernel⟩
theorem ok_l_word (T : Txt K mg) (h_l_pull : Fnc P w K mg base "_law_pull" 1 ["_law_bag_here", "_law_many"] BagW A_l_pull) (h_l_keywords : Fnc P w K mg base "_law_keywords" 1 [] (fun _ => True) A_l_keywords) (hF : ∃ fd, FnS K "_law_word" "_law_word" s_l_word [] (He.ga K "_law_word") fd) (m : mg "_law_word" = some (.ref (He.ga K "_law_word")))
    {Ab : List D → (D → Prop) → Prop} (hlen : ∀ ds P, Ab ds P → ds.length = 2) (hA : ∀ ds P, Ab ds P → a_l_word { nx := fun _ => P .non, rt := P } (startG 5 ds)) :
    Fnc P w K mg base "_law_word" (1 + 1) ["_law_bag_here", "_law_most"] BagW Ab := by
  have hC : Cl BagW := bag_cl
  delta a_l_word at hA
  refine fnc_mk (st := s_l_word) (N := n_l_word) hF m sc_l_word (fun _ _ _ _ _ _ us hl => match us, hl with | [_, _], _ => rfl) (fun _ _ _ _ _ _ us hl => match us, hl with | [_, _], _ => rfl) hlen hA fun fd cdv A' outer s H E hr => ?_
  exact ⟨_, jss_cons (js_set 2 hC sc_l_word.nd (je_str))
      (jss_cons (js_set 3 hC sc_l_word.nd (je_join (je_str) (je_L (jl_lc (own := [("_law_k", 4)]) hC rfl sc_l_word.nd (ji_rng1 T.b_range (ja_cons (je_op jo_add (je_int) (je_fnc (h_l_pull) hr (by decide) (fun _ h => h) (ja_cons (je_var 0) (ja_cons (je_var 1) (ja_nil))))) (ja_nil))) (blkOk_by (N := n_l_word) (sc := defScope s_l_word) (by decide +kernel)) (fun _ _ _ _ _ => jg_name 4 sc_l_word.nd) (by decide) (fun _ _ _ _ _ => jts_nil) (fun _ _ _ _ _ => je_ixK (Kf := K) (by rfl) (je_var 2) (je_fncK (Kf := K) (by rfl) (h_l_pull) hr (by decide) (fun _ h => h) (ja_cons (je_var 0) (ja_cons (je_int) (ja_nil)))))))))
      (jss_one (js_ret hC (je_if (jt_cmp (jo_in (hu65 hr)) (je_var 3) (je_fnc0 (h_l_keywords) hr (by decide) (fun _ _ => trivial))) (je_sl (je_var 3) (jp_none) (jp_some (je_int))) (je_var 3)))))⟩

abbrev s_l_signs : Stmt := top 22
abbrev n_l_signs : List Str := []
theorem sc_l_signs : FnScope n_l_signs [] (defScope s_l_signs) := ⟨rfl, rfl, rfl, by decide +kernel, rfl, by decide +kernel, by decide +kernel⟩
theorem ok_l_signs (T : Txt K mg) (hF : ∃ fd, FnS K "_law_signs" "_law_signs" s_l_signs [] (He.ga K "_law_signs") fd) (m : mg "_law_signs" = some (.ref (He.ga K "_law_signs")))
    {Ab : List D → (D → Prop) → Prop} (hlen : ∀ ds P, Ab ds P → ds.length = 0) (hA : ∀ ds P, Ab ds P → a_l_signs { nx := fun _ => P .non, rt := P } (startG 0 ds)) :
    Fnc P w K mg base "_law_signs" (0 + 1) [] (fun _ => True) Ab := by
  have hC : Cl (fun _ => True) := fun _ _ _ _ => trivial
  delta a_l_signs at hA
  refine fnc_mk (st := s_l_signs) (N := n_l_signs) hF m sc_l_signs (fun _ _ _ _ _ _ us hl => match us, hl with | [], _ => rfl) (fun _ _ _ _ _ _ us hl => match us, hl with | [], _ => rfl) hlen hA fun fd cdv A' outer s H E hr => ?_
  exact ⟨_, jss_one (js_ret hC (je_L (jl_lst (ja_cons (je_str) (ja_cons (je_str) (ja_cons (je_str) (ja_cons (je_str) (ja_cons (je_str) (ja_cons (je_str) (ja_cons (je_str) (ja_cons (je_str) (ja_cons (je_str) (ja_cons (je_str) (ja_nil))))))))))))))⟩

abbrev s_l_constant : Stmt := top 23
abbrev n_l_constant : List Str := ["_law_bag_here"]
theorem sc_l_constant : FnScope n_l_constant ["_law_bag_here"] (defScope s_l_constant) := ⟨rfl, rfl, rfl, by decide +kernel, rfl, by decide +kernel, by decide +kernel⟩
theorem ok_l_constant (T : Txt K mg) (h_l_pick : Fnc P w K mg base "_law_pick" 2 ["_law_bag_here", "_law_some"] BagW A_l_pick) (h_l_pull : Fnc P w K mg base "_law_pull" 1 ["_law_bag_here", "_law_many"] BagW A_l_pull) (hF : ∃ fd, FnS K "_law_constant" "_law_constant" s_l_constant [] (He.ga K "_law_constant") fd) (m : mg "_law_constant" = some (.ref (He.ga K "_law_constant")))
    {Ab : List D → (D → Prop) → Prop} (hlen : ∀ ds P, Ab ds P → ds.length = 1) (hA : ∀ ds P, Ab ds P → a_l_constant { nx := fun _ => P .non, rt := P } (startG 1 ds)) :
    Fnc P w K mg base "_law_constant" (2 + 1) ["_law_bag_here"] BagW Ab := by
  have hC : Cl BagW := bag_cl
  delta a_l_constant at hA
  refine fnc_mk (st := s_l_constant) (N := n_l_constant) hF m sc_l_constant (fun _ _ _ _ _ _ us hl => match us, hl with | [_], _ => rfl) (fun _ _ _ _ _ _ us hl => match us, hl with | [_], _ => rfl) hlen hA fun fd cdv A' outer s H E hr => ?_
  exact ⟨_, jss_one (js_ret hC (je_fnc (h_l_pick) hr (by decide) (fun _ h => h) (ja_cons (je_var 0) (ja_cons (je_L (jl_lst (ja_cons (je_int) (ja_cons (je_int) (ja_cons (je_int) (ja_cons (je_int) (ja_cons (je_fnc (h_l_pull) hr (by decide) (fun _ h => h) (ja_cons (je_var 0) (ja_cons (je_int) (ja_nil)))) (ja_cons (je_fnc (h_l_pull) hr (by decide) (fun _ h => h) (ja_cons (je_var 0) (ja_cons (je_op jo_pow (je_int) (je_int)) (ja_nil)))) (ja_cons (je_int) (ja_nil)))))))))) (ja_nil)))))⟩

abbrev s_l_expr : Stmt := top 24
abbrev n_l_expr : List Str := ["_law_bag_here", "_law_names", "_law_deep", "_law_way", "_law_sign", "_law_one"]
theorem sc_l_expr : FnScope n_l_expr ["_law_bag_here", "_law_names", "_law_deep"] (defScope s_l_expr) := ⟨rfl, rfl, rfl, by decide +kernel, rfl, by decide +kernel, by decide +kernel⟩
theorem ok_l_expr (T : Txt K mg) {A : List D → (D → Prop) → Prop} {lv : Nat} (h_l_expr : Fnc P w K mg base "_law_expr" lv ["_law_bag_here", "_law_names", "_law_deep"] BagW A) (h_l_pull : Fnc P w K mg base "_law_pull" 1 ["_law_bag_here", "_law_many"] BagW A_l_pull) (h_l_pick : Fnc P w K mg base "_law_pick" 2 ["_law_bag_here", "_law_some"] BagW A_l_pick) (h_l_constant : Fnc P w K mg base "_law_constant" 3 ["_law_bag_here"] BagW A_l_constant) (h_l_signs : Fnc P w K mg base "_law_signs" 1 [] (fun _ => True) A_l_signs) (hF : ∃ fd, FnS K "_law_expr" "_law_expr" s_l_expr [] (He.ga K "_law_expr") fd) (m : mg "_law_expr" = some (.ref (He.ga K "_law_expr")))
    {Ab : List D → (D → Prop) → Prop} (hlen : ∀ ds P, Ab ds P → ds.length = 3) (hA : ∀ ds P, Ab ds P → a_l_expr A { nx := fun _ => P .non, rt := P } (startG 6 ds)) (hl_l_pull : 1 ≤ lv) (hl_l_pick : 2 ≤ lv) (hl_l_constant : 3 ≤ lv) (hl_l_signs : 1 ≤ lv) :
    Fnc P w K mg base "_law_expr" (lv + 1) ["_law_bag_here", "_law_names", "_law_deep"] BagW Ab := by
  have hC : Cl BagW := bag_cl
  delta a_l_expr at hA
  refine fnc_mk (st := s_l_expr) (N := n_l_expr) hF m sc_l_expr (fun _ _ _ _ _ _ us hl => match us, hl with | [_, _, _], _ => rfl) (fun _ _ _ _ _ _ us hl => match us, hl with | [_, _, _], _ => rfl) hlen hA fun fd cdv A' outer s H E hr => ?_
  exact ⟨_, jss_cons (js_set 3 hC sc_l_expr.nd (je_fnc (h_l_pull) hr (by omega) (fun _ h => h) (ja_cons (je_var 0) (ja_cons (je_int) (ja_nil)))))
      (jss_cons (js_if hC (jt_w (jw_or (jt_cmp jo_lt (je_var 2) (je_int)) (jw_or1 (jt_cmp jo_lt (je_var 3) (je_int))))) (jss_cons (js_if hC (jt_w (jw_and (jt_cmp (jo_eq (hu65 hr)) (je_op jo_mod (je_var 3) (je_int)) (je_int)) (jw_and1 (jt_cmp (jo_ne (hu65 hr)) (je_var 1) (je_L (jl_lst (ja_nil))))))) (jss_one (js_ret hC (je_tup (ja_cons (je_str) (ja_cons (je_fnc (h_l_pick) hr (by omega) (fun _ h => h) (ja_cons (je_var 0) (ja_cons (je_var 1) (ja_nil)))) (ja_nil)))))) (jss_nil))
      (jss_one (js_ret hC (je_tup (ja_cons (je_str) (ja_cons (je_fnc (h_l_constant) hr (by omega) (fun _ h => h) (ja_cons (je_var 0) (ja_nil))) (ja_nil))))))) (jss_nil))
      (jss_cons (js_if hC (jt_cmp (jo_eq (hu65 hr)) (je_var 3) (je_int)) (jss_one (js_ret hC (je_tup (ja_cons (je_str) (ja_cons (je_fnc (h_l_expr) hr (by omega) (fun _ h => h) (ja_cons (je_var 0) (ja_cons (je_var 1) (ja_cons (je_op jo_sub (je_var 2) (je_int)) (ja_nil))))) (ja_nil)))))) (jss_nil))
      (jss_cons (js_set 4 hC sc_l_expr.nd (je_fnc (h_l_pick) hr (by omega) (fun _ h => h) (ja_cons (je_var 0) (ja_cons (je_fnc0 (h_l_signs) hr (by omega) (fun _ _ => trivial)) (ja_nil)))))
      (jss_cons (js_set 5 hC sc_l_expr.nd (je_fnc (h_l_expr) hr (by omega) (fun _ h => h) (ja_cons (je_var 0) (ja_cons (je_var 1) (ja_cons (je_op jo_sub (je_var 2) (je_int)) (ja_nil))))))
      (jss_one (js_ret hC (je_tup (ja_cons (je_str) (ja_cons (je_var 4) (ja_cons (je_var 5) (ja_cons (je_fnc (h_l_expr) hr (by omega) (fun _ h => h) (ja_cons (je_var 0) (ja_cons (je_var 1) (ja_cons (je_op jo_sub (je_var 2) (je_int)) (ja_nil))))) (ja_nil))))))))))))⟩

abbrev s_l_chain_of : Stmt := top 25
abbrev n_l_chain_of : List Str := ["_law_bag_here", "_law_deep", "_law_names", "_law_found", "_law_k", "_law_way", "_law_other", "_law_sign"]
theorem sc_l_chain_of : FnScope n_l_chain_of ["_law_bag_here", "_law_deep", "_law_names"] (defScope s_l_chain_of) := ⟨rfl, rfl, rfl, by decide +kernel, rfl, by decide +kernel, by decide +kernel⟩
theorem ok_l_chain_of (T : Txt K mg) (h_l_expr : Fnc P w K mg base "_law_expr" 4 ["_law_bag_here", "_law_names", "_law_deep"] BagW A_l_expr) (h_l_pull : Fnc P w K mg base "_law_pull" 1 ["_law_bag_here", "_law_many"] BagW A_l_pull) (h_l_pick : Fnc P w K mg base "_law_pick" 2 ["_law_bag_here", "_law_some"] BagW A_l_pick) (h_l_signs : Fnc P w K mg base "_law_signs" 1 [] (fun _ => True) A_l_signs) (hF : ∃ fd, FnS K "_law_chain_of" "_law_chain_of" s_l_chain_of [] (He.ga K "_law_chain_of") fd) (m : mg "_law_chain_of" = some (.ref (He.ga K "_law_chain_of")))
    {Ab : List D → (D → Prop) → Prop} (hlen : ∀ ds P, Ab ds P → ds.length = 3) (hA : ∀ ds P, Ab ds P → a_l_chain_of { nx := fun _ => P .non, rt := P } (startG 8 ds)) :
    Fnc P w K mg base "_law_chain_of" (4 + 1) ["_law_bag_here", "_law_deep", "_law_names"] BagW Ab := by
  have hC : Cl BagW := bag_cl
  delta a_l_chain_of at hA
  refine fnc_mk (st := s_l_chain_of) (N := n_l_chain_of) hF m sc_l_chain_of (fun _ _ _ _ _ _ us hl => match us, hl with | [_, _, _], _ => rfl) (fun _ _ _ _ _ _ us hl => match us, hl with | [_, _, _], _ => rfl) hlen hA fun fd cdv A' outer s H E hr => ?_
  exact ⟨_, jss_cons (js_set 3 hC sc_l_chain_of.nd (je_fnc (h_l_expr) hr (by decide) (fun _ h => h) (ja_cons (je_var 0) (ja_cons (je_var 2) (ja_cons (je_int) (ja_nil))))))
      (jss_cons (js_for hC rfl (ji_rng1 T.b_range (ja_cons (je_op jo_sub (je_var 1) (je_int)) (ja_nil))) (jg_name 4 sc_l_chain_of.nd) (jss_cons (js_set 5 hC sc_l_chain_of.nd (je_fnc (h_l_pull) hr (by decide) (fun _ h => h) (ja_cons (je_var 0) (ja_cons (je_int) (ja_nil)))))
      (jss_cons (js_set 6 hC sc_l_chain_of.nd (je_fnc (h_l_expr) hr (by decide) (fun _ h => h) (ja_cons (je_var 0) (ja_cons (je_var 2) (ja_cons (je_int) (ja_nil))))))
      (jss_cons (js_set 7 hC sc_l_chain_of.nd (je_fnc (h_l_pick) hr (by decide) (fun _ h => h) (ja_cons (je_var 0) (ja_cons (je_fnc0 (h_l_signs) hr (by decide) (fun _ _ => trivial)) (ja_nil)))))
      (jss_one (js_set 3 hC sc_l_chain_of.nd (je_ix (je_L (jl_lst (ja_cons (je_tup (ja_cons (je_str) (ja_cons (je_var 3) (ja_nil)))) (ja_cons (je_tup (ja_cons (je_str) (ja_cons (je_var 7) (ja_cons (je_var 3) (ja_cons (je_var 6) (ja_nil)))))) (ja_cons (je_tup (ja_cons (je_str) (ja_cons (je_var 7) (ja_cons (je_var 6) (ja_cons (je_var 3) (ja_nil)))))) (ja_nil)))))) (je_var 5))))))) PassesOwn.never)
      (jss_one (js_ret hC (je_var 3))))⟩

abbrev s_l_odd : Stmt := top 26
abbrev n_l_odd : List Str := ["_law_bag_here"]
theorem sc_l_odd : FnScope n_l_odd ["_law_bag_here"] (defScope s_l_odd) := ⟨rfl, rfl, rfl, by decide +kernel, rfl, by decide +kernel, by decide +kernel⟩
theorem ok_l_odd (T : Txt K mg) (h_l_pick : Fnc P w K mg base "_law_pick" 2 ["_law_bag_here", "_law_some"] BagW A_l_pick) (hF : ∃ fd, FnS K "_law_odd" "_law_odd" s_l_odd [] (He.ga K "_law_odd") fd) (m : mg "_law_odd" = some (.ref (He.ga K "_law_odd")))
    {Ab : List D → (D → Prop) → Prop} (hlen : ∀ ds P, Ab ds P → ds.length = 1) (hA : ∀ ds P, Ab ds P → a_l_odd { nx := fun _ => P .non, rt := P } (startG 1 ds)) :
    Fnc P w K mg base "_law_odd" (2 + 1) ["_law_bag_here"] BagW Ab := by
  have hC : Cl BagW := bag_cl
  delta a_l_odd at hA
  refine fnc_mk (st := s_l_odd) (N := n_l_odd) hF m sc_l_odd (fun _ _ _ _ _ _ us hl => match us, hl with | [_], _ => rfl) (fun _ _ _ _ _ _ us hl => match us, hl with | [_], _ => rfl) hlen hA fun fd cdv A' outer s H E hr => ?_
  exact ⟨_, jss_one (js_ret hC (je_fnc (h_l_pick) hr (by decide) (fun _ h => h) (ja_cons (je_var 0) (ja_cons (je_L (jl_lst (ja_cons (je_non) (ja_cons (je_bl) (ja_cons (je_neg (je_int)) (ja_cons (je_int) (ja_cons (je_op jo_pow (je_int) (je_int)) (ja_cons (je_str) (ja_cons (je_str) (ja_cons (je_str) (ja_cons (je_str) (ja_cons (je_str) (ja_cons (je_str) (ja_cons (je_L (jl_lst (ja_nil))) (ja_cons (je_L (jl_lst (ja_cons (je_tup (ja_cons (je_str) (ja_cons (je_int) (ja_nil)))) (ja_nil)))) (ja_cons (je_tup (ja_nil)) (ja_nil))))))))))))))))) (ja_nil)))))⟩

abbrev s_l_bent : Stmt := top 27
abbrev n_l_bent : List Str := ["_law_bag_here", "_law_tree", "_law_way", "_law_odd_here"]
theorem sc_l_bent : FnScope n_l_bent ["_law_bag_here", "_law_tree"] (defScope s_l_bent) := ⟨rfl, rfl, rfl, by decide +kernel, rfl, by decide +kernel, by decide +kernel⟩
theorem ok_l_bent (T : Txt K mg) {A : List D → (D → Prop) → Prop} {lv : Nat} (h_l_bent : Fnc P w K mg base "_law_bent" lv ["_law_bag_here", "_law_tree"] BagW A) (h_l_pull : Fnc P w K mg base "_law_pull" 1 ["_law_bag_here", "_law_many"] BagW A_l_pull) (h_l_odd : Fnc P w K mg base "_law_odd" 3 ["_law_bag_here"] BagW A_l_odd) (h_l_pick : Fnc P w K mg base "_law_pick" 2 ["_law_bag_here", "_law_some"] BagW A_l_pick) (hF : ∃ fd, FnS K "_law_bent" "_law_bent" s_l_bent [] (He.ga K "_law_bent") fd) (m : mg "_law_bent" = some (.ref (He.ga K "_law_bent")))
    {Ab : List D → (D → Prop) → Prop} (hlen : ∀ ds P, Ab ds P → ds.length = 2) (hA : ∀ ds P, Ab ds P → a_l_bent A { nx := fun _ => P .non, rt := P } (startG 4 ds)) (hl_l_pull : 1 ≤ lv) (hl_l_odd : 3 ≤ lv) (hl_l_pick : 2 ≤ lv) :
    Fnc P w K mg base "_law_bent" (lv + 1) ["_law_bag_here", "_law_tree"] BagW Ab := by
  have hC : Cl BagW := bag_cl
  delta a_l_bent at hA
  refine fnc_mk (st := s_l_bent) (N := n_l_bent) hF m sc_l_bent (fun _ _ _ _ _ _ us hl => match us, hl with | [_, _], _ => rfl) (fun _ _ _ _ _ _ us hl => match us, hl with | [_, _], _ => rfl) hlen hA fun fd cdv A' outer s H E hr => ?_
  exact ⟨_, jss_cons (js_set 2 hC sc_l_bent.nd (je_fnc (h_l_pull) hr (by omega) (fun _ h => h) (ja_cons (je_var 0) (ja_cons (je_int) (ja_nil)))))
      (jss_cons (js_if hC (jt_w (jw_and (jt_cmp (jo_eq (hu65 hr)) (je_ix (je_var 1) (je_int)) (je_str)) (jw_and1 (jt_cmp jo_gt (je_var 2) (je_int))))) (jss_one (js_ret hC (je_tup (ja_cons (je_str) (ja_cons (je_fnc (h_l_bent) hr (by omega) (fun _ h => h) (ja_cons (je_var 0) (ja_cons (je_ix (je_var 1) (je_int)) (ja_nil)))) (ja_nil)))))) (jss_nil))
      (jss_cons (js_if hC (jt_w (jw_and (jt_cmp (jo_eq (hu65 hr)) (je_ix (je_var 1) (je_int)) (je_str)) (jw_and1 (jt_cmp jo_gt (je_var 2) (je_int))))) (jss_one (js_ret hC (je_op jo_add (je_sl (je_var 1) (jp_none) (jp_some (je_int))) (je_if (jt_cmp (jo_eq (hu65 hr)) (je_op jo_mod (je_var 2) (je_int)) (je_int)) (je_tup (ja_cons (je_fnc (h_l_bent) hr (by omega) (fun _ h => h) (ja_cons (je_var 0) (ja_cons (je_ix (je_var 1) (je_int)) (ja_nil)))) (ja_cons (je_ix (je_var 1) (je_int)) (ja_nil)))) (je_tup (ja_cons (je_ix (je_var 1) (je_int)) (ja_cons (je_fnc (h_l_bent) hr (by omega) (fun _ h => h) (ja_cons (je_var 0) (ja_cons (je_ix (je_var 1) (je_int)) (ja_nil)))) (ja_nil)))))))) (jss_nil))
      (jss_cons (js_set 3 hC sc_l_bent.nd (je_fnc (h_l_odd) hr (by omega) (fun _ h => h) (ja_cons (je_var 0) (ja_nil))))
      (jss_cons (js_if hC (jt_cmp (jo_in (hu65 hr)) (je_ix (je_var 1) (je_int)) (je_tup (ja_cons (je_str) (ja_cons (je_str) (ja_nil))))) (jss_one (js_ret hC (je_fnc (h_l_pick) hr (by omega) (fun _ h => h) (ja_cons (je_var 0) (ja_cons (je_L (jl_lst (ja_cons (je_tup (ja_cons (je_ix (je_var 1) (je_int)) (ja_cons (je_var 3) (ja_nil)))) (ja_cons (je_op jo_add (je_var 1) (je_tup (ja_cons (je_int) (ja_nil)))) (ja_cons (je_sl (je_var 1) (jp_none) (jp_some (je_int))) (ja_cons (je_callTy call_list_of s_list T.b_list PyProof.Rows.boot_list (ja_cons (je_var 1) (ja_nil))) (ja_cons (je_var 3) (ja_cons (je_tup (ja_cons (je_str) (ja_cons (je_int) (ja_nil)))) (ja_nil))))))))) (ja_nil)))))) (jss_nil))
      (jss_cons (js_if hC (jt_cmp (jo_eq (hu65 hr)) (je_ix (je_var 1) (je_int)) (je_str)) (jss_one (js_ret hC (je_fnc (h_l_pick) hr (by omega) (fun _ h => h) (ja_cons (je_var 0) (ja_cons (je_L (jl_lst (ja_cons (je_tup (ja_cons (je_str) (ja_nil))) (ja_cons (je_op jo_add (je_var 1) (je_tup (ja_cons (je_ix (je_var 1) (je_int)) (ja_nil)))) (ja_cons (je_tup (ja_cons (je_str) (ja_cons (je_var 3) (ja_nil)))) (ja_cons (je_callTy call_list_of s_list T.b_list PyProof.Rows.boot_list (ja_cons (je_var 1) (ja_nil))) (ja_nil))))))) (ja_nil)))))) (jss_nil))
      (jss_one (js_ret hC (je_fnc (h_l_pick) hr (by omega) (fun _ h => h) (ja_cons (je_var 0) (ja_cons (je_L (jl_lst (ja_cons (je_sl (je_var 1) (jp_none) (jp_some (je_int))) (ja_cons (je_op jo_add (je_var 1) (je_tup (ja_cons (je_ix (je_var 1) (je_int)) (ja_nil)))) (ja_cons (je_tup (ja_cons (je_str) (ja_cons (je_str) (ja_cons (je_ix (je_var 1) (je_int)) (ja_cons (je_ix (je_var 1) (je_int)) (ja_nil)))))) (ja_cons (je_tup (ja_cons (je_str) (ja_cons (je_str) (ja_cons (je_ix (je_var 1) (je_int)) (ja_cons (je_ix (je_var 1) (je_int)) (ja_nil)))))) (ja_cons (je_tup (ja_cons (je_str) (ja_cons (je_fnc (h_l_pick) hr (by omega) (fun _ h => h) (ja_cons (je_var 0) (ja_cons (je_L (jl_lst (ja_cons (je_int) (ja_cons (je_L (jl_lst (ja_cons (je_str) (ja_nil)))) (ja_cons (je_tup (ja_cons (je_str) (ja_nil))) (ja_nil)))))) (ja_nil)))) (ja_cons (je_ix (je_var 1) (je_int)) (ja_cons (je_ix (je_var 1) (je_int)) (ja_nil)))))) (ja_cons (je_tup (ja_cons (je_str) (ja_cons (je_ix (je_var 1) (je_int)) (ja_cons (je_var 3) (ja_cons (je_ix (je_var 1) (je_int)) (ja_nil)))))) (ja_cons (je_callTy call_list_of s_list T.b_list PyProof.Rows.boot_list (ja_cons (je_var 1) (ja_nil))) (ja_nil)))))))))) (ja_nil)))))))))))⟩

abbrev s__law_bag : Stmt := top 15
theorem sc__law_bag : FnScope ["_law_script"] ["_law_script"] (defScope s__law_bag) := ⟨rfl, rfl, rfl, by decide +kernel, rfl, by decide +kernel, by decide +kernel⟩
theorem ok__law_bag (T : Txt K mg) {f : Addr} {fd : FuncData} (F : FnS K "_law_bag" "_law_bag" s__law_bag [] f fd) : FnOk P w K mg base CX0 1 f fd ["_law_script"] (spBag K) := by
  refine FunD.ok F sc__law_bag (fun vs H Q E h => ?_) (fun cdv A outer s H vs Q E hr h => ⟨t_bag K, PSs.nox ?_, bag_all vs H Q E h⟩)
  · obtain ⟨a, ns, rfl, _⟩ := h
    rfl
  · exact pss_one (ps_ret (pe_lst (pa_cons (pe_callTy call_list_of rfl T.b_list PyProof.Rows.boot_list (pa_cons (pe_slice sl_list (pv 0) po_none (po_some pe_int)) pa_nil)) (pa_cons pe_int (pa_cons pe_int (pa_cons (pe_op op_add pe_int (pe_callB call_len_seq rfl T.b_len PySem.boot_len (pa_cons (pv 0) pa_nil))) pa_nil))))))
abbrev s_l_pull : Stmt := top 16
abbrev n_l_pull : List Str := ["_law_bag_here", "_law_many", "_law_cell", "_law_digit"]
theorem sc_l_pull : FnScope n_l_pull ["_law_bag_here", "_law_many"] (defScope s_l_pull) := ⟨rfl, rfl, rfl, by decide +kernel, rfl, by decide +kernel, by decide +kernel⟩
theorem ok_l_pull (T : Txt K mg) (hF : ∃ fd, FnS K "_law_pull" "_law_pull" s_l_pull [] (He.ga K "_law_pull") fd) (m : mg "_law_pull" = some (.ref (He.ga K "_law_pull"))) : Fnc P w K mg base "_law_pull" (0 + 1) ["_law_bag_here", "_law_many"] BagW A_l_pull := by
  refine fnc_pull (st := s_l_pull) (N := n_l_pull) hF m sc_l_pull rfl rfl (fun _ _ _ _ _ _ us hl => match us, hl with | [_, _], _ => rfl) (fun _ _ _ _ _ _ us hl => match us, hl with | [_, _], _ => rfl) fun fd cdv A outer s H E hr => ?_
  have hn := sc_l_pull.nd
  have ix : ∀ {X : Cx} {i : Int} {j : Nat} {p p2 p3 : Pos} {x : Str}, X.N[0]? = some x → Vis X.env.scope x → (x == ("__debug__" : Str)) = false → (x == ("__classdict__" : Str)) = false → PE X (.Subscript (.Name x p) (.Constant (.int i) j p2) p3) (pIx X.K i) := fun h1 h2 h3 h4 => pe_ix ix_list (pe_var h1 h2 h3 h4) pe_int (fun _ _ => rfl)
  exact pss_cons (ps_if (PW.pt (pw_and (pt_cmpR op_eq (ix rfl (.inl rfl) (by decide) (by decide)) pe_int (nomark _)) (pw_and1 (pt_cmpR op_lt (ix rfl (.inl rfl) (by decide) (by decide)) (pe_callB call_len_seq rfl T.b_len PySem.boot_len (pa_cons (ix rfl (.inl rfl) (by decide) (by decide)) pa_nil)) (nomark _)))))
      (pss_cons (ps_set (i := 2) hn rfl (Or.inl rfl) (pe_ix ix_list (ix rfl (.inl rfl) (by decide) (by decide)) (ix rfl (.inl rfl) (by decide) (by decide)) (fun _ _ => rfl)))
      (pss_cons (ps_asg (pe_op op_add (ix rfl (.inl rfl) (by decide) (by decide)) pe_int) (pg_sub (pv 0) pe_int set_list))
      (pss_one (ps_if (pt_cmpR op_ge (pv 2) (pe_op op_pow pe_int pe_int) (nomark _))
        (pss_one (ps_asg (pv 2) (pg_sub (pv 0) pe_int set_list)))
        (pss_one (ps_asg (pe_op op_modN (pe_callTy call_int1 rfl T.b_int PyProof.Rows.boot_int (pa_cons (pe_op op_add (pe_op op_add (pe_op op_mul (ix rfl (.inl rfl) (by decide) (by decide)) pe_int)
          (pe_op op_mul (pe_op op_modN (pe_callTy call_int1 rfl T.b_int PyProof.Rows.boot_int (pa_cons (pv 2) pa_nil)) pe_int) pe_int)) pe_int) pa_nil)) pe_int) (pg_sub (pv 0) pe_int set_list))))))) pss_nil)
    (pss_cons (ps_if (pt_cmpR op_gt (ix rfl (.inl rfl) (by decide) (by decide)) pe_int (nomark _))
      (pss_cons (ps_set (i := 3) hn rfl (Or.inl rfl) (pe_op op_modN (pe_callTy call_int1 rfl T.b_int PyProof.Rows.boot_int (pa_cons (ix rfl (.inl rfl) (by decide) (by decide)) pa_nil)) (pv 1)))
      (pss_cons (ps_asg (pe_op (op_fdivN.or op_fdivW) (ix rfl (.inl rfl) (by decide) (by decide)) (pv 1)) (pg_sub (pv 0) pe_int set_list))
      (pss_one (ps_ret (pv 3))))) pss_nil)
    (pss_cons (ps_asg (pe_op op_modN (pe_callTy call_int1 rfl T.b_int PyProof.Rows.boot_int (pa_cons (pe_op op_add (pe_op op_add (pe_op op_mul (ix rfl (.inl rfl) (by decide) (by decide)) (ix rfl (.inl rfl) (by decide) (by decide)))
        (pe_op op_mul (ix rfl (.inl rfl) (by decide) (by decide)) pe_int)) pe_int) pa_nil)) pe_int) (pg_sub (pv 0) pe_int set_list))
    (pss_one (ps_ret (pe_op op_modN (pe_callTy call_int1 rfl T.b_int PyProof.Rows.boot_int (pa_cons (pe_op op_add (pe_op op_fdivN (ix rfl (.inl rfl) (by decide) (by decide)) pe_int)
        (pe_op op_mul (pe_op op_modN (pe_callTy call_int1 rfl T.b_int PyProof.Rows.boot_int (pa_cons (ix rfl (.inl rfl) (by decide) (by decide)) pa_nil)) pe_int) pe_int)) pa_nil)) (pv 1))))))
abbrev s_law : Stmt := top 28
abbrev n_law : List Str := ["_law_script", "_law_bag_here", "_law_names", "_law_turn", "_law_deep", "_law_tree", "_law_odd_here", "_law_due"]
theorem sc_law : FnScope n_law ["_law_script"] (defScope s_law) := ⟨rfl, rfl, rfl, by decide +kernel, rfl, by decide +kernel, by decide +kernel⟩
theorem ok_law (T : Txt K mg) (h_l_word : Fnc P w K mg base "_law_word" 2 ["_law_bag_here", "_law_most"] BagW A_l_word) (h_l_pull : Fnc P w K mg base "_law_pull" 1 ["_law_bag_here", "_law_many"] BagW A_l_pull) (h_l_chain_of : Fnc P w K mg base "_law_chain_of" 5 ["_law_bag_here", "_law_deep", "_law_names"] BagW A_l_chain_of) (h_l_same : Fnc P w K mg base "_law_same" 5 ["_law_found", "_law_due"] (fun _ => True) (A_l_same 4)) (h_is_expression : Fnc P w K mg base "is_expression" 10 ["value"] (fun _ => True) A_is_expression) (h_l_bent : Fnc P w K mg base "_law_bent" 11 ["_law_bag_here", "_law_tree"] BagW (A_l_bent 8)) (h_l_pick : Fnc P w K mg base "_law_pick" 2 ["_law_bag_here", "_law_some"] BagW A_l_pick) {fB : Addr} {fdB : FuncData} (FB : FnS K "_law_bag" "_law_bag" s__law_bag [] fB fdB) (mB : mg "_law_bag" = some (.ref fB)) {f : Addr} {fd : FuncData} (F : FnS K "law" "law" s_law [] f fd) :
    FnOk P w K mg base CX0 (12 + 1) f fd ["_law_script"] (spLaw K) := by
  have hC : Cl BagW := bag_cl
  have GB : FnOk P w K mg base CX0 1 fB fdB ["_law_script"] (spBag K) := ok__law_bag T FB
  have bB : Binds K fdB ["_law_script"] [] := FB.bindsN fun _ _ _ _ _ _ us hl => match us, hl with | [_], _ => rfl
  have hA := pure_law
  unfold a_law at hA
  refine law_mk (z := "_law_bag_here") F sc_law rfl rfl (fun cdv A outer s H E hr => ⟨ps_set (i := 1) sc_law.nd rfl (by first | exact Or.inl rfl | exact Or.inr rfl) (pe_call GB (hr.mono (by decide)) rfl mB FB.kp bB .nil pass0 (pa_cons (pv 0) pa_nil)), ?_⟩) hA
  exact ⟨_, jss_cons (js_set 2 hC sc_law.nd (je_L (jl_lst (ja_cons (je_fnc (h_l_word) hr (by decide) (fun _ h => h) (ja_cons (je_var 1) (ja_cons (je_int) (ja_nil)))) (ja_cons (je_upper (je_fnc (h_l_word) hr (by decide) (fun _ h => h) (ja_cons (je_var 1) (ja_cons (je_int) (ja_nil))))) (ja_cons (je_str) (ja_cons (je_str) (ja_nil))))))))
      (jss_cons (js_for hC rfl (ji_rng1 T.b_range (ja_cons (je_int) (ja_nil))) (jg_name 3 sc_law.nd) (jss_cons (js_set 4 hC sc_law.nd (je_op jo_add (je_int) (je_fnc (h_l_pull) hr (by decide) (fun _ h => h) (ja_cons (je_var 1) (ja_cons (je_int) (ja_nil))))))
      (jss_cons (js_set 5 hC sc_law.nd (je_fnc (h_l_chain_of) hr (by decide) (fun _ h => h) (ja_cons (je_var 1) (ja_cons (je_var 4) (ja_cons (je_var 2) (ja_nil))))))
      (jss_cons (js_if hC (jt_not (jt_val (je_fnc (h_l_same) hr (by decide) (fun _ _ => trivial) (ja_cons (je_L (jl_lst (ja_cons (je_fnc (h_is_expression) hr (by decide) (fun _ _ => trivial) (ja_cons (je_var 5) (ja_nil))) (ja_cons (je_fnk (h_is_expression) hr (by decide) (fun _ _ => trivial) (by decide) (jk_cons (je_var 5) (jk_nil))) (ja_nil))))) (ja_cons (je_L (jl_lst (ja_cons (je_cmp jo_lt (je_var 4) (je_int)) (ja_cons (je_cmp jo_lt (je_var 4) (je_int)) (ja_nil))))) (ja_nil)))))) (jss_one (js_ret hC (je_bl))) (jss_nil))
      (jss_one (js_if hC (jt_not (jt_val (je_fnc (h_l_same) hr (by decide) (fun _ _ => trivial) (ja_cons (je_fnc (h_is_expression) hr (by decide) (fun _ _ => trivial) (ja_cons (je_fnc (h_l_bent) hr (by decide) (fun _ h => h) (ja_cons (je_var 1) (ja_cons (je_var 5) (ja_nil)))) (ja_nil))) (ja_cons (je_bl) (ja_nil)))))) (jss_one (js_ret hC (je_bl))) (jss_nil)))))) PassesOwn.never)
      (jss_cons (js_set 6 hC sc_law.nd (je_fnc (h_l_pick) hr (by decide) (fun _ h => h) (ja_cons (je_var 1) (ja_cons (je_L (jl_lst (ja_cons (je_tup (ja_cons (je_str) (ja_cons (je_int) (ja_nil)))) (ja_cons (je_tup (ja_cons (je_str) (ja_cons (je_int) (ja_nil)))) (ja_cons (je_tup (ja_cons (je_str) (ja_cons (je_int) (ja_nil)))) (ja_cons (je_tup (ja_cons (je_str) (ja_cons (je_neg (je_int)) (ja_nil)))) (ja_cons (je_tup (ja_cons (je_str) (ja_cons (je_bl) (ja_nil)))) (ja_cons (je_tup (ja_cons (je_str) (ja_cons (je_str) (ja_nil)))) (ja_cons (je_tup (ja_cons (je_str) (ja_cons (je_str) (ja_nil)))) (ja_cons (je_tup (ja_cons (je_str) (ja_cons (je_str) (ja_nil)))) (ja_cons (je_tup (ja_cons (je_str) (ja_cons (je_str) (ja_nil)))) (ja_cons (je_tup (ja_cons (je_str) (ja_cons (je_str) (ja_nil)))) (ja_cons (je_tup (ja_cons (je_str) (ja_cons (je_str) (ja_nil)))) (ja_cons (je_non) (ja_cons (je_int) (ja_cons (je_str) (ja_cons (je_L (jl_lst (ja_cons (je_str) (ja_cons (je_int) (ja_nil))))) (ja_nil)))))))))))))))))) (ja_nil)))))
      (jss_cons (js_set 7 hC sc_law.nd (je_cmp (jo_in (hu65 hr)) (je_var 6) (je_L (jl_lst (ja_cons (je_tup (ja_cons (je_str) (ja_cons (je_int) (ja_nil)))) (ja_cons (je_tup (ja_cons (je_str) (ja_cons (je_int) (ja_nil)))) (ja_cons (je_tup (ja_cons (je_str) (ja_cons (je_str) (ja_nil)))) (ja_cons (je_tup (ja_cons (je_str) (ja_cons (je_str) (ja_nil)))) (ja_cons (je_tup (ja_cons (je_str) (ja_cons (je_str) (ja_nil)))) (ja_nil))))))))))
      (jss_one (js_ret hC (je_fnc (h_l_same) hr (by decide) (fun _ _ => trivial) (ja_cons (je_fnc (h_is_expression) hr (by decide) (fun _ _ => trivial) (ja_cons (je_var 6) (ja_nil))) (ja_cons (je_or (je_and (je_var 7) (je_one (je_cmp (jo_ne (hu65 hr)) (je_var 6) (je_tup (ja_cons (je_str) (ja_cons (je_bl) (ja_nil))))))) (je_one (je_fnc (h_l_same) hr (by decide) (fun _ _ => trivial) (ja_cons (je_var 6) (ja_cons (je_tup (ja_cons (je_str) (ja_cons (je_int) (ja_nil)))) (ja_nil)))))) (ja_nil)))))))))⟩
end

end Ad
set_option maxHeartbeats 0
namespace Ad
open PySem PySem.Spec PyProof.Rows L2
theorem tup_strs {K : PySem.W.Frag} {x : Str} {zs : List Str} (h : He.tupB K x (zs.map He.Dv.str) = true) (H : Hp) : SqT K H (He.ga K x) (zs.map V.str) := by
  have e := He.tupB_ok h H
  rw [List.map_map] at e
  exact e
def fn_ : List He.DefD := [⟨("_law_bag", none), "_law_bag", "_law_bag", defArgs s__law_bag, defBody s__law_bag, defScope s__law_bag, [], []⟩, ⟨("_law_pull", none), "_law_pull", "_law_pull", defArgs s_l_pull, defBody s_l_pull, defScope s_l_pull, [], []⟩, ⟨("is_number", none), "is_number", "is_number", defArgs s_is_number, defBody s_is_number, defScope s_is_number, [], []⟩, ⟨("is_word", none), "is_word", "is_word", defArgs s_is_word, defBody s_is_word, defScope s_is_word, [], []⟩, ⟨("is_own", none), "is_own", "is_own", defArgs s_is_own, defBody s_is_own, defScope s_is_own, [], []⟩, ⟨("is_shared", none), "is_shared", "is_shared", defArgs s_is_shared, defBody s_is_shared, defScope s_is_shared, [], []⟩, ⟨("fits", none), "fits", "fits", defArgs s_fits, defBody s_fits, defScope s_fits, [], []⟩, ⟨("is_expression", none), "is_expression", "is_expression", defArgs s_is_expression, defBody s_is_expression, defScope s_is_expression, [], []⟩, ⟨("_law_pick", none), "_law_pick", "_law_pick", defArgs s_l_pick, defBody s_l_pick, defScope s_l_pick, [], []⟩, ⟨("_law_kind", none), "_law_kind", "_law_kind", defArgs s_l_kind, defBody s_l_kind, defScope s_l_kind, [], []⟩, ⟨("_law_same", none), "_law_same", "_law_same", defArgs s_l_same, defBody s_l_same, defScope s_l_same, [], []⟩, ⟨("_law_keywords", none), "_law_keywords", "_law_keywords", defArgs s_l_keywords, defBody s_l_keywords, defScope s_l_keywords, [], []⟩, ⟨("_law_word", none), "_law_word", "_law_word", defArgs s_l_word, defBody s_l_word, defScope s_l_word, [], []⟩, ⟨("_law_signs", none), "_law_signs", "_law_signs", defArgs s_l_signs, defBody s_l_signs, defScope s_l_signs, [], []⟩, ⟨("_law_constant", none), "_law_constant", "_law_constant", defArgs s_l_constant, defBody s_l_constant, defScope s_l_constant, [], []⟩, ⟨("_law_expr", none), "_law_expr", "_law_expr", defArgs s_l_expr, defBody s_l_expr, defScope s_l_expr, [], []⟩, ⟨("_law_chain_of", none), "_law_chain_of", "_law_chain_of", defArgs s_l_chain_of, defBody s_l_chain_of, defScope s_l_chain_of, [], []⟩, ⟨("_law_odd", none), "_law_odd", "_law_odd", defArgs s_l_odd, defBody s_l_odd, defScope s_l_odd, [], []⟩, ⟨("_law_bent", none), "_law_bent", "_law_bent", defArgs s_l_bent, defBody s_l_bent, defScope s_l_bent, [], []⟩, ⟨("law", none), "law", "law", defArgs s_law, defBody s_law, defScope s_law, [], []⟩]
def fa_ : List He.Fa := [.glo "_law_bag", .glo "_law_pull", .glo "is_number", .glo "is_word", .glo "is_own", .glo "is_shared", .glo "fits", .glo "is_expression", .glo "_law_pick", .glo "_law_kind", .glo "_law_same", .glo "_law_keywords", .glo "_law_word", .glo "_law_signs", .glo "_law_constant", .glo "_law_expr", .glo "_law_chain_of", .glo "_law_odd", .glo "_law_bent", .glo "law", .free "all", .free "bool", .free "dict", .free "int", .free "isinstance", .free "len", .free "list", .free "range", .free "str", .free "tuple", .free "zip", .str "GREAT" "ABCDEFGHIJKLMNOPQRSTUVWXYZ", .glo "KEYWORDS", .int "MOST_NESTED" 6, .int "MOST_NUMBER" 999999, .glo "SIGNS", .str "SMALL" "abcdefghijklmnopqrstuvwxyz"]
def ex_ (K : PySem.W.Frag) : Bool := He.tupB K "KEYWORDS" (v_KEYWORDS.map He.Dv.str) && (He.tupB K "SIGNS" (v_SIGNS.map He.Dv.str))
abbrev Rr : PySem.W.OpenRow := PySem.W.OpenLaw.row PySem.Challenge.rw_pricedcalls_k06_expressions_judged
abbrev hk : PySem.W.Hook := He.hookX 4 fa_ fn_ [] [] ex_
def ob (s : PySem.W.SharedT) : He.AlX := He.obsX 4 fa_ fn_ [] [] ex_ (HandSHeadRun.getT s)
theorem ob_eq (s : PySem.W.SharedT) : ob s = hk.obs s.abs := He.obsX_eq (HandSHeadRun.getT_eq s)
abbrev loose_ : List Str := ["is_number", "KEYWORDS", "SMALL", "GREAT", "SIGNS", "MOST_NUMBER", "MOST_NESTED", "is_word", "is_own", "is_shared", "fits", "is_expression", "_law_bag", "_law_pull", "_law_pick", "_law_kind", "_law_same", "_law_keywords", "_law_word", "_law_signs", "_law_constant", "_law_expr", "_law_chain_of", "_law_odd", "_law_bent"]
theorem run (w : World) : HandSHeadRun.RunEq Rr (PySem.W.view Rr.prog [28]) hk ob 4000 loose_ w := by
  intro os
  kernel_rfl
theorem facts {P : Program} {w : World} {K : PySem.W.Frag} {h : Heap} {mg : Str → Option Value} {f : Addr} (X : K.In h) (G : h.Ns mainGlobals mg) (hfa : mg ("law" : Str) = some (.ref f)) (c : He.SaysD fa_ fn_ K) (ex_ok : ex_ K = true) :
    ∃ fd : FuncData, (∀ (s : Shared) (v : Value), BindsTo s fd ⟨[v], []⟩ [("_law_script", v)]) ∧ ∀ base : Heap, K.In base → base.Ns mainGlobals mg → FnOk P w K mg base CX0 (12 + 1) f fd ["_law_script"] (spLaw K) := by
  have T : Txt K mg := ⟨He.free_ok X G (c.fact 20 (f := .free "all") rfl), He.free_ok X G (c.fact 21 (f := .free "bool") rfl), He.free_ok X G (c.fact 22 (f := .free "dict") rfl), He.free_ok X G (c.fact 23 (f := .free "int") rfl), He.free_ok X G (c.fact 24 (f := .free "isinstance") rfl), He.free_ok X G (c.fact 25 (f := .free "len") rfl), He.free_ok X G (c.fact 26 (f := .free "list") rfl), He.free_ok X G (c.fact 27 (f := .free "range") rfl), He.free_ok X G (c.fact 28 (f := .free "str") rfl), He.free_ok X G (c.fact 29 (f := .free "tuple") rfl), He.free_ok X G (c.fact 30 (f := .free "zip") rfl), He.str_ok X G (c.fact 31 (f := .str "GREAT" "ABCDEFGHIJKLMNOPQRSTUVWXYZ") rfl), He.glo_ok X G (c.fact 32 (f := .glo "KEYWORDS") rfl), tup_strs ((He.ba ex_ok).1), He.int_ok X G (c.fact 33 (f := .int "MOST_NESTED" 6) rfl), He.int_ok X G (c.fact 34 (f := .int "MOST_NUMBER" 999999) rfl), He.glo_ok X G (c.fact 35 (f := .glo "SIGNS") rfl), tup_strs ((He.ba ex_ok).2), He.str_ok X G (c.fact 36 (f := .str "SMALL" "abcdefghijklmnopqrstuvwxyz") rfl)⟩
  have D0 := c.def_ 0 (d := fn_[0]) rfl
  have D1 := c.def_ 1 (d := fn_[1]) rfl
  have D2 := c.def_ 2 (d := fn_[2]) rfl
  have D3 := c.def_ 3 (d := fn_[3]) rfl
  have D4 := c.def_ 4 (d := fn_[4]) rfl
  have D5 := c.def_ 5 (d := fn_[5]) rfl
  have D6 := c.def_ 6 (d := fn_[6]) rfl
  have D7 := c.def_ 7 (d := fn_[7]) rfl
  have D8 := c.def_ 8 (d := fn_[8]) rfl
  have D9 := c.def_ 9 (d := fn_[9]) rfl
  have D10 := c.def_ 10 (d := fn_[10]) rfl
  have D11 := c.def_ 11 (d := fn_[11]) rfl
  have D12 := c.def_ 12 (d := fn_[12]) rfl
  have D13 := c.def_ 13 (d := fn_[13]) rfl
  have D14 := c.def_ 14 (d := fn_[14]) rfl
  have D15 := c.def_ 15 (d := fn_[15]) rfl
  have D16 := c.def_ 16 (d := fn_[16]) rfl
  have D17 := c.def_ 17 (d := fn_[17]) rfl
  have D18 := c.def_ 18 (d := fn_[18]) rfl
  have D19 := c.def_ 19 (d := fn_[19]) rfl
  obtain ⟨fdB, FB⟩ := (D0 : ∃ fd, FnS K "_law_bag" "_law_bag" s__law_bag [] (He.ga K "_law_bag") fd)
  obtain ⟨fd, F⟩ := (D19 : ∃ fd, FnS K "law" "law" s_law [] (He.ga K "law") fd)
  have e := hfa.symm.trans (He.glo_ok X G (c.fact 19 (f := .glo "law") rfl))
  cases e
  have b := FunD.bindsA (ps := ["_law_script"]) F fun _ _ _ _ _ _ us hl => match us, hl with | [_], _ => rfl
  refine ⟨fd, fun s v => b s [v] rfl, fun base _ _ => ?_⟩
  have h_l_pull := ok_l_pull (P := P) (w := w) (base := base) T (D1 : ∃ fd, FnS K "_law_pull" "_law_pull" s_l_pull [] (He.ga K "_law_pull") fd) (He.glo_ok X G (c.fact 1 (f := .glo "_law_pull") rfl))
  have h_is_number := ok_is_number (P := P) (w := w) (base := base) T (D2 : ∃ fd, FnS K "is_number" "is_number" s_is_number [] (He.ga K "is_number") fd) (He.glo_ok X G (c.fact 2 (f := .glo "is_number") rfl)) len_is_number pure_is_number
  have h_is_word := ok_is_word (P := P) (w := w) (base := base) T (D3 : ∃ fd, FnS K "is_word" "is_word" s_is_word [] (He.ga K "is_word") fd) (He.glo_ok X G (c.fact 3 (f := .glo "is_word") rfl)) len_is_word pure_is_word
  have h_is_own := ok_is_own (P := P) (w := w) (base := base) T h_is_word (D4 : ∃ fd, FnS K "is_own" "is_own" s_is_own [] (He.ga K "is_own") fd) (He.glo_ok X G (c.fact 4 (f := .glo "is_own") rfl)) len_is_own pure_is_own
  have h_is_shared := ok_is_shared (P := P) (w := w) (base := base) T h_is_word (D5 : ∃ fd, FnS K "is_shared" "is_shared" s_is_shared [] (He.ga K "is_shared") fd) (He.glo_ok X G (c.fact 5 (f := .glo "is_shared") rfl)) len_is_shared pure_is_shared
  have hh_fits : ∀ n, Fnc P w K mg base "fits" (2 + n) ["value", "deep"] (fun _ => True) (A_fits n) := by
    intro n
    induction n with
    | zero => exact fnc_false (st := s_fits) (D6 : ∃ fd, FnS K "fits" "fits" s_fits [] (He.ga K "fits") fd) (He.glo_ok X G (c.fact 6 (f := .glo "fits") rfl)) (fun _ _ _ _ _ _ us hl => match us, hl with | [_, _], _ => rfl) (fun _ _ _ _ _ _ us hl => match us, hl with | [_, _], _ => rfl) zero_fits
    | succ n ih => exact ok_fits T ih h_is_number h_is_own h_is_shared (D6 : ∃ fd, FnS K "fits" "fits" s_fits [] (He.ga K "fits") fd) (He.glo_ok X G (c.fact 6 (f := .glo "fits") rfl)) (len_fits (n + 1)) (pure_fits n) (by omega) (by omega) (by omega)
  have h_fits := hh_fits 7
  have h_is_expression := ok_is_expression (P := P) (w := w) (base := base) T h_fits (D7 : ∃ fd, FnS K "is_expression" "is_expression" s_is_expression [] (He.ga K "is_expression") fd) (He.glo_ok X G (c.fact 7 (f := .glo "is_expression") rfl)) len_is_expression pure_is_expression
  have h_l_pick := ok_l_pick (P := P) (w := w) (base := base) T h_l_pull (D8 : ∃ fd, FnS K "_law_pick" "_law_pick" s_l_pick [] (He.ga K "_law_pick") fd) (He.glo_ok X G (c.fact 8 (f := .glo "_law_pick") rfl)) len_l_pick pure_l_pick
  have h_l_kind := ok_l_kind (P := P) (w := w) (base := base) T (D9 : ∃ fd, FnS K "_law_kind" "_law_kind" s_l_kind [] (He.ga K "_law_kind") fd) (He.glo_ok X G (c.fact 9 (f := .glo "_law_kind") rfl)) len_l_kind pure_l_kind
  have hh_l_same : ∀ n, Fnc P w K mg base "_law_same" (1 + n) ["_law_found", "_law_due"] (fun _ => True) (A_l_same n) := by
    intro n
    induction n with
    | zero => exact fnc_false (st := s_l_same) (D10 : ∃ fd, FnS K "_law_same" "_law_same" s_l_same [] (He.ga K "_law_same") fd) (He.glo_ok X G (c.fact 10 (f := .glo "_law_same") rfl)) (fun _ _ _ _ _ _ us hl => match us, hl with | [_, _], _ => rfl) (fun _ _ _ _ _ _ us hl => match us, hl with | [_, _], _ => rfl) zero_l_same
    | succ n ih => exact ok_l_same T ih h_l_kind (D10 : ∃ fd, FnS K "_law_same" "_law_same" s_l_same [] (He.ga K "_law_same") fd) (He.glo_ok X G (c.fact 10 (f := .glo "_law_same") rfl)) (len_l_same (n + 1)) (pure_l_same n) (by omega)
  have h_l_same := hh_l_same 4
  have h_l_keywords := ok_l_keywords (P := P) (w := w) (base := base) T (D11 : ∃ fd, FnS K "_law_keywords" "_law_keywords" s_l_keywords [] (He.ga K "_law_keywords") fd) (He.glo_ok X G (c.fact 11 (f := .glo "_law_keywords") rfl)) len_l_keywords pure_l_keywords
  have h_l_word := ok_l_word (P := P) (w := w) (base := base) T h_l_pull h_l_keywords (D12 : ∃ fd, FnS K "_law_word" "_law_word" s_l_word [] (He.ga K "_law_word") fd) (He.glo_ok X G (c.fact 12 (f := .glo "_law_word") rfl)) len_l_word pure_l_word
  have h_l_signs := ok_l_signs (P := P) (w := w) (base := base) T (D13 : ∃ fd, FnS K "_law_signs" "_law_signs" s_l_signs [] (He.ga K "_law_signs") fd) (He.glo_ok X G (c.fact 13 (f := .glo "_law_signs") rfl)) len_l_signs pure_l_signs
  have h_l_constant := ok_l_constant (P := P) (w := w) (base := base) T h_l_pick h_l_pull (D14 : ∃ fd, FnS K "_law_constant" "_law_constant" s_l_constant [] (He.ga K "_law_constant") fd) (He.glo_ok X G (c.fact 14 (f := .glo "_law_constant") rfl)) len_l_constant pure_l_constant
  have h_l_expr := ok_l_expr (P := P) (w := w) (base := base) (lv := 3) T (fnc_false (st := s_l_expr) (Ab := fun _ _ => False) (D15 : ∃ fd, FnS K "_law_expr" "_law_expr" s_l_expr [] (He.ga K "_law_expr") fd) (He.glo_ok X G (c.fact 15 (f := .glo "_law_expr") rfl)) (fun _ _ _ _ _ _ us hl => match us, hl with | [_, _, _], _ => rfl) (fun _ _ _ _ _ _ us hl => match us, hl with | [_, _, _], _ => rfl) fun _ _ h => h) h_l_pull h_l_pick h_l_constant h_l_signs (D15 : ∃ fd, FnS K "_law_expr" "_law_expr" s_l_expr [] (He.ga K "_law_expr") fd) (He.glo_ok X G (c.fact 15 (f := .glo "_law_expr") rfl)) len_l_expr (pure_l_expr _) (by decide) (by decide) (by decide) (by decide)
  have h_l_chain_of := ok_l_chain_of (P := P) (w := w) (base := base) T h_l_expr h_l_pull h_l_pick h_l_signs (D16 : ∃ fd, FnS K "_law_chain_of" "_law_chain_of" s_l_chain_of [] (He.ga K "_law_chain_of") fd) (He.glo_ok X G (c.fact 16 (f := .glo "_law_chain_of") rfl)) len_l_chain_of pure_l_chain_of
  have h_l_odd := ok_l_odd (P := P) (w := w) (base := base) T h_l_pick (D17 : ∃ fd, FnS K "_law_odd" "_law_odd" s_l_odd [] (He.ga K "_law_odd") fd) (He.glo_ok X G (c.fact 17 (f := .glo "_law_odd") rfl)) len_l_odd pure_l_odd
  have hh_l_bent : ∀ n, Fnc P w K mg base "_law_bent" (3 + n) ["_law_bag_here", "_law_tree"] BagW (A_l_bent n) := by
    intro n
    induction n with
    | zero => exact fnc_false (st := s_l_bent) (D18 : ∃ fd, FnS K "_law_bent" "_law_bent" s_l_bent [] (He.ga K "_law_bent") fd) (He.glo_ok X G (c.fact 18 (f := .glo "_law_bent") rfl)) (fun _ _ _ _ _ _ us hl => match us, hl with | [_, _], _ => rfl) (fun _ _ _ _ _ _ us hl => match us, hl with | [_, _], _ => rfl) zero_l_bent
    | succ n ih => exact ok_l_bent T ih h_l_pull h_l_odd h_l_pick (D18 : ∃ fd, FnS K "_law_bent" "_law_bent" s_l_bent [] (He.ga K "_law_bent") fd) (He.glo_ok X G (c.fact 18 (f := .glo "_law_bent") rfl)) (len_l_bent (n + 1)) (pure_l_bent n) (by omega) (by omega) (by omega)
  have h_l_bent := hh_l_bent 8
  exact ok_law T h_l_word h_l_pull h_l_chain_of h_l_same h_is_expression h_l_bent h_l_pick FB (He.glo_ok X G (c.fact 0 (f := .glo "_law_bag") rfl)) F

end Ad
open PySem PySem.W PySem.Calls PyProof.Rows
set_option maxRecDepth 100000 in
set_option maxHeartbeats 0 in
theorem PySem.Challenge.cw_pricedcalls_k06_expressions_judged_holds : PySem.Challenge.rw_pricedcalls_k06_expressions_judged.Holds := by
  w_on; o_law
  refine HandSHeadRun.head_any (r := OpenLaw.row PySem.Challenge.rw_pricedcalls_k06_expressions_judged) (q := view (OpenLaw.row PySem.Challenge.rw_pricedcalls_k06_expressions_judged).prog [28]) (H := Ad.hk) (ob := Ad.ob) (M := 4000) (loose := Ad.loose_) (d := HandSHeadRun.topDef (OpenLaw.row PySem.Challenge.rw_pricedcalls_k06_expressions_judged).prog 28) (kwd := []) Ad.ob_eq
    (by kernel_rfl) (fun s => by kernel_rfl) Ad.run (by kernel_rfl) (by kernel_rfl) (by kernel_rfl) (by rfl) (by first | assumption | decide +kernel) (by decide +kernel) ⟨rfl, rfl, rfl, rfl, rfl, by decide +kernel⟩ ?hw ?hc
  case hw => w_witness2
  case hc =>
    refine L2.walk_ofE (l := PySem.Challenge.rw_pricedcalls_k06_expressions_judged) (n := 63) (k := 12 + 1) (x := "_law_script") (CX := L2.CX0) rfl (by decide) (by kernel_rfl) ⟨rfl, by decide, by decide⟩ ?F (fun _ _ _ _ z => z)
    intro w mg fa h Y G hmg0
    obtain ⟨K, KX, c⟩ := Y
    have hmg : mg ("law" : PySem.Str) = some (.ref fa) := by
      have e : (HandSHeadRun.topDef (OpenLaw.row PySem.Challenge.rw_pricedcalls_k06_expressions_judged).prog 28).name = ("law" : PySem.Str) := by kernel_rfl
      rw [← e]
      exact hmg0
    obtain ⟨fd, hb, hF⟩ := Ad.facts (P := (PySem.Challenge.rw_pricedcalls_k06_expressions_judged).prog) (w := w) KX G hmg c.t.d c.more
    exact ⟨K, fd, Ad.spLaw K, KX, hb, fun H a ns hl _ hS => ⟨a, ns, rfl, hS, hl, fun _ => rfl⟩, hF⟩
