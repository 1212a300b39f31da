import PyProof.Rows.All
import Wide.All
import OpenK.AllK
import Wide.FinOn
import HandS.ForMost
import HandS.IsInst
import HandS.Walk
import HandS.Deep
import HandS.FStr
import HandS.Wide
import HandS.TupAny
import HandS.Zip
import HandS.HeadHook4
import HandS.HeadWalk
import HandS.Defaults
import HandS.TupMul
import HandS.Strs
import HandS.Head0
import HandS.Head1
import HandS.Head2
import HandS.HeadEnd
import HandS.HeadHook1
import HandS.HeadHook2
import HandS.HeadHook3
import KE.KStateDown
import Lean
import PySem.Challenge.RW_pricedcalls_k07_procedures_judged
set_option Elab.async false
set_option linter.all false
set_option maxRecDepth 100000
/-! Bd1: data without a heap, worlds, what stands for what. -/
namespace Bd
open PySem L2
/-- data, seen without the heap -/
inductive D where
  | non | bl (b : Bool) | int (i : Int) | str (s : Str) | ty (n : String)
  | lst (ds : List D) | tup (ds : List D) | obj (c : Str) (ns : List Str) (fs : List D) | hdl (n : Nat) | cls (c : Str) | adr (a : Addr)
instance : Inhabited D := ⟨.non⟩

abbrev Ext (H H' : Hp) : Prop := ∀ a o, H a = some o → H' a = some o
theorem Ext.rfl' (H : Hp) : Ext H H := fun _ _ h => h
theorem Ext.tr {H H1 H2 : Hp} (a : Ext H H1) (b : Ext H1 H2) : Ext H H2 := fun x o h => b x o (a x o h)

mutual
inductive Rw (K : PySem.W.Frag) (hd : Nat → Option Addr) (H : Hp) : V → D → Prop
  | non : Rw K hd H .non .non
  | bl (b : Bool) : Rw K hd H (.bl b) (.bl b)
  | int (i : Int) : Rw K hd H (.int i) (.int i)
  | str (x : Str) : Rw K hd H (.str x) (.str x)
  | ty (n : String) : Rw K hd H (.ty n) (.ty n)
  | lst {a : Addr} {xs : List V} {ds : List D} : H a = some (.lst xs) → RwA K hd H xs ds → Rw K hd H (.ref a) (.lst ds)
  | tup {a : Addr} {xs : List V} {ds : List D} : SqT K H a xs → RwA K hd H xs ds → Rw K hd H (.ref a) (.tup ds)
  | obj {a dx : Addr} {c : Str} {ns : List Str} {xs : List V} {ds : List D} : H a = some (.ins (He.ga K c) dx (ns.zip xs)) → ns.length = xs.length → RwA K hd H xs ds → Rw K hd H (.ref a) (.obj c ns ds)
  | hdl {a : Addr} {n : Nat} : hd n = some a → Rw K hd H (.ref a) (.hdl n)
  | cls (c : Str) : Rw K hd H (.ref (He.ga K c)) (.cls c)
  | adr (a : Addr) : Rw K hd H (.ref a) (.adr a)
inductive RwA (K : PySem.W.Frag) (hd : Nat → Option Addr) (H : Hp) : List V → List D → Prop
  | nil : RwA K hd H [] []
  | cons {v : V} {vs : List V} {d : D} {ds : List D} : Rw K hd H v d → RwA K hd H vs ds → RwA K hd H (v :: vs) (d :: ds)
end
theorem sqL_mono {K : PySem.W.Frag} {H H' : Hp} {a : Addr} {xs : List V} (e : Ext H H') : SqL K H a xs → SqL K H' a xs
  | .inl (.inl h) => .inl (.inl (e _ _ h))
  | .inl (.inr ⟨o, h⟩) => .inl (.inr ⟨o, e _ _ h⟩)
  | .inr h => .inr h
theorem sqT_mono {K : PySem.W.Frag} {H H' : Hp} {a : Addr} {xs : List V} (e : Ext H H') : SqT K H a xs → SqT K H' a xs
  | .inl (.inl h) => .inl (.inl (e _ _ h))
  | .inl (.inr ⟨o, h⟩) => .inl (.inr ⟨o, e _ _ h⟩)
  | .inr h => .inr h
section
variable {K : PySem.W.Frag} {hd : Nat → Option Addr} {H H' : Hp}
mutual
theorem Rw.mono (e : Ext H H') : ∀ {v : V} {d : D}, Rw K hd H v d → Rw K hd H' v d
  | _, _, .non => .non
  | _, _, .bl b => .bl b
  | _, _, .int b => .int b
  | _, _, .str b => .str b
  | _, _, .ty b => .ty b
  | _, _, .lst h r => .lst (e _ _ h) (RwA.mono e r)
  | _, _, .tup h r => .tup (sqT_mono e h) (RwA.mono e r)
  | _, _, .obj h l r => .obj (e _ _ h) l (RwA.mono e r)
  | _, _, .hdl h => .hdl h
  | _, _, .cls c => .cls c
  | _, _, .adr a => .adr a
theorem RwA.mono (e : Ext H H') : ∀ {vs : List V} {ds : List D}, RwA K hd H vs ds → RwA K hd H' vs ds
  | _, _, .nil => .nil
  | _, _, .cons h t => .cons (Rw.mono e h) (RwA.mono e t)
end
theorem RwA.length : ∀ {vs : List V} {ds : List D}, RwA K hd H vs ds → vs.length = ds.length
  | _, _, .nil => rfl
  | _, _, .cons _ t => congrArg Nat.succ (RwA.length t)
theorem RwA.get : ∀ {vs : List V} {ds : List D} {i : Nat} {v : V}, RwA K hd H vs ds → vs[i]? = some v → ∃ d, ds[i]? = some d ∧ Rw K hd H v d
  | _, _, _, _, .nil, e => by simp at e
  | _, _, 0, _, .cons r _, e => by simp at e; subst e; exact ⟨_, rfl, r⟩
  | _, _, i + 1, v, .cons _ t, e => by
    obtain ⟨u, h1, h2⟩ := RwA.get (i := i) (v := v) t (by simpa using e)
    exact ⟨u, by simpa using h1, h2⟩
theorem RwA.getD : ∀ {vs : List V} {ds : List D} {i : Nat} {d : D}, RwA K hd H vs ds → ds[i]? = some d → ∃ v, vs[i]? = some v ∧ Rw K hd H v d
  | _, _, _, _, .nil, e => by simp at e
  | _, _, 0, _, .cons r _, e => by simp at e; subst e; exact ⟨_, rfl, r⟩
  | _, _, i + 1, d, .cons _ t, e => by
    obtain ⟨u, h1, h2⟩ := RwA.getD (i := i) (d := d) t (by simpa using e)
    exact ⟨u, by simpa using h1, h2⟩
theorem RwA.append : ∀ {vs us : List V} {ds es : List D}, RwA K hd H vs ds → RwA K hd H us es → RwA K hd H (vs ++ us) (ds ++ es)
  | _, _, _, _, .nil, s => s
  | _, _, _, _, .cons r t, s => .cons r (RwA.append t s)
theorem RwA.take : ∀ {vs : List V} {ds : List D} (n : Nat), RwA K hd H vs ds → RwA K hd H (vs.take n) (ds.take n)
  | _, _, 0, _ => .nil
  | _, _, _ + 1, .nil => .nil
  | _, _, n + 1, .cons r t => .cons r (RwA.take n t)
theorem RwA.drop : ∀ {vs : List V} {ds : List D} (n : Nat), RwA K hd H vs ds → RwA K hd H (vs.drop n) (ds.drop n)
  | _, _, 0, r => r
  | _, _, _ + 1, .nil => .nil
  | _, _, n + 1, .cons _ t => RwA.drop n t
theorem RwA.set {v : V} {d : D} (r : Rw K hd H v d) : ∀ {vs : List V} {ds : List D} (i : Nat), RwA K hd H vs ds → RwA K hd H (vs.set i v) (ds.set i d)
  | _, _, _, .nil => .nil
  | _, _, 0, .cons _ t => .cons r t
  | _, _, i + 1, .cons q t => .cons q (RwA.set r i t)
theorem RwA.dropLast : ∀ {vs : List V} {ds : List D}, RwA K hd H vs ds → RwA K hd H vs.dropLast ds.dropLast := fun {vs ds} r => by
  rw [List.dropLast_eq_take, List.dropLast_eq_take, r.length]
  exact r.take _
end

/-! ### worlds -/
/-- ms: what is hidden from data; hd: the handles; I: what stands of the hidden -/
structure Wd where
  ms : List Addr
  hd : Nat → Option Addr
  I : Hp → Prop
  loc : ∀ H H' : Hp, (∀ a, a ∈ ms → H' a = H a) → I H → I H'
  live : ∀ H : Hp, I H → ∀ a, a ∈ ms → ∃ o, H a = some o
def vis (ms : List Addr) (H : Hp) : Hp := fun a => if a ∈ ms then none else H a
theorem vis_in {ms : List Addr} {H : Hp} {a : Addr} (h : a ∈ ms) : vis ms H a = none := if_pos h
theorem vis_out {ms : List Addr} {H : Hp} {a : Addr} (h : a ∉ ms) : vis ms H a = H a := if_neg h
theorem vis_some {ms : List Addr} {H : Hp} {a : Addr} {o : HO} (h : vis ms H a = some o) : a ∉ ms ∧ H a = some o := by
  by_cases m : a ∈ ms
  · rw [vis_in m] at h; cases h
  · rw [vis_out m] at h; exact ⟨m, h⟩
theorem vis_ext {ms : List Addr} {H : Hp} : Ext (vis ms H) H := fun _ _ h => (vis_some h).2
theorem vis_of {ms : List Addr} {H : Hp} {a : Addr} {o : HO} (m : a ∉ ms) (h : H a = some o) : vis ms H a = some o := by rw [vis_out m]; exact h
abbrev Wd.v (w : Wd) (H : Hp) : Hp := vis w.ms H
/-- the owned lists hidden too -/
def Wd.plus (w : Wd) (os : List (Addr × HO)) : Wd where
  ms := os.map (·.1) ++ w.ms
  hd := w.hd
  I := fun H => w.I H ∧ ∀ p, p ∈ os → H p.1 = some p.2
  loc := fun H H' k h => ⟨w.loc H H' (fun a ha => k a (List.mem_append_right _ ha)) h.1, fun p hp => (k p.1 (List.mem_append_left _ (List.mem_map_of_mem hp))).trans (h.2 p hp)⟩
  live := fun H h a ha => by
    rcases List.mem_append.mp ha with ha | ha
    · obtain ⟨p, hp, rfl⟩ := List.mem_map.mp ha
      exact ⟨_, h.2 p hp⟩
    · exact w.live H h.1 a ha
abbrev R (K : PySem.W.Frag) (w : Wd) (H : Hp) : V → D → Prop := Rw K w.hd (w.v H)
abbrev RA (K : PySem.W.Frag) (w : Wd) (H : Hp) : List V → List D → Prop := RwA K w.hd (w.v H)
structure Step (w : Wd) (H H' : Hp) : Prop where
  ext : Ext (w.v H) (w.v H')
  inv : w.I H'
section
variable {K : PySem.W.Frag} {w : Wd} {H H1 H2 H' : Hp} {os : List (Addr × HO)}
theorem Step.refl (h : w.I H) : Step w H H := ⟨Ext.rfl' _, h⟩
theorem Step.trans (a : Step w H H1) (b : Step w H1 H2) : Step w H H2 := ⟨a.ext.tr b.ext, b.inv⟩
theorem Step.r (s : Step w H H') {v : V} {d : D} (h : R K w H v d) : R K w H' v d := h.mono s.ext
theorem Step.ra (s : Step w H H') {v : List V} {d : List D} (h : RA K w H v d) : RA K w H' v d := h.mono s.ext
theorem fresh_out (hI : w.I H) {p : Addr} (hp : H p = none) : p ∉ w.ms := fun m => by
  obtain ⟨o, e⟩ := w.live H hI p m
  rw [hp] at e; cases e
/-- a new object -/
theorem Step.new (hI : w.I H) {p : Addr} {o : HO} (hp : H p = none) : Step w H (upd H p o) := by
  have hm := fresh_out hI hp
  refine ⟨fun a u e => ?_, w.loc H _ (fun a ha => upd_ne fun z => hm (z ▸ ha)) hI⟩
  obtain ⟨h1, h2⟩ := vis_some e
  exact vis_of h1 (by rw [upd_ne (ne_of_none h2 hp)]; exact h2)
theorem v_new (hI : w.I H) {p : Addr} {o : HO} (hp : H p = none) : w.v (upd H p o) p = some o := vis_of (fresh_out hI hp) upd_same
theorem plus_ext : Ext ((w.plus os).v H) (w.v H) := fun a o h => by
  obtain ⟨h1, h2⟩ := vis_some h
  exact vis_of (fun m => h1 (List.mem_append_right _ m)) h2
theorem R.un {v : V} {d : D} (h : R K (w.plus os) H v d) : R K w H v d := Rw.mono (plus_ext) h
theorem RA.un {v : List V} {d : List D} (h : RA K (w.plus os) H v d) : RA K w H v d := RwA.mono (plus_ext) h
theorem Step.un (hm : ∀ p, p ∈ os → (w.v H) p.1 = none ∨ H' p.1 = H p.1) (s : Step (w.plus os) H H') : Step w H H' := by
  refine ⟨fun a o e => ?_, s.inv.1⟩
  obtain ⟨h1, h2⟩ := vis_some e
  by_cases m : a ∈ os.map (·.1)
  · obtain ⟨p, hp, rfl⟩ := List.mem_map.mp m
    rcases hm p hp with z | z
    · rw [e] at z; cases z
    · exact vis_of h1 (z.trans h2)
  · obtain ⟨_, h4⟩ := vis_some (s.ext a o (vis_of (fun z => (List.mem_append.mp z).elim m h1) h2))
    exact vis_of h1 h4
end
/-! ### cells and slots -/
abbrev Os := List (Addr × HO)
abbrev Cs := List (Addr × D)
abbrev Gs := List (Option D)
/-- what a cell holds, as data -/
def RH (K : PySem.W.Frag) (w : Wd) (H : Hp) : HO → D → Prop
  | .lst xs, .lst ds => RA K w H xs ds
  | .ins c _ fs, .obj cn ns ds => c = He.ga K cn ∧ ∃ xs, fs = ns.zip xs ∧ ns.length = xs.length ∧ RA K w H xs ds
  | _, _ => False
inductive Cells (K : PySem.W.Frag) (w : Wd) (H : Hp) : Os → Cs → Prop
  | nil : Cells K w H [] []
  | cons {a : Addr} {o : HO} {d : D} {os : Os} {cs : Cs} : RH K w H o d → Cells K w H os cs → Cells K w H ((a, o) :: os) ((a, d) :: cs)
/-- a frame: its world, the cells and the heap at its start -/
structure Fr where
  w : Wd
  os0 : Os
  H0 : Hp
abbrev Fr.at (F : Fr) (pv os : Os) : Wd := (F.w.plus pv).plus os
/-- pv: private cells, which keep what they hold; os: cells that the frame's text may change -/
structure Stt (K : PySem.W.Frag) (F : Fr) (pv os : Os) (cs : Cs) (H : Hp) : Prop where
  ext : Ext ((F.w.plus F.os0).v F.H0) ((F.at pv os).v H)
  inv : (F.at pv os).I H
  fr : ∀ p, p ∈ pv ++ os → p.1 ∉ F.w.ms ∧ (F.w.plus F.os0).v F.H0 p.1 = none
  nd : ((pv ++ os).map (·.1)).Nodup
  cel : Cells K (F.at pv os) H os cs
structure Rel (K : PySem.W.Frag) (F : Fr) (gs : List (V × D)) (pv os : Os) (cs : Cs) (σ : St) (H : Hp) (Γ : Gs) : Prop where
  st : Stt K F pv os cs H
  len : σ.length = Γ.length
  at_ : ∀ (i : Nat) (d : D), Γ[i]? = some (some d) → ∃ v, σ[i]? = some (some v) ∧ R K (F.at pv os) H v d
  gh : ∀ p, p ∈ gs → R K (F.at pv os) H p.1 p.2
/-- closed under hiding -/
def Cl (C : Wd → Prop) : Prop := ∀ (w : Wd) (os : Os), C w → (∀ p, p ∈ os → p.1 ∉ w.ms) → C (Wd.plus w os)
section
variable {K : PySem.W.Frag} {F : Fr} {gs gs' : List (V × D)} {pv pv' os os' : Os} {cs cs' : Cs} {σ : St} {H H' : Hp} {Γ : Gs} {w w' : Wd}
theorem RH.mono (hd : w'.hd = w.hd) (e : Ext (w.v H) (w'.v H')) : ∀ {o : HO} {d : D}, RH K w H o d → RH K w' H' o d := by
  intro o d h
  unfold RH at h ⊢
  split at h
  · unfold RA at h ⊢; rw [hd]; exact RwA.mono e h
  · obtain ⟨a, xs, b, c, r⟩ := h
    exact ⟨a, xs, b, c, by unfold RA at r ⊢; rw [hd]; exact RwA.mono e r⟩
  · exact h.elim
theorem Cells.mono (hd : w'.hd = w.hd) (e : Ext (w.v H) (w'.v H')) : ∀ {os : Os} {cs : Cs}, Cells K w H os cs → Cells K w' H' os cs
  | _, _, .nil => .nil
  | _, _, .cons r t => .cons (RH.mono hd e r) (Cells.mono hd e t)
theorem Cells.keys : ∀ {os : Os} {cs : Cs}, Cells K w H os cs → os.map (·.1) = cs.map (·.1)
  | _, _, .nil => rfl
  | _, _, .cons _ t => congrArg _ (Cells.keys t)
theorem Cells.get : ∀ {os : Os} {cs : Cs} {a : Addr} {d : D}, Cells K w H os cs → cs.lookup a = some d → ∃ o, (a, o) ∈ os ∧ RH K w H o d
  | _, _, _, _, .nil, e => by cases e
  | _, _, a, d, .cons (a := b) (o := o) r t, e => by
    rw [List.lookup_cons] at e
    by_cases h : a = b
    · subst h
      simp only [BEq.rfl] at e
      cases e
      exact ⟨o, List.mem_cons_self, r⟩
    · have hb : (a == b) = false := by simp [h]
      rw [hb] at e
      obtain ⟨o', h1, h2⟩ := Cells.get t e
      exact ⟨o', List.mem_cons_of_mem _ h1, h2⟩
/-- within the world, nothing of the cells touched -/
theorem Stt.step (r : Stt K F pv os cs H) (s : Step (F.at pv os) H H') : Stt K F pv os cs H' :=
  ⟨r.ext.tr s.ext, s.inv, r.fr, r.nd, r.cel.mono rfl s.ext⟩
theorem Rel.step (r : Rel K F gs pv os cs σ H Γ) (s : Step (F.at pv os) H H') : Rel K F gs pv os cs σ H' Γ :=
  ⟨r.st.step s, r.len, fun i d e => by
    obtain ⟨v, h1, h2⟩ := r.at_ i d e
    exact ⟨v, h1, s.r h2⟩, fun p hp => s.r (r.gh p hp)⟩
theorem Rel.gcons (r : Rel K F gs pv os cs σ H Γ) {v : V} {d : D} (h : R K (F.at pv os) H v d) : Rel K F ((v, d) :: gs) pv os cs σ H Γ :=
  ⟨r.st, r.len, r.at_, fun p hp => by
    rcases List.mem_cons.mp hp with e | hp
    · rw [e]; exact h
    · exact r.gh p hp⟩
theorem Rel.weak (r : Rel K F gs pv os cs σ H Γ) (h : ∀ p, p ∈ gs' → p ∈ gs) : Rel K F gs' pv os cs σ H Γ := ⟨r.st, r.len, r.at_, fun p hp => r.gh p (h p hp)⟩
theorem Rel.tail {p : V × D} (r : Rel K F (p :: gs) pv os cs σ H Γ) : Rel K F gs pv os cs σ H Γ := r.weak fun _ h => List.mem_cons_of_mem _ h
theorem Rel.head {v : V} {d : D} (r : Rel K F ((v, d) :: gs) pv os cs σ H Γ) : R K (F.at pv os) H v d := r.gh (v, d) List.mem_cons_self
/-- to other cells and another heap that show as much -/
theorem Rel.mv (r : Rel K F gs pv os cs σ H Γ) (s : Stt K F pv' os' cs' H') (e : Ext ((F.at pv os).v H) ((F.at pv' os').v H')) : Rel K F gs pv' os' cs' σ H' Γ :=
  ⟨s, r.len, fun i d q => by
    obtain ⟨v, h1, h2⟩ := r.at_ i d q
    exact ⟨v, h1, Rw.mono e h2⟩, fun p hp => Rw.mono e (r.gh p hp)⟩
theorem Stt.cl {C : Wd → Prop} (r : Stt K F pv os cs H) (hC : Cl C) (h : C F.w) : C (F.at pv os) := by
  refine hC _ _ (hC _ _ h fun p hp => (r.fr p (List.mem_append_left _ hp)).1) fun p hp m => ?_
  rcases List.mem_append.mp m with m | m
  · have nd := r.nd
    rw [List.map_append] at nd
    exact (List.nodup_append.mp nd).2.2 _ m _ (List.mem_map_of_mem hp) rfl
  · exact (r.fr p (List.mem_append_right _ hp)).1 m
end
end Bd
/-! Bd2: what an operation by values asks of data. -/
namespace Bd
open PySem L2
abbrev WC := Wd → Prop
abbrev Any : WC := fun _ => True
section
variable (K : PySem.W.Frag) (C : WC)
def SndR2 (r : R2) (f : D → D → (D → Prop) → Prop) : Prop := ∀ (w : Wd) (H : Hp) (x y : V) (dx dy : D) (P : D → Prop) (Q : VK), C w → w.I H → R K w H x dx → R K w H y dy → f dx dy P →
  (∀ v H' d, Step w H H' → R K w H' v d → P d → Q v H') → r x y H Q
def SndR1 (r : V → Hp → VK → Prop) (f : D → (D → Prop) → Prop) : Prop := ∀ (w : Wd) (H : Hp) (x : V) (dx : D) (P : D → Prop) (Q : VK), C w → w.I H → R K w H x dx → f dx P →
  (∀ v H' d, Step w H H' → R K w H' v d → P d → Q v H') → r x H Q
def SndRs (r : List V → Hp → VK → Prop) (f : List D → (D → Prop) → Prop) : Prop := ∀ (w : Wd) (H : Hp) (xs : List V) (ds : List D) (P : D → Prop) (Q : VK), C w → w.I H → RA K w H xs ds → f ds P →
  (∀ v H' d, Step w H H' → R K w H' v d → P d → Q v H') → r xs H Q
def SndM (r : V → List V → Hp → VK → Prop) (f : D → List D → (D → Prop) → Prop) : Prop := ∀ (w : Wd) (H : Hp) (x : V) (dx : D) (xs : List V) (ds : List D) (P : D → Prop) (Q : VK), C w → w.I H → R K w H x dx → RA K w H xs ds → f dx ds P →
  (∀ v H' d, Step w H H' → R K w H' v d → P d → Q v H') → r x xs H Q
end
structure JO (X : Cx) (f : Value → Value → Sem Value) (r : R2) (g : D → D → (D → Prop) → Prop) : Prop where
  p : OpR X f r
  s : SndR2 X.K Any r g
theorem size_ok {n : Nat} (h : n ≤ 100000) : n ≤ sizeLine := Nat.le_trans h (by decide)
section
variable {K : PySem.W.Frag}
theorem new_tup {w : Wd} {H : Hp} {p : Addr} {xs : List V} {ds : List D} (hI : w.I H) (hp : H p = none) (r : RA K w H xs ds) : Step w H (upd H p (.tup xs)) ∧ R K w (upd H p (.tup xs)) (.ref p) (.tup ds) := by
  have s := Step.new (o := .tup xs) hI hp
  exact ⟨s, .tup (SqT.of (v_new hI hp)) (s.ra r)⟩
theorem new_lst {w : Wd} {H : Hp} {p : Addr} {xs : List V} {ds : List D} (hI : w.I H) (hp : H p = none) (r : RA K w H xs ds) : Step w H (upd H p (.lst xs)) ∧ R K w (upd H p (.lst xs)) (.ref p) (.lst ds) := by
  have s := Step.new (o := .lst xs) hI hp
  exact ⟨s, .lst (v_new hI hp) (s.ra r)⟩
theorem r_bl {w : Wd} {H : Hp} {v : V} {b : Bool} (r : R K w H v (.bl b)) : v = .bl b := by cases r; rfl
theorem r_int {w : Wd} {H : Hp} {v : V} {b : Int} (r : R K w H v (.int b)) : v = .int b := by cases r; rfl
theorem r_str {w : Wd} {H : Hp} {v : V} {b : Str} (r : R K w H v (.str b)) : v = .str b := by cases r; rfl
theorem r_adr {w : Wd} {H : Hp} {v : V} {a : Addr} (r : R K w H v (.adr a)) : v = .ref a := by cases r; rfl
end
end Bd
/-! Bd3: operators and built-in calls, by data. -/
namespace Bd
open PySem L2
/-! ### data that == takes apart -/
mutual
def pyD : D → PyData
  | .bl b => .bool b
  | .int i => .int i
  | .str s => .str s
  | .lst ds => .list (pyA ds)
  | .tup ds => .tuple (pyA ds)
  | _ => .none
def pyA : List D → List PyData
  | [] => []
  | d :: ds => pyD d :: pyA ds
end
mutual
def pureD : D → Bool
  | .non => true | .bl _ => true | .int _ => true | .str _ => true
  | .lst ds => pureA ds
  | .tup ds => pureA ds
  | _ => false
def pureA : List D → Bool
  | [] => true
  | d :: ds => pureD d && pureA ds
end
def eqD (x y : D) : Bool := PyData.eqv (pyD x) (pyD y)
def okD (d : D) : Bool := pureD d && SeqAt.shaped (pyD d)
def flD : D → Bool
  | .non => true | .bl _ => true | .int _ => true | .str _ => true
  | _ => false
def sclD : D → D → Bool
  | .non, .non => true | .non, .int _ => true | .int _, .non => true | .non, .bl _ => true | .bl _, .non => true | .non, .str _ => true | .str _, .non => true
  | .int _, .int _ => true | .bl _, .bl _ => true | .str _, .str _ => true
  | .int _, .str _ => true | .str _, .int _ => true | .bl _, .str _ => true | .str _, .bl _ => true
  | _, _ => false
theorem pyA_map : ∀ ds : List D, pyA ds = ds.map pyD
  | [] => rfl
  | d :: ds => by rw [pyA, pyA_map ds]; rfl
/-! ### operators -/
@[simp] def wAdd (x y : D) (P : D → Prop) : Prop := match x, y with
  | .int i, .int j => P (.int (i + j))
  | .str a, .str b => a.length + b.length ≤ 16000000 ∧ P (.str (a ++ b))
  | .lst a, .lst b => a.length + b.length ≤ 16000000 ∧ P (.lst (a ++ b))
  | .tup a, .tup b => a.length + b.length ≤ 16000000 ∧ P (.tup (a ++ b))
  | _, _ => False
@[simp] def wInt (c : Int → Int → Prop) (f : Int → Int → D) (x y : D) (P : D → Prop) : Prop := match x, y with
  | .int i, .int j => c i j ∧ P (f i j)
  | _, _ => False
@[simp] def wInt0 (f : Int → Int → D) (x y : D) (P : D → Prop) : Prop := match x, y with
  | .int i, .int j => P (f i j)
  | _, _ => False
@[simp] def wSub : D → D → (D → Prop) → Prop := wInt0 fun i j => .int (i - j)
def CMulA (i j : Int) : Prop := CMul i j ∨ CMulW i j
@[simp] def wMul : D → D → (D → Prop) → Prop := wInt CMulA fun i j => .int (i * j)
@[simp] def wMod : D → D → (D → Prop) → Prop := wInt (fun _ j => j ≠ 0) fun i j => .int (i.fmod j)
def CDivA (i j : Int) : Prop := CDivN i j ∨ CDivW i j
@[simp] def wDiv : D → D → (D → Prop) → Prop := wInt CDivA fun i j => .int (i.fdiv j)
@[simp] def wPow : D → D → (D → Prop) → Prop := wInt CPow fun i j => .int (i ^ j.toNat)
@[simp] def wLt : D → D → (D → Prop) → Prop := wInt0 fun i j => .bl (decide (i < j))
@[simp] def wLe : D → D → (D → Prop) → Prop := wInt0 fun i j => .bl (decide (i ≤ j))
@[simp] def wGt : D → D → (D → Prop) → Prop := wInt0 fun i j => .bl (decide (j < i))
@[simp] def wGe : D → D → (D → Prop) → Prop := wInt0 fun i j => .bl (decide (j ≤ i))
def wEq (x y : D) (P : D → Prop) : Prop := (sclD x y || (okD x && okD y)) = true ∧ P (.bl (eqD x y))
def wNe (x y : D) (P : D → Prop) : Prop := (sclD x y || (okD x && okD y)) = true ∧ P (.bl (!eqD x y))
def isNon : D → Bool
  | .non => true
  | _ => false
@[simp] def wIsN (x y : D) (P : D → Prop) : Prop := match y with
  | .non => P (.bl (isNon x))
  | _ => False
@[simp] def wNotN (x y : D) (P : D → Prop) : Prop := match y with
  | .non => P (.bl (!isNon x))
  | _ => False
def subS (a s : Str) : Bool := !(Builtin.Str.occurrences s a 0 s.length 1).isEmpty
@[simp] def memD (x y : D) (P : Bool → Prop) : Prop := match y with
  | .lst ds => ((flD x && ds.all flD) || (okD x && okD (.lst ds))) = true ∧ P (ds.any fun z => eqD z x)
  | .tup ds => (flD x && ds.all flD) = true ∧ P (ds.any fun z => eqD z x)
  | .str s => match x with
    | .str a => P (subS a s)
    | _ => False
  | _ => False
@[simp] def wIn (x y : D) (P : D → Prop) : Prop := memD x y fun b => P (.bl b)
@[simp] def wNotIn (x y : D) (P : D → Prop) : Prop := memD x y fun b => P (.bl (!b))
@[simp] def wNeg (x : D) (P : D → Prop) : Prop := match x with
  | .int i => P (.int (-i))
  | _ => False
@[simp] def wIx (x y : D) (P : D → Prop) : Prop := match y with
  | .int i => match x with
    | .lst ds => match atI ds i with
      | some d => P d
      | none => False
    | .tup ds => match atI ds i with
      | some d => P d
      | none => False
    | .str z => z.length ≤ 16000000 ∧ match atI z.cps.toList i with
      | some c => P (.str ⟨#[c]⟩)
      | none => False
    | _ => False
  | _ => False

def rAddG (K : PySem.W.Frag) : R2 := fun x y H Q => (∃ i j, x = .int i ∧ y = .int j ∧ Q (.int (i + j)) H) ∨ (∃ i j, x = .str i ∧ y = .str j ∧ i.length + j.length ≤ sizeLine ∧ Q (.str (i ++ j)) H) ∨ rCat x y H Q ∨ rCatA K x y H Q
def rMulG : R2 := fun x y H Q => rI CMul (fun i j => .int (i * j)) x y H Q ∨ rI CMulW (fun i j => .int (i * j)) x y H Q
def rDivG : R2 := fun x y H Q => rI CDivN (fun i j => .int (i.fdiv j)) x y H Q ∨ rI CDivW (fun i j => .int (i / j)) x y H Q
def rEqG (K : PySem.W.Frag) : R2 := fun x y H Q => rEq x y H Q ∨ rEqD K x y H Q
def rNeG (K : PySem.W.Frag) : R2 := fun x y H Q => rNe x y H Q ∨ rNeD K x y H Q
def rInG (K : PySem.W.Frag) : R2 := fun x y H Q => rIn K false x y H Q ∨ rInD K x y H Q ∨ ∃ i j, x = .str i ∧ y = .str j ∧ Q (.bl (!(Builtin.Str.occurrences j i 0 j.length 1).isEmpty)) H
def rNotInG (K : PySem.W.Frag) : R2 := fun x y H Q => rIn K true x y H Q ∨ rNotInD K x y H Q ∨ ∃ i j, x = .str i ∧ y = .str j ∧ Q (.bl (!(!(Builtin.Str.occurrences j i 0 j.length 1).isEmpty))) H
section
variable {K : PySem.W.Frag} {C : WC}
theorem wI0 {f : Int → Int → D} {g : Int → Int → V} (h : ∀ (w : Wd) H i j, R K w H (g i j) (f i j)) : SndR2 K C (rI0 g) (wInt0 f) := by
  intro w H x y dx dy P Q _ hI rx ry hf hq
  cases dx with
  | int i =>
    cases dy with
    | int j => cases rx; cases ry; exact ⟨i, j, rfl, rfl, hq _ H _ (Step.refl hI) (h w H i j) hf⟩
    | _ => exact False.elim hf
  | _ => exact False.elim hf
theorem wI1 {c c' : Int → Int → Prop} {f : Int → Int → D} {g : Int → Int → V} (hc : ∀ i j, c i j → c' i j) (h : ∀ (w : Wd) H i j, c i j → R K w H (g i j) (f i j)) : SndR2 K C (rI c' g) (wInt c f) := by
  intro w H x y dx dy P Q _ hI rx ry hf hq
  cases dx with
  | int i =>
    cases dy with
    | int j => cases rx; cases ry; exact ⟨i, j, rfl, rfl, hc _ _ hf.1, hq _ H _ (Step.refl hI) (h w H i j hf.1) hf.2⟩
    | _ => exact False.elim hf
  | _ => exact False.elim hf
theorem s_sub : SndR2 K C (rI0 fun i j => .int (i - j)) wSub := wI0 fun _ _ _ _ => .int _
theorem s_lt : SndR2 K C (rI0 fun i j => .bl (decide (i < j))) wLt := wI0 fun _ _ _ _ => .bl _
theorem s_le : SndR2 K C (rI0 fun i j => .bl (decide (i ≤ j))) wLe := wI0 fun _ _ _ _ => .bl _
theorem s_gt : SndR2 K C (rI0 fun i j => .bl (decide (j < i))) wGt := wI0 fun _ _ _ _ => .bl _
theorem s_ge : SndR2 K C (rI0 fun i j => .bl (decide (j ≤ i))) wGe := wI0 fun _ _ _ _ => .bl _
theorem s_mod : SndR2 K C (rI (fun _ j => j ≠ 0) fun i j => .int (i.fmod j)) wMod := wI1 (fun _ _ h => h) fun _ _ _ _ _ => .int _
theorem s_pow : SndR2 K C (rI CPow fun i j => .int (i ^ j.toNat)) wPow := wI1 (fun _ _ h => h) fun _ _ _ _ _ => .int _
theorem wI2 {c1 c2 : Int → Int → Prop} {f : Int → Int → D} {g g2 : Int → Int → V} (h : ∀ (w : Wd) H i j, R K w H (g i j) (f i j)) (h2 : ∀ (w : Wd) H i j, c2 i j → R K w H (g2 i j) (f i j)) :
    SndR2 K C (fun x y H Q => rI c1 g x y H Q ∨ rI c2 g2 x y H Q) (wInt (fun i j => c1 i j ∨ c2 i j) f) := by
  intro w H x y dx dy P Q _ hI rx ry hf hq
  cases dx with
  | int i =>
    cases dy with
    | int j =>
      cases rx; cases ry
      obtain ⟨h1 | h1, p⟩ := hf
      · exact .inl ⟨i, j, rfl, rfl, h1, hq _ H _ (Step.refl hI) (h w H i j) p⟩
      · exact .inr ⟨i, j, rfl, rfl, h1, hq _ H _ (Step.refl hI) (h2 w H i j h1) p⟩
    | _ => exact False.elim hf
  | _ => exact False.elim hf
theorem s_mul : SndR2 K C rMulG wMul := wI2 (fun _ _ _ _ => .int _) fun _ _ _ _ _ => .int _
theorem s_div : SndR2 K C rDivG wDiv := wI2 (fun _ _ _ _ => .int _) fun _ _ i j h => by
  have e : i / j = i.fdiv j := (Int.fdiv_eq_ediv_of_nonneg i (Int.le_of_lt h.1)).symm
  rw [e]
  exact .int _
theorem size_ok2 {n : Nat} (h : n ≤ 16000000) : n ≤ sizeLine := Nat.le_trans h (by decide)
theorem s_add : SndR2 K C (rAddG K) wAdd := by
  intro w H x y dx dy P Q _ hI rx ry hf hq
  cases dx with
  | int i =>
    cases dy with
    | int j => cases rx; cases ry; exact .inl ⟨i, j, rfl, rfl, hq _ H _ (Step.refl hI) (.int _) hf⟩
    | _ => exact False.elim hf
  | str i =>
    cases dy with
    | str j => cases rx; cases ry; exact .inr (.inl ⟨i, j, rfl, rfl, size_ok2 hf.1, hq _ H _ (Step.refl hI) (.str _) hf.2⟩)
    | _ => exact False.elim hf
  | lst i =>
    cases dy with
    | lst j =>
      cases rx with
      | lst hx rx =>
        cases ry with
        | lst hy ry =>
          refine .inr (.inr (.inl ⟨_, _, _, _, rfl, rfl, (vis_some hx).2, (vis_some hy).2, size_ok2 (by rw [rx.length, ry.length]; exact hf.1), fun p hp => ?_⟩))
          obtain ⟨s, r⟩ := new_lst hI hp (rx.append ry)
          exact hq _ _ _ s r hf.2
    | _ => exact False.elim hf
  | tup i =>
    cases dy with
    | tup j =>
      cases rx with
      | tup hx rx =>
        cases ry with
        | tup hy ry =>
          refine .inr (.inr (.inr ⟨_, _, _, _, rfl, rfl, sqT_mono vis_ext hx, sqT_mono vis_ext hy, size_ok2 (by rw [rx.length, ry.length]; exact hf.1), fun e => ?_, fun e1 e2 => ?_, fun _ _ p hp => ?_⟩))
          · subst e
            cases rx
            exact hq _ _ _ (Step.refl hI) (.tup hy ry) hf.2
          · subst e2
            cases ry
            have h2 := hf.2
            rw [List.append_nil] at h2
            exact hq _ _ _ (Step.refl hI) (.tup hx rx) h2
          · obtain ⟨s, r⟩ := new_tup hI hp (rx.append ry)
            exact hq _ _ _ s r hf.2
    | _ => exact False.elim hf
  | _ => exact False.elim hf
mutual
theorem dp_of {hd : Nat → Option Addr} {H : Hp} : ∀ (d : D) (v : V), Rw K hd H v d → pureD d = true → Dp K H v (pyD d)
  | .non, _, r, _ => by cases r; exact .non
  | .bl _, _, r, _ => by cases r; exact .bl _
  | .int _, _, r, _ => by cases r; exact .int _
  | .str _, _, r, _ => by cases r; exact .str _
  | .lst ds, _, r, h => by
    cases r with
    | lst hx r => exact .lst (SqL.of hx) (dpA_of ds _ r (by simpa [pureD] using h))
  | .tup ds, _, r, h => by
    cases r with
    | tup hx r => exact .tup hx (dpA_of ds _ r (by simpa [pureD] using h))
  | .ty _, _, _, h => by simp [pureD] at h
  | .obj _ _ _, _, _, h => by simp [pureD] at h
  | .hdl _, _, _, h => by simp [pureD] at h
  | .cls _, _, _, h => by simp [pureD] at h
theorem dpA_of {hd : Nat → Option Addr} {H : Hp} : ∀ (ds : List D) (vs : List V), RwA K hd H vs ds → pureA ds = true → DpAll K H vs (pyA ds)
  | [], _, r, _ => by cases r; exact .nil
  | d :: ds, _, r, h => by
    cases r with
    | cons r1 r2 =>
      have h' : pureD d = true ∧ pureA ds = true := by simpa [pureA] using h
      exact .cons (dp_of d _ r1 h'.1) (dpA_of ds _ r2 h'.2)
end
mutual
theorem dp_mono {H H' : Hp} (e : Ext H H') : ∀ {v : V} {d : PyData}, Dp K H v d → Dp K H' v d
  | _, _, .non => .non
  | _, _, .bl b => .bl b
  | _, _, .int b => .int b
  | _, _, .str b => .str b
  | _, _, .lst h r => .lst (sqL_mono e h) (dpA_mono e r)
  | _, _, .tup h r => .tup (sqT_mono e h) (dpA_mono e r)
theorem dpA_mono {H H' : Hp} (e : Ext H H') : ∀ {v : List V} {d : List PyData}, DpAll K H v d → DpAll K H' v d
  | _, _, .nil => .nil
  | _, _, .cons h r => .cons (dp_mono e h) (dpA_mono e r)
end
theorem dp_at {w : Wd} {H : Hp} {v : V} {d : D} (r : R K w H v d) (h : okD d = true) : Dp K H v (pyD d) ∧ SeqAt.shaped (pyD d) = true := by
  have h' : pureD d = true ∧ SeqAt.shaped (pyD d) = true := by simpa [okD] using h
  exact ⟨dp_mono vis_ext (dp_of d v r h'.1), h'.2⟩
theorem scl_of {w : Wd} {H : Hp} {x y : V} {dx dy : D} (rx : R K w H x dx) (ry : R K w H y dy) (h : sclD dx dy = true) : scal x y = true ∧ decide (x = y) = eqD dx dy := by
  cases dx <;> cases dy <;> first
    | (cases rx; cases ry; refine ⟨rfl, ?_⟩; rw [Bool.eq_iff_iff]; simp [eqD, pyD, PyData.eqv]; done)
    | (exact absurd (show false = true from h) Bool.false_ne_true)
theorem s_eq : SndR2 K C (rEqG K) wEq := by
  intro w H x y dx dy P Q _ hI rx ry hf hq
  obtain ⟨h1, h2⟩ := hf
  rcases Bool.or_eq_true_iff.mp h1 with h | h
  · obtain ⟨a, b⟩ := scl_of rx ry h
    refine .inl ⟨a, ?_⟩
    rw [b]
    exact hq _ H _ (Step.refl hI) (.bl _) h2
  · obtain ⟨a, b⟩ := Bool.and_eq_true_iff.mp h
    obtain ⟨p1, p2⟩ := dp_at rx a
    obtain ⟨q1, q2⟩ := dp_at ry b
    exact .inr ⟨_, _, p1, q1, p2, q2, hq _ H _ (Step.refl hI) (.bl _) h2⟩
theorem s_ne : SndR2 K C (rNeG K) wNe := by
  intro w H x y dx dy P Q _ hI rx ry hf hq
  obtain ⟨h1, h2⟩ := hf
  rcases Bool.or_eq_true_iff.mp h1 with h | h
  · obtain ⟨a, b⟩ := scl_of rx ry h
    refine .inl ⟨a, ?_⟩
    rw [b]
    exact hq _ H _ (Step.refl hI) (.bl _) h2
  · obtain ⟨a, b⟩ := Bool.and_eq_true_iff.mp h
    obtain ⟨p1, p2⟩ := dp_at rx a
    obtain ⟨q1, q2⟩ := dp_at ry b
    exact .inr ⟨_, _, p1, q1, p2, q2, hq _ H _ (Step.refl hI) (.bl _) h2⟩
theorem non_of {w : Wd} {H : Hp} {x : V} {dx : D} (rx : R K w H x dx) : decide (x = .non) = isNon dx := by
  cases rx <;> rfl
theorem s_isN : SndR2 K C (fun x y H Q => y = .non ∧ Q (.bl (decide (x = .non))) H) wIsN := by
  intro w H x y dx dy P Q _ hI rx ry hf hq
  cases dy with
  | non => cases ry; refine ⟨rfl, ?_⟩; rw [non_of rx]; exact hq _ H _ (Step.refl hI) (.bl _) hf
  | _ => exact False.elim hf
theorem s_notN : SndR2 K C (fun x y H Q => y = .non ∧ Q (.bl (!decide (x = .non))) H) wNotN := by
  intro w H x y dx dy P Q _ hI rx ry hf hq
  cases dy with
  | non => cases ry; refine ⟨rfl, ?_⟩; rw [non_of rx]; exact hq _ H _ (Step.refl hI) (.bl _) hf
  | _ => exact False.elim hf
theorem fl_of {w : Wd} {H : Hp} {x : V} {dx : D} (rx : R K w H x dx) (h : flD dx = true) : flatV x = true := by
  cases rx <;> first | rfl | exact absurd (show false = true from h) Bool.false_ne_true
theorem flA_of {w : Wd} {H : Hp} : ∀ {xs : List V} {ds : List D}, RA K w H xs ds → ds.all flD = true → xs.all flatV = true
  | _, _, .nil, _ => rfl
  | _, _, .cons r t, h => by
    rw [List.all_cons, Bool.and_eq_true] at h
    rw [List.all_cons, fl_of (w := w) r h.1, flA_of (w := w) t h.2]
    rfl
theorem eqv_fl {w : Wd} {H : Hp} {x y : V} {dx dy : D} (rx : R K w H x dx) (ry : R K w H y dy) (h1 : flD dx = true) (h2 : flD dy = true) : eqV x y = eqD dx dy := by
  cases rx <;> first
    | (cases ry <;> first | (simp [eqD, pyD, PyData.eqv, eqV]; done) | exact absurd (show false = true from h2) Bool.false_ne_true)
    | exact absurd (show false = true from h1) Bool.false_ne_true
theorem in_fl {w : Wd} {H : Hp} {x : V} {dx : D} (rx : R K w H x dx) (h1 : flD dx = true) : ∀ {xs : List V} {ds : List D}, RA K w H xs ds → ds.all flD = true → inV x xs = ds.any fun z => eqD z dx
  | _, _, .nil, _ => rfl
  | _, _, .cons r t, h => by
    rw [List.all_cons, Bool.and_eq_true] at h
    have := in_fl rx h1 t h.2
    unfold inV at this ⊢
    rw [List.any_cons, List.any_cons, eqv_fl r rx h.1 h1, this]
theorem any_py {d : D} (ds : List D) : ((pyA ds).any fun z => PyData.eqv z (pyD d)) = ds.any fun z => eqD z d := by
  rw [pyA_map, List.any_map]
  rfl
theorem s_mem {r : R2} {g : Bool → Bool} (h1 : ∀ x y H Q, (∃ p xs, y = .ref p ∧ (SqL K H p xs ∨ SqT K H p xs) ∧ flatV x = true ∧ xs.all flatV = true ∧ Q (.bl (g (inV x xs))) H) → r x y H Q)
    (h2 : ∀ x y H Q, (∃ d ds, Dp K H x d ∧ Dp K H y (.list ds) ∧ SeqAt.shaped d = true ∧ SeqAt.shaped (.list ds) = true ∧ Q (.bl (g (ds.any fun z => PyData.eqv z d))) H) → r x y H Q)
    (h3 : ∀ x y H Q, (∃ i j, x = .str i ∧ y = .str j ∧ Q (.bl (g (!(Builtin.Str.occurrences j i 0 j.length 1).isEmpty))) H) → r x y H Q) : SndR2 K C r (fun x y P => memD x y fun b => P (.bl (g b))) := by
  intro w H x y dx dy P Q _ hI rx ry hf hq
  cases dy with
  | lst ds =>
    obtain ⟨c, p⟩ := hf
    rcases Bool.or_eq_true_iff.mp c with c | c
    · obtain ⟨c1, c2⟩ := Bool.and_eq_true_iff.mp c
      cases ry with
      | lst hy ry =>
        refine h1 _ _ _ _ ⟨_, _, rfl, .inl (SqL.of (vis_some hy).2), fl_of rx c1, flA_of (w := w) ry c2, ?_⟩
        rw [in_fl rx c1 ry c2]
        exact hq _ H _ (Step.refl hI) (.bl _) p
    · obtain ⟨c1, c2⟩ := Bool.and_eq_true_iff.mp c
      obtain ⟨p1, p2⟩ := dp_at rx c1
      obtain ⟨q1, q2⟩ := dp_at ry c2
      refine h2 _ _ _ _ ⟨pyD dx, pyA ds, p1, by simpa [pyD] using q1, p2, by simpa [pyD] using q2, ?_⟩
      rw [any_py]
      exact hq _ H _ (Step.refl hI) (.bl _) p
  | tup ds =>
    obtain ⟨c, p⟩ := hf
    obtain ⟨c1, c2⟩ := Bool.and_eq_true_iff.mp c
    cases ry with
    | tup hy ry =>
      refine h1 _ _ _ _ ⟨_, _, rfl, .inr (sqT_mono vis_ext hy), fl_of rx c1, flA_of (w := w) ry c2, ?_⟩
      rw [in_fl rx c1 ry c2]
      exact hq _ H _ (Step.refl hI) (.bl _) p
  | str s =>
    cases dx with
    | str a => cases rx; cases ry; exact h3 _ _ _ _ ⟨a, s, rfl, rfl, hq _ H _ (Step.refl hI) (.bl _) hf⟩
    | _ => exact False.elim hf
  | _ => exact False.elim hf
theorem s_in : SndR2 K C (rInG K) wIn := s_mem (g := fun b => b) (fun _ _ _ _ ⟨p, xs, a, b, c, d, e⟩ => .inl ⟨p, xs, a, b, c, d, e⟩) (fun _ _ _ _ h => .inr (.inl h)) fun _ _ _ _ h => .inr (.inr h)
theorem s_notIn : SndR2 K C (rNotInG K) wNotIn := s_mem (g := fun b => !b) (fun _ _ _ _ ⟨p, xs, a, b, c, d, e⟩ => .inl ⟨p, xs, a, b, c, d, e⟩) (fun _ _ _ _ h => .inr (.inl h)) fun _ _ _ _ h => .inr (.inr h)
theorem s_neg : SndR1 K C (rU fun i => .int (-i)) wNeg := by
  intro w H x dx P Q _ hI rx hf hq
  cases dx with
  | int i => cases rx; exact ⟨i, rfl, hq _ H _ (Step.refl hI) (.int _) hf⟩
  | _ => exact False.elim hf
theorem at_rw {w : Wd} {H : Hp} {xs : List V} {ds : List D} {i : Int} {d : D} (r : RA K w H xs ds) (h : atI ds i = some d) : ∃ v, atI xs i = some v ∧ R K w H v d := by
  unfold atI at h ⊢
  rw [r.length]
  cases e : ixN ds.length i with
  | none => rw [e] at h; cases h
  | some j =>
    rw [e] at h
    exact r.getD h
theorem s_ix : SndR2 K C (rIx K) wIx := by
  intro w H x y dx dy P Q _ hI rx ry hf hq
  cases dy with
  | int i =>
    cases ry
    cases dx with
    | lst ds =>
      have hf : (match atI ds i with | some d => P d | none => False) := hf
      cases e : atI ds i with
      | none => rw [e] at hf; exact hf.elim
      | some d =>
        rw [e] at hf
        cases rx with
        | lst hx rx =>
          obtain ⟨v, a, b⟩ := at_rw (w := w) rx e
          exact .inl ⟨_, _, i, v, rfl, rfl, SqL.of (vis_some hx).2, a, hq _ H _ (Step.refl hI) b hf⟩
    | tup ds =>
      have hf : (match atI ds i with | some d => P d | none => False) := hf
      cases e : atI ds i with
      | none => rw [e] at hf; exact hf.elim
      | some d =>
        rw [e] at hf
        cases rx with
        | tup hx rx =>
          obtain ⟨v, a, b⟩ := at_rw (w := w) rx e
          exact .inr (.inl ⟨_, _, i, v, rfl, rfl, sqT_mono vis_ext hx, a, hq _ H _ (Step.refl hI) b hf⟩)
    | str z =>
      have hf : z.length ≤ 16000000 ∧ (match atI z.cps.toList i with | some c => P (.str ⟨#[c]⟩) | none => False) := hf
      cases e : atI z.cps.toList i with
      | none => rw [e] at hf; exact hf.2.elim
      | some d =>
        rw [e] at hf
        cases rx
        exact .inr (.inr ⟨_, i, d, rfl, rfl, size_ok2 hf.1, e, hq _ H _ (Step.refl hI) (.str _) hf.2⟩)
    | _ => exact False.elim hf
  | _ => exact False.elim hf
end
section
variable {X : Cx} {C : WC}
theorem jo_add : JO X (binaryOp .Add) (rAddG X.K) wAdd := ⟨op_add.or (op_add_str.or (op_cat.or op_catA)), s_add⟩
theorem jo_sub : JO X (binaryOp .Sub) (rI0 fun i j => .int (i - j)) wSub := ⟨op_sub, s_sub⟩
theorem jo_mul : JO X (binaryOp .Mult) rMulG wMul := ⟨op_mul.or op_mulW, s_mul⟩
theorem jo_mod : JO X (binaryOp .Mod) (rI (fun _ j => j ≠ 0) fun i j => .int (i.fmod j)) wMod := ⟨op_modN, s_mod⟩
theorem jo_div : JO X (binaryOp .FloorDiv) rDivG wDiv := ⟨op_fdivN.or op_fdivW, s_div⟩
theorem jo_pow : JO X (binaryOp .Pow) (rI CPow fun i j => .int (i ^ j.toNat)) wPow := ⟨op_pow, s_pow⟩
theorem jo_lt : JO X (compareOp .Lt) (rI0 fun i j => .bl (decide (i < j))) wLt := ⟨op_lt, s_lt⟩
theorem jo_le : JO X (compareOp .LtE) (rI0 fun i j => .bl (decide (i ≤ j))) wLe := ⟨op_le, s_le⟩
theorem jo_gt : JO X (compareOp .Gt) (rI0 fun i j => .bl (decide (j < i))) wGt := ⟨op_gt, s_gt⟩
theorem jo_ge : JO X (compareOp .GtE) (rI0 fun i j => .bl (decide (j ≤ i))) wGe := ⟨op_ge, s_ge⟩
theorem jo_eq (hu : X.A.units + 65 < cLine) : JO X (compareOp .Eq) (rEqG X.K) wEq := ⟨op_eq.or (op_eqD (by omega)), s_eq⟩
theorem jo_ne (hu : X.A.units + 65 < cLine) : JO X (compareOp .NotEq) (rNeG X.K) wNe := ⟨op_ne.or (op_neD (by omega)), s_ne⟩
theorem jo_isN : JO X (compareOp .Is) (fun x y H Q => y = .non ∧ Q (.bl (decide (x = .non))) H) wIsN := ⟨op_isN, s_isN⟩
theorem jo_notN : JO X (compareOp .IsNot) (fun x y H Q => y = .non ∧ Q (.bl (!decide (x = .non))) H) wNotN := ⟨op_notN, s_notN⟩
theorem jo_in (hu : X.A.units + 65 < cLine) : JO X (compareOp .In) (rInG X.K) wIn := ⟨op_in_seq.or ((op_inD hu).or op_in_str), s_in⟩
theorem jo_notIn (hu : X.A.units + 65 < cLine) : JO X (compareOp .NotIn) (rNotInG X.K) wNotIn := ⟨op_notIn_seq.or ((op_notInD hu).or op_notin_str), s_notIn⟩
end
end Bd
/-! Bd4: slices, built-in calls, methods of texts, f-strings, walks, comprehensions, calls of the text's own defs. -/
namespace Bd
open PySem L2
/-! ### slices -/
def cutD (xs : List D) (lo hi : Option Int) : List D := (xs.drop (HT.sIx xs.length 0 lo)).take (HT.sIx xs.length xs.length hi - HT.sIx xs.length 0 lo)
@[simp] def wSl (x : D) (lo hi : Option Int) (P : D → Prop) : Prop := match x with
  | .lst ds => P (.lst (cutD ds lo hi))
  | .tup ds => P (.tup (cutD ds lo hi))
  | .str z => z.length ≤ 16000000 ∧ P (.str (cutS z lo hi))
  | _ => False
def rSlG (K : PySem.W.Frag) : V → Option Int → Option Int → Hp → VK → Prop := fun x lo hi H Q => rSlL K x lo hi H Q ∨ rSlA K x lo hi H Q ∨ rSlS x lo hi H Q
section
variable {K : PySem.W.Frag} {C : WC}
theorem cut_rw {w : Wd} {H : Hp} {xs : List V} {ds : List D} (r : RA K w H xs ds) (lo hi : Option Int) : RA K w H (cutV xs lo hi) (cutD ds lo hi) := by
  unfold cutV cutD
  rw [r.length]
  exact (r.drop _).take _
theorem s_sl {w : Wd} {H : Hp} {x : V} {d : D} {lo hi : Option Int} {P : D → Prop} {Q : VK} (hI : w.I H) (r3 : R K w H x d) (p3 : wSl d lo hi P) (hq : ∀ v H' d', Step w H H' → R K w H' v d' → P d' → Q v H') : rSlG K x lo hi H Q := by
  cases d with
  | lst ds =>
    cases r3 with
    | lst hx rx =>
      refine .inl ⟨_, _, rfl, SqL.of (vis_some hx).2, fun p hp => ?_⟩
      obtain ⟨s, r⟩ := new_lst hI hp (cut_rw (w := w) rx lo hi)
      exact hq _ _ _ s r p3
  | tup ds =>
    cases r3 with
    | tup hx rx =>
      refine .inr (.inl ⟨_, _, rfl, sqT_mono vis_ext hx, fun e => ?_, fun _ p hp => ?_⟩)
      · have e2 : cutD ds lo hi = ds := by
          unfold cutD
          rw [← rx.length, e.1, e.2]
          simp [rx.length]
        have p3 : P (.tup (cutD ds lo hi)) := p3
        rw [e2] at p3
        exact hq _ _ _ (Step.refl hI) (.tup hx rx) p3
      · obtain ⟨s, r⟩ := new_tup hI hp (cut_rw (w := w) rx lo hi)
        exact hq _ _ _ s r p3
  | str z =>
    cases r3
    exact .inr (.inr ⟨_, rfl, size_ok2 p3.1, hq _ _ _ (Step.refl hI) (.str _) p3.2⟩)
  | _ => exact False.elim p3
end
theorem sl_gen {X : Cx} : SlR X (rSlG X.K) := sl_list.or (sl_tupA.or sl_str)

/-! ### built-in calls -/
def tyN : D → Option String
  | .non => some "NoneType" | .bl _ => some "bool" | .int _ => some "int" | .str _ => some "str" | .lst _ => some "list" | .tup _ => some "tuple"
  | _ => none
def isD (n : String) (x : D) : Bool := match x with
  | .bl _ => n == "bool" || n == "int"
  | .int _ => n == "int"
  | .str _ => n == "str"
  | .lst _ => n == "list"
  | .tup _ => n == "tuple"
  | _ => false
def okTy (n : String) : Bool := n == "bool" || n == "int" || n == "str" || n == "list" || n == "tuple" || n == "dict"
theorem kitB_is {n a : String} {x : D} (h : okTy n = true) (hx : tyN x = some a) : kitB a n = some (isD n x) := by
  have hn : n = "bool" ∨ n = "int" ∨ n = "str" ∨ n = "list" ∨ n = "tuple" ∨ n = "dict" := by simpa [okTy, or_assoc] using h
  have table : ∀ m ∈ ["bool", "int", "str", "list", "tuple", "dict"], kitB "NoneType" m = some false ∧ kitB "bool" m = some (m == "bool" || m == "int") ∧ kitB "int" m = some (m == "int") ∧ kitB "str" m = some (m == "str") ∧ kitB "list" m = some (m == "list") ∧ kitB "tuple" m = some (m == "tuple") := by decide +kernel
  have hm := table n (by rcases hn with e | e | e | e | e | e <;> rw [e] <;> simp)
  obtain ⟨t0, t1, t2, t3, t4, t5⟩ := hm
  cases x <;> first
    | (cases hx; assumption)
    | cases hx
@[simp] def wIsi (xs : List D) (P : D → Prop) : Prop := match xs with
  | [x, .ty n] => (okTy n && (tyN x).isSome) = true ∧ P (.bl (isD n x))
  | _ => False
@[simp] def wLen (xs : List D) (P : D → Prop) : Prop := match xs with
  | [.lst ds] => P (.int ds.length)
  | [.tup ds] => P (.int ds.length)
  | [.str z] => z.length ≤ 16000000 ∧ P (.int z.length)
  | _ => False
@[simp] def wToInt (xs : List D) (P : D → Prop) : Prop := match xs with
  | [.int i] => P (.int i)
  | [.bl k] => P (.int (if k then 1 else 0))
  | _ => False
def blsOf : List D → Option (List Bool)
  | [] => some []
  | .bl b :: r => (blsOf r).map (b :: ·)
  | _ :: _ => none
@[simp] def wAll (xs : List D) (P : D → Prop) : Prop := match xs with
  | [.lst ds] => match blsOf ds with
    | some bs => P (.bl (bs.all id))
    | none => False
  | _ => False
@[simp] def wStrI (xs : List D) (P : D → Prop) : Prop := match xs with
  | [.int i] => i.natAbs.log2 < 1920 ∧ P (.str (toString i))
  | _ => False
@[simp] def wList (xs : List D) (P : D → Prop) : Prop := match xs with
  | [.lst ds] => P (.lst ds)
  | [.tup ds] => P (.lst ds)
  | _ => False
@[simp] def wAbs (xs : List D) (P : D → Prop) : Prop := match xs with
  | [.int i] => P (.int (if i < 0 then -i else i))
  | _ => False
@[simp] def wMax2 (xs : List D) (P : D → Prop) : Prop := match xs with
  | [.int i, .int j] => P (.int (if j > i then j else i))
  | _ => False
@[simp] def wMin2 (xs : List D) (P : D → Prop) : Prop := match xs with
  | [.int i, .int j] => P (.int (if j < i then j else i))
  | _ => False
/-- list.index of something that is there -/
@[simp] def wIndex (ds : List D) (xs : List D) (P : D → Prop) : Prop := match xs with
  | [y] => (flD y && ds.all flD) = true ∧ match ds.findIdx? (fun z => eqD z y) with
    | some j => P (.int j)
    | none => False
  | _ => False
section
variable {K : PySem.W.Frag} {C : WC}
theorem ty_rw {w : Wd} {H : Hp} {x : V} {dx : D} {a : String} (r : R K w H x dx) (h : tyN dx = some a) : TyX K H x (.type a) := by
  cases r with
  | non => cases h; exact .base .non
  | bl b => cases h; exact .base (.bl b)
  | int i => cases h; exact .base (.int i)
  | str z => cases h; exact .base (.str z)
  | lst hx _ => cases h; exact .base (.lst (vis_some hx).2)
  | tup hx _ =>
    cases h
    rcases sqT_mono vis_ext hx with (hx | ⟨o, hx⟩) | ⟨o, its, n, hk, hc, _⟩
    · exact .base (.tup hx)
    · exact .fTuple hx
    · exact .kTuple hk hc
  | _ => cases h
theorem s_isi : SndRs K C (rIsi K) wIsi := by
  intro w H xs ds P Q _ hI r hf hq
  unfold wIsi at hf
  split at hf
  · rename_i x n
    cases r with
    | cons r1 r2 =>
      cases r2 with
      | cons r2 r3 =>
        cases r3
        cases r2
        obtain ⟨h, p⟩ := hf
        obtain ⟨h1, h2⟩ := Bool.and_eq_true_iff.mp h
        obtain ⟨a, ha⟩ := Option.isSome_iff_exists.mp h2
        exact ⟨_, _, _, _, _, rfl, .ty n, ty_rw r1 ha, kit_ty (kitB_is h1 ha), hq _ H _ (Step.refl hI) (.bl _) p⟩
  · exact hf.elim
theorem s_len : SndRs K C (fun xs H Q => ∃ x n, xs = [x] ∧ LenV K x H n ∧ Q (.int n) H) wLen := by
  intro w H xs ds P Q _ hI r hf hq
  unfold wLen at hf
  split at hf
  · cases r with
    | cons r1 r2 =>
      cases r2
      cases r1 with
      | lst hx rx => exact ⟨_, _, rfl, .inl ⟨_, SqL.of (vis_some hx).2, rfl⟩, hq _ H _ (Step.refl hI) (.int _) (by rw [rx.length]; exact hf)⟩
  · cases r with
    | cons r1 r2 =>
      cases r2
      cases r1 with
      | tup hx rx => exact ⟨_, _, rfl, .inr ⟨_, sqT_mono vis_ext hx, rfl⟩, hq _ H _ (Step.refl hI) (.int _) (by rw [rx.length]; exact hf)⟩
  · cases r with
    | cons r1 r2 =>
      cases r2
      cases r1
      exact ⟨_, _, rfl, ⟨size_ok2 hf.1, rfl⟩, hq _ H _ (Step.refl hI) (.int _) hf.2⟩
  · exact hf.elim
theorem s_int : SndRs K C (fun xs H Q => (∃ i, xs = [.int i] ∧ Q (.int i) H) ∨ ∃ k, xs = [.bl k] ∧ Q (.int (if k then 1 else 0)) H) wToInt := by
  intro w H xs ds P Q _ hI r hf hq
  unfold wToInt at hf
  split at hf
  · cases r with
    | cons r1 r2 => cases r2; cases r1; exact .inl ⟨_, rfl, hq _ H _ (Step.refl hI) (.int _) hf⟩
  · cases r with
    | cons r1 r2 => cases r2; cases r1; exact .inr ⟨_, rfl, hq _ H _ (Step.refl hI) (.int _) hf⟩
  · exact hf.elim
theorem bls_rw {w : Wd} {H : Hp} : ∀ {xs : List V} {ds : List D} {bs : List Bool}, RA K w H xs ds → blsOf ds = some bs → xs = bs.map V.bl
  | _, _, _, .nil, e => by cases e; rfl
  | _, d :: ds, bs, .cons r t, e => by
    cases d with
    | bl b =>
      unfold blsOf at e
      cases q : blsOf ds with
      | none => rw [q] at e; cases e
      | some cs =>
        rw [q] at e
        have e2 : b :: cs = bs := Option.some.inj e
        subst e2
        rw [bls_rw t q, r_bl r]
        rfl
    | _ => cases e
theorem s_all : SndRs K C (rAll K) wAll := by
  intro w H xs ds P Q _ hI r hf hq
  unfold wAll at hf
  split at hf
  · rename_i ds
    cases r with
    | cons r1 r2 =>
      cases r2
      cases r1 with
      | lst hx rx =>
        cases e : blsOf ds with
        | none => rw [e] at hf; exact hf.elim
        | some bs =>
          rw [e] at hf
          have e2 := bls_rw (w := w) rx e
          subst e2
          exact ⟨_, bs, rfl, SqL.of (vis_some hx).2, hq _ H _ (Step.refl hI) (.bl _) hf⟩
  · exact hf.elim
theorem s_strI : SndRs K C (fun xs H Q => ∃ i, xs = [.int i] ∧ i.natAbs.log2 < 1920 ∧ Q (.str (toString i)) H) wStrI := by
  intro w H xs ds P Q _ hI r hf hq
  unfold wStrI at hf
  split at hf
  · cases r with
    | cons r1 r2 => cases r2; cases r1; exact ⟨_, rfl, hf.1, hq _ H _ (Step.refl hI) (.str _) hf.2⟩
  · exact hf.elim
theorem s_list : SndRs K C (fun xs H Q => ∃ p ys, xs = [.ref p] ∧ (SqL K H p ys ∨ SqT K H p ys) ∧ ∀ l, H l = none → Q (.ref l) (upd H l (.lst ys))) wList := by
  intro w H xs ds P Q _ hI r hf hq
  unfold wList at hf
  split at hf
  · cases r with
    | cons r1 r2 =>
      cases r2
      cases r1 with
      | lst hx rx =>
        refine ⟨_, _, rfl, .inl (SqL.of (vis_some hx).2), fun l hl => ?_⟩
        obtain ⟨s, r⟩ := new_lst (w := w) hI hl rx
        exact hq _ _ _ s r hf
  · cases r with
    | cons r1 r2 =>
      cases r2
      cases r1 with
      | tup hx rx =>
        refine ⟨_, _, rfl, .inr (sqT_mono vis_ext hx), fun l hl => ?_⟩
        obtain ⟨s, r⟩ := new_lst (w := w) hI hl rx
        exact hq _ _ _ s r hf
  · exact hf.elim
theorem s_abs : SndRs K C (fun xs H Q => ∃ i, xs = [.int i] ∧ Q (.int (if i < 0 then -i else i)) H) wAbs := by
  intro w H xs ds P Q _ hI r hf hq
  unfold wAbs at hf
  split at hf
  · cases r with
    | cons r1 r2 => cases r2; cases r1; exact ⟨_, rfl, hq _ H _ (Step.refl hI) (.int _) hf⟩
  · exact hf.elim
theorem s_max2 : SndRs K C (fun xs H Q => ∃ i j, xs = [.int i, .int j] ∧ Q (.int (if j > i then j else i)) H) wMax2 := by
  intro w H xs ds P Q _ hI r hf hq
  unfold wMax2 at hf
  split at hf
  · cases r with
    | cons r1 r2 => cases r2 with
      | cons r2 r3 => cases r3; cases r1; cases r2; exact ⟨_, _, rfl, hq _ H _ (Step.refl hI) (.int _) hf⟩
  · exact hf.elim
theorem s_min2 : SndRs K C (fun xs H Q => ∃ i j, xs = [.int i, .int j] ∧ Q (.int (if j < i then j else i)) H) wMin2 := by
  intro w H xs ds P Q _ hI r hf hq
  unfold wMin2 at hf
  split at hf
  · cases r with
    | cons r1 r2 => cases r2 with
      | cons r2 r3 => cases r3; cases r1; cases r2; exact ⟨_, _, rfl, hq _ H _ (Step.refl hI) (.int _) hf⟩
  · exact hf.elim
theorem s_index : SndM K C (rIndex K) (fun x xs P => match x with | .lst ds => wIndex ds xs P | _ => False) := by
  intro w H x dx xs es P Q _ hI rx r hf hq
  cases dx with
  | lst ds =>
    have hf : wIndex ds es P := hf
    cases es with
    | nil => exact False.elim hf
    | cons y es2 =>
      cases es2 with
      | cons _ _ => exact False.elim hf
      | nil =>
        have hf : (flD y && ds.all flD) = true ∧ (match ds.findIdx? (fun z => eqD z y) with | some j => P (.int j) | none => False) := hf
        obtain ⟨hfl, hf⟩ := hf
        obtain ⟨f1, f2⟩ := Bool.and_eq_true_iff.mp hfl
        cases r with
        | cons ry r2 =>
          cases r2
          cases rx with
          | lst hx rx =>
            cases e : ds.findIdx? (fun z => eqD z y) with
            | none => rw [e] at hf; exact hf.elim
            | some j =>
              rw [e] at hf
              obtain ⟨hj, h1, h2⟩ := List.findIdx?_eq_some_iff_getElem.mp e
              have hjd : ds[j]? = some ds[j] := by simp [hj]
              obtain ⟨v, hv, rv⟩ := rx.getD hjd
              have fd : flD ds[j] = true := List.all_eq_true.mp f2 _ (List.getElem_mem hj)
              refine ⟨_, _, _, j, v, rfl, rfl, SqL.of (vis_some hx).2, fl_of ry f1, flA_of (w := w) rx f2, hv, ?_, fun m z' hm hz => ?_, hq _ H _ (Step.refl hI) (.int _) hf⟩
              · rw [eqv_fl (w := w) rv ry fd f1]; exact h1
              · obtain ⟨d', hd', rd'⟩ := rx.get hz
                obtain ⟨hml, he⟩ := List.getElem?_eq_some_iff.mp hd'
                subst he
                rw [eqv_fl (w := w) rd' ry (List.all_eq_true.mp f2 _ (List.getElem_mem hml)) f1]
                simpa using h2 m hm
  | _ => exact False.elim hf
end
/-! ### methods of texts, f-strings -/
@[simp] def wUpper (z : Str) (xs : List D) (P : D → Prop) : Prop := match xs with
  | [] => z.length ≤ 5000000 ∧ P (.str (Txt.upper z))
  | _ => False
def strsOf : List D → Option (List Str)
  | [] => some []
  | .str b :: r => (strsOf r).map (b :: ·)
  | _ :: _ => none
@[simp] def wJoin (z : Str) (xs : List D) (P : D → Prop) : Prop := match xs with
  | [.lst ds] => match strsOf ds with
    | some ys => (ys.map (·.length)).sum + ys.length * z.length ≤ 16000000 ∧ P (.str (Txt.join z ys))
    | none => False
  | [.tup ds] => match strsOf ds with
    | some ys => (ys.map (·.length)).sum + ys.length * z.length ≤ 16000000 ∧ P (.str (Txt.join z ys))
    | none => False
  | _ => False
@[simp] def wSplit (z : Str) (xs : List D) (P : D → Prop) : Prop := match xs with
  | [.str y] => ((y.length == 0) = false ∧ z.length ≤ 16000000) ∧ P (.lst ((Txt.split z y).map .str))
  | _ => False
@[simp] def wFmt (x : D) (P : Str → Prop) : Prop := match x with
  | .str z => z.length ≤ 16000000 ∧ P z
  | .int i => i.natAbs.log2 < 1920 ∧ P (toString i)
  | _ => False
section
variable {K : PySem.W.Frag} {C : WC}
theorem s_upper (z : Str) : SndRs K C ((fun x xs H Q => ∃ a, x = .str a ∧ xs = [] ∧ a.length ≤ 5592405 ∧ Q (.str (Txt.upper a)) H) (V.str z)) (wUpper z) := by
  intro w H xs ds P Q _ hI r hf hq
  unfold wUpper at hf
  split at hf
  · cases r
    exact ⟨z, rfl, rfl, by omega, hq _ H _ (Step.refl hI) (.str _) hf.2⟩
  · exact hf.elim
theorem strs_rw {w : Wd} {H : Hp} : ∀ {xs : List V} {ds : List D} {bs : List Str}, RA K w H xs ds → strsOf ds = some bs → xs = bs.map V.str
  | _, _, _, .nil, e => by cases e; rfl
  | _, d :: ds, bs, .cons r t, e => by
    cases d with
    | str b =>
      unfold strsOf at e
      cases q : strsOf ds with
      | none => rw [q] at e; cases e
      | some cs =>
        rw [q] at e
        have e2 : b :: cs = bs := Option.some.inj e
        subst e2
        rw [strs_rw t q, r_str r]
        rfl
    | _ => cases e
theorem s_join (z : Str) : SndRs K C ((fun x xs H Q => ∃ a p, ∃ ys : List Str, x = .str a ∧ xs = [.ref p] ∧ (SqL K H p (ys.map V.str) ∨ SqT K H p (ys.map V.str)) ∧
    (ys.map (·.length)).sum + ys.length * a.length ≤ 16777216 ∧ Q (.str (Txt.join a ys)) H) (V.str z)) (wJoin z) := by
  intro w H xs ds P Q _ hI r hf hq
  unfold wJoin at hf
  split at hf
  · rename_i ds
    cases r with
    | cons r1 r2 =>
      cases r2
      cases r1 with
      | lst hx rx =>
        cases e : strsOf ds with
        | none => rw [e] at hf; exact hf.elim
        | some bs =>
          rw [e] at hf
          have e2 := strs_rw (w := w) rx e
          subst e2
          exact ⟨z, _, bs, rfl, rfl, .inl (SqL.of (vis_some hx).2), by omega, hq _ H _ (Step.refl hI) (.str _) hf.2⟩
  · rename_i ds
    cases r with
    | cons r1 r2 =>
      cases r2
      cases r1 with
      | tup hx rx =>
        cases e : strsOf ds with
        | none => rw [e] at hf; exact hf.elim
        | some bs =>
          rw [e] at hf
          have e2 := strs_rw (w := w) rx e
          subst e2
          exact ⟨z, _, bs, rfl, rfl, .inr (sqT_mono vis_ext hx), by omega, hq _ H _ (Step.refl hI) (.str _) hf.2⟩
  · exact hf.elim
theorem rw_strs {w : Wd} {H : Hp} : ∀ ys : List Str, RA K w H (ys.map V.str) (ys.map D.str)
  | [] => .nil
  | y :: ys => .cons (.str y) (rw_strs ys)
theorem s_split (z : Str) : SndRs K C ((fun x xs H Q => ∃ a b, x = .str a ∧ xs = [.str b] ∧ (b.length == 0) = false ∧ a.length + 2 ≤ sizeLine ∧ rNewStrs (Txt.split a b) H Q) (V.str z)) (wSplit z) := by
  intro w H xs ds P Q _ hI r hf hq
  unfold wSplit at hf
  split at hf
  · cases r with
    | cons r1 r2 =>
      cases r2
      cases r1
      refine ⟨z, _, rfl, rfl, hf.1.1, Nat.le_trans (Nat.add_le_add_right hf.1.2 2) (by decide), fun p hp => ?_⟩
      obtain ⟨s, r⟩ := new_lst (w := w) hI hp (rw_strs _)
      exact hq _ _ _ s r hf.2
  · exact hf.elim
end
end Bd
/-! Bd5: what an expression asks of data and cells, and why that is enough. -/
namespace Bd
open PySem L2
abbrev ATE := Gs → Cs → (D → Cs → Prop) → Prop
abbrev ATT := Gs → Cs → (Bool → Cs → Prop) → Prop
abbrev ATA := Gs → Cs → (List D → Cs → Prop) → Prop
abbrev ATO := Gs → Cs → (Option Int → Cs → Prop) → Prop
section
variable (K : PySem.W.Frag) (F : Fr)
def SndE (t : TE) (a : ATE) : Prop := ∀ (gs : List (V × D)) (pv os : Os) (cs : Cs) (σ : St) (H : Hp) (Γ : Gs) (P : D → Cs → Prop) (Q : VK), Rel K F gs pv os cs σ H Γ → a Γ cs P →
  (∀ v H' d os' cs', Rel K F ((v, d) :: gs) pv os' cs' σ H' Γ → P d cs' → Q v H') → t σ H Q
def SndT (t : TT) (a : ATT) : Prop := ∀ (gs : List (V × D)) (pv os : Os) (cs : Cs) (σ : St) (H : Hp) (Γ : Gs) (P : Bool → Cs → Prop) (Q : Bool → Hp → Prop), Rel K F gs pv os cs σ H Γ → a Γ cs P →
  (∀ b H' os' cs', Rel K F gs pv os' cs' σ H' Γ → P b cs' → Q b H') → t σ H Q
def SndA (t : TA) (a : ATA) : Prop := ∀ (gs : List (V × D)) (pv os : Os) (cs : Cs) (σ : St) (H : Hp) (Γ : Gs) (P : List D → Cs → Prop) (Q : List V → Hp → Prop), Rel K F gs pv os cs σ H Γ → a Γ cs P →
  (∀ vs H' ds os' cs', Rel K F gs pv os' cs' σ H' Γ → RA K (F.at pv os') H' vs ds → P ds cs' → Q vs H') → t σ H Q
def SndO (t : TO) (a : ATO) : Prop := ∀ (gs : List (V × D)) (pv os : Os) (cs : Cs) (σ : St) (H : Hp) (Γ : Gs) (P : Option Int → Cs → Prop) (Q : Option Int → Hp → Prop), Rel K F gs pv os cs σ H Γ → a Γ cs P →
  (∀ o H' os' cs', Rel K F gs pv os' cs' σ H' Γ → P o cs' → Q o H') → t σ H Q
end
structure JE (X : Cx) (F : Fr) (e : Expr) (t : TE) (a : ATE) : Prop where
  p : PE X e t
  s : SndE X.K F t a
structure JT (X : Cx) (F : Fr) (e : Expr) (t : TT) (a : ATT) : Prop where
  p : PT X e t
  s : SndT X.K F t a
structure JW (X : Cx) (F : Fr) (e : Expr) (t : TT) (a : ATT) : Prop where
  p : PW X e t
  s : SndT X.K F t a
structure JA (X : Cx) (F : Fr) (es : List Expr) (t : TA) (a : ATA) : Prop where
  p : PA X es t
  s : SndA X.K F t a
structure JP (X : Cx) (F : Fr) (e : Option Expr) (t : TO) (a : ATO) : Prop where
  p : PO X e t
  s : SndO X.K F t a
/-! ### abstract readings -/
@[simp] abbrev aVar (i : Nat) : ATE := fun Γ c P => match Γ[i]? with
  | some (some d) => P d c
  | _ => False
@[simp] abbrev aC (d : D) : ATE := fun _ c P => P d c
@[simp] abbrev aOp (f : D → D → (D → Prop) → Prop) (a b : ATE) : ATE := fun Γ c P => a Γ c fun x c1 => b Γ c1 fun y c2 => f x y fun z => P z c2
@[simp] abbrev aUn (f : D → (D → Prop) → Prop) (a : ATE) : ATE := fun Γ c P => a Γ c fun x c1 => f x fun z => P z c1
@[simp] abbrev aNil : ATA := fun _ c P => P [] c
@[simp] abbrev aCons (a : ATE) (b : ATA) : ATA := fun Γ c P => a Γ c fun x c1 => b Γ c1 fun xs c2 => P (x :: xs) c2
@[simp] abbrev aTup (a : ATA) : ATE := fun Γ c P => a Γ c fun xs c1 => xs.length ≤ 100000 ∧ P (.tup xs) c1
/-- a new list, as data -/
@[simp] abbrev aLst (a : ATA) : ATE := fun Γ c P => a Γ c fun xs c1 => xs.length ≤ 100000 ∧ P (.lst xs) c1
/-- a new list, as a cell -/
@[simp] abbrev aNew (a : ATA) : ATE := fun Γ c P => a Γ c fun xs c1 => xs.length ≤ 100000 ∧ ∀ p : Addr, c1.lookup p = none → P (.adr p) ((p, .lst xs) :: c1)
@[simp] abbrev aB (a : ATE) : ATT := fun Γ c P => a Γ c fun x c1 => match x with
  | .bl b => P b c1
  | _ => False
@[simp] abbrev aAnd (a b : ATT) : ATT := fun Γ c P => a Γ c fun k c1 => if k = true then b Γ c1 P else P false c1
@[simp] abbrev aOr (a b : ATT) : ATT := fun Γ c P => a Γ c fun k c1 => if k = true then P true c1 else b Γ c1 P
@[simp] abbrev aNot (a : ATT) : ATT := fun Γ c P => a Γ c fun k c1 => P (!k) c1
@[simp] abbrev aV (a : ATT) : ATE := fun Γ c P => a Γ c fun k c1 => P (.bl k) c1
@[simp] abbrev aIf (t : ATT) (a b : ATE) : ATE := fun Γ c P => t Γ c fun k c1 => if k = true then a Γ c1 P else b Γ c1 P
@[simp] abbrev aAndV (a b : ATE) : ATE := fun Γ c P => a Γ c fun x c1 => match x with
  | .bl k => if k = true then b Γ c1 P else P (.bl false) c1
  | _ => False
@[simp] abbrev aOrV (a b : ATE) : ATE := fun Γ c P => a Γ c fun x c1 => match x with
  | .bl k => if k = true then P (.bl true) c1 else b Γ c1 P
  | _ => False
@[simp] abbrev aChain (f g : D → D → (D → Prop) → Prop) (a b e : ATE) : ATE := fun Γ c P => a Γ c fun x c1 => b Γ c1 fun y c2 => f x y fun z => match z with
  | .bl k => if k = true then e Γ c2 fun u c3 => g y u fun z => P z c3 else P (.bl false) c2
  | _ => False
@[simp] abbrev aCB (f : List D → (D → Prop) → Prop) (a : ATA) : ATE := fun Γ c P => a Γ c fun xs c1 => f xs fun z => P z c1
@[simp] abbrev aMs (f : Str → List D → (D → Prop) → Prop) (o : ATE) (a : ATA) : ATE := fun Γ c P => o Γ c fun x c1 => match x with
  | .str z => a Γ c1 fun xs c2 => f z xs fun z => P z c2
  | _ => False
@[simp] abbrev aMl (f : List D → List D → (D → Prop) → Prop) (o : ATE) (a : ATA) : ATE := fun Γ c P => o Γ c fun x c1 => match x with
  | .lst ds => a Γ c1 fun xs c2 => f ds xs fun z => P z c2
  | _ => False
@[simp] abbrev aNoPart : ATO := fun _ c P => P none c
@[simp] abbrev aPart (a : ATE) : ATO := fun Γ c P => a Γ c fun x c1 => match x with
  | .int i => P (some i) c1
  | _ => False
@[simp] abbrev aSl (a : ATE) (l h : ATO) : ATE := fun Γ c P => a Γ c fun x c1 => l Γ c1 fun lo c2 => h Γ c2 fun hi c3 => wSl x lo hi fun z => P z c3
@[simp] abbrev aFmt (a : ATE) : ATE := fun Γ c P => a Γ c fun x c1 => wFmt x fun z => P (.str z) c1
def aJs : List ATE → Str → Gs → Cs → (Str → Cs → Prop) → Prop
  | [], acc, _, c, P => P acc c
  | a :: as, acc, Γ, c, P => a Γ c fun x c1 => match x with
    | .str y => acc.length + y.length ≤ 16000000 ∧ aJs as (acc ++ y) Γ c1 P
    | _ => False
def aJoined (as : List ATE) : ATE := fun Γ c P => aJs as Str.empty Γ c fun z c1 => P (.str z) c1
/-! ### soundness, construct by construct -/
section
variable {K : PySem.W.Frag} {F : Fr}
theorem snd_var {i : Nat} : SndE K F (tVar i) (aVar i) := by
  intro gs pv os cs σ H Γ P Q r ha hq
  unfold aVar at ha
  split at ha
  · rename_i d e
    obtain ⟨v, h1, h2⟩ := r.at_ i d e
    exact ⟨v, h1, hq v H d os cs (r.gcons h2) ha⟩
  · exact ha.elim
theorem snd_c {v : V} {d : D} (h : ∀ (w : Wd) H, R K w H v d) : SndE K F (tC v) (aC d) := fun gs pv os cs σ H Γ P Q r ha hq => hq v H d os cs (r.gcons (h _ H)) ha
theorem snd_op {r : R2} {f : D → D → (D → Prop) → Prop} {ta tb : TE} {a b : ATE} (hf : SndR2 K Any r f) (h1 : SndE K F ta a) (h2 : SndE K F tb b) : SndE K F (tOp r ta tb) (aOp f a b) := by
  intro gs pv os cs σ H Γ P Q r ha hq
  refine h1 gs pv os cs σ H Γ _ _ r ha fun v H1 d os1 c1 r1 ha1 => ?_
  refine h2 _ pv os1 c1 σ H1 Γ _ _ r1 ha1 fun u H2 e os2 c2 r2 ha2 => ?_
  refine hf (F.at pv os2) H2 v u d e _ Q trivial r2.st.inv r2.tail.head r2.head ha2 fun z H3 dz s3 r3 p3 => hq z H3 dz os2 c2 ((r2.tail.tail.step s3).gcons r3) p3
theorem snd_un {r : V → Hp → VK → Prop} {f : D → (D → Prop) → Prop} {ta : TE} {a : ATE} (hf : SndR1 K Any r f) (h1 : SndE K F ta a) : SndE K F (tUn r ta) (aUn f a) := by
  intro gs pv os cs σ H Γ P Q r ha hq
  refine h1 gs pv os cs σ H Γ _ _ r ha fun v H1 d os1 c1 r1 ha1 => ?_
  exact hf (F.at pv os1) H1 v d _ Q trivial r1.st.inv r1.head ha1 fun z H3 dz s3 r3 p3 => hq z H3 dz os1 c1 ((r1.tail.step s3).gcons r3) p3
theorem snd_nil : SndA K F tNil aNil := fun gs pv os cs σ H Γ P Q r ha hq => hq [] H [] os cs r .nil ha
theorem snd_cons {ta : TE} {tr : TA} {a : ATE} {b : ATA} (h1 : SndE K F ta a) (h2 : SndA K F tr b) : SndA K F (tCons ta tr) (aCons a b) := by
  intro gs pv os cs σ H Γ P Q r ha hq
  refine h1 gs pv os cs σ H Γ _ _ r ha fun v H1 d os1 c1 r1 ha1 => ?_
  refine h2 _ pv os1 c1 σ H1 Γ _ _ r1 ha1 fun us H2 es os2 c2 r2 ra ha2 => ?_
  exact hq (v :: us) H2 (d :: es) os2 c2 r2.tail (.cons r2.head ra) ha2
theorem snd_tup {ta : TA} {a : ATA} (h : SndA K F ta a) : SndE K F (tTup ta) (aTup a) := by
  intro gs pv os cs σ H Γ P Q r ha hq
  refine h gs pv os cs σ H Γ _ _ r ha fun vs H1 ds os1 c1 r1 ra ⟨hz, p1⟩ => ⟨by rw [ra.length]; exact size_ok hz, fun p hp => ?_⟩
  obtain ⟨s2, r2⟩ := new_tup r1.st.inv hp ra
  exact hq _ _ _ os1 c1 ((r1.step s2).gcons r2) p1
theorem snd_lst {ta : TA} {a : ATA} (h : SndA K F ta a) : SndE K F (tLst ta) (aLst a) := by
  intro gs pv os cs σ H Γ P Q r ha hq
  refine h gs pv os cs σ H Γ _ _ r ha fun vs H1 ds os1 c1 r1 ra ⟨hz, p1⟩ => ⟨by rw [ra.length]; exact size_ok hz, fun p hp => ?_⟩
  obtain ⟨s2, r2⟩ := new_lst r1.st.inv hp ra
  exact hq _ _ _ os1 c1 ((r1.step s2).gcons r2) p1
/-- a fresh address becomes a cell -/
theorem Rel.alloc {gs : List (V × D)} {pv os : Os} {cs : Cs} {σ : St} {H : Hp} {Γ : Gs} (r : Rel K F gs pv os cs σ H Γ) {p : Addr} {o : HO} {d : D} (hp : H p = none) (h : RH K (F.at pv os) H o d) :
    cs.lookup p = none ∧ Rel K F gs pv ((p, o) :: os) ((p, d) :: cs) σ (upd H p o) Γ := by
  have hm : p ∉ (F.at pv os).ms := fresh_out r.st.inv hp
  have hpo : ∀ q, q ∈ pv ++ os → q.1 ≠ p := fun q hq z => by
    rcases List.mem_append.mp hq with m | m
    · exact hm (List.mem_append_right _ (List.mem_append_left _ (by rw [← z]; exact List.mem_map_of_mem m)))
    · exact hm (List.mem_append_left _ (by rw [← z]; exact List.mem_map_of_mem m))
  have hw : p ∉ F.w.ms := fun m => hm (List.mem_append_right _ (List.mem_append_right _ m))
  have e : Ext ((F.at pv os).v H) ((F.at pv ((p, o) :: os)).v (upd H p o)) := fun a u q => by
    obtain ⟨h1, h2⟩ := vis_some q
    have ne : a ≠ p := ne_of_none h2 hp
    refine vis_of (fun z => ?_) (by rw [upd_ne ne]; exact h2)
    rcases List.mem_cons.mp z with z | z
    · exact ne z
    · exact h1 z
  have hv0 : (F.w.plus F.os0).v F.H0 p = none := by
    cases q : (F.w.plus F.os0).v F.H0 p with
    | none => rfl
    | some u =>
      have := (vis_some (r.st.ext p u q)).2
      rw [hp] at this; cases this
  have ks := r.st.cel.keys
  refine ⟨?_, r.mv ⟨r.st.ext.tr e, ⟨(Step.new (o := o) (w := F.w.plus pv) r.st.inv.1 hp).inv, fun q hq => ?_⟩, fun q hq => ?_, ?_, .cons (RH.mono (w := F.at pv os) (w' := F.at pv ((p, o) :: os)) rfl e h) (r.st.cel.mono (w := F.at pv os) (w' := F.at pv ((p, o) :: os)) rfl e)⟩ e⟩
  · cases q : cs.lookup p with
    | none => rfl
    | some d' =>
      obtain ⟨o', h1, _⟩ := r.st.cel.get q
      exact absurd rfl (hpo (p, o') (List.mem_append_right _ h1))
  · rcases List.mem_cons.mp hq with z | z
    · rw [z]; exact upd_same
    · rw [upd_ne (hpo q (List.mem_append_right _ z))]; exact r.st.inv.2 q z
  · rcases List.mem_append.mp hq with m | m
    · exact r.st.fr q (List.mem_append_left _ m)
    · rcases List.mem_cons.mp m with z | m
      · rw [z]; exact ⟨hw, hv0⟩
      · exact r.st.fr q (List.mem_append_right _ m)
  · have nd := r.st.nd
    rw [List.map_append, List.nodup_append] at nd ⊢
    obtain ⟨n1, n2, n3⟩ := nd
    refine ⟨n1, List.nodup_cons.mpr ⟨fun z => ?_, n2⟩, fun a ha b hb z => ?_⟩
    · obtain ⟨q, hq, e⟩ := List.mem_map.mp z
      exact hpo q (List.mem_append_right _ hq) e
    · rcases List.mem_cons.mp hb with y | hb
      · obtain ⟨q, hq, e⟩ := List.mem_map.mp ha
        exact hpo q (List.mem_append_left _ hq) (e.trans (z.trans y))
      · exact n3 a ha b hb z
theorem snd_new {ta : TA} {a : ATA} (h : SndA K F ta a) : SndE K F (tLst ta) (aNew a) := by
  intro gs pv os cs σ H Γ P Q r ha hq
  refine h gs pv os cs σ H Γ _ _ r ha fun vs H1 ds os1 c1 r1 ra ⟨hz, p1⟩ => ⟨by rw [ra.length]; exact size_ok hz, fun p hp => ?_⟩
  obtain ⟨k, r2⟩ := r1.alloc (o := .lst vs) (d := .lst ds) hp ra
  exact hq _ _ _ _ _ (r2.gcons (.adr p)) (p1 p k)
theorem snd_B {t : TE} {a : ATE} (h : SndE K F t a) : SndT K F (tB t) (aB a) := by
  intro gs pv os cs σ H Γ P Q r ha hq
  refine h gs pv os cs σ H Γ _ _ r ha fun v H1 d os1 c1 r1 p1 => ?_
  cases d with
  | bl b => exact ⟨b, r_bl r1.head, hq b H1 os1 c1 r1.tail p1⟩
  | _ => exact False.elim p1
theorem snd_test {t : TE} {a : ATE} (h : SndE K F t a) : SndT K F (tTest t) (aB a) := snd_B h
theorem snd_and {t u : TT} {a b : ATT} (h1 : SndT K F t a) (h2 : SndT K F u b) : SndT K F (tAnd t u) (aAnd a b) := by
  intro gs pv os cs σ H Γ P Q r ha hq
  refine h1 gs pv os cs σ H Γ _ _ r ha fun k H1 os1 c1 r1 p1 => ?_
  cases k with
  | true => exact h2 gs pv os1 c1 σ H1 Γ _ _ r1 p1 hq
  | false => exact hq false H1 os1 c1 r1 p1
theorem snd_or {t u : TT} {a b : ATT} (h1 : SndT K F t a) (h2 : SndT K F u b) : SndT K F (tOr t u) (aOr a b) := by
  intro gs pv os cs σ H Γ P Q r ha hq
  refine h1 gs pv os cs σ H Γ _ _ r ha fun k H1 os1 c1 r1 p1 => ?_
  cases k with
  | false => exact h2 gs pv os1 c1 σ H1 Γ _ _ r1 p1 hq
  | true => exact hq true H1 os1 c1 r1 p1
theorem snd_not {t : TT} {a : ATT} (h1 : SndT K F t a) : SndT K F (tNot t) (aNot a) := fun gs pv os cs σ H Γ P Q r ha hq => h1 gs pv os cs σ H Γ _ _ r ha fun k H1 os1 c1 r1 p1 => hq (!k) H1 os1 c1 r1 p1
theorem snd_notV {t : TE} {a : ATE} (h1 : SndE K F t a) : SndE K F (tNotV t) (aV (aNot (aB a))) := by
  intro gs pv os cs σ H Γ P Q r ha hq
  refine h1 gs pv os cs σ H Γ _ _ r ha fun v H1 d os1 c1 r1 p1 => ?_
  cases d with
  | bl b => exact ⟨b, r_bl r1.head, hq _ H1 _ os1 c1 (r1.tail.gcons (.bl _)) p1⟩
  | _ => exact False.elim p1
theorem snd_if {tt : TT} {ta tb : TE} {c : ATT} {a b : ATE} (h : SndT K F tt c) (h1 : SndE K F ta a) (h2 : SndE K F tb b) : SndE K F (tIf tt ta tb) (aIf c a b) := by
  intro gs pv os cs σ H Γ P Q r ha hq
  refine h gs pv os cs σ H Γ _ _ r ha fun k H1 os1 c1 r1 p1 => ?_
  cases k with
  | true => exact h1 gs pv os1 c1 σ H1 Γ _ _ r1 p1 hq
  | false => exact h2 gs pv os1 c1 σ H1 Γ _ _ r1 p1 hq
theorem snd_andV {ta tb : TE} {a b : ATE} (h1 : SndE K F ta a) (h2 : SndE K F tb b) : SndE K F (tAndV ta tb) (aAndV a b) := by
  intro gs pv os cs σ H Γ P Q r ha hq
  refine h1 gs pv os cs σ H Γ _ _ r ha fun v H1 d os1 c1 r1 p1 => ?_
  cases d with
  | bl k =>
    refine ⟨k, r_bl r1.head, ?_⟩
    cases k with
    | true => exact h2 gs pv os1 c1 σ H1 Γ _ _ r1.tail p1 hq
    | false => exact hq _ H1 _ os1 c1 (r1.tail.gcons (.bl false)) p1
  | _ => exact False.elim p1
theorem snd_orV {ta tb : TE} {a b : ATE} (h1 : SndE K F ta a) (h2 : SndE K F tb b) : SndE K F (tOrV ta tb) (aOrV a b) := by
  intro gs pv os cs σ H Γ P Q r ha hq
  refine h1 gs pv os cs σ H Γ _ _ r ha fun v H1 d os1 c1 r1 p1 => ?_
  cases d with
  | bl k =>
    refine ⟨k, r_bl r1.head, ?_⟩
    cases k with
    | false => exact h2 gs pv os1 c1 σ H1 Γ _ _ r1.tail p1 hq
    | true => exact hq _ H1 _ os1 c1 (r1.tail.gcons (.bl true)) p1
  | _ => exact False.elim p1
theorem snd_chain {r r' : R2} {f g : D → D → (D → Prop) → Prop} {ta tb tc : TE} {a b c : ATE} (hf : SndR2 K Any r f) (hg : SndR2 K Any r' g) (h1 : SndE K F ta a) (h2 : SndE K F tb b) (h3 : SndE K F tc c) :
    SndE K F (tChain r r' ta tb tc) (aChain f g a b c) := by
  intro gs pv os cs σ H Γ P Q r ha hq
  refine h1 gs pv os cs σ H Γ _ _ r ha fun v H1 d os1 c1 r1 ha1 => ?_
  refine h2 _ pv os1 c1 σ H1 Γ _ _ r1 ha1 fun u H2 e os2 c2 r2 ha2 => ?_
  refine hf (F.at pv os2) H2 v u d e _ _ trivial r2.st.inv r2.tail.head r2.head ha2 fun z H3 dz s3 r3 p3 => ?_
  cases dz with
  | bl k =>
    refine ⟨k, r_bl r3, ?_⟩
    have q3 := r2.step s3
    cases k with
    | true =>
      refine h3 _ pv os2 c2 σ H3 Γ _ _ q3 p3 fun y H4 dy os4 c4 r4 p4 => ?_
      exact hg (F.at pv os4) H4 u y e dy _ Q trivial r4.st.inv r4.tail.head r4.head p4 fun z H5 dz s5 r5 p5 => hq z H5 dz os4 c4 ((r4.tail.tail.tail.step s5).gcons r5) p5
    | false => exact hq _ H3 _ os2 c2 (q3.tail.tail.gcons (.bl false)) p3
  | _ => exact False.elim p3
theorem snd_CB {r : List V → Hp → VK → Prop} {f : List D → (D → Prop) → Prop} {ta : TA} {a : ATA} (hf : SndRs K Any r f) (h : SndA K F ta a) : SndE K F (tCB r ta) (aCB f a) := by
  intro gs pv os cs σ H Γ P Q rl ha hq
  refine h gs pv os cs σ H Γ _ _ rl ha fun vs H1 ds os1 c1 r1 ra p1 => ?_
  exact hf (F.at pv os1) H1 vs ds _ Q trivial r1.st.inv ra p1 fun v H2 d s2 r2 p2 => hq v H2 d os1 c1 ((r1.step s2).gcons r2) p2
theorem snd_M1 {r : V → List V → Hp → VK → Prop} {f : Str → List D → (D → Prop) → Prop} {to te : TE} {o a : ATE} (hf : ∀ z, SndRs K Any (r (.str z)) (f z)) (h1 : SndE K F to o) (h2 : SndE K F te a) : SndE K F (tM1 r to te) (aMs f o (aCons a aNil)) := by
  intro gs pv os cs σ H Γ P Q rl ha hq
  refine h1 gs pv os cs σ H Γ _ _ rl ha fun v H1 d os1 c1 r1 ha1 => ?_
  cases d with
  | str z =>
    cases r_str r1.head
    refine ⟨⟨z, rfl⟩, ?_⟩
    refine h2 gs pv os1 c1 σ H1 Γ _ _ r1.tail ha1 fun u H2 e os2 c2 r2 ha2 => ?_
    exact hf z (F.at pv os2) H2 [u] [e] _ Q trivial r2.st.inv (.cons r2.head .nil) ha2 fun v H3 d s3 r3 p3 => hq v H3 d os2 c2 ((r2.tail.step s3).gcons r3) p3
  | _ => exact False.elim ha1
theorem snd_M0 {r : V → List V → Hp → VK → Prop} {f : Str → List D → (D → Prop) → Prop} {to : TE} {o : ATE} (hf : ∀ z, SndRs K Any (r (.str z)) (f z)) (h1 : SndE K F to o) : SndE K F (tM0 r to) (aMs f o aNil) := by
  intro gs pv os cs σ H Γ P Q rl ha hq
  refine h1 gs pv os cs σ H Γ _ _ rl ha fun v H1 d os1 c1 r1 ha1 => ?_
  cases d with
  | str z =>
    cases r_str r1.head
    exact ⟨⟨z, rfl⟩, hf z (F.at pv os1) H1 [] [] _ Q trivial r1.st.inv .nil ha1 fun v H3 d s3 r3 p3 => hq v H3 d os1 c1 ((r1.tail.step s3).gcons r3) p3⟩
  | _ => exact False.elim ha1
/-- a method of a list that is data -/
theorem snd_Ml {r : V → List V → Hp → VK → Prop} {f : List D → List D → (D → Prop) → Prop} {to : TE} {ta : TA} {o : ATE} {a : ATA} (hf : SndM K Any r (fun x xs P => match x with | .lst ds => f ds xs P | _ => False)) (h1 : SndE K F to o) (h2 : SndA K F ta a) : SndE K F (tBM K "list" r to ta) (aMl f o a) := by
  intro gs pv os cs σ H Γ P Q rl ha hq
  refine h1 gs pv os cs σ H Γ _ _ rl ha fun v H1 d os1 c1 r1 ha1 => ?_
  cases d with
  | lst ds =>
    have rr := r1.head
    cases rr with
    | lst hx _ =>
      refine ⟨.inl ⟨rfl, _, SqL.of (vis_some hx).2⟩, ?_⟩
      refine h2 _ pv os1 c1 σ H1 Γ _ _ r1 ha1 fun us H2 es os2 c2 r2 ra ha2 => ?_
      exact hf (F.at pv os2) H2 _ (.lst ds) us es _ Q trivial r2.st.inv r2.head ra ha2 fun v H3 d s3 r3 p3 => hq v H3 d os2 c2 ((r2.tail.step s3).gcons r3) p3
  | _ => exact False.elim ha1
theorem snd_noPart : SndO K F tNoPart aNoPart := fun gs pv os cs σ H Γ P Q r ha hq => hq none H os cs r ha
theorem snd_part {t : TE} {a : ATE} (h : SndE K F t a) : SndO K F (tPart t) (aPart a) := by
  intro gs pv os cs σ H Γ P Q r ha hq
  refine h gs pv os cs σ H Γ _ _ r ha fun v H1 d os1 c1 r1 p1 => ?_
  cases d with
  | int i => exact ⟨i, r_int r1.head, hq _ H1 os1 c1 r1.tail p1⟩
  | _ => exact False.elim p1
theorem snd_sl {te : TE} {tl th : TO} {a : ATE} {l h : ATO} (h1 : SndE K F te a) (h2 : SndO K F tl l) (h3 : SndO K F th h) : SndE K F (tSl (rSlG K) te tl th) (aSl a l h) := by
  intro gs pv os cs σ H Γ P Q r ha hq
  refine h1 gs pv os cs σ H Γ _ _ r ha fun v H1 d os1 c1 r1 p1 => ?_
  refine h2 _ pv os1 c1 σ H1 Γ _ _ r1 p1 fun lo H2 os2 c2 r2 p2 => ?_
  refine h3 _ pv os2 c2 σ H2 Γ _ _ r2 p2 fun hi H3 os3 c3 r3 p3 => ?_
  exact s_sl r3.st.inv r3.head p3 fun v H4 d s4 r4 p4 => hq v H4 d os3 c3 ((r3.tail.step s4).gcons r4) p4
theorem snd_fmt {t : TE} {a : ATE} (h : SndE K F t a) : SndE K F (tFmt t) (aFmt a) := by
  intro gs pv os cs σ H Γ P Q r ha hq
  refine h gs pv os cs σ H Γ _ _ r ha fun v H1 d os1 c1 r1 p1 => ?_
  cases d with
  | str z => cases r_str r1.head; exact .inl ⟨z, rfl, size_ok2 p1.1, hq _ H1 _ os1 c1 (r1.tail.gcons (.str _)) p1.2⟩
  | int i => cases r_int r1.head; exact .inr ⟨i, rfl, p1.1, hq _ H1 _ os1 c1 (r1.tail.gcons (.str _)) p1.2⟩
  | _ => exact False.elim p1
inductive SndJ (K : PySem.W.Frag) (F : Fr) : List TE → List ATE → Prop where
  | nil : SndJ K F [] []
  | cons {t : TE} {a : ATE} {ts : List TE} {as : List ATE} (h : SndE K F t a) (r : SndJ K F ts as) : SndJ K F (t :: ts) (a :: as)
theorem snd_js {ts : List TE} {as : List ATE} (h : SndJ K F ts as) : ∀ (acc : Str) (gs : List (V × D)) (pv os : Os) (cs : Cs) (σ : St) (H : Hp) (Γ : Gs) (P : Str → Cs → Prop) (Q : Str → Hp → Prop), Rel K F gs pv os cs σ H Γ → aJs as acc Γ cs P →
    (∀ z H' os' cs', Rel K F gs pv os' cs' σ H' Γ → P z cs' → Q z H') → tJs ts acc σ H Q := by
  induction h with
  | nil => intro acc gs pv os cs σ H Γ P Q r ha hq; exact hq acc H os cs r ha
  | @cons t a ts as h _ ih =>
    intro acc gs pv os cs σ H Γ P Q r ha hq
    refine h gs pv os cs σ H Γ _ _ r ha fun v H1 d os1 c1 r1 p1 => ?_
    cases d with
    | str y =>
      cases r_str r1.head
      refine ⟨y, rfl, ?_, ih (acc ++ y) gs pv os1 c1 σ H1 Γ P Q r1.tail p1.2 hq⟩
      have e : (acc ++ y).length = acc.length + y.length := by
        show (acc.cps ++ y.cps).size = acc.cps.size + y.cps.size
        exact Array.size_append
      rw [e]
      exact size_ok2 p1.1
    | _ => exact False.elim p1
theorem snd_joined {ts : List TE} {as : List ATE} (h : SndJ K F ts as) : SndE K F (fun σ H Q => tJs ts Str.empty σ H fun out H1 => Q (.str out) H1) (aJoined as) := by
  intro gs pv os cs σ H Γ P Q r ha hq
  exact snd_js h Str.empty gs pv os cs σ H Γ _ _ r ha fun z H' os' c' r' p => hq _ H' _ os' c' (r'.gcons (.str z)) p
end
end Bd
/-! Bd6: cells that change, private cells, targets, walks, comprehensions. -/
namespace Bd
open PySem L2
section
variable {K : PySem.W.Frag} {F : Fr} {gs gs2 : List (V × D)} {pv pv' os os' : Os} {cs cs' : Cs} {σ : St} {H H' : Hp} {Γ : Gs}
theorem at_ms {a : Addr} : a ∈ (F.at pv os).ms ↔ a ∈ (pv ++ os).map (·.1) ∨ a ∈ F.w.ms := by
  show a ∈ os.map (·.1) ++ (pv.map (·.1) ++ F.w.ms) ↔ _
  rw [List.map_append, List.mem_append, List.mem_append, List.mem_append]
  constructor
  · rintro (h | h | h)
    · exact .inl (.inr h)
    · exact .inl (.inl h)
    · exact .inr h
  · rintro ((h | h) | h)
    · exact .inr (.inl h)
    · exact .inl h
    · exact .inr (.inr h)
theorem at_inv : (F.at pv os).I H ↔ F.w.I H ∧ ∀ p, p ∈ pv ++ os → H p.1 = some p.2 := by
  constructor
  · rintro ⟨⟨h1, h2⟩, h3⟩
    exact ⟨h1, fun p hp => (List.mem_append.mp hp).elim (h2 p) (h3 p)⟩
  · rintro ⟨h1, h2⟩
    exact ⟨⟨h1, fun p hp => h2 p (List.mem_append_left _ hp)⟩, fun p hp => h2 p (List.mem_append_right _ hp)⟩
/-- another heap, in which only what was hidden changed; what is hidden now was hidden or is new -/
theorem ext_of (h : ∀ a, a ∈ (pv' ++ os').map (·.1) → a ∈ (pv ++ os).map (·.1) ∨ H a = none) (k : ∀ a o, a ∉ (F.at pv os).ms → H a = some o → H' a = some o) : Ext ((F.at pv os).v H) ((F.at pv' os').v H') := fun a o q => by
  obtain ⟨h1, h2⟩ := vis_some q
  refine vis_of (fun m => ?_) (k a o h1 h2)
  rcases at_ms.mp m with m | m
  · rcases h a m with z | z
    · exact h1 (at_ms.mpr (.inl z))
    · rw [h2] at z; cases z
  · exact h1 (at_ms.mpr (.inr m))
/-- the general way from state to state -/
theorem Stt.to (r : Stt K F pv os cs H) (e : Ext ((F.at pv os).v H) ((F.at pv' os').v H')) (iw : F.w.I H') (iv : ∀ p, p ∈ pv' ++ os' → H' p.1 = some p.2) (hk : ∀ p, p ∈ pv' ++ os' → p.1 ∈ (pv ++ os).map (·.1) ∨ H p.1 = none) (nd : ((pv' ++ os').map (·.1)).Nodup) (c : Cells K (F.at pv' os') H' os' cs') :
    Stt K F pv' os' cs' H' := by
  refine ⟨r.ext.tr e, at_inv.mpr ⟨iw, iv⟩, fun p hp => ?_, nd, c⟩
  rcases hk p hp with m | m
  · obtain ⟨q, hq, z⟩ := List.mem_map.mp m
    rw [← z]
    exact r.fr q hq
  · have hm : p.1 ∉ (F.at pv os).ms := fresh_out r.inv m
    refine ⟨fun z => hm (at_ms.mpr (.inr z)), ?_⟩
    cases q : (F.w.plus F.os0).v F.H0 p.1 with
    | none => rfl
    | some u =>
      have := (vis_some (r.ext p.1 u q)).2
      rw [m] at this; cases this
def oset : Os → Addr → HO → Os
  | [], _, _ => []
  | (q, e) :: os, p, o => if q = p then (q, o) :: os else (q, e) :: oset os p o
def cset : Cs → Addr → D → Cs
  | [], _, _ => []
  | (q, e) :: cs, p, d => if q = p then (q, d) :: cs else (q, e) :: cset cs p d
theorem oset_keys {p : Addr} {o : HO} : ∀ os : Os, (oset os p o).map (·.1) = os.map (·.1)
  | [] => rfl
  | (q, e) :: os => by
    unfold oset
    split
    · rfl
    · show q :: (oset os p o).map (·.1) = _
      rw [oset_keys os]; rfl
theorem oset_mem {p : Addr} {o : HO} : ∀ {os : Os} {q : Addr × HO}, (os.map (·.1)).Nodup → q ∈ oset os p o → q = (p, o) ∨ (q ∈ os ∧ q.1 ≠ p)
  | [], _, _, h => by cases h
  | (b, e) :: os, q, nd, h => by
    obtain ⟨n1, n2⟩ := List.nodup_cons.mp nd
    unfold oset at h
    split at h
    · rename_i z
      rcases List.mem_cons.mp h with y | y
      · rw [y, z]; exact .inl rfl
      · refine .inr ⟨List.mem_cons_of_mem _ y, fun x => n1 ?_⟩
        show b ∈ _
        rw [z, ← x]
        exact List.mem_map_of_mem y
    · rename_i z
      rcases List.mem_cons.mp h with y | y
      · rw [y]; exact .inr ⟨List.mem_cons_self, z⟩
      · rcases oset_mem n2 y with x | ⟨x1, x2⟩
        · exact .inl x
        · exact .inr ⟨List.mem_cons_of_mem _ x1, x2⟩
theorem Cells.set {w : Wd} {p : Addr} {o : HO} {d d0 : D} (h : RH K w H o d) : ∀ {os : Os} {cs : Cs}, Cells K w H os cs → cs.lookup p = some d0 → Cells K w H (oset os p o) (cset cs p d)
  | _, _, .nil, e => by cases e
  | _, _, .cons (a := b) (o := o') (d := d') (os := os) (cs := cs) r t, e => by
    unfold oset cset
    by_cases z : b = p
    · rw [if_pos z, if_pos z]
      exact .cons h t
    · rw [if_neg z, if_neg z]
      rw [List.lookup_cons] at e
      have hb : (p == b) = false := by simp; exact fun y => z y.symm
      rw [hb] at e
      exact .cons r (Cells.set h t e)
/-- the cell at p holds something else now -/
theorem Rel.put (r : Rel K F gs pv os cs σ H Γ) {p : Addr} {o : HO} {d d0 : D} (hp : cs.lookup p = some d0) (h : RH K (F.at pv os) H o d) : Rel K F gs pv (oset os p o) (cset cs p d) σ (upd H p o) Γ := by
  obtain ⟨o0, hm, _⟩ := r.st.cel.get hp
  have hms : p ∈ (F.at pv os).ms := at_ms.mpr (.inl (List.mem_map_of_mem (f := (·.1)) (List.mem_append_right _ hm)))
  have nd := r.st.nd
  have ks : (pv ++ oset os p o).map (·.1) = (pv ++ os).map (·.1) := by rw [List.map_append, List.map_append, oset_keys]
  have e : Ext ((F.at pv os).v H) ((F.at pv (oset os p o)).v (upd H p o)) := ext_of (fun a m => .inl (ks ▸ m)) fun a u m q => by
    have ne : a ≠ p := fun z => m (by rw [z]; exact hms)
    rw [upd_ne ne]; exact q
  have nd2 := nd
  rw [List.map_append, List.nodup_append] at nd2
  have npv : ∀ q, q ∈ pv → q.1 ≠ p := fun q hq z => nd2.2.2 q.1 (List.mem_map_of_mem hq) p (List.mem_map_of_mem (f := (·.1)) hm) z
  refine r.mv (r.st.to e (F.w.loc H _ (fun a ha => upd_ne fun z => ?_) (at_inv.mp r.st.inv).1) (fun q hq => ?_) (fun q hq => .inl ?_) (ks ▸ nd) ((r.st.cel.mono (w := F.at pv os) (w' := F.at pv (oset os p o)) rfl e).set (RH.mono (w := F.at pv os) (w' := F.at pv (oset os p o)) rfl e h) hp)) e
  · exact (r.st.fr (p, o0) (List.mem_append_right _ hm)).1 (by rw [z] at ha; exact ha)
  · rcases List.mem_append.mp hq with m | m
    · rw [upd_ne (npv q m)]
      exact (at_inv.mp r.st.inv).2 q (List.mem_append_left _ m)
    · rcases oset_mem nd2.2.1 m with z | ⟨z1, z2⟩
      · rw [z]; exact upd_same
      · rw [upd_ne z2]
        exact (at_inv.mp r.st.inv).2 q (List.mem_append_right _ z1)
  · rw [← ks]
    exact List.mem_map_of_mem hq
/-- a private cell, new -/
theorem Rel.allocP (r : Rel K F gs pv os cs σ H Γ) {p : Addr} {o : HO} (hp : H p = none) : Rel K F gs ((p, o) :: pv) os cs σ (upd H p o) Γ := by
  have hm : p ∉ (F.at pv os).ms := fresh_out r.st.inv hp
  have hk : ∀ q, q ∈ pv ++ os → q.1 ≠ p := fun q hq z => hm (at_ms.mpr (.inl (z ▸ List.mem_map_of_mem hq)))
  have e : Ext ((F.at pv os).v H) ((F.at ((p, o) :: pv) os).v (upd H p o)) := ext_of (fun a m => by
    rcases List.mem_cons.mp m with z | z
    · exact .inr (z ▸ hp)
    · exact .inl z) fun a u _ q => by rw [upd_ne (ne_of_none q hp)]; exact q
  refine r.mv (r.st.to e (Step.new (o := o) (at_inv.mp r.st.inv).1 hp).inv (fun q hq => ?_) (fun q hq => ?_) (List.nodup_cons.mpr ⟨fun z => ?_, r.st.nd⟩) (r.st.cel.mono (w := F.at pv os) (w' := F.at ((p, o) :: pv) os) rfl e)) e
  · rcases List.mem_cons.mp hq with z | z
    · rw [z]; exact upd_same
    · rw [upd_ne (hk q z)]; exact (at_inv.mp r.st.inv).2 q z
  · rcases List.mem_cons.mp hq with z | z
    · rw [z]; exact .inr hp
    · exact .inl (List.mem_map_of_mem z)
  · obtain ⟨q, hq, z⟩ := List.mem_map.mp z
    exact hk q hq z
/-- the private cell changes -/
theorem Rel.putP {p : Addr} {o o' : HO} (r : Rel K F gs ((p, o) :: pv) os cs σ H Γ) : Ext ((F.at ((p, o) :: pv) os).v H) ((F.at ((p, o') :: pv) os).v (upd H p o')) ∧ Rel K F gs ((p, o') :: pv) os cs σ (upd H p o') Γ := by
  have hms : p ∈ (F.at ((p, o) :: pv) os).ms := at_ms.mpr (.inl List.mem_cons_self)
  obtain ⟨n1, n2⟩ := List.nodup_cons.mp r.st.nd
  have hk : ∀ q, q ∈ pv ++ os → q.1 ≠ p := fun q hq z => n1 (by
    have := List.mem_map_of_mem (f := fun x : Addr × HO => x.1) hq
    rw [← z]; exact this)
  have e : Ext ((F.at ((p, o) :: pv) os).v H) ((F.at ((p, o') :: pv) os).v (upd H p o')) := ext_of (fun a m => .inl m) fun a u m q => (upd_ne (fun z => m (by rw [z]; exact hms))).trans q
  refine ⟨e, r.mv (r.st.to e (F.w.loc H _ (fun a ha => upd_ne fun z => ?_) (at_inv.mp r.st.inv).1) (fun q hq => ?_) (fun q hq => .inl (List.mem_map_of_mem (f := (·.1)) hq)) r.st.nd (r.st.cel.mono (w := F.at ((p, o) :: pv) os) (w' := F.at ((p, o') :: pv) os) rfl e)) e⟩
  · exact (r.st.fr (p, o) List.mem_cons_self).1 (by rw [z] at ha; exact ha)
  · rcases List.mem_cons.mp hq with z | z
    · rw [z]; exact upd_same
    · rw [upd_ne (hk q z)]; exact (at_inv.mp r.st.inv).2 q (List.mem_cons_of_mem _ z)
/-- the private cell is data from here on -/
theorem Rel.dropP {p : Addr} {o : HO} (r : Rel K F gs ((p, o) :: pv) os cs σ H Γ) : Ext ((F.at ((p, o) :: pv) os).v H) ((F.at pv os).v H) ∧ (F.at pv os).v H p = some o ∧ Rel K F gs pv os cs σ H Γ := by
  obtain ⟨n1, n2⟩ := List.nodup_cons.mp r.st.nd
  have e : Ext ((F.at ((p, o) :: pv) os).v H) ((F.at pv os).v H) := ext_of (fun a m => .inl (List.mem_cons_of_mem _ m)) fun a u _ q => q
  refine ⟨e, vis_of (fun m => ?_) ((at_inv.mp r.st.inv).2 (p, o) List.mem_cons_self), r.mv (r.st.to e (at_inv.mp r.st.inv).1 (fun q hq => (at_inv.mp r.st.inv).2 q (List.mem_cons_of_mem _ hq)) (fun q hq => .inl (List.mem_cons_of_mem _ (List.mem_map_of_mem (f := (·.1)) hq))) n2 (r.st.cel.mono (w := F.at ((p, o) :: pv) os) (w' := F.at pv os) rfl e)) e⟩
  rcases at_ms.mp m with z | z
  · exact n1 z
  · exact (r.st.fr (p, o) List.mem_cons_self).1 z
def odel : Os → Addr → Os
  | [], _ => []
  | (q, e) :: os, p => if q = p then os else (q, e) :: odel os p
def cdel : Cs → Addr → Cs
  | [], _ => []
  | (q, e) :: cs, p => if q = p then cs else (q, e) :: cdel cs p
theorem odel_sub {p : Addr} : ∀ {os : Os}, (odel os p).Sublist os
  | [] => .slnil
  | (q, e) :: os => by
    unfold odel
    split
    · exact List.sublist_cons_self _ _
    · exact .cons₂ _ odel_sub
theorem odel_out {p : Addr} : ∀ {os : Os}, (os.map (·.1)).Nodup → p ∉ (odel os p).map (·.1)
  | [], _ => by simp [odel]
  | (q, e) :: os, nd => by
    obtain ⟨n1, n2⟩ := List.nodup_cons.mp nd
    unfold odel
    split
    · rename_i z; rw [← z]; exact n1
    · rename_i z
      intro m
      rcases List.mem_cons.mp m with y | y
      · exact z y.symm
      · exact odel_out n2 y
theorem Cells.del {w : Wd} {p : Addr} : ∀ {os : Os} {cs : Cs}, Cells K w H os cs → Cells K w H (odel os p) (cdel cs p)
  | _, _, .nil => .nil
  | _, _, .cons (a := b) r t => by
    unfold odel cdel
    split
    · exact t
    · exact .cons r (Cells.del t)
/-- the cell at p is data from here on -/
theorem Rel.free (r : Rel K F gs pv os cs σ H Γ) {p : Addr} {d : D} (hp : cs.lookup p = some d) : ∃ o, RH K (F.at pv (odel os p)) H o d ∧ (F.at pv (odel os p)).v H p = some o ∧ Rel K F gs pv (odel os p) (cdel cs p) σ H Γ := by
  obtain ⟨o, hm, h⟩ := r.st.cel.get hp
  have nd := r.st.nd
  rw [List.map_append, List.nodup_append] at nd
  have sub : ∀ q, q ∈ pv ++ odel os p → q ∈ pv ++ os := fun q hq => by
    rcases List.mem_append.mp hq with m | m
    · exact List.mem_append_left _ m
    · exact List.mem_append_right _ (odel_sub.subset m)
  have e : Ext ((F.at pv os).v H) ((F.at pv (odel os p)).v H) := ext_of (fun a m => .inl (by
    obtain ⟨q, hq, z⟩ := List.mem_map.mp m
    exact z ▸ List.mem_map_of_mem (sub q hq))) fun a u _ q => q
  refine ⟨o, RH.mono (w := F.at pv os) (w' := F.at pv (odel os p)) rfl e h, vis_of (fun m => ?_) ((at_inv.mp r.st.inv).2 (p, o) (List.mem_append_right _ hm)), r.mv (r.st.to e (at_inv.mp r.st.inv).1 (fun q hq => (at_inv.mp r.st.inv).2 q (sub q hq)) (fun q hq => .inl (List.mem_map_of_mem (sub q hq))) ?_ ((r.st.cel.mono (w := F.at pv os) (w' := F.at pv (odel os p)) rfl e).del)) e⟩
  · rcases at_ms.mp m with z | z
    · rw [List.map_append] at z
      rcases List.mem_append.mp z with z | z
      · exact nd.2.2 p z p (List.mem_map_of_mem (f := (·.1)) hm) rfl
      · exact odel_out nd.2.1 z
    · exact (r.st.fr (p, o) (List.mem_append_right _ hm)).1 z
  · rw [List.map_append]
    refine List.nodup_append.mpr ⟨nd.1, (odel_sub.map _).nodup nd.2.1, fun a ha b hb => nd.2.2 a ha b ?_⟩
    exact (odel_sub.map _).subset hb
end
end Bd
/-! Bd7: targets, walks, comprehensions. -/
namespace Bd
open PySem L2
/-! ### targets -/
abbrev ATG := D → Gs → Cs → (Gs → Cs → Prop) → Prop
abbrev ATGs := List D → Gs → Cs → (Gs → Cs → Prop) → Prop
@[simp] abbrev gmN (i : Nat) : ATG := fun d Γ c P => P (Γ.set i (some d)) c
@[simp] abbrev gmNil : ATGs := fun ds Γ c P => match ds with
  | [] => P Γ c
  | _ => False
@[simp] abbrev gmCons (a : ATG) (b : ATGs) : ATGs := fun ds Γ c P => match ds with
  | d :: r => a d Γ c fun Γ' c' => b r Γ' c' P
  | [] => False
@[simp] abbrev gmT (n : Nat) (a : ATGs) : ATG := fun d Γ c P => match d with
  | .tup ds => ds.length = n ∧ a ds Γ c P
  | _ => False
/-- x[i] = .., where x is a cell that holds a list -/
@[simp] abbrev gmSub (o i : ATE) : ATG := fun d Γ c P => o Γ c fun x c1 => i Γ c1 fun y c2 => match x, y with
  | .adr p, .int k => match c2.lookup p with
    | some (.lst ds) => match ixN ds.length k with
      | some j => P Γ (cset c2 p (.lst (ds.set j d)))
      | none => False
    | _ => False
  | _, _ => False
def Kept (js : List Nat) (σ σ' : St) : Prop := ∀ vs : List Nat, (∀ j ∈ js, j ∈ vs) → wipe σ' vs = wipe σ vs
def SndG (K : PySem.W.Frag) (F : Fr) (js : List Nat) (g : TG) (a : ATG) : Prop := ∀ (gs : List (V × D)) (pv os : Os) (cs : Cs) (σ : St) (H : Hp) (Γ : Gs) (v : V) (d : D) (P : Gs → Cs → Prop) (Q : St → Hp → Prop), Rel K F ((v, d) :: gs) pv os cs σ H Γ → a d Γ cs P →
  (∀ σ' H' os' cs' Γ', Rel K F gs pv os' cs' σ' H' Γ' → Kept js σ σ' → P Γ' cs' → Q σ' H') → g v σ H Q
def SndGs (K : PySem.W.Frag) (F : Fr) (js : List Nat) (g : TGs) (a : ATGs) : Prop := ∀ (gs : List (V × D)) (pv os : Os) (cs : Cs) (σ : St) (H : Hp) (Γ : Gs) (vs : List V) (ds : List D) (P : Gs → Cs → Prop) (Q : St → Hp → Prop), vs.length = ds.length → Rel K F (vs.zip ds ++ gs) pv os cs σ H Γ → a ds Γ cs P →
  (∀ σ' H' os' cs' Γ', Rel K F gs pv os' cs' σ' H' Γ' → Kept js σ σ' → P Γ' cs' → Q σ' H') → g vs σ H Q
theorem wipe_get {σ : St} : ∀ {vs : List Nat} (i : Nat), (wipe σ vs)[i]? = if i ∈ vs ∧ i < σ.length then some none else σ[i]?
  | [], i => by simp [wipe]
  | v :: vs, i => by
    unfold wipe
    by_cases h : v = i
    · subst h
      by_cases hl : v < σ.length
      · rw [List.getElem?_set_self (by rw [wipe_length]; exact hl), if_pos ⟨List.mem_cons_self, hl⟩]
      · rw [if_neg (fun z => hl z.2), List.getElem?_eq_none (by rw [List.length_set, wipe_length]; omega), List.getElem?_eq_none (by omega)]
    · rw [List.getElem?_set_ne h, wipe_get i]
      have e : (i ∈ v :: vs) ↔ i ∈ vs := by
        rw [List.mem_cons]
        exact ⟨fun z => z.elim (fun q => absurd q.symm h) (fun q => q), .inr⟩
      simp only [e]
theorem wipe_set {σ : St} {vs : List Nat} {j : Nat} {x : Option V} (h : j ∈ vs) : wipe (σ.set j x) vs = wipe σ vs := by
  apply List.ext_getElem?
  intro i
  rw [wipe_get, wipe_get, List.length_set]
  by_cases e : i ∈ vs ∧ i < σ.length
  · rw [if_pos e, if_pos e]
  · rw [if_neg e, if_neg e]
    by_cases q : j = i
    · subst q
      have hl : ¬ j < σ.length := fun z => e ⟨h, z⟩
      rw [List.getElem?_eq_none (by rw [List.length_set]; omega), List.getElem?_eq_none (by omega)]
    · rw [List.getElem?_set_ne q]
theorem wipe_idem {σ : St} {vs : List Nat} : wipe (wipe σ vs) vs = wipe σ vs := by
  apply List.ext_getElem?
  intro i
  rw [wipe_get, wipe_get, wipe_length]
  by_cases e : i ∈ vs ∧ i < σ.length
  · rw [if_pos e, if_pos e]
  · rw [if_neg e]
def wipeG (Γ : Gs) : List Nat → Gs
  | [] => Γ
  | v :: vs => (wipeG Γ vs).set v none
theorem wipeG_length {Γ : Gs} : ∀ vs : List Nat, (wipeG Γ vs).length = Γ.length
  | [] => rfl
  | v :: vs => by unfold wipeG; rw [List.length_set, wipeG_length vs]
theorem wipeG_get {Γ : Gs} : ∀ {vs : List Nat} (i : Nat), (wipeG Γ vs)[i]? = if i ∈ vs ∧ i < Γ.length then some none else Γ[i]?
  | [], i => by simp [wipeG]
  | v :: vs, i => by
    unfold wipeG
    by_cases h : v = i
    · subst h
      by_cases hl : v < Γ.length
      · rw [List.getElem?_set_self (by rw [wipeG_length]; exact hl), if_pos ⟨List.mem_cons_self, hl⟩]
      · rw [if_neg (fun z => hl z.2), List.getElem?_eq_none (by rw [List.length_set, wipeG_length]; omega), List.getElem?_eq_none (by omega)]
    · rw [List.getElem?_set_ne h, wipeG_get i]
      have e : (i ∈ v :: vs) ↔ i ∈ vs := by
        rw [List.mem_cons]
        exact ⟨fun z => z.elim (fun q => absurd q.symm h) (fun q => q), .inr⟩
      simp only [e]
section
variable {K : PySem.W.Frag} {F : Fr} {gs gs2 : List (V × D)} {pv pv' os os' : Os} {cs cs' : Cs} {σ σ1 σ2 : St} {H H' : Hp} {Γ : Gs}
theorem Rel.set (r : Rel K F gs pv os cs σ H Γ) {i : Nat} {v : V} {d : D} (h : R K (F.at pv os) H v d) : Rel K F gs pv os cs (σ.set i (some v)) H (Γ.set i (some d)) := by
  refine ⟨r.st, by rw [List.length_set, List.length_set, r.len], fun j g e => ?_, r.gh⟩
  by_cases q : i = j
  · subst q
    have hl : i < Γ.length := by
      by_cases z : i < Γ.length
      · exact z
      · rw [List.getElem?_eq_none (by rw [List.length_set]; omega)] at e; cases e
    rw [List.getElem?_set_self hl] at e
    cases e
    exact ⟨v, by rw [List.getElem?_set_self (by rw [r.len]; exact hl)], h⟩
  · rw [List.getElem?_set_ne q] at e ⊢
    exact r.at_ j g e
theorem Rel.wipe (r : Rel K F gs pv os cs σ H Γ) (vs : List Nat) : Rel K F gs pv os cs (wipe σ vs) H (wipeG Γ vs) := by
  refine ⟨r.st, by rw [wipe_length, wipeG_length, r.len], fun j g e => ?_, r.gh⟩
  rw [wipeG_get] at e
  rw [wipe_get]
  by_cases q : j ∈ vs ∧ j < Γ.length
  · rw [if_pos q] at e
    cases e
  · rw [if_neg q] at e
    rw [if_neg (by rw [r.len]; exact q)]
    exact r.at_ j g e
def slotsOf (σ : St) (Γ : Gs) : List (V × D) := (σ.zip Γ).filterMap fun q => match q with
  | (some v, some d) => some (v, d)
  | _ => none
theorem mem_slots {σ : St} {Γ : Gs} {i : Nat} {v : V} {d : D} (h1 : σ[i]? = some (some v)) (h2 : Γ[i]? = some (some d)) : (v, d) ∈ slotsOf σ Γ := by
  refine List.mem_filterMap.mpr ⟨(some v, some d), ?_, rfl⟩
  refine List.mem_iff_getElem?.mpr ⟨i, ?_⟩
  rw [List.getElem?_zip_eq_some]
  exact ⟨h1, h2⟩
theorem of_slots : ∀ {σ : St} {Γ : Gs} {p : V × D}, p ∈ slotsOf σ Γ → ∃ i : Nat, σ[i]? = some (some p.1) ∧ Γ[i]? = some (some p.2) := by
  intro σ Γ p hp
  obtain ⟨q, h1, h2⟩ := List.mem_filterMap.mp hp
  obtain ⟨i, h3⟩ := List.mem_iff_getElem?.mp h1
  rw [List.getElem?_zip_eq_some] at h3
  obtain ⟨a, b⟩ := q
  cases a <;> cases b <;> cases h2
  exact ⟨i, h3⟩
/-- the slots' data among the ghosts -/
theorem Rel.ghost (r : Rel K F gs pv os cs σ H Γ) : Rel K F (slotsOf σ Γ ++ gs) pv os cs σ H Γ := ⟨r.st, r.len, r.at_, fun p hp => by
  rcases List.mem_append.mp hp with m | m
  · obtain ⟨i, h1, h2⟩ := of_slots m
    obtain ⟨v, h3, h4⟩ := r.at_ i _ h2
    rw [h1] at h3
    cases h3
    exact h4
  · exact r.gh p m⟩
/-- the slots again, as their data are ghosts -/
theorem Rel.back (r : Rel K F gs pv os cs σ H Γ) {σ2 : St} {Γ2 : Gs} (r2 : Rel K F (slotsOf σ Γ ++ gs) pv' os' cs' σ2 H' Γ2) : Rel K F gs pv' os' cs' σ H' Γ :=
  ⟨r2.st, r.len, fun i d e => by
    obtain ⟨v, h1, _⟩ := r.at_ i d e
    exact ⟨v, h1, r2.gh (v, d) (List.mem_append_left _ (mem_slots h1 e))⟩, fun p hp => r2.gh p (List.mem_append_right _ hp)⟩
theorem kept_refl : Kept [] σ σ := fun _ _ => rfl
theorem Kept.trans {js ks : List Nat} (a : Kept js σ σ1) (b : Kept ks σ1 σ2) : Kept (js ++ ks) σ σ2 :=
  fun vs h => (b vs fun j hj => h j (List.mem_append_right _ hj)).trans (a vs fun j hj => h j (List.mem_append_left _ hj))
theorem snd_gName (i : Nat) : SndG K F [i] (gName i) (gmN i) := fun gs pv os cs σ H Γ v d P Q r ha hq => hq _ H os cs _ (r.tail.set r.head) (fun vs h => wipe_set (h i (by simp))) ha
theorem snd_gNil : SndGs K F [] gNil gmNil := by
  intro gs pv os cs σ H Γ vs ds P Q hl r ha hq
  cases ds with
  | nil =>
    have : vs = [] := List.length_eq_zero_iff.mp hl
    subst this
    exact ⟨rfl, hq σ H os cs Γ r kept_refl ha⟩
  | cons _ _ => exact False.elim ha
theorem snd_gCons {js ks : List Nat} {g : TG} {gs' : TGs} {a : ATG} {b : ATGs} (h1 : SndG K F js g a) (h2 : SndGs K F ks gs' b) : SndGs K F (js ++ ks) (gCons g gs') (gmCons a b) := by
  intro gs pv os cs σ H Γ vs ds P Q hl r ha hq
  cases ds with
  | nil => exact False.elim ha
  | cons d rd =>
    cases vs with
    | nil => cases hl
    | cons v rv =>
      refine ⟨v, rv, rfl, ?_⟩
      refine h1 (rv.zip rd ++ gs) pv os cs σ H Γ v d _ _ r ha fun σ1 H1 os1 c1 Γ1 r1 k1 p1 => ?_
      exact h2 gs pv os1 c1 σ1 H1 Γ1 rv rd P Q (by simpa using hl) r1 p1 fun σ2 H2 os2 c2 Γ2 r2 k2 p2 => hq σ2 H2 os2 c2 Γ2 r2 (k1.trans k2) p2
theorem ra_ghost {w : Wd} : ∀ {vs : List V} {ds : List D}, RA K w H vs ds → ∀ p, p ∈ vs.zip ds → R K w H p.1 p.2
  | _, _, .nil, p, hp => by cases hp
  | _, _, .cons r t, p, hp => by
    rcases List.mem_cons.mp hp with e | hp
    · rw [e]; exact r
    · exact ra_ghost t p hp
theorem Rel.gapp (r : Rel K F gs pv os cs σ H Γ) {vs : List V} {ds : List D} (h : RA K (F.at pv os) H vs ds) : Rel K F (vs.zip ds ++ gs) pv os cs σ H Γ := ⟨r.st, r.len, r.at_, fun p hp => (List.mem_append.mp hp).elim (ra_ghost h p) (r.gh p)⟩
theorem snd_gTup {js : List Nat} {n : Nat} {gs' : TGs} {a : ATGs} (h : SndGs K F js gs' a) : SndG K F js (gTup K n gs') (gmT n a) := by
  intro gs pv os cs σ H Γ v d P Q r ha hq
  cases d with
  | tup ds =>
    have rh := r.head
    cases rh with
    | tup hx rx => exact ⟨_, _, rfl, sqT_mono vis_ext hx, by rw [rx.length]; exact ha.1, h gs pv os cs σ H Γ _ _ P Q rx.length (r.tail.gapp rx) ha.2 hq⟩
  | _ => exact False.elim ha
theorem snd_gSub {to ti : TE} {o i : ATE} (h1 : SndE K F to o) (h2 : SndE K F ti i) : SndG K F [] (gSub to ti rSetL) (gmSub o i) := by
  intro gs pv os cs σ H Γ v d P Q r ha hq
  refine h1 _ pv os cs σ H Γ _ _ r ha fun x H1 dx os1 c1 r1 p1 => ?_
  refine h2 _ pv os1 c1 σ H1 Γ _ _ r1 p1 fun y H2 dy os2 c2 r2 p2 => ?_
  split at p2
  · rename_i p k
    split at p2
    · rename_i ds e
      split at p2
      · rename_i j ej
        cases r_adr r2.tail.head
        cases r_int r2.head
        obtain ⟨o0, hm, ho⟩ := r2.st.cel.get e
        cases o0 with
        | lst xs =>
          have ho : RA K (F.at pv os2) H2 xs ds := ho
          refine ⟨p, xs, k, j, rfl, rfl, (at_inv.mp r2.st.inv).2 (p, .lst xs) (List.mem_append_right _ hm), by rw [ho.length]; exact ej, ?_⟩
          have rv := r2.tail.tail.head
          exact hq σ _ _ _ Γ (r2.tail.tail.tail.put (o := .lst (xs.set j v)) (d := .lst (ds.set j d)) e (RwA.set rv j ho)) kept_refl p2
        | _ => exact ho.elim
      · exact p2.elim
    · exact p2.elim
  · exact p2.elim
end
/-! ### what is walked -/
def WalkA (K : PySem.W.Frag) (J : It) (gs : List (V × D)) (ds : List D) : Prop := ∀ (w : Wd) (H : Hp), w.I H → (∀ p ∈ gs, R K w H p.1 p.2) →
  (∀ i, i < ds.length → J.go i H) ∧ J.stop ds.length H ∧ ∀ i x H', i < ds.length → J.yld i H x H' → Step w H H' ∧ ∃ d, ds[i]? = some d ∧ R K w H' x d
/-- the items of a list, a tuple, a text -/
def itemsD : D → Option (List D)
  | .lst ds => some ds
  | .tup ds => some ds
  | .str z => some (z.cps.toList.map fun c => .str ⟨#[c]⟩)
  | _ => none
def zipD (xs ys : List D) : List D := List.zipWith (fun x y => .tup [x, y]) xs ys
def iAny (K : PySem.W.Frag) (te : TE) : TI := fun σ H R => te σ H fun x H1 => (∃ a, x = .ref a ∧ (∃ xs, SqL K H1 a xs) ∧ R (Itl K a) H1) ∨ (∃ a, x = .ref a ∧ (∃ xs, SqT K H1 a xs) ∧ R (Itt K a) H1) ∨ ∃ z, x = .str z ∧ R (Its z) H1
theorem pi_any {X : Cx} {tg l : Expr} {tl : TE} (hl : PE X l tl) : PI X tg l (iAny X.K tl) := by
  refine ⟨fun pins s σ H R I h => ?_⟩
  refine thn (hl.run pins s σ H _ I h) fun v s1 ⟨x, H1, I1, r1, q1⟩ => ?_
  rcases q1 with ⟨a, rfl, ⟨xs, hq⟩, q⟩ | ⟨a, rfl, ⟨xs, hq⟩, q⟩ | ⟨z, rfl, q⟩
  · cases r1
    obtain ⟨its, rv, p, hz⟩ := I1.list hq
    refine wpAny_pyIter_list p.isList ?_
    refine ⟨s1.heap.objs.size, [s1.heap.objs.size], _, _, H1, rfl, I1.kept (t' := s1.toks) fun b o e => Heap.get?_push_of_some _ e, turn_list a _, ⟨_, Heap.get?_push_size _ rfl, rfl, rfl⟩, fun b hb => ?_, q⟩
    have e : b = s1.heap.objs.size := by simpa using hb
    subst e
    exact I1.fpOk (Nat.le_refl _) (I1.hok.fresh (Nat.le_refl _))
  · cases r1
    obtain ⟨its, rv, p, hz⟩ := I1.tuple hq
    refine wpAny_pyIter_tuple (show s1.heap.IsTuple a its.toArray from p) ?_
    refine ⟨s1.heap.objs.size, [s1.heap.objs.size], _, _, H1, rfl, I1.kept (t' := s1.toks) fun b o e => Heap.get?_push_of_some _ e, turn_tuple a _, ⟨_, Heap.get?_push_size _ rfl, rfl, rfl⟩, fun b hb => ?_, q⟩
    have e : b = s1.heap.objs.size := by simpa using hb
    subst e
    exact I1.fpOk (Nat.le_refl _) (I1.hok.fresh (Nat.le_refl _))
  · obtain ⟨t, rfl⟩ := r1
    cases ha : z.cps.all (· < 128)
    · exact wpAny_pyIter_wide ha (pi_one (tk := s1.toks) I1 _ (turn_str _ z t "str_iterator" (.inr rfl)) ⟨_, Heap.get?_push_size _ rfl, rfl, rfl⟩ q)
    · exact wpAny_pyIter_ascii ha (pi_one (tk := s1.toks) I1 _ (turn_str _ z t "str_ascii_iterator" (.inl rfl)) ⟨_, Heap.get?_push_size _ rfl, rfl, rfl⟩ q)
theorem rd_inj {K : PySem.W.Frag} {w : Wd} {H : Hp} {a : Addr} {ds : List D} (h : R K w H (.ref a) (.lst ds)) : ∃ xs, H a = some (.lst xs) ∧ RA K w H xs ds := by
  cases h with
  | lst hx rx => exact ⟨_, (vis_some hx).2, rx⟩
theorem rt_inj {K : PySem.W.Frag} {w : Wd} {H : Hp} {a : Addr} {ds : List D} (h : R K w H (.ref a) (.tup ds)) : ∃ xs, SqT K H a xs ∧ RA K w H xs ds := by
  cases h with
  | tup hx rx => exact ⟨_, sqT_mono vis_ext hx, rx⟩
section
variable {K : PySem.W.Frag}
theorem walkA_list {a : Addr} {ds : List D} : WalkA K (Itl K a) [(.ref a, .lst ds)] ds := by
  intro w H hI hg
  obtain ⟨xs, hx, rx⟩ := rd_inj (hg (V.ref a, D.lst ds) (by simp))
  have hl := rx.length
  refine ⟨fun i hi => ⟨xs, xs[i]'(by omega), SqL.of hx, by simp [hl, hi]⟩, ⟨xs, SqL.of hx, by omega⟩, fun i x H' hi y => ?_⟩
  obtain ⟨rfl, y⟩ := y
  obtain ⟨d, h1, h2⟩ := rx.get (y xs (SqL.of hx))
  exact ⟨Step.refl hI, d, h1, h2⟩
theorem walkA_tup {a : Addr} {ds : List D} : WalkA K (Itt K a) [(.ref a, .tup ds)] ds := by
  intro w H hI hg
  obtain ⟨xs, hx, rx⟩ := rt_inj (hg (V.ref a, D.tup ds) (by simp))
  have hl := rx.length
  refine ⟨fun i hi => ⟨xs, xs[i]'(by omega), hx, by simp [hl, hi]⟩, ⟨xs, hx, by omega⟩, fun i x H' hi y => ?_⟩
  obtain ⟨rfl, y⟩ := y
  obtain ⟨d, h1, h2⟩ := rx.get (y xs hx)
  exact ⟨Step.refl hI, d, h1, h2⟩
theorem walkA_str {z : Str} : WalkA K (Its z) [] (z.cps.toList.map fun c => .str ⟨#[c]⟩) := by
  intro w H hI _
  have hl : (z.cps.toList.map fun c => D.str ⟨#[c]⟩).length = z.cps.size := by simp
  refine ⟨fun i hi => by rw [hl] at hi; exact hi, by rw [hl]; exact Nat.le_refl z.cps.size, fun i x H' hi y => ?_⟩
  obtain ⟨rfl, c, hc, rfl⟩ := y
  refine ⟨Step.refl hI, .str ⟨#[c]⟩, ?_, .str _⟩
  rw [List.getElem?_map, Array.getElem?_toList, hc]
  rfl
theorem walkA_rng {lo : Int} {n : Nat} : WalkA K (Itr lo n) [] ((List.range n).map fun (i : Nat) => .int (lo + (i : Int))) := by
  intro w H hI _
  have hl : ((List.range n).map fun (i : Nat) => D.int (lo + (i : Int))).length = n := by simp
  refine ⟨fun i hi => by rw [hl] at hi; exact hi, by rw [hl]; exact Nat.le_refl n, fun i x H' hi y => ?_⟩
  obtain ⟨rfl, rfl⟩ := y
  rw [hl] at hi
  refine ⟨Step.refl hI, .int (lo + (i : Int)), ?_, .int _⟩
  rw [List.getElem?_map, List.getElem?_range hi]
  rfl
theorem zip_get {xs ys : List D} {i : Nat} {x y : D} (h1 : xs[i]? = some x) (h2 : ys[i]? = some y) : (zipD xs ys)[i]? = some (.tup [x, y]) := by
  unfold zipD
  rw [List.getElem?_zipWith, h1, h2]
theorem zip_len (xs ys : List D) : (zipD xs ys).length = min xs.length ys.length := by unfold zipD; rw [List.length_zipWith]
theorem pair_new {w : Wd} {H : Hp} {T : Addr} {x y : V} {dx dy : D} (hI : w.I H) (hT : H T = none) (rx : R K w H x dx) (ry : R K w H y dy) : Step w H (upd H T (.tup [x, y])) ∧ R K w (upd H T (.tup [x, y])) (.ref T) (.tup [dx, dy]) :=
  new_tup hI hT (.cons rx (.cons ry .nil))
theorem walkA_zipL {a b : Addr} {ds es : List D} : WalkA K (Itz K a b) [(.ref a, .lst ds), (.ref b, .lst es)] (zipD ds es) := by
  intro w H hI hg
  obtain ⟨xs, hx, rx⟩ := rd_inj (hg (V.ref a, D.lst ds) (by simp))
  obtain ⟨ys, hy, ry⟩ := rd_inj (hg (V.ref b, D.lst es) (by simp))
  have hl := rx.length
  have hl2 := ry.length
  rw [zip_len]
  refine ⟨fun i hi => ⟨xs, ys, xs[i]'(by omega), ys[i]'(by omega), SqL.of hx, SqL.of hy, by simp [show i < xs.length by omega], by simp [show i < ys.length by omega]⟩, ⟨xs, ys, SqL.of hx, SqL.of hy, by omega⟩, fun i x H' hi y => ?_⟩
  obtain ⟨T, u, v, rfl, hT, rfl, h1, h2⟩ := y
  obtain ⟨d, a1, a2⟩ := rx.get (h1 xs (SqL.of hx))
  obtain ⟨e, b1, b2⟩ := ry.get (h2 ys (SqL.of hy))
  obtain ⟨s, r⟩ := pair_new (K := K) (w := w) hI hT a2 b2
  exact ⟨s, _, zip_get a1 b1, r⟩
theorem walkA_zipT {a b : Addr} {ds es : List D} : WalkA K (RZ.ItzT K a b) [(.ref a, .tup ds), (.ref b, .tup es)] (zipD ds es) := by
  intro w H hI hg
  obtain ⟨xs, hx, rx⟩ := rt_inj (hg (V.ref a, D.tup ds) (by simp))
  obtain ⟨ys, hy, ry⟩ := rt_inj (hg (V.ref b, D.tup es) (by simp))
  have hl := rx.length
  have hl2 := ry.length
  rw [zip_len]
  refine ⟨fun i hi => ⟨xs, ys, xs[i]'(by omega), ys[i]'(by omega), hx, hy, by simp [show i < xs.length by omega], by simp [show i < ys.length by omega]⟩, ⟨xs, ys, hx, hy, by omega⟩, fun i x H' hi y => ?_⟩
  obtain ⟨T, u, v, rfl, hT, rfl, h1, h2⟩ := y
  obtain ⟨d, a1, a2⟩ := rx.get (h1 xs hx)
  obtain ⟨e, b1, b2⟩ := ry.get (h2 ys hy)
  obtain ⟨s, r⟩ := pair_new (K := K) (w := w) hI hT a2 b2
  exact ⟨s, _, zip_get a1 b1, r⟩
end
def SndI (K : PySem.W.Frag) (F : Fr) (t : TI) (a : ATA) : Prop := ∀ (gs : List (V × D)) (pv os : Os) (cs : Cs) (σ : St) (H : Hp) (Γ : Gs) (P : List D → Cs → Prop) (Q : It → Hp → Prop), Rel K F gs pv os cs σ H Γ → a Γ cs P →
  (∀ J H' gs2 ds os' cs', Rel K F (gs2 ++ gs) pv os' cs' σ H' Γ → WalkA K J gs2 ds → P ds cs' → Q J H') → t σ H Q
structure JI (X : Cx) (F : Fr) (tg e : Expr) (t : TI) (a : ATA) : Prop where
  p : PI X tg e t
  s : SndI X.K F t a
def aItems (a : ATE) : ATA := fun Γ c P => a Γ c fun x c1 => match itemsD x with
  | some ds => P ds c1
  | none => False
def aRng1 (a : ATA) : ATA := fun Γ c P => a Γ c fun xs c1 => match xs with
  | [.int n] => (-1000000 ≤ n ∧ n ≤ 1000000) ∧ P ((List.range n.toNat).map fun (i : Nat) => .int (i : Int)) c1
  | _ => False
def aRng2 (a : ATA) : ATA := fun Γ c P => a Γ c fun xs c1 => match xs with
  | [.int m, .int n] => (-1000000 ≤ m ∧ m ≤ 1000000 ∧ -1000000 ≤ n ∧ n ≤ 1000000) ∧ P ((List.range (n - m).toNat).map fun (i : Nat) => .int (m + (i : Int))) c1
  | _ => False
def aZip (a : ATA) : ATA := fun Γ c P => a Γ c fun xs c1 => match xs with
  | [.lst ds, .lst es] => P (zipD ds es) c1
  | [.tup ds, .tup es] => P (zipD ds es) c1
  | _ => False
section
variable {K : PySem.W.Frag} {F : Fr}
theorem snd_any {t : TE} {a : ATE} (h : SndE K F t a) : SndI K F (iAny K t) (aItems a) := by
  intro gs pv os cs σ H Γ P Q r ha hq
  refine h gs pv os cs σ H Γ _ _ r ha fun v H1 d os1 c1 r1 p1 => ?_
  have rh := r1.head
  cases d with
  | lst ds =>
    cases rh with
    | lst hx rx => exact .inl ⟨_, rfl, ⟨_, SqL.of (vis_some hx).2⟩, hq _ H1 [_] _ os1 c1 r1 walkA_list p1⟩
  | tup ds =>
    cases rh with
    | tup hx rx => exact .inr (.inl ⟨_, rfl, ⟨_, sqT_mono vis_ext hx⟩, hq _ H1 [_] _ os1 c1 r1 walkA_tup p1⟩)
  | str z =>
    cases rh
    exact .inr (.inr ⟨z, rfl, hq _ H1 [] _ os1 c1 r1.tail walkA_str p1⟩)
  | _ => exact False.elim p1
theorem snd_rng1 {t : TA} {a : ATA} (h : SndA K F t a) : SndI K F (iRng1 t) (aRng1 a) := by
  intro gs pv os cs σ H Γ P Q r ha hq
  refine h gs pv os cs σ H Γ _ _ r ha fun vs H1 ds os1 c1 rr r1 p1 => ?_
  split at p1
  · rename_i n
    cases r1 with
    | cons r1 r2 =>
      cases r2
      cases r1
      obtain ⟨hb, p1⟩ := p1
      refine ⟨n, rfl, by omega, by omega, hq _ H1 [] _ os1 c1 rr walkA_rng ?_⟩
      have e : (fun (i : Nat) => D.int (0 + (i : Int))) = fun (i : Nat) => D.int (i : Int) := by funext i; rw [Int.zero_add]
      rw [e]
      exact p1
  · exact p1.elim
theorem snd_rng2 {t : TA} {a : ATA} (h : SndA K F t a) : SndI K F (iRng2 t) (aRng2 a) := by
  intro gs pv os cs σ H Γ P Q r ha hq
  refine h gs pv os cs σ H Γ _ _ r ha fun vs H1 ds os1 c1 rr r1 p1 => ?_
  split at p1
  · rename_i m n
    cases r1 with
    | cons r1 r2 =>
      cases r2 with
      | cons r2 r3 =>
        cases r3
        cases r1
        cases r2
        obtain ⟨hb, p1⟩ := p1
        exact ⟨m, n, rfl, by omega, hq _ H1 [] _ os1 c1 rr walkA_rng p1⟩
  · exact p1.elim
theorem snd_zip {t : TA} {a : ATA} (h : SndA K F t a) : SndI K F (RZ.iZipA K t) (aZip a) := by
  intro gs pv os cs σ H Γ P Q r ha hq
  refine h gs pv os cs σ H Γ _ _ r ha fun vs H1 ds os1 c1 rr r1 p1 => ?_
  split at p1
  · cases r1 with
    | cons r1 r2 =>
      cases r2 with
      | cons r2 r3 =>
        cases r3
        cases id r1 with
        | lst hx rx =>
          cases id r2 with
          | lst hy ry => exact ⟨_, _, _, _, rfl, .inl ⟨SqL.of (vis_some hx).2, SqL.of (vis_some hy).2, hq _ H1 [_, _] _ os1 c1 ((rr.gcons r2).gcons r1) walkA_zipL p1⟩⟩
  · cases r1 with
    | cons r1 r2 =>
      cases r2 with
      | cons r2 r3 =>
        cases r3
        cases id r1 with
        | tup hx rx =>
          cases id r2 with
          | tup hy ry => exact ⟨_, _, _, _, rfl, .inr ⟨sqT_mono vis_ext hx, sqT_mono vis_ext hy, hq _ H1 [_, _] _ os1 c1 ((rr.gcons r2).gcons r1) walkA_zipT p1⟩⟩
  · exact p1.elim
/-! ### comprehensions -/
def goA (body : D → List D → Cs → (List D → Cs → Prop) → Prop) : List D → List D → Cs → (List D → Cs → Prop) → Prop
  | [], acc, c, P => P acc c
  | d :: ds, acc, c, P => body d acc c fun acc' c' => goA body ds acc' c' P
abbrev lcB (g : ATG) (tt : ATT) (te : ATE) (Γ : Gs) : D → List D → Cs → (List D → Cs → Prop) → Prop := fun d acc c k => g d Γ c fun Γ2 c1 => tt Γ2 c1 fun b c2 => if b = true then te Γ2 c2 fun y c3 => k (acc ++ [y]) c3 else k acc c2
/-- the list of a comprehension, as data -/
def aLc (ai : ATA) (g : ATG) (tt : ATT) (te : ATE) (vs : List Nat) : ATE := fun Γ c P => ai Γ c fun ds c1 => ds.length ≤ 1000000 ∧ goA (lcB g tt te (wipeG Γ vs)) ds [] c1 fun acc c2 => P (.lst acc) c2
@[simp] abbrev aYes : ATT := fun _ c P => P true c
theorem snd_yes : SndT K F tYes aYes := fun gs pv os cs σ H Γ P Q r ha hq => hq true H os cs r ha
theorem snd_lc {js vs : List Nat} {wi : TI} {ai : ATA} {g : TG} {ag : ATG} {tt : TT} {at' : ATT} {te : TE} {ae : ATE} (hi : SndI K F wi ai) (hg : SndG K F js g ag) (hjs : ∀ j ∈ js, j ∈ vs) (ht : SndT K F tt at') (he : SndE K F te ae) :
    SndE K F (tLc wi g tt te vs) (aLc ai ag at' ae vs) := by
  intro gs pv os cs σ H Γ P Q r ha hq
  refine hi gs pv os cs σ H Γ _ _ r ha fun J H1 gs2 ds os1 c1 r1 wk ⟨hz, p1⟩ => fun Dl hD => ?_
  have r0 := r1.allocP (o := .lst []) hD
  refine ⟨fun i m Hc => m = ds.length - i ∧ i ≤ ds.length ∧ ∃ (xs : List V) (acc : List D) (os' : Os) (c' : Cs), acc.length ≤ i ∧ Rel K F (gs2 ++ gs) ((Dl, .lst xs) :: pv) os' c' σ Hc Γ ∧ RA K (F.at ((Dl, .lst xs) :: pv) os') Hc xs acc ∧
    goA (lcB ag at' ae (wipeG Γ vs)) (ds.drop i) acc c' fun acc c2 => P (.lst acc) c2, ⟨_, rfl, Nat.zero_le _, [], [], os1, c1, Nat.le_refl _, r0, .nil, by rw [List.drop_zero]; exact p1⟩, ?_⟩
  rintro i m Hc ⟨rfl, hil, xs, acc, os', c', hl, rc, ra, go⟩
  obtain ⟨g1, g2, g3⟩ := wk (F.at ((Dl, .lst xs) :: pv) os') Hc rc.st.inv fun p hp => rc.gh p (List.mem_append_left _ hp)
  by_cases hlt : i < ds.length
  · refine .inr ⟨g1 i hlt, fun Hn => ∃ (xs : List V) (acc : List D) (os' : Os) (c' : Cs), acc.length ≤ i + 1 ∧ Rel K F (gs2 ++ gs) ((Dl, .lst xs) :: pv) os' c' σ Hn Γ ∧ RA K (F.at ((Dl, .lst xs) :: pv) os') Hn xs acc ∧
      goA (lcB ag at' ae (wipeG Γ vs)) (ds.drop (i + 1)) acc c' fun acc c2 => P (.lst acc) c2, fun Hn h => ⟨ds.length - (i + 1), by omega, rfl, hlt, h⟩, fun x H2 y => ?_⟩
    obtain ⟨s2, d, hd, rx⟩ := g3 i x H2 hlt y
    have ed : ds.drop i = d :: ds.drop (i + 1) := by
      rw [List.drop_eq_getElem_cons hlt]
      obtain ⟨_, e⟩ := List.getElem?_eq_some_iff.mp hd
      rw [e]
    rw [ed] at go
    have r2 := ((rc.step s2).gapp (s2.ra ra)).ghost
    -- the ghosts: the slots, the list's items, those of the walk
    refine hg _ _ os' c' (wipe σ vs) H2 (wipeG Γ vs) x d _ _ ((r2.wipe vs).gcons rx) go fun σ2 H3 os3 c3 Γ2 r3 k3 p3 => ⟨(k3 vs hjs).trans wipe_idem, ?_⟩
    refine ht _ _ os3 c3 σ2 H3 Γ2 _ _ r3 p3 fun b H4 os4 c4 r4 p4 => ?_
    have fin : ∀ {H5 : Hp} {os5 : Os} {c5 : Cs} {σ5 : St} {Γ5 : Gs}, Rel K F (slotsOf σ Γ ++ (xs.zip acc ++ (gs2 ++ gs))) ((Dl, .lst xs) :: pv) os5 c5 σ5 H5 Γ5 → Rel K F (gs2 ++ gs) ((Dl, .lst xs) :: pv) os5 c5 σ H5 Γ ∧ RA K (F.at ((Dl, .lst xs) :: pv) os5) H5 xs acc := fun {H5 os5 c5 σ5 Γ5} r5 => by
      have q := ((rc.step s2).gapp (s2.ra ra)).back r5
      refine ⟨q.weak fun p hp => List.mem_append_right _ hp, ?_⟩
      have : ∀ {us : List V} {es : List D}, us.length = es.length → (∀ p, p ∈ us.zip es → R K (F.at ((Dl, .lst xs) :: pv) os5) H5 p.1 p.2) → RA K (F.at ((Dl, .lst xs) :: pv) os5) H5 us es := by
        intro us
        induction us with
        | nil => intro es e _; cases es with
          | nil => exact .nil
          | cons _ _ => cases e
        | cons u us ih => intro es e h; cases es with
          | nil => cases e
          | cons z es => exact .cons (h (u, z) List.mem_cons_self) (ih (by simpa using e) fun p hp => h p (List.mem_cons_of_mem _ hp))
      exact this ra.length fun p hp => q.gh p (List.mem_append_left _ hp)
    cases b with
    | true =>
      refine he _ _ os4 c4 σ2 H4 Γ2 _ _ r4 p4 fun v H5 z os5 c5 r5 p5 => ?_
      obtain ⟨q1, q2⟩ := fin r5.tail
      have hx := ra.length
      refine ⟨xs, (at_inv.mp r5.st.inv).2 (Dl, .lst xs) List.mem_cons_self, Nat.lt_of_le_of_lt (by omega : xs.length ≤ 1000000) (by decide), xs ++ [v], acc ++ [z], os5, c5, ?_, ?_⟩
      · rw [List.length_append, List.length_singleton]
        omega
      · obtain ⟨e, q3⟩ := q1.putP (o' := .lst (xs ++ [v]))
        exact ⟨q3, RwA.append (q2.mono e) (.cons (Rw.mono e r5.head) .nil), p5⟩
    | false =>
      obtain ⟨q1, q2⟩ := fin r4
      exact ⟨xs, acc, os4, c4, by omega, q1, q2, p4⟩
  · have ei : i = ds.length := by omega
    subst ei
    rw [List.drop_length] at go
    obtain ⟨e, hv, q⟩ := rc.dropP
    exact .inl ⟨g2, hq _ Hc _ os' c' ((q.weak fun p hp => List.mem_append_right _ hp).gcons (.lst hv (RwA.mono e ra))) go⟩
end
end Bd
/-! Bd8: cells in expressions, calls, statements, a def's rule. -/
namespace Bd
open PySem L2
section
variable {K : PySem.W.Frag} {F : Fr} {gs : List (V × D)} {pv os : Os} {cs : Cs} {σ : St} {H H' : Hp} {Γ : Gs}
theorem rh_r {w : Wd} {p : Addr} {o : HO} {d : D} (h : RH K w H o d) (v : w.v H p = some o) : R K w H (.ref p) d := by
  unfold RH at h
  split at h
  · exact .lst v h
  · obtain ⟨rfl, xs, rfl, e, r⟩ := h
    exact .obj v e r
  · exact h.elim
/-- what is done while the cell at p is looked at as data -/
theorem Rel.view (r : Rel K F gs pv os cs σ H Γ) {p : Addr} {d : D} (hp : cs.lookup p = some d) : R K (F.at pv (odel os p)) H (.ref p) d ∧ (F.at pv (odel os p)).I H ∧ Ext ((F.at pv os).v H) ((F.at pv (odel os p)).v H) ∧
    ∀ H', Step (F.at pv (odel os p)) H H' → Rel K F gs pv os cs σ H' Γ := by
  obtain ⟨o, h, hv, rf⟩ := r.free hp
  have sub : ∀ q, q ∈ pv ++ odel os p → q ∈ pv ++ os := fun q hq => by
    rcases List.mem_append.mp hq with m | m
    · exact List.mem_append_left _ m
    · exact List.mem_append_right _ (odel_sub.subset m)
  have e : Ext ((F.at pv os).v H) ((F.at pv (odel os p)).v H) := ext_of (fun a m => .inl (by
    obtain ⟨q, hq, z⟩ := List.mem_map.mp m
    exact z ▸ List.mem_map_of_mem (sub q hq))) fun a u _ q => q
  refine ⟨rh_r h hv, rf.st.inv, e, fun H' s => r.step ⟨fun a u q => ?_, ?_⟩⟩
  · obtain ⟨h1, _⟩ := vis_some q
    exact vis_of h1 (vis_some (s.ext a u (e a u q))).2
  · refine at_inv.mpr ⟨(at_inv.mp s.inv).1, fun q hq => ?_⟩
    by_cases z : q.1 = p
    · have q1 := (at_inv.mp r.st.inv).2 q hq
      have q2 := (vis_some hv).2
      rw [z, q2] at q1
      have q3 := (vis_some (s.ext p o hv)).2
      rw [z, q3]
      exact q1
    · refine (at_inv.mp s.inv).2 q ?_
      rcases List.mem_append.mp hq with m | m
      · exact List.mem_append_left _ m
      · refine List.mem_append_right _ ?_
        have : ∀ {os : Os}, q ∈ os → q ∈ odel os p := by
          intro os
          induction os with
          | nil => intro h; exact h
          | cons b os ih =>
            intro h
            obtain ⟨b1, b2⟩ := b
            unfold odel
            rcases List.mem_cons.mp h with y | y
            · rw [if_neg (fun x => z (by rw [y]; exact x)), y]
              exact List.mem_cons_self
            · split
              · exact y
              · exact List.mem_cons_of_mem _ (ih y)
        exact this m
end
theorem fl_R {K : PySem.W.Frag} {w w' : Wd} {H H' : Hp} {v : V} {d : D} (h : flD d = true) (r : R K w H v d) : R K w' H' v d := by
  cases d <;> first
    | (cases h; done)
    | (cases r; constructor)
/-- an operation whose left side is a cell; what comes of it is flat -/
@[simp] abbrev aOpL (f : D → D → (D → Prop) → Prop) (a b : ATE) : ATE := fun Γ c P => a Γ c fun x c1 => b Γ c1 fun y c2 => match x with
  | .adr p => match c2.lookup p with
    | some d => f d y fun z => flD z = true ∧ P z c2
    | none => False
  | _ => False
@[simp] abbrev aOpR (f : D → D → (D → Prop) → Prop) (a b : ATE) : ATE := fun Γ c P => a Γ c fun x c1 => b Γ c1 fun y c2 => match y with
  | .adr p => match c2.lookup p with
    | some d => f x d fun z => flD z = true ∧ P z c2
    | none => False
  | _ => False
/-- len(cell) and the like -/
@[simp] abbrev aCBc (f : List D → (D → Prop) → Prop) (a : ATE) : ATE := fun Γ c P => a Γ c fun x c1 => match x with
  | .adr p => match c1.lookup p with
    | some d => f [d] fun z => flD z = true ∧ P z c1
    | none => False
  | _ => False
/-- cell[i] -/
@[simp] abbrev aIxC (a b : ATE) : ATE := fun Γ c P => a Γ c fun x c1 => b Γ c1 fun y c2 => match x, y with
  | .adr p, .int k => match c2.lookup p with
    | some (.lst ds) => match atI ds k with
      | some d => P d c2
      | none => False
    | _ => False
  | _, _ => False
@[simp] abbrev aApp (o e : ATE) : ATE := fun Γ c P => o Γ c fun x c1 => match x with
  | .adr p => match c1.lookup p with
    | some (.lst _) => e Γ c1 fun y c2 => match c2.lookup p with
      | some (.lst ds) => ds.length ≤ 1000000 ∧ P .non (cset c2 p (.lst (ds ++ [y])))
      | _ => False
    | _ => False
  | _ => False
/-- cell.extend(a list that is data) -/
@[simp] abbrev aExt (o e : ATE) : ATE := fun Γ c P => o Γ c fun x c1 => match x with
  | .adr p => match c1.lookup p with
    | some (.lst _) => e Γ c1 fun y c2 => match y, c2.lookup p with
      | .lst es, some (.lst ds) => ds.length + es.length ≤ 1000000 ∧ P .non (cset c2 p (.lst (ds ++ es)))
      | _, _ => False
    | _ => False
  | _ => False
section
variable {K : PySem.W.Frag} {F : Fr}
theorem snd_opL {r : R2} {f : D → D → (D → Prop) → Prop} {ta tb : TE} {a b : ATE} (hf : SndR2 K Any r f) (h1 : SndE K F ta a) (h2 : SndE K F tb b) : SndE K F (tOp r ta tb) (aOpL f a b) := by
  intro gs pv os cs σ H Γ P Q r0 ha hq
  refine h1 gs pv os cs σ H Γ _ _ r0 ha fun v H1 d os1 c1 r1 ha1 => ?_
  refine h2 _ pv os1 c1 σ H1 Γ _ _ r1 ha1 fun u H2 e os2 c2 r2 ha2 => ?_
  split at ha2
  · rename_i p
    split at ha2
    · rename_i dd el
      cases r_adr r2.tail.head
      obtain ⟨g1, g2, g3, g4⟩ := r2.view el
      exact hf _ H2 _ u dd e _ Q trivial g2 g1 (Rw.mono g3 r2.head) ha2 fun z H3 dz s3 rz p3 => hq z H3 dz os2 c2 ((g4 H3 s3).tail.tail.gcons (fl_R p3.1 rz)) p3.2
    · exact ha2.elim
  · exact ha2.elim
theorem snd_opR {r : R2} {f : D → D → (D → Prop) → Prop} {ta tb : TE} {a b : ATE} (hf : SndR2 K Any r f) (h1 : SndE K F ta a) (h2 : SndE K F tb b) : SndE K F (tOp r ta tb) (aOpR f a b) := by
  intro gs pv os cs σ H Γ P Q r0 ha hq
  refine h1 gs pv os cs σ H Γ _ _ r0 ha fun v H1 d os1 c1 r1 ha1 => ?_
  refine h2 _ pv os1 c1 σ H1 Γ _ _ r1 ha1 fun u H2 e os2 c2 r2 ha2 => ?_
  split at ha2
  · rename_i p
    split at ha2
    · rename_i dd el
      cases r_adr r2.head
      obtain ⟨g1, g2, g3, g4⟩ := r2.view el
      exact hf _ H2 v _ d dd _ Q trivial g2 (Rw.mono g3 r2.tail.head) g1 ha2 fun z H3 dz s3 rz p3 => hq z H3 dz os2 c2 ((g4 H3 s3).tail.tail.gcons (fl_R p3.1 rz)) p3.2
    · exact ha2.elim
  · exact ha2.elim
theorem snd_CBc {r : List V → Hp → VK → Prop} {f : List D → (D → Prop) → Prop} {ta : TE} {a : ATE} (hf : SndRs K Any r f) (h : SndE K F ta a) : SndE K F (tCB r (tCons ta tNil)) (aCBc f a) := by
  intro gs pv os cs σ H Γ P Q rl ha hq
  refine h gs pv os cs σ H Γ _ _ rl ha fun v H1 d os1 c1 r1 ha2 => ?_
  split at ha2
  · rename_i p
    split at ha2
    · rename_i dd el
      cases r_adr r1.head
      obtain ⟨g1, g2, g3, g4⟩ := r1.view el
      exact hf _ H1 _ _ _ Q trivial g2 (.cons g1 .nil) ha2 fun z H3 dz s3 rz p3 => hq z H3 dz os1 c1 ((g4 H3 s3).tail.gcons (fl_R p3.1 rz)) p3.2
    · exact ha2.elim
  · exact ha2.elim
theorem cell_lst {gs : List (V × D)} {pv os : Os} {cs : Cs} {σ : St} {H : Hp} {Γ : Gs} (r : Rel K F gs pv os cs σ H Γ) {p : Addr} {ds : List D} (e : cs.lookup p = some (.lst ds)) : ∃ xs, H p = some (.lst xs) ∧ RA K (F.at pv os) H xs ds := by
  obtain ⟨o0, hm, ho⟩ := r.st.cel.get e
  cases o0 with
  | lst xs => exact ⟨xs, (at_inv.mp r.st.inv).2 (p, .lst xs) (List.mem_append_right _ hm), ho⟩
  | _ => exact ho.elim
theorem snd_ixC {ta tb : TE} {a b : ATE} (h1 : SndE K F ta a) (h2 : SndE K F tb b) : SndE K F (tOp (rIx K) ta tb) (aIxC a b) := by
  intro gs pv os cs σ H Γ P Q r0 ha hq
  refine h1 gs pv os cs σ H Γ _ _ r0 ha fun v H1 d os1 c1 r1 ha1 => ?_
  refine h2 _ pv os1 c1 σ H1 Γ _ _ r1 ha1 fun u H2 e os2 c2 r2 ha2 => ?_
  split at ha2
  · rename_i p k
    split at ha2
    · rename_i ds el
      split at ha2
      · rename_i dd ea
        cases r_adr r2.tail.head
        cases r_int r2.head
        obtain ⟨xs, hx, rx⟩ := cell_lst r2 el
        unfold atI at ea
        cases ej : ixN ds.length k with
        | none => rw [ej] at ea; cases ea
        | some j =>
          rw [ej] at ea
          obtain ⟨v, hv, rv⟩ := rx.getD ea
          refine .inl ⟨p, xs, k, v, rfl, rfl, SqL.of hx, ?_, hq v H2 dd os2 c2 (r2.tail.tail.gcons rv) ha2⟩
          unfold atI
          rw [rx.length, ej]
          exact hv
      · exact ha2.elim
    · exact ha2.elim
  · exact ha2.elim
theorem snd_app {to te : TE} {o a : ATE} (h1 : SndE K F to o) (h2 : SndE K F te a) : SndE K F (tBM K "list" rAppend to (tCons te tNil)) (aApp o a) := by
  intro gs pv os cs σ H Γ P Q r0 ha hq
  refine h1 gs pv os cs σ H Γ _ _ r0 ha fun v H1 d os1 c1 r1 ha1 => ?_
  split at ha1
  · rename_i p
    split at ha1
    · rename_i ds0 e0
      cases r_adr r1.head
      obtain ⟨xs0, hx0, _⟩ := cell_lst r1 e0
      refine ⟨.inl ⟨rfl, xs0, SqL.of hx0⟩, ?_⟩
      refine h2 _ pv os1 c1 σ H1 Γ _ _ r1.tail ha1 fun u H2 e os2 c2 r2 ha2 => ?_
      split at ha2
      · rename_i ds el
        obtain ⟨xs, hx, rx⟩ := cell_lst r2 el
        have hl := rx.length
        refine ⟨p, xs, u, rfl, rfl, hx, Nat.lt_of_le_of_lt (by omega : xs.length ≤ 1000000) (by decide), ?_⟩
        exact hq _ _ _ _ _ ((r2.put (o := .lst (xs ++ [u])) (d := .lst (ds ++ [e])) el (RwA.append rx (.cons r2.head .nil))).tail.gcons .non) ha2.2
      · exact ha2.elim
    · exact ha1.elim
  · exact ha1.elim
theorem snd_ext {to te : TE} {o a : ATE} (h1 : SndE K F to o) (h2 : SndE K F te a) : SndE K F (tBM K "list" rExtend to (tCons te tNil)) (aExt o a) := by
  intro gs pv os cs σ H Γ P Q r0 ha hq
  refine h1 gs pv os cs σ H Γ _ _ r0 ha fun v H1 d os1 c1 r1 ha1 => ?_
  split at ha1
  · rename_i p
    split at ha1
    · rename_i ds0 e0
      cases r_adr r1.head
      obtain ⟨xs0, hx0, _⟩ := cell_lst r1 e0
      refine ⟨.inl ⟨rfl, xs0, SqL.of hx0⟩, ?_⟩
      refine h2 _ pv os1 c1 σ H1 Γ _ _ r1.tail ha1 fun u H2 e os2 c2 r2 ha2 => ?_
      split at ha2
      · rename_i es ds el
        obtain ⟨xs, hx, rx⟩ := cell_lst r2 el
        have rh := r2.head
        cases rh with
        | @lst b ys _ hy ry =>
          have hl := rx.length
          have hl2 := ry.length
          refine ⟨p, b, xs, ys, rfl, rfl, hx, (vis_some hy).2, Nat.le_trans (by omega : xs.length + ys.length ≤ 1000000) (by decide), ?_⟩
          exact hq _ _ _ _ _ ((r2.put (o := .lst (xs ++ ys)) (d := .lst (ds ++ es)) el (RwA.append rx ry)).tail.gcons .non) ha2.2
      · exact ha2.elim
    · exact ha1.elim
  · exact ha1.elim
end
/-! ### calls -/
def spOf (K : PySem.W.Frag) (C : WC) (A : List D → (D → Prop) → Prop) : Sp := fun vs H Q _ => ∃ (w : Wd) (ds : List D) (P : D → Prop), C w ∧ w.I H ∧ RA K w H vs ds ∧ A ds P ∧ ∀ v H' d, Step w H H' → R K w H' v d → P d → Q v H'
/-- with the caller's cells -/
def spS (K : PySem.W.Frag) (C : WC) (A : List D → Cs → (D → Cs → Prop) → Prop) : Sp := fun vs H Q _ => ∃ (w : Wd) (os : Os) (cs : Cs) (ds : List D) (P : D → Cs → Prop), C w ∧ Stt K ⟨w, os, H⟩ [] os cs H ∧ RA K (Fr.at ⟨w, os, H⟩ [] os) H vs ds ∧ A ds cs P ∧
  ∀ v H' d os' cs', Stt K ⟨w, os, H⟩ [] os' cs' H' → R K (Fr.at ⟨w, os, H⟩ [] os') H' v d → P d cs' → Q v H'
@[simp] abbrev aCall (A : List D → (D → Prop) → Prop) (dds : List D) (a : ATA) : ATE := fun Γ c P => a Γ c fun ds c1 => A (ds ++ dds) fun d => P d c1
@[simp] abbrev aCallS (A : List D → Cs → (D → Cs → Prop) → Prop) (dds : List D) (a : ATA) : ATE := fun Γ c P => a Γ c fun ds c1 => A (ds ++ dds) c1 P
abbrev FC (K : PySem.W.Frag) (F : Fr) (C : WC) : Prop := ∀ (pv os : Os) (cs : Cs) (H : Hp), Stt K F pv os cs H → C (F.at pv os)
abbrev FP (K : PySem.W.Frag) (F : Fr) (C : WC) : Prop := ∀ (pv os : Os) (cs : Cs) (H : Hp), Stt K F pv os cs H → C (F.w.plus pv)
section
variable {K : PySem.W.Frag} {F : Fr}
theorem snd_call {C' : WC} {A : List D → (D → Prop) → Prop} {dvs : List V} {dds : List D} {E : XK} {t : TA} {a : ATA} (hC : FC K F C') (hd : ∀ (w : Wd) H, RA K w H dvs dds) (h : SndA K F t a) : SndE K F (tCall (spOf K C' A) dvs E t) (aCall A dds a) := by
  intro gs pv os cs σ H Γ P Q r0 ha hq
  refine h gs pv os cs σ H Γ _ _ r0 ha fun vs H1 ds os1 c1 r1 ra p1 => ?_
  exact ⟨F.at pv os1, ds ++ dds, _, hC _ _ _ _ r1.st, r1.st.inv, ra.append (hd _ H1), p1, fun v H' d s r p => hq v H' d os1 c1 ((r1.step s).gcons r) p⟩
theorem snd_callS {C' : WC} {A : List D → Cs → (D → Cs → Prop) → Prop} {dvs : List V} {dds : List D} {E : XK} {t : TA} {a : ATA} (hC : FP K F C') (hd : ∀ (w : Wd) H, RA K w H dvs dds) (h : SndA K F t a) : SndE K F (tCall (spS K C' A) dvs E t) (aCallS A dds a) := by
  intro gs pv os cs σ H Γ P Q r0 ha hq
  refine h gs pv os cs σ H Γ _ _ r0 ha fun vs H1 ds os1 c1 r1 ra p1 => ?_
  have st := r1.st
  have nd := st.nd
  rw [List.map_append, List.nodup_append] at nd
  have i0 := at_inv.mp st.inv
  refine ⟨F.w.plus pv, os1, c1, ds ++ dds, P, hC _ _ _ _ st, ⟨Ext.rfl' _, ⟨⟨st.inv.1, fun p hp => (by cases hp)⟩, st.inv.2⟩, fun p hp => ?_, nd.2.1, st.cel.mono (w := F.at pv os1) (w' := Fr.at ⟨F.w.plus pv, os1, H1⟩ [] os1) rfl (Ext.rfl' _)⟩, ra.append (hd _ H1), p1, fun v H' d os2 c2 s2 r p => ?_⟩
  · have hp : p ∈ os1 := hp
    refine ⟨fun m => ?_, vis_in (List.mem_append_left _ (List.mem_map_of_mem hp))⟩
    rcases List.mem_append.mp m with m | m
    · exact nd.2.2 p.1 m p.1 (List.mem_map_of_mem hp) rfl
    · exact (st.fr p (List.mem_append_right _ hp)).1 m
  · have e : Ext ((F.at pv os1).v H1) ((F.at pv os2).v H') := s2.ext
    have iv : (F.at pv os2).I H' := ⟨s2.inv.1.1, s2.inv.2⟩
    have fr2 : ∀ p, p ∈ os2 → p.1 ∉ (F.w.plus pv).ms ∧ (F.at pv os1).v H1 p.1 = none := s2.fr
    refine hq v H' d os2 c2 ((r1.mv ⟨st.ext.tr e, iv, fun p hp => ?_, ?_, s2.cel.mono (w := Fr.at ⟨F.w.plus pv, os1, H1⟩ [] os2) (w' := F.at pv os2) rfl (Ext.rfl' _)⟩ e).gcons r) p
    · rcases List.mem_append.mp hp with m | m
      · exact st.fr p (List.mem_append_left _ m)
      · obtain ⟨f1, f2⟩ := fr2 p m
        refine ⟨fun z => f1 (List.mem_append_right _ z), ?_⟩
        cases q : (F.w.plus F.os0).v F.H0 p.1 with
        | none => rfl
        | some u =>
          have := st.ext p.1 u q
          rw [f2] at this
          cases this
    · rw [List.map_append, List.nodup_append]
      refine ⟨nd.1, s2.nd, fun a ha b hb z => ?_⟩
      obtain ⟨q, hq, e⟩ := List.mem_map.mp hb
      exact (fr2 q hq).1 (List.mem_append_left _ (by rw [e, ← z]; exact ha))
end
end Bd
/-! Bd9: statements, loops, a def's rule. -/
namespace Bd
open PySem L2
structure AE where
  nx : Gs → Cs → Prop
  rt : D → Cs → Prop
  bk : Gs → Cs → Prop := fun _ _ => False
  ct : Gs → Cs → Prop := fun _ _ => False
abbrev ATS := AE → Gs → Cs → Prop
structure EndsOk (K : PySem.W.Frag) (F : Fr) (gs : List (V × D)) (A : AE) (D' : Ends) : Prop where
  nx : ∀ os cs σ H Γ, Rel K F gs [] os cs σ H Γ → A.nx Γ cs → D'.nx σ H
  bk : ∀ os cs σ H Γ, Rel K F gs [] os cs σ H Γ → A.bk Γ cs → D'.bk σ H
  ct : ∀ os cs σ H Γ, Rel K F gs [] os cs σ H Γ → A.ct Γ cs → D'.ct σ H
  rt : ∀ v H d os cs, Stt K F [] os cs H → R K (F.at [] os) H v d → A.rt d cs → D'.rt v H
def SndS (K : PySem.W.Frag) (F : Fr) (t : TS) (a : ATS) : Prop := ∀ (gs : List (V × D)) (os : Os) (cs : Cs) (σ : St) (H : Hp) (Γ : Gs) (A : AE) (D' : Ends), Rel K F gs [] os cs σ H Γ → a A Γ cs → EndsOk K F gs A D' → t D' σ H
structure JS (X : Cx) (F : Fr) (st : Stmt) (t : TS) (a : ATS) : Prop where
  p : PS X st t
  s : SndS X.K F t a
structure JSs (X : Cx) (F : Fr) (sts : List Stmt) (t : TS) (a : ATS) : Prop where
  p : PSs X sts t
  s : SndS X.K F t a
@[simp] abbrev aNext : ATS := fun A Γ c => A.nx Γ c
@[simp] abbrev aSeq (a b : ATS) : ATS := fun A Γ c => a { A with nx := b A } Γ c
@[simp] abbrev aBreak : ATS := fun A Γ c => A.bk Γ c
@[simp] abbrev aCont : ATS := fun A Γ c => A.ct Γ c
@[simp] abbrev aDrop (a : ATE) : ATS := fun A Γ c => a Γ c fun _ c1 => A.nx Γ c1
@[simp] abbrev aRet (a : ATE) : ATS := fun A Γ c => a Γ c A.rt
@[simp] abbrev aRetN : ATS := fun A _ c => A.rt .non c
@[simp] abbrev aIfS (k : ATT) (a b : ATS) : ATS := fun A Γ c => k Γ c fun b' c1 => if b' = true then a A Γ c1 else b A Γ c1
@[simp] abbrev aAsg (a : ATE) (g : ATG) : ATS := fun A Γ c => a Γ c fun d c1 => g d Γ c1 A.nx
/-- from here on the cell in slot i is data -/
@[simp] abbrev aFrz (i : Nat) (a : ATS) : ATS := fun A Γ c => match Γ[i]? with
  | some (some (.adr p)) => match c.lookup p with
    | some d => a A (Γ.set i (some d)) (cdel c p)
    | none => a A Γ c
  | _ => a A Γ c
@[simp] abbrev aPar (i j : Nat) (a : ATA) : ATS := fun A Γ c => a Γ c fun ds c1 => match ds with
  | [d, e] => A.nx ((Γ.set i (some d)).set j (some e)) c1
  | _ => False
@[simp] abbrev aNever : ATS := fun _ _ _ => False
def aFor (ai : ATA) (g : ATG) (b : ATS) : ATS := fun A Γ c => ai Γ c fun ds c1 => ∃ Inv : Nat → Gs → Cs → Prop, Inv 0 Γ c1 ∧
  (∀ i d Γ' c', ds[i]? = some d → Inv i Γ' c' → g d Γ' c' fun Γ2 c2 => b { A with nx := Inv (i + 1), ct := Inv (i + 1), bk := A.nx } Γ2 c2) ∧ ∀ Γ' c', Inv ds.length Γ' c' → A.nx Γ' c'
def aWhile (k : ATT) (b : ATS) : ATS := fun A Γ c => ∃ W : Nat → Gs → Cs → Prop, (∃ m, W m Γ c) ∧ ∀ m Γ' c', W m Γ' c' →
  k Γ' c' fun q c1 => if q = true then b { A with nx := fun Γ2 c2 => ∃ m', m' < m ∧ W m' Γ2 c2, ct := fun Γ2 c2 => ∃ m', m' < m ∧ W m' Γ2 c2, bk := A.nx } Γ' c1 else A.nx Γ' c1
section
variable {K : PySem.W.Frag} {F : Fr}
theorem snd_next : SndS K F tNext aNext := fun gs os cs σ H Γ A D' r ha e => e.nx os cs σ H Γ r ha
theorem snd_seq {t u : TS} {a b : ATS} (h1 : SndS K F t a) (h2 : SndS K F u b) : SndS K F (tSeq t u) (aSeq a b) := by
  intro gs os cs σ H Γ A D' r ha e
  exact h1 gs os cs σ H Γ _ _ r ha ⟨fun os' cs' σ' H' Γ' r' p => h2 gs os' cs' σ' H' Γ' A D' r' p e, e.bk, e.ct, e.rt⟩
theorem snd_break : SndS K F tBreak aBreak := fun gs os cs σ H Γ A D' r ha e => e.bk os cs σ H Γ r ha
theorem snd_cont : SndS K F tCont aCont := fun gs os cs σ H Γ A D' r ha e => e.ct os cs σ H Γ r ha
theorem snd_drop {t : TE} {a : ATE} (h : SndE K F t a) : SndS K F (tDrop t) (aDrop a) := by
  intro gs os cs σ H Γ A D' r ha e
  exact h gs [] os cs σ H Γ _ _ r ha fun v H' d os' cs' r' p => e.nx os' cs' σ H' Γ r'.tail p
theorem snd_ret {t : TE} {a : ATE} (h : SndE K F t a) : SndS K F (tRet t) (aRet a) := by
  intro gs os cs σ H Γ A D' r ha e
  exact h gs [] os cs σ H Γ _ _ r ha fun v H' d os' cs' r' p => e.rt v H' d os' cs' r'.st r'.head p
theorem snd_retN : SndS K F tRetN aRetN := fun gs os cs σ H Γ A D' r ha e => e.rt .non H .non os cs r.st .non ha
theorem snd_ifS {c : TT} {t u : TS} {k : ATT} {a b : ATS} (h : SndT K F c k) (h1 : SndS K F t a) (h2 : SndS K F u b) : SndS K F (tIfS c t u) (aIfS k a b) := by
  intro gs os cs σ H Γ A D' r ha e
  refine h gs [] os cs σ H Γ _ _ r ha fun q H' os' cs' r' p => ?_
  cases q with
  | true => exact h1 gs os' cs' σ H' Γ A D' r' p e
  | false => exact h2 gs os' cs' σ H' Γ A D' r' p e
theorem snd_asg {js : List Nat} {t : TE} {a : ATE} {g : TG} {ag : ATG} (h : SndE K F t a) (hg : SndG K F js g ag) : SndS K F (tAsg t g) (aAsg a ag) := by
  intro gs os cs σ H Γ A D' r ha e
  refine h gs [] os cs σ H Γ _ _ r ha fun v H' d os' cs' r' p => ?_
  exact hg gs [] os' cs' σ H' Γ v d _ _ r' p fun σ2 H2 os2 cs2 Γ2 r2 _ p2 => e.nx os2 cs2 σ2 H2 Γ2 r2 p2
theorem snd_par {i j : Nat} {t : TA} {a : ATA} (h : SndA K F t a) : SndS K F (tPar i j t) (aPar i j a) := by
  intro gs os cs σ H Γ A D' r ha e
  refine h gs [] os cs σ H Γ _ _ r ha fun vs H1 ds os1 c1 rr r1 p => ?_
  split at p
  · cases r1 with
    | cons r1 r2 =>
      cases r2 with
      | cons r2 r3 =>
        cases r3
        exact ⟨_, _, rfl, e.nx os1 c1 _ H1 _ ((rr.set r1).set r2) p⟩
  · exact p.elim
theorem snd_never {t : TS} : SndS K F t aNever := fun _ _ _ _ _ _ _ _ _ ha _ => ha.elim
theorem snd_frz (i : Nat) {t : TS} {a : ATS} (h : SndS K F t a) : SndS K F t (aFrz i a) := by
  intro gs os cs σ H Γ A D' r ha e
  unfold aFrz at ha
  split at ha
  · rename_i p q
    split at ha
    · rename_i d el
      obtain ⟨o, ho, hv, rf⟩ := r.free el
      obtain ⟨v, h1, h2⟩ := rf.at_ i _ q
      cases r_adr h2
      have e1 : σ.set i (some (.ref p)) = σ := by
        apply List.ext_getElem?
        intro j
        by_cases z : i = j
        · subst z
          rw [List.getElem?_set_self (List.getElem?_eq_some_iff.mp h1).1, h1]
        · rw [List.getElem?_set_ne z]
      have r2 := rf.set (i := i) (rh_r ho hv)
      rw [e1] at r2
      exact h gs _ _ σ H _ A D' r2 ha e
    · exact h gs os cs σ H Γ A D' r ha e
  · exact h gs os cs σ H Γ A D' r ha e
theorem snd_for {js : List Nat} {wi : TI} {ai : ATA} {g : TG} {ag : ATG} {tb : TS} {ab : ATS} (hi : SndI K F wi ai) (hg : SndG K F js g ag) (hb : SndS K F tb ab) : SndS K F (tFor wi g tb) (aFor ai ag ab) := by
  intro gs os cs σ H Γ A D' r ha e
  refine hi gs [] os cs σ H Γ _ _ r ha fun J H1 gs2 ds os1 c1 r1 wk ⟨Iv, i0, turn, fin⟩ => ?_
  refine ⟨fun i m σ' Hc => m = ds.length - i ∧ i ≤ ds.length ∧ ∃ os' c' Γ', Rel K F (gs2 ++ gs) [] os' c' σ' Hc Γ' ∧ Iv i Γ' c', ⟨_, rfl, Nat.zero_le _, os1, c1, Γ, r1, i0⟩, ?_⟩
  rintro i m σ' Hc ⟨rfl, hil, os', c', Γ', r', iv⟩
  obtain ⟨g1, g2, g3⟩ := wk (F.at [] os') Hc r'.st.inv fun p hp => r'.gh p (List.mem_append_left _ hp)
  have less : ∀ {os2 : Os} {c2 : Cs} {σ2 : St} {H2 : Hp} {Γ2 : Gs}, Rel K F (gs2 ++ gs) [] os2 c2 σ2 H2 Γ2 → Rel K F gs [] os2 c2 σ2 H2 Γ2 := fun r2 => r2.weak fun p hp => List.mem_append_right _ hp
  by_cases hlt : i < ds.length
  · refine .inr ⟨g1 i hlt, fun σ2 H2 => ∃ os2 c2 Γ2, Rel K F (gs2 ++ gs) [] os2 c2 σ2 H2 Γ2 ∧ Iv (i + 1) Γ2 c2, fun σ2 H2 h => ⟨ds.length - (i + 1), by omega, rfl, hlt, h⟩, fun x H2 y => ?_⟩
    obtain ⟨s2, d, hd, rx⟩ := g3 i x H2 hlt y
    refine hg (gs2 ++ gs) [] os' c' σ' H2 Γ' x d _ _ ((r'.step s2).gcons rx) (turn i d Γ' c' hd iv) fun σ3 H3 os3 c3 Γ3 r3 _ p3 => ?_
    exact hb (gs2 ++ gs) os3 c3 σ3 H3 Γ3 _ _ r3 p3 ⟨fun os4 c4 σ4 H4 Γ4 r4 p4 => ⟨os4, c4, Γ4, r4, p4⟩, fun os4 c4 σ4 H4 Γ4 r4 p4 => e.nx os4 c4 σ4 H4 Γ4 (less r4) p4, fun os4 c4 σ4 H4 Γ4 r4 p4 => ⟨os4, c4, Γ4, r4, p4⟩, e.rt⟩
  · have ei : i = ds.length := by omega
    subst ei
    exact .inl ⟨g2, e.nx os' c' σ' Hc Γ' (less r') (fin Γ' c' iv)⟩
theorem snd_while {c : TT} {ac : ATT} {tb : TS} {ab : ATS} (h : SndT K F c ac) (hb : SndS K F tb ab) : SndS K F (tWhile c tb) (aWhile ac ab) := by
  intro gs os cs σ H Γ A D' r ⟨W, ⟨m0, w0⟩, turn⟩ e
  refine ⟨fun m σ' Hc => ∃ os' c' Γ', Rel K F gs [] os' c' σ' Hc Γ' ∧ W m Γ' c', ⟨m0, os, cs, Γ, r, w0⟩, ?_⟩
  rintro m σ' Hc ⟨os', c', Γ', r', wm⟩
  refine h gs [] os' c' σ' Hc Γ' _ _ r' (turn m Γ' c' wm) fun b H1 os1 c1 r1 p => ?_
  cases b with
  | true =>
    refine ⟨fun σ2 H2 => ∃ m', m' < m ∧ ∃ os2 c2 Γ2, Rel K F gs [] os2 c2 σ2 H2 Γ2 ∧ W m' Γ2 c2, fun σ2 H2 h => h, ?_⟩
    refine hb gs os1 c1 σ' H1 Γ' _ _ r1 p ⟨fun os4 c4 σ4 H4 Γ4 r4 p4 => ?_, fun os4 c4 σ4 H4 Γ4 r4 p4 => e.nx os4 c4 σ4 H4 Γ4 r4 p4, fun os4 c4 σ4 H4 Γ4 r4 p4 => ?_, e.rt⟩
    · obtain ⟨m', hm, q⟩ := p4
      exact ⟨m', hm, os4, c4, Γ4, r4, q⟩
    · obtain ⟨m', hm, q⟩ := p4
      exact ⟨m', hm, os4, c4, Γ4, r4, q⟩
  | false => exact e.nx os1 c1 σ' H1 Γ' r1 p
end
/-! ### a def -/
def startG (n : Nat) (ds : List D) : Gs := ds.map some ++ List.replicate (n - ds.length) none
theorem start_rel {K : PySem.W.Frag} {F : Fr} {os : Os} {cs : Cs} {H : Hp} {N : List Str} {vs : List V} {ds : List D} (s : Stt K F [] os cs H) (r : RA K (F.at [] os) H vs ds) : Rel K F [] [] os cs (L2.start N vs) H (startG N.length ds) := by
  have hl := r.length
  refine ⟨s, ?_, fun i d e => ?_, fun p hp => (by cases hp)⟩
  · unfold L2.start startG
    simp [hl]
  · unfold startG at e
    unfold L2.start
    by_cases hi : i < ds.length
    · rw [List.getElem?_append_left (by simpa using hi)] at e
      rw [List.getElem?_append_left (by simpa [hl] using hi)]
      rw [List.getElem?_map] at e ⊢
      cases q : ds[i]? with
      | none => rw [q] at e; cases e
      | some d' =>
        rw [q] at e
        cases e
        obtain ⟨v, h1, h2⟩ := r.getD q
        rw [h1]
        exact ⟨v, rfl, h2⟩
    · rw [List.getElem?_append_right (by simpa using hi)] at e
      rw [List.getElem?_replicate] at e
      split at e <;> cases e
/-- the newest cells forgotten -/
theorem Stt.drop {K : PySem.W.Frag} {F : Fr} {os : Os} {cs : Cs} {H : Hp} (s : Stt K F [] os cs H) : ∀ n : Nat, Ext ((F.at [] os).v H) ((F.at [] (os.drop n)).v H) ∧ Stt K F [] (os.drop n) (cs.drop n) H := by
  intro n
  have sub : ∀ q, q ∈ os.drop n → q ∈ os := fun q hq => List.mem_of_mem_drop hq
  have e : Ext ((F.at [] os).v H) ((F.at [] (os.drop n)).v H) := ext_of (fun a m => .inl (by
    obtain ⟨q, hq, z⟩ := List.mem_map.mp m
    exact z ▸ List.mem_map_of_mem (f := fun x : Addr × HO => x.1) (sub q hq))) fun a u _ q => q
  refine ⟨e, s.to e (at_inv.mp s.inv).1 (fun q hq => (at_inv.mp s.inv).2 q (sub q hq)) (fun q hq => .inl (List.mem_map_of_mem (f := fun x : Addr × HO => x.1) (sub q hq))) ?_ ?_⟩
  · have := s.nd
    rw [List.nil_append] at this ⊢
    exact ((List.drop_sublist n os).map _).nodup this
  · have : ∀ {w : Wd} (n : Nat) {os : Os} {cs : Cs}, Cells K w H os cs → Cells K w H (os.drop n) (cs.drop n) := by
      intro w n
      induction n with
      | zero => intro os cs h; exact h
      | succ n ih =>
        intro os cs h
        cases h with
        | nil => exact .nil
        | cons _ t => exact ih t
    exact this n (s.cel.mono (w := F.at [] os) (w' := F.at [] (os.drop n)) rfl e)
abbrev FnS (K : PySem.W.Frag) (x qual : Str) (st : Stmt) (dvs : List V) (f : Addr) (fd : FuncData) : Prop := FunD K x qual (defArgs st) (defBody st) (defScope st) dvs [] f fd
theorem start_stt {K : PySem.W.Frag} {w : Wd} {H : Hp} (hI : w.I H) : Stt K ⟨w, [], H⟩ [] [] [] H :=
  ⟨Ext.rfl' _, ⟨⟨hI, fun p hp => (by cases hp)⟩, fun p hp => (by cases hp)⟩, fun p hp => (by cases hp), List.nodup_nil, .nil⟩
section
variable {P : Program} {w : World} {K : PySem.W.Frag} {mg : Str → Option Value} {base : Heap} {x qual : Str} {st : Stmt} {dvs : List V} {f : Addr} {fd : FuncData} {N ps : List Str} {k : Nat} {C : WC}
/-- a def that keeps a promise over data -/
theorem fn_rule {Ab : List D → (D → Prop) → Prop} {a : ATS}
    (F : FnS K x qual st dvs f fd) (S : FnScope N ps (defScope st)) (hlen : ∀ ds P, Ab ds P → ds.length = ps.length) (hA : ∀ ds P, Ab ds P → a { nx := fun _ _ => P .non, rt := fun d _ => P d } (startG N.length ds) [])
    (hJ : ∀ (Fm : Fr) (cdv : Value) (A : Around) (outer : List Env) (s : Shared) (H : Hp) (E : XK), C Fm.w → Room k (A.deeper (PyProof.Rows.envOfC qual (defScope st) s.heap.objs.size f cdv)) → ∃ t, JSs (cxOf CX0 P w K mg base N qual (defScope st) f cdv A outer s H E).nox Fm (defBody st) t a) :
    FnOk P w K mg base CX0 (k + 1) f fd ps (spOf K C Ab) := by
  refine F.ok S (fun vs H Q E h => ?_) (fun cdv A outer s H vs Q E hr h => ?_)
  · obtain ⟨_, ds, _, _, _, r, ha, _⟩ := h
    rw [r.length]
    exact hlen _ _ ha
  · obtain ⟨wd, ds, P', hc, hI, r, ha, hq⟩ := h
    obtain ⟨t, j⟩ := hJ ⟨wd, [], H⟩ cdv A outer s H E hc hr
    refine ⟨t, PSs.nox j.p, ?_⟩
    have out : ∀ {os : Os} {cs : Cs} {H' : Hp}, Stt K ⟨wd, [], H⟩ [] os cs H' → Step wd H H' ∧ Ext ((Fr.at ⟨wd, [], H⟩ [] os).v H') (wd.v H') := fun {os cs H'} s => by
      obtain ⟨e, _⟩ := s.drop os.length
      rw [List.drop_length] at e
      exact ⟨⟨fun a o q => e a o (s.ext a o q), (at_inv.mp s.inv).1⟩, e⟩
    refine j.s [] [] [] _ H _ _ _ (start_rel (start_stt hI) r) (hA ds P' ha) ⟨fun os cs σ H' Γ r' p => hq .non H' .non (out r'.st).1 .non p, fun os cs σ H' Γ r' p => p.elim, fun os cs σ H' Γ r' p => p.elim, fun v H' d os cs s rv p => ?_⟩
    exact hq v H' d (out s).1 (Rw.mono (out s).2 rv) p
/-- a def that keeps a promise over data and the caller's cells -/
theorem fn_ruleS {Ab : List D → Cs → (D → Cs → Prop) → Prop} {a : ATS}
    (F : FnS K x qual st dvs f fd) (S : FnScope N ps (defScope st)) (hlen : ∀ ds c P, Ab ds c P → ds.length = ps.length) (hA : ∀ ds c P, Ab ds c P → a { nx := fun _ c' => ∃ n, P .non (c'.drop n), rt := fun d c' => ∃ n, P d (c'.drop n) } (startG N.length ds) c)
    (hJ : ∀ (Fm : Fr) (cdv : Value) (A : Around) (outer : List Env) (s : Shared) (H : Hp) (E : XK), C Fm.w → Room k (A.deeper (PyProof.Rows.envOfC qual (defScope st) s.heap.objs.size f cdv)) → ∃ t, JSs (cxOf CX0 P w K mg base N qual (defScope st) f cdv A outer s H E).nox Fm (defBody st) t a) :
    FnOk P w K mg base CX0 (k + 1) f fd ps (spS K C Ab) := by
  refine F.ok S (fun vs H Q E h => ?_) (fun cdv A outer s H vs Q E hr h => ?_)
  · obtain ⟨_, _, _, ds, _, _, _, r, ha, _⟩ := h
    rw [r.length]
    exact hlen _ _ _ ha
  · obtain ⟨wd, os, cs, ds, P', hc, s0, r, ha, hq⟩ := h
    obtain ⟨t, j⟩ := hJ ⟨wd, os, H⟩ cdv A outer s H E hc hr
    refine ⟨t, PSs.nox j.p, ?_⟩
    have fin : ∀ {v : V} {d : D} {os' : Os} {cs' : Cs} {H' : Hp}, Stt K ⟨wd, os, H⟩ [] os' cs' H' → R K (Fr.at ⟨wd, os, H⟩ [] os') H' v d → (∃ n, P' d (cs'.drop n)) → Q v H' := fun {v d os' cs' H'} s rv ⟨n, p⟩ => by
      obtain ⟨e, s'⟩ := s.drop n
      exact hq v H' d _ _ s' (Rw.mono e rv) p
    exact j.s [] os cs _ H _ _ _ (start_rel s0 r) (hA ds cs P' ha) ⟨fun os cs σ H' Γ r' p => fin r'.st .non p, fun os cs σ H' Γ r' p => p.elim, fun os cs σ H' Γ r' p => p.elim, fun v H' d os cs s rv p => fin s rv p⟩
end
end Bd
/-! BdA: the rules that a derivation is made of. -/
namespace Bd
open PySem L2
def rUpper : V → List V → Hp → VK → Prop := fun x xs H Q => ∃ a, x = .str a ∧ xs = [] ∧ a.length ≤ 5592405 ∧ Q (.str (Txt.upper a)) H
def rJoin (K : PySem.W.Frag) : V → List V → Hp → VK → Prop := fun x xs H Q => ∃ a p, ∃ ys : List Str, x = .str a ∧ xs = [.ref p] ∧ (SqL K H p (ys.map V.str) ∨ SqT K H p (ys.map V.str)) ∧ (ys.map (·.length)).sum + ys.length * a.length ≤ 16777216 ∧ Q (.str (Txt.join a ys)) H
def rSplit : V → List V → Hp → VK → Prop := fun x xs H Q => ∃ a b, x = .str a ∧ xs = [.str b] ∧ (b.length == 0) = false ∧ a.length + 2 ≤ sizeLine ∧ rNewStrs (Txt.split a b) H Q
section
variable {X : Cx} {Fm : Fr} {e a b c o l iter tg elt : Expr} {es rest : List Expr} {pos apos p2 : Pos} {te ta tb tc to tl : TE} {aa ab ac ae ao : ATE} {t : TA} {ag : ATA}
theorem je_var (i : Nat) {x : Str} (hN : X.N[i]? = some x := by rfl) (hv : Vis X.env.scope x := by first | exact Or.inl rfl | exact Or.inr (Or.inl rfl) | exact Or.inr (Or.inr rfl)) (hd : (x == ("__debug__" : Str)) = false := by decide)
    (hcd : (x == ("__classdict__" : Str)) = false := by decide) : JE X Fm (.Name x pos) (tVar i) (aVar i) := ⟨pe_var hN hv hd hcd, snd_var⟩
theorem je_int {i : Int} {j : Nat} : JE X Fm (.Constant (.int i) j pos) (tC (.int i)) (aC (.int i)) := ⟨pe_int, snd_c fun _ _ => .int i⟩
theorem je_bl {i : Bool} {j : Nat} : JE X Fm (.Constant (.bool i) j pos) (tC (.bl i)) (aC (.bl i)) := ⟨pe_bl, snd_c fun _ _ => .bl i⟩
theorem je_non {j : Nat} : JE X Fm (.Constant .none j pos) (tC .non) (aC .non) := ⟨pe_non, snd_c fun _ _ => .non⟩
theorem je_str {x : Str} {j : Nat} : JE X Fm (.Constant (.str x) j pos) (tC (.str x)) (aC (.str x)) := ⟨pe_str, snd_c fun _ _ => .str x⟩
theorem je_gstr {x z : Str} (hm : ∃ u, X.mg x = some (.str z u)) (hg : Gl X x := by rfl) (hd : (x == ("__debug__" : Str)) = false := by decide) : JE X Fm (.Name x pos) (tC (.str z)) (aC (.str z)) := by
  obtain ⟨u, hm⟩ := hm
  exact ⟨pe_glob hg hm ⟨u, rfl⟩ hd, snd_c fun _ _ => .str z⟩
theorem je_gint {x : Str} {i : Int} (hm : ∃ u, X.mg x = some (.int i u)) (hg : Gl X x := by rfl) (hd : (x == ("__debug__" : Str)) = false := by decide) : JE X Fm (.Name x pos) (tC (.int i)) (aC (.int i)) := by
  obtain ⟨u, hm⟩ := hm
  exact ⟨pe_glob hg hm ⟨u, rfl⟩ hd, snd_c fun _ _ => .int i⟩
theorem je_gtup {x : Str} {u : Addr} {vs : List V} {ds : List D} (hm : X.mg x = some (.ref u)) (hs : ∀ H, SqT X.K H u vs) (hr : ∀ (w : Wd) H, RA X.K w H vs ds) (hg : Gl X x := by rfl) (hd : (x == ("__debug__" : Str)) = false := by decide) :
    JE X Fm (.Name x pos) (tC (.ref u)) (aC (.tup ds)) := ⟨pe_glob hg hm rfl hd, snd_c fun w H => .tup (hs _) (hr w H)⟩
/-- a built-in class as a value -/
theorem je_ty {x : Str} {n : String} (hm : X.mg x = none) (hv : bootBuiltins x = some (.type n)) (hg : Gl X x := by rfl) (hn : x ≠ "__name__" := by decide) (hd : (x == ("__debug__" : Str)) = false := by decide) : JE X Fm (.Name x pos) (tC (.ty n)) (aC (.ty n)) :=
  ⟨pe_bltn hg hm hv rfl hn hd, snd_c fun _ _ => .ty n⟩
theorem je_op {op : Operator} {r : R2} {g : D → D → (D → Prop) → Prop} (ho : JO X (binaryOp op) r g) (ha : JE X Fm a ta aa) (hb : JE X Fm b tb ab) : JE X Fm (.BinOp a op b pos) (tOp r ta tb) (aOp g aa ab) := ⟨pe_op ho.p ha.p hb.p, snd_op ho.s ha.s hb.s⟩
theorem je_neg (ha : JE X Fm a ta aa) : JE X Fm (.UnaryOp .USub a pos) (tUn (rU fun i => .int (-i)) ta) (aUn wNeg aa) := ⟨pe_un un_neg ha.p, snd_un s_neg ha.s⟩
theorem je_cmp {op : CmpOp} {r : R2} {g : D → D → (D → Prop) → Prop} (ho : JO X (compareOp op) r g) (ha : JE X Fm a ta aa) (hb : JE X Fm b tb ab) (hm : behindInMarks op b = false := by rfl) : JE X Fm (.Compare a [op] [b] pos) (tOp r ta tb) (aOp g aa ab) :=
  ⟨pe_cmpR ho.p ha.p hb.p hm, snd_op ho.s ha.s hb.s⟩
theorem je_chain {op op' : CmpOp} {r r' : R2} {g g' : D → D → (D → Prop) → Prop} (ho : JO X (compareOp op) r g) (ho' : JO X (compareOp op') r' g') (ha : JE X Fm a ta aa) (hb : JE X Fm b tb ab) (hc : JE X Fm c tc ac) (hm : lastMarks [op, op'] [b, c] = false := by with_unfolding_all rfl) :
    JE X Fm (.Compare a [op, op'] [b, c] pos) (tChain r r' ta tb tc) (aChain g g' aa ab ac) := ⟨pe_chain ho.p ho'.p ha.p hb.p hc.p hm, snd_chain ho.s ho'.s ha.s hb.s hc.s⟩
theorem jt_cmp {op : CmpOp} {r : R2} {g : D → D → (D → Prop) → Prop} (ho : JO X (compareOp op) r g) (ha : JE X Fm a ta aa) (hb : JE X Fm b tb ab) (hm : behindInMarks op b = false := by rfl) : JT X Fm (.Compare a [op] [b] pos) (tTest (tOp r ta tb)) (aB (aOp g aa ab)) :=
  ⟨pt_cmpR ho.p ha.p hb.p hm, snd_test (snd_op ho.s ha.s hb.s)⟩
theorem jt_chain {op op' : CmpOp} {r r' : R2} {g g' : D → D → (D → Prop) → Prop} (ho : JO X (compareOp op) r g) (ho' : JO X (compareOp op') r' g') (ha : JE X Fm a ta aa) (hb : JE X Fm b tb ab) (hc : JE X Fm c tc ac) (hm : lastMarks [op, op'] [b, c] = false := by with_unfolding_all rfl) :
    JT X Fm (.Compare a [op, op'] [b, c] pos) (tTest (tChain r r' ta tb tc)) (aB (aChain g g' aa ab ac)) := ⟨pt_chain ho.p ho'.p ha.p hb.p hc.p hm, snd_test (snd_chain ho.s ho'.s ha.s hb.s hc.s)⟩
theorem jt_val (h : JE X Fm e te ae) (he : ∀ whole, isTrue e X.env whole = (do let v ← whole; standAt e.pos; holding [v] (truthy v)) := by intro _; rfl) : JT X Fm e (tB te) (aB ae) := ⟨pt_val h.p he, snd_B h.s⟩
theorem jt_not {tt : TT} {at' : ATT} (h : JT X Fm a tt at') : JT X Fm (.UnaryOp .Not a pos) (tNot tt) (aNot at') := ⟨pt_not h.p, snd_not h.s⟩
theorem jw_and1 {tt : TT} {at' : ATT} (h : JT X Fm a tt at') : JW X Fm (.BoolOp .And [a] pos) tt at' := ⟨pw_and1 h.p, h.s⟩
theorem jw_or1 {tt : TT} {at' : ATT} (h : JT X Fm a tt at') : JW X Fm (.BoolOp .Or [a] pos) tt at' := ⟨pw_or1 h.p, h.s⟩
theorem jw_and {tt tu : TT} {at' au : ATT} (h : JT X Fm a tt at') (h2 : JW X Fm (.BoolOp .And (b :: rest) pos) tu au) : JW X Fm (.BoolOp .And (a :: b :: rest) pos) (tAnd tt tu) (aAnd at' au) := ⟨pw_and h.p h2.p, snd_and h.s h2.s⟩
theorem jw_or {tt tu : TT} {at' au : ATT} (h : JT X Fm a tt at') (h2 : JW X Fm (.BoolOp .Or (b :: rest) pos) tu au) : JW X Fm (.BoolOp .Or (a :: b :: rest) pos) (tOr tt tu) (aOr at' au) := ⟨pw_or h.p h2.p, snd_or h.s h2.s⟩
theorem jt_w {tt : TT} {at' : ATT} (h : JW X Fm e tt at') : JT X Fm e tt at' := ⟨h.p.pt, h.s⟩
theorem je_one {op : BoolOp} (h : JE X Fm a ta aa) : JE X Fm (.BoolOp op [a] pos) ta aa := ⟨pe_one h.p, h.s⟩
theorem je_and (h : JE X Fm a ta aa) (h2 : JE X Fm (.BoolOp .And (b :: rest) pos) tb ab) : JE X Fm (.BoolOp .And (a :: b :: rest) pos) (tAndV ta tb) (aAndV aa ab) := ⟨pe_and h.p h2.p, snd_andV h.s h2.s⟩
theorem je_or (h : JE X Fm a ta aa) (h2 : JE X Fm (.BoolOp .Or (b :: rest) pos) tb ab) : JE X Fm (.BoolOp .Or (a :: b :: rest) pos) (tOrV ta tb) (aOrV aa ab) := ⟨pe_or h.p h2.p, snd_orV h.s h2.s⟩
theorem je_not (h : JE X Fm a ta aa) : JE X Fm (.UnaryOp .Not a pos) (tNotV ta) (aV (aNot (aB aa))) := ⟨pe_not h.p, snd_notV h.s⟩
theorem je_if {tt : TT} {at' : ATT} (h : JT X Fm c tt at') (ha : JE X Fm a ta aa) (hb : JE X Fm b tb ab) : JE X Fm (.IfExp c a b pos) (tIf tt ta tb) (aIf at' aa ab) := ⟨pe_ifExp h.p ha.p hb.p, snd_if h.s ha.s hb.s⟩
theorem ja_nil : JA X Fm [] tNil aNil := ⟨pa_nil, snd_nil⟩
theorem ja_cons (h : JE X Fm e te ae) (hr : JA X Fm es t ag) (hs : starEach (e :: es) X.env = (false, eval e X.env) :: starEach es X.env := by rfl) : JA X Fm (e :: es) (tCons te t) (aCons ae ag) := ⟨pa_cons h.p hr.p hs, snd_cons h.s hr.s⟩
theorem je_tup {k : Nat} (h : JA X Fm es t ag) : JE X Fm (.Tuple es k pos) (tTup t) (aTup ag) := ⟨pe_tup h.p, snd_tup h.s⟩
theorem je_lst (h : JA X Fm es t ag) : JE X Fm (.List es pos) (tLst t) (aLst ag) := ⟨pe_lst h.p, snd_lst h.s⟩
/-- a new list, as a cell -/
theorem je_new (h : JA X Fm es t ag) : JE X Fm (.List es pos) (tLst t) (aNew ag) := ⟨pe_lst h.p, snd_new h.s⟩
theorem je_ix (ha : JE X Fm a ta aa) (hb : JE X Fm b tb ab) (hs : PlainIx b := by intro _ _; rfl) : JE X Fm (.Subscript a b pos) (tOp (rIx X.K) ta tb) (aOp wIx aa ab) := ⟨pe_ix ix_seq ha.p hb.p hs, snd_op s_ix ha.s hb.s⟩
theorem jp_none : JP X Fm none tNoPart aNoPart := ⟨po_none, snd_noPart⟩
theorem jp_some (h : JE X Fm e te ae) : JP X Fm (some e) (tPart te) (aPart ae) := ⟨po_some h.p, snd_part h.s⟩
theorem je_sl {lo hi : Option Expr} {tlo thi : TO} {alo ahi : ATO} (h : JE X Fm e te ae) (hl : JP X Fm lo tlo alo) (hh : JP X Fm hi thi ahi) : JE X Fm (.Subscript e (.Slice lo hi none p2) pos) (tSl (rSlG X.K) te tlo thi) (aSl ae alo ahi) :=
  ⟨pe_slice sl_gen h.p hl.p hh.p, snd_sl h.s hl.s hh.s⟩
theorem je_callB {x : Str} {p : Pos} {id : String} {r : List V → Hp → VK → Prop} {f : List D → (D → Prop) → Prop} (hc : CallR X (.builtin id) r) (hs : SndRs X.K Any r f) (hm : X.mg x = none) (hv : bootBuiltins x = some (.builtin id)) (ha : JA X Fm (e :: es) t ag) (hg : Gl X x := by rfl) (hn : x ≠ "__name__" := by decide) (hdb : (x == ("__debug__" : Str)) = false := by decide)
    (he : starEach (e :: es) X.env = (false, eval e X.env) :: starEach es X.env := by rfl) (hpl : (backTo pos (starEach es X.env)).any (·.1) = false := by rfl) : JE X Fm (.Call (.Name x p) (e :: es) [] pos) (tCB r t) (aCB f ag) :=
  ⟨pe_callB hc hg hm hv ha.p hn hdb he hpl, snd_CB hs ha.s⟩
theorem je_callTy {x : Str} {p : Pos} {id : String} {r : List V → Hp → VK → Prop} {f : List D → (D → Prop) → Prop} (hc : CallR X (.type id) r) (hs : SndRs X.K Any r f) (hm : X.mg x = none) (hv : bootBuiltins x = some (.type id)) (ha : JA X Fm (e :: es) t ag) (hg : Gl X x := by rfl) (hn : x ≠ "__name__" := by decide) (hdb : (x == ("__debug__" : Str)) = false := by decide)
    (he : starEach (e :: es) X.env = (false, eval e X.env) :: starEach es X.env := by rfl) (hpl : (backTo pos (starEach es X.env)).any (·.1) = false := by rfl) : JE X Fm (.Call (.Name x p) (e :: es) [] pos) (tCB r t) (aCB f ag) :=
  ⟨pe_callTy hc hg hm hv ha.p hn hdb he hpl, snd_CB hs ha.s⟩
theorem je_upper (ho : JE X Fm o to ao) (hbase : attributeBase o "upper" X.env (eval o X.env) = eval o X.env := by rfl) (hline : (apos.endLine == pos.line) = true := by rfl) : JE X Fm (.Call (.Attribute o "upper" apos) [] [] pos) (tM0 rUpper to) (aMs wUpper ao aNil) := ⟨pe_upper ho.p hbase hline, snd_M0 s_upper ho.s⟩
theorem je_join (ho : JE X Fm o to ao) (he : JE X Fm e te ae) (hs : starEach [e] X.env = [(false, eval e X.env)] := by rfl) (hbase : attributeBase o "join" X.env (eval o X.env) = eval o X.env := by rfl) (hline : (apos.endLine == pos.line) = true := by rfl) :
    JE X Fm (.Call (.Attribute o "join" apos) [e] [] pos) (tM1 (rJoin X.K) to te) (aMs wJoin ao (aCons ae aNil)) := ⟨pe_join ho.p he.p hs hbase hline, snd_M1 s_join ho.s he.s⟩
theorem je_split (ho : JE X Fm o to ao) (he : JE X Fm e te ae) (hs : starEach [e] X.env = [(false, eval e X.env)] := by rfl) (hbase : attributeBase o "split" X.env (eval o X.env) = eval o X.env := by rfl) (hline : (apos.endLine == pos.line) = true := by rfl) :
    JE X Fm (.Call (.Attribute o "split" apos) [e] [] pos) (tM1 rSplit to te) (aMs wSplit ao (aCons ae aNil)) := ⟨pe_split ho.p he.p hs hbase hline, snd_M1 s_split ho.s he.s⟩
theorem je_index (ho : JE X Fm o to ao) (ha : JA X Fm (e :: es) t ag) (hbase : attributeBase o "index" X.env (eval o X.env) = eval o X.env := by rfl)
    (hfew : ((backTo pos (starEach (e :: es) X.env)).all (fun x => !x.1) && (backToKw pos (keywordEach [] X.env)).all (fun x => x.1.isSome) && decide ((e :: es).length + ([] : List Keyword).length + (if ([] : List Keyword).isEmpty then 0 else 1) < 30)) = true := by rfl)
    (hline : (apos.endLine == pos.line) = true := by rfl) (hs : starEach (e :: es) X.env = (false, eval e X.env) :: starEach es X.env := by rfl) (hplain : (backTo pos (starEach es X.env)).any (·.1) = false := by rfl) :
    JE X Fm (.Call (.Attribute o "index" apos) (e :: es) [] pos) (tBM X.K "list" (rIndex X.K) to t) (aMl wIndex ao ag) :=
  ⟨pe_bm PySem.F.plainAttrs_list PySem.F.slot_list_index PySem.F.type_list_index mt_index ho.p ha.p hbase hfew hline hs hplain, snd_Ml s_index ho.s ha.s⟩
theorem je_fmt (h : JE X Fm e te ae) : JE X Fm (.FormattedValue e (-1) none pos) (tFmt te) (aFmt ae) := ⟨pe_fmt h.p, snd_fmt h.s⟩
inductive JJ (X : Cx) (Fm : Fr) : List Expr → List TE → List ATE → Prop where
  | nil : JJ X Fm [] [] []
  | cons {e : Expr} {t : TE} {a : ATE} {es : List Expr} {ts : List TE} {as : List ATE} (h : JE X Fm e t a) (r : JJ X Fm es ts as) : JJ X Fm (e :: es) (t :: ts) (a :: as)
theorem JJ.p {es : List Expr} {ts : List TE} {as : List ATE} (h : JJ X Fm es ts as) : PJ X es ts := by
  induction h with
  | nil => exact .nil
  | cons h _ ih => exact .cons h.p ih
theorem JJ.s {es : List Expr} {ts : List TE} {as : List ATE} (h : JJ X Fm es ts as) : SndJ X.K Fm ts as := by
  induction h with
  | nil => exact .nil
  | cons h _ ih => exact .cons h.s ih
theorem je_joined {v1 v2 : Expr} {ts : List TE} {as : List ATE} (h : JJ X Fm (v1 :: v2 :: rest) ts as) : JE X Fm (.JoinedStr (v1 :: v2 :: rest) pos) (fun σ H Q => tJs ts Str.empty σ H fun out H1 => Q (.str out) H1) (aJoined as) := ⟨pe_joined h.p, snd_joined h.s⟩
theorem je_joined1 (h : JE X Fm e te ae) : JE X Fm (.JoinedStr [e] pos) te ae := ⟨pe_joined1 h.p, h.s⟩
theorem je_call {x : Str} {p : Pos} {k : Nat} {f : Addr} {fd : FuncData} {ps : List Str} {C' : WC} {A : List D → (D → Prop) → Prop} {dvs : List V} {ds : List Value} {dds : List D} (F : FnOk X.prog X.w X.K X.mg X.base CX0 k f fd ps (spOf X.K C' A)) (hr : Room k X.A) (hm : X.mg x = some (.ref f)) (hk : PySem.W.keepIn X.K (.ref f) = true) (hb : Binds X.K fd ps ds) (hd : Vals dvs ds)
    (hdd : ∀ (w : Wd) H, RA X.K w H dvs dds) (hC : FC X.K Fm C') (ha : JA X Fm (e :: es) t ag) (hg : Gl X x := by rfl) (hdb : (x == ("__debug__" : Str)) = false := by decide) (he : starEach (e :: es) X.env = (false, eval e X.env) :: starEach es X.env := by rfl) (hpl : (backTo pos (starEach es X.env)).any (·.1) = false := by rfl) :
    JE X Fm (.Call (.Name x p) (e :: es) [] pos) (tCall (spOf X.K C' A) dvs E0 t) (aCall A dds ag) := ⟨pe_call F hr hg hm hk hb hd pass0 ha.p hdb he hpl, snd_call hC hdd ha.s⟩
theorem je_call0 {x : Str} {p : Pos} {k : Nat} {f : Addr} {fd : FuncData} {ps : List Str} {C' : WC} {A : List D → (D → Prop) → Prop} {dvs : List V} {ds : List Value} {dds : List D} (F : FnOk X.prog X.w X.K X.mg X.base CX0 k f fd ps (spOf X.K C' A)) (hr : Room k X.A) (hm : X.mg x = some (.ref f)) (hk : PySem.W.keepIn X.K (.ref f) = true) (hb : Binds X.K fd ps ds) (hd : Vals dvs ds)
    (hdd : ∀ (w : Wd) H, RA X.K w H dvs dds) (hC : FC X.K Fm C') (hg : Gl X x := by rfl) (hdb : (x == ("__debug__" : Str)) = false := by decide) :
    JE X Fm (.Call (.Name x p) [] [] pos) (tCall (spOf X.K C' A) dvs E0 tNil) (aCall A dds aNil) := ⟨pe_call0 F hr hg hm hk hb hd pass0 hdb, snd_call hC hdd snd_nil⟩
/-! walks -/
theorem ji_any (h : JE X Fm l tl aa) : JI X Fm tg l (iAny X.K tl) (aItems aa) := ⟨pi_any h.p, snd_any h.s⟩
theorem ji_rng1 {p : Pos} (hm : X.mg "range" = none) (ha : JA X Fm [a] t ag) (hg : Gl X "range" := by rfl) (hs : starEach [a] X.env = [(false, eval a X.env)] := by rfl) : JI X Fm tg (.Call (.Name "range" p) [a] [] pos) (iRng1 t) (aRng1 ag) := ⟨pi_range1 hg hm ha.p hs, snd_rng1 ha.s⟩
theorem ji_rng2 {p : Pos} (hm : X.mg "range" = none) (ha : JA X Fm [a, b] t ag) (hg : Gl X "range" := by rfl) (hs : starEach [a, b] X.env = [(false, eval a X.env), (false, eval b X.env)] := by rfl) (hs2 : starEach [b] X.env = [(false, eval b X.env)] := by rfl) : JI X Fm tg (.Call (.Name "range" p) [a, b] [] pos) (iRng2 t) (aRng2 ag) := ⟨pi_range2 hg hm ha.p hs hs2, snd_rng2 ha.s⟩
theorem ji_zip {p tpos : Pos} {elts : List Expr} {kk : Nat} (hm : X.mg "zip" = none) (ha : JA X Fm [a, b] t ag) (hg : Gl X "zip" := by rfl) (hs : starEach [a, b] X.env = (false, eval a X.env) :: starEach [b] X.env := by rfl) (hpl : (backTo pos (starEach [b] X.env)).any (·.1) = false := by rfl) :
    JI X Fm (.Tuple elts kk tpos) (.Call (.Name "zip" p) [a, b] [] pos) (RZ.iZipA X.K t) (aZip ag) := ⟨RZ.pi_zipA hg hm ha.p hs hpl, snd_zip ha.s⟩
/-! targets -/
structure JG (X : Cx) (Fm : Fr) (js : List Nat) (tg : Expr) (g : TG) (a : ATG) : Prop where
  p : PG X tg g
  s : SndG X.K Fm js g a
structure JGs (X : Cx) (Fm : Fr) (js : List Nat) (tg : List Expr) (g : TGs) (a : ATGs) : Prop where
  p : PGs X tg g
  s : SndGs X.K Fm js g a
theorem jg_name (i : Nat) {x : Str} (hN : X.N.Nodup) (hi : X.N[i]? = some x := by rfl) (hx : Loc X.env.scope x := by first | exact Or.inl rfl | exact Or.inr rfl) (hf : X.fn x = true ∨ X.env.scope.names.lookup x = some .local := by first | exact .inl rfl | exact .inr rfl) : JG X Fm [i] (.Name x pos) (gName i) (gmN i) := ⟨pg_name hN hi hx hf, snd_gName i⟩
theorem jgs_nil : JGs X Fm [] [] gNil gmNil := ⟨pgs_nil, snd_gNil⟩
theorem jgs_cons {js ks : List Nat} {g : TG} {gs : TGs} {a : ATG} {b : ATGs} (h : JG X Fm js e g a) (h2 : JGs X Fm ks es gs b) (hs : (assignEach (e :: es) X.env).map (·.2) = assign e X.env :: (assignEach es X.env).map (·.2) := by rfl) : JGs X Fm (js ++ ks) (e :: es) (gCons g gs) (gmCons a b) := ⟨pgs_cons h.p h2.p hs, snd_gCons h.s h2.s⟩
theorem jg_tup {js : List Nat} {k n : Nat} {gs : TGs} {a : ATGs} (hc : X.calm = true) (h : JGs X Fm js es gs a) (hn : (assignEach es X.env).length = n := by rfl) (hst : (assignEach es X.env).findIdx? (·.1) = none := by rfl) : JG X Fm js (.Tuple es k pos) (gTup X.K n gs) (gmT n a) := ⟨pg_tup hc h.p hn hst, snd_gTup h.s⟩
/-! comprehensions -/
structure JTs (X : Cx) (Fm : Fr) (ifs : List Expr) (t : TT) (a : ATT) : Prop where
  p : PTs X ifs t
  s : SndT X.K Fm t a
theorem jts_nil : JTs X Fm [] tYes aYes := ⟨pts_nil, snd_yes⟩
theorem jts_one {t : TT} {a : ATT} (h : JT X Fm c t a) : JTs X Fm [c] t a := ⟨pts_one h.p, h.s⟩
theorem je_lc {js : List Nat} {ifs : List Expr} {scope : Scope} {own : List (Str × Nat)} {wi : TI} {ai : ATA} {g : TG} {agt : ATG} {tt : TT} {at' : ATT} (hc : X.calm = true) (hN : X.N.Nodup) (hi : JI X Fm tg iter wi ai) (ok : BlkOk X.N X.env.scope scope own)
    (hg : ∀ (s : Shared) (H : Hp) (Ca : Addr) (cl : List (Str × Addr)) (fp : List Addr), JG (X.blk s H scope (PySem.compEnvC scope cl Ca X.env) fp) Fm js tg g agt) (hjs : ∀ j ∈ js, j ∈ own.map (·.2))
    (ht : ∀ (s : Shared) (H : Hp) (Ca : Addr) (cl : List (Str × Addr)) (fp : List Addr), JTs (X.blk s H scope (PySem.compEnvC scope cl Ca X.env) fp) Fm ifs tt at')
    (he : ∀ (s : Shared) (H : Hp) (Ca : Addr) (cl : List (Str × Addr)) (fp : List Addr), JE (X.blk s H scope (PySem.compEnvC scope cl Ca X.env) fp) Fm elt te ae) (hs : ∀ x, foldedSetIterable iter X.env x = pure x := by intro _; rfl) :
    JE X Fm (.ListComp elt [⟨tg, iter, ifs, 0⟩] scope pos) (tLc wi g tt te (own.map (·.2))) (aLc ai agt at' ae (own.map (·.2))) :=
  ⟨pe_lc hc hN hi.p ok (fun s H Ca cl fp => (hg s H Ca cl fp).p) (fun s H Ca cl fp => (ht s H Ca cl fp).p) (fun s H Ca cl fp => (he s H Ca cl fp).p) hs,
    snd_lc hi.s (hg X.s_0 X.H_0 0 [] []).s hjs (ht X.s_0 X.H_0 0 [] []).s (he X.s_0 X.H_0 0 [] []).s⟩
/-! statements -/
variable {st : Stmt} {sts body orelse : List Stmt} {ts tu : TS} {as au : ATS}
theorem jss_nil : JSs X Fm [] tNext aNext := ⟨pss_nil, snd_next⟩
theorem jss_cons (h : JS X Fm st ts as) (h2 : JSs X Fm sts tu au) : JSs X Fm (st :: sts) (tSeq ts tu) (aSeq as au) := ⟨pss_cons h.p h2.p, snd_seq h.s h2.s⟩
theorem jss_one (h : JS X Fm st ts as) : JSs X Fm [st] ts as := ⟨pss_one h.p, h.s⟩
/-- the list in slot i is data from here on -/
theorem jss_frz (i : Nat) (h : JSs X Fm sts ts as) : JSs X Fm sts ts (aFrz i as) := ⟨h.p, snd_frz i h.s⟩
theorem js_break : JS X Fm (.Break pos) tBreak aBreak := ⟨ps_break, snd_break⟩
theorem js_cont : JS X Fm (.Continue pos) tCont aCont := ⟨ps_continue, snd_cont⟩
theorem js_pass : JS X Fm (.Pass pos) tNext aNext := ⟨ps_pass, snd_next⟩
theorem js_ret (h : JE X Fm e te ae) : JS X Fm (.Return (some e) pos) (tRet te) (aRet ae) := ⟨ps_ret h.p, snd_ret h.s⟩
theorem js_retN : JS X Fm (.Return none pos) tRetN aRetN := ⟨ps_retN, snd_retN⟩
theorem js_expr (h : JE X Fm e te ae) (hs : swapsWith e none pos.line X.env = pure false := by rfl) : JS X Fm (.Expr e pos) (tDrop te) (aDrop ae) := ⟨ps_expr h.p hs, snd_drop h.s⟩
theorem js_if {tt : TT} {at' : ATT} (h : JT X Fm c tt at') (h1 : JSs X Fm body ts as) (h2 : JSs X Fm orelse tu au) : JS X Fm (.If c body orelse pos) (tIfS tt ts tu) (aIfS at' as au) := ⟨ps_if h.p h1.p h2.p, snd_ifS h.s h1.s h2.s⟩
theorem js_set (i : Nat) {x : Str} {p : Pos} (hN : X.N.Nodup) (h : JE X Fm e te ae) (hi : X.N[i]? = some x := by rfl) (hx : Loc X.env.scope x := by first | exact Or.inl rfl | exact Or.inr rfl) (hs : swapsWith e (some (.Name x p)) pos.line X.env = pure false := by rfl)
    (hf : X.fn x = true ∨ X.env.scope.names.lookup x = some .local := by first | exact .inl rfl | exact .inr rfl) : JS X Fm (.Assign [.Name x p] e pos) (tAsg te (gName i)) (aAsg ae (gmN i)) := ⟨ps_set hN hi hx h.p hs hf, snd_asg h.s (snd_gName i)⟩
theorem js_asg {js : List Nat} {g : TG} {agt : ATG} (h : JE X Fm e te ae) (hg : JG X Fm js tg g agt) (hs : swapsWithSole [tg] e pos.line X.env = pure false := by rfl) (hw : swappedStores [tg] e X.env = pure none := by rfl) (h1 : (assignEach [tg] X.env).map (·.2) = [assign tg X.env] := by rfl) :
    JS X Fm (.Assign [tg] e pos) (tAsg te g) (aAsg ae agt) := ⟨ps_asg h.p hg.p hs hw h1, snd_asg h.s hg.s⟩
theorem js_setLc (i : Nat) {js : List Nat} {y : Str} {py spos : Pos} {ifs : List Expr} {scope : Scope} {own : List (Str × Nat)} {wi : TI} {ai : ATA} {g : TG} {agt : ATG} {tt : TT} {at' : ATT} (hc : X.calm = true) (hN : X.N.Nodup) (hy : X.N[i]? = some y) (hyl : X.env.scope.names.lookup y = some .local)
    (hsw : swapsWith (.ListComp elt [⟨tg, iter, ifs, 0⟩] scope pos) (some (.Name y py)) spos.line X.env = pure true) (hi : JI X Fm tg iter wi ai) (ok : BlkOk X.N X.env.scope scope own)
    (hg : ∀ (s : Shared) (H : Hp) (Ca : Addr) (cl : List (Str × Addr)) (fp : List Addr), JG (X.blk s H scope (PySem.compEnvC scope cl Ca X.env) fp) Fm js tg g agt) (hjs : ∀ j ∈ js, j ∈ own.map (·.2))
    (ht : ∀ (s : Shared) (H : Hp) (Ca : Addr) (cl : List (Str × Addr)) (fp : List Addr), JTs (X.blk s H scope (PySem.compEnvC scope cl Ca X.env) fp) Fm ifs tt at')
    (he : ∀ (s : Shared) (H : Hp) (Ca : Addr) (cl : List (Str × Addr)) (fp : List Addr), JE (X.blk s H scope (PySem.compEnvC scope cl Ca X.env) fp) Fm elt te ae) (hs : ∀ x, foldedSetIterable iter X.env x = pure x := by intro _; rfl) :
    JS X Fm (.Assign [.Name y py] (.ListComp elt [⟨tg, iter, ifs, 0⟩] scope pos) spos) (tAsg (tLc wi g tt te (own.map (·.2))) (gName i)) (aAsg (aLc ai agt at' ae (own.map (·.2))) (gmN i)) :=
  ⟨ps_setLc hc hN hy hyl hsw hi.p ok (fun s H Ca cl fp => (hg s H Ca cl fp).p) (fun s H Ca cl fp => (ht s H Ca cl fp).p) (fun s H Ca cl fp => (he s H Ca cl fp).p) hs,
    snd_asg (snd_lc hi.s (hg X.s_0 X.H_0 0 [] []).s hjs (ht X.s_0 X.H_0 0 [] []).s (he X.s_0 X.H_0 0 [] []).s) (snd_gName i)⟩
theorem js_for {js : List Nat} {wi : TI} {ai : ATA} {g : TG} {agt : ATG} (hc : X.calm = true) (hi : JI X Fm tg iter wi ai) (hg : JG X Fm js tg g agt) (hb : JSs X Fm body ts as) (hp : PassesOwn (model X.prog X.w) X.A X.env X.xe) (hs : ∀ x, foldedSetIterable iter X.env x = pure x := by intro _; rfl) :
    JS X Fm (.For tg iter body [] pos) (tFor wi g ts) (aFor ai agt as) := ⟨ps_for hp hc hi.p hg.p hb.p hs, snd_for hi.s hg.s hb.s⟩
theorem js_while {tt : TT} {at' : ATT} (h : JT X Fm c tt at') (hb : JSs X Fm body ts as) (hp : PassesOwn (model X.prog X.w) X.A X.env X.xe) : JS X Fm (.While c body [] pos) (tWhile tt ts) (aWhile at' as) := ⟨ps_while hp h.p hb.p, snd_while h.s hb.s⟩
theorem je_app (ho : JE X Fm o to ao) (he : JE X Fm e te ae) (hsx : starEach [e] X.env = [(false, eval e X.env)] := by rfl) (hbase : attributeBase o "append" X.env (eval o X.env) = eval o X.env := by rfl)
    (hfew : ((backTo pos (starEach [e] X.env)).all (fun x => !x.1) && (backToKw pos (keywordEach [] X.env)).all (fun x => x.1.isSome) && decide ([e].length + ([] : List Keyword).length + (if ([] : List Keyword).isEmpty then 0 else 1) < 30)) = true := by rfl)
    (hline : (apos.endLine == pos.line) = true := by rfl) (hplain : (backTo pos (starEach [] X.env)).any (·.1) = false := by rfl) :
    JE X Fm (.Call (.Attribute o "append" apos) [e] [] pos) (tBM X.K "list" rAppend to (tCons te tNil)) (aApp ao ae) :=
  ⟨pe_bm PySem.F.plainAttrs_list PySem.F.slot_list_append PySem.F.type_list_append mt_append ho.p (pa_cons he.p pa_nil hsx) hbase hfew hline hsx hplain, snd_app ho.s he.s⟩
theorem je_ext (ho : JE X Fm o to ao) (he : JE X Fm e te ae) (hsx : starEach [e] X.env = [(false, eval e X.env)] := by rfl) (hbase : attributeBase o "extend" X.env (eval o X.env) = eval o X.env := by rfl)
    (hfew : ((backTo pos (starEach [e] X.env)).all (fun x => !x.1) && (backToKw pos (keywordEach [] X.env)).all (fun x => x.1.isSome) && decide ([e].length + ([] : List Keyword).length + (if ([] : List Keyword).isEmpty then 0 else 1) < 30)) = true := by rfl)
    (hline : (apos.endLine == pos.line) = true := by rfl) (hplain : (backTo pos (starEach [] X.env)).any (·.1) = false := by rfl) :
    JE X Fm (.Call (.Attribute o "extend" apos) [e] [] pos) (tBM X.K "list" rExtend to (tCons te tNil)) (aExt ao ae) :=
  ⟨pe_bm PySem.F.plainAttrs_list PySem.F.slot_list_extend PySem.F.type_list_extend mt_extend ho.p (pa_cons he.p pa_nil hsx) hbase hfew hline hsx hplain, snd_ext ho.s he.s⟩
/-- operations on a cell -/
theorem je_opL {op : Operator} {r : R2} {g : D → D → (D → Prop) → Prop} (ho : JO X (binaryOp op) r g) (ha : JE X Fm a ta aa) (hb : JE X Fm b tb ab) : JE X Fm (.BinOp a op b pos) (tOp r ta tb) (aOpL g aa ab) := ⟨pe_op ho.p ha.p hb.p, snd_opL ho.s ha.s hb.s⟩
theorem je_cmpL {op : CmpOp} {r : R2} {g : D → D → (D → Prop) → Prop} (ho : JO X (compareOp op) r g) (ha : JE X Fm a ta aa) (hb : JE X Fm b tb ab) (hm : behindInMarks op b = false := by rfl) : JE X Fm (.Compare a [op] [b] pos) (tOp r ta tb) (aOpL g aa ab) :=
  ⟨pe_cmpR ho.p ha.p hb.p hm, snd_opL ho.s ha.s hb.s⟩
theorem jt_cmpL {op : CmpOp} {r : R2} {g : D → D → (D → Prop) → Prop} (ho : JO X (compareOp op) r g) (ha : JE X Fm a ta aa) (hb : JE X Fm b tb ab) (hm : behindInMarks op b = false := by rfl) : JT X Fm (.Compare a [op] [b] pos) (tTest (tOp r ta tb)) (aB (aOpL g aa ab)) :=
  ⟨pt_cmpR ho.p ha.p hb.p hm, snd_test (snd_opL ho.s ha.s hb.s)⟩
theorem je_cmpR {op : CmpOp} {r : R2} {g : D → D → (D → Prop) → Prop} (ho : JO X (compareOp op) r g) (ha : JE X Fm a ta aa) (hb : JE X Fm b tb ab) (hm : behindInMarks op b = false := by rfl) : JE X Fm (.Compare a [op] [b] pos) (tOp r ta tb) (aOpR g aa ab) :=
  ⟨pe_cmpR ho.p ha.p hb.p hm, snd_opR ho.s ha.s hb.s⟩
theorem jt_cmpR {op : CmpOp} {r : R2} {g : D → D → (D → Prop) → Prop} (ho : JO X (compareOp op) r g) (ha : JE X Fm a ta aa) (hb : JE X Fm b tb ab) (hm : behindInMarks op b = false := by rfl) : JT X Fm (.Compare a [op] [b] pos) (tTest (tOp r ta tb)) (aB (aOpR g aa ab)) :=
  ⟨pt_cmpR ho.p ha.p hb.p hm, snd_test (snd_opR ho.s ha.s hb.s)⟩
theorem je_ixC (ha : JE X Fm a ta aa) (hb : JE X Fm b tb ab) (hs : PlainIx b := by intro _ _; rfl) : JE X Fm (.Subscript a b pos) (tOp (rIx X.K) ta tb) (aIxC aa ab) := ⟨pe_ix ix_seq ha.p hb.p hs, snd_ixC ha.s hb.s⟩
theorem je_callC {x : Str} {p : Pos} {id : String} {r : List V → Hp → VK → Prop} {f : List D → (D → Prop) → Prop} (hc : CallR X (.builtin id) r) (hs : SndRs X.K Any r f) (hm : X.mg x = none) (hv : bootBuiltins x = some (.builtin id)) (ha : JE X Fm e te ae) (hg : Gl X x := by rfl) (hn : x ≠ "__name__" := by decide) (hdb : (x == ("__debug__" : Str)) = false := by decide)
    (he : starEach [e] X.env = (false, eval e X.env) :: starEach [] X.env := by rfl) (hpl : (backTo pos (starEach [] X.env)).any (·.1) = false := by rfl) : JE X Fm (.Call (.Name x p) [e] [] pos) (tCB r (tCons te tNil)) (aCBc f ae) :=
  ⟨pe_callB hc hg hm hv (pa_cons ha.p pa_nil he) hn hdb he hpl, snd_CBc hs ha.s⟩
/-- the target x[i] -/
theorem jg_sub {o i : Expr} {to ti : TE} {ao ai : ATE} (ho : JE X Fm o to ao) (hi : JE X Fm i ti ai)
    (ha : ∀ v, assign (.Subscript o i pos) X.env v = (do
      let ov ← holding [v] (eval o X.env)
      let iv ← holding [v, ov] (eval i X.env)
      standAt pos
      holding [v, ov, iv] (setItem ov iv v)
      release [v, ov, iv] []) := by intro _; rfl) : JG X Fm [] (.Subscript o i pos) (gSub to ti rSetL) (gmSub ao ai) := ⟨pg_sub ho.p hi.p set_list ha, snd_gSub ho.s hi.s⟩
theorem js_par (i j : Nat) {px py pt : Pos} {kt k2 : Nat} {pt2 : Pos} {x y : Str} (hN : X.N.Nodup) (ha : JA X Fm [a, b] t ag) (hc : X.calm = true := by rfl) (hi : X.N[i]? = some x := by rfl) (hj : X.N[j]? = some y := by rfl) (hij : i ≠ j := by decide)
    (hx : X.env.scope.names.lookup x = some .local := by rfl) (hy : X.env.scope.names.lookup y = some .local := by rfl)
    (hw : swappedStores [.Tuple [.Name x px, .Name y py] kt pt] (.Tuple [a, b] k2 pt2) X.env = pure (some [x, y]) := by rfl)
    (hs : swapsWithSole [.Tuple [.Name x px, .Name y py] kt pt] (.Tuple [a, b] k2 pt2) pos.line X.env = pure false := by rfl) :
    JS X Fm (.Assign [.Tuple [.Name x px, .Name y py] kt pt] (.Tuple [a, b] k2 pt2) pos) (tPar i j t) (aPar i j ag) := ⟨ps_par hc hN hi hj hij hx hy ha.p hw hs, snd_par ha.s⟩
theorem jss_never : JSs X Fm sts tNever aNever := ⟨pss_never, snd_never⟩
end
end Bd
/-! BdB: a def by its name, and its calls. -/
namespace Bd
open PySem L2
theorem hu65 {k : Nat} {A : Around} (hr : Room k A) : A.units + 65 < cLine := by have := hr.un; omega
/-- a def of the text keeps Ab, by at most level k -/
structure Fnc (P : Program) (w : World) (K : PySem.W.Frag) (mg : Str → Option Value) (base : Heap) (x : Str) (k : Nat) (ps : List Str) (C : WC) (Ab : List D → (D → Prop) → Prop) : Prop where
  ex : ∃ fd, FnOk P w K mg base CX0 k (He.ga K x) fd ps (spOf K C Ab) ∧ Binds K fd ps [] ∧ ∀ n, n < ps.length → n = 0 → KBn K fd ps 0 ps (fun _ ws => ws) (fun _ zs => zs)
  m : mg x = some (.ref (He.ga K x))
  k : PySem.W.keepIn K (.ref (He.ga K x)) = true
section
variable {X : Cx} {Fm : Fr} {C C' : WC} {e : Expr} {es : List Expr} {pos p : Pos} {te : TE} {ae : ATE} {t tk : TA} {ag ak : ATA} {x : Str} {k j : Nat} {ps : List Str} {A : List D → (D → Prop) → Prop}
theorem je_fnc (F : Fnc X.prog X.w X.K X.mg X.base x k ps C' A) (hr : Room j X.A) (hk : k ≤ j) (hC : FC X.K Fm C') (ha : JA X Fm (e :: es) t ag) (hg : Gl X x := by rfl) (hdb : (x == ("__debug__" : Str)) = false := by decide) (he : starEach (e :: es) X.env = (false, eval e X.env) :: starEach es X.env := by rfl) (hpl : (backTo pos (starEach es X.env)).any (·.1) = false := by rfl) :
    JE X Fm (.Call (.Name x p) (e :: es) [] pos) (tCall (spOf X.K C' A) [] E0 t) (aCall A [] ag) := by
  obtain ⟨fd, F1, b, _⟩ := F.ex
  exact je_call F1 (hr.mono hk) F.m F.k b .nil (fun _ _ => .nil) hC ha hg hdb he hpl
theorem je_fnc0 (F : Fnc X.prog X.w X.K X.mg X.base x k ps C' A) (hr : Room j X.A) (hk : k ≤ j) (hC : FC X.K Fm C') (hg : Gl X x := by rfl) (hdb : (x == ("__debug__" : Str)) = false := by decide) :
    JE X Fm (.Call (.Name x p) [] [] pos) (tCall (spOf X.K C' A) [] E0 tNil) (aCall A [] aNil) := by
  obtain ⟨fd, F1, b, _⟩ := F.ex
  exact je_call0 F1 (hr.mono hk) F.m F.k b .nil (fun _ _ => .nil) hC hg hdb
/-! f(k = v), every parameter by its name -/
structure JK (X : Cx) (Fm : Fr) (kws : List Keyword) (t : TA) (a : ATA) : Prop where
  p : PK X kws t
  s : SndA X.K Fm t a
theorem jk_nil : JK X Fm [] tNil aNil := ⟨pk_nil, snd_nil⟩
theorem jk_cons {nm : Option Str} {kp : Pos} {kws : List Keyword} (h : JE X Fm e te ae) (h2 : JK X Fm kws t ag) : JK X Fm (⟨nm, e, kp⟩ :: kws) (tCons te t) (aCons ae ag) := ⟨pk_cons h.p h2.p, snd_cons h.s h2.s⟩
theorem je_fnk {kws : List Keyword} (F : Fnc X.prog X.w X.K X.mg X.base x k ps C' A) (hr : Room j X.A) (hk : k ≤ j) (hC : FC X.K Fm C') (h0 : 0 < ps.length) (hkw : JK X Fm kws tk ak) (hg : Gl X x := by rfl)
    (hall : (backToKw pos (keywordEach kws X.env)).all (·.1.isSome) = true := by rfl) (hks : (backToKw pos (keywordEach kws X.env)).filterMap (·.1) = ps := by rfl) (hdb : (x == ("__debug__" : Str)) = false := by decide)
    (hpl : ((backTo pos (starEach [] X.env)).any (·.1) || (backToKw pos (keywordEach kws X.env)).any (·.1.isNone)) = false := by rfl) :
    JE X Fm (.Call (.Name x p) [] kws pos) (tCallN 0 ps.length (spOf X.K C' A) (fun _ zs => zs) E0 tNil tk) (aCall A [] ak) := by
  obtain ⟨fd, F1, b, kb⟩ := F.ex
  have kb0 := kb 0 h0 rfl
  refine ⟨⟨fun pins s σ H Q I h => ?_⟩, ?_⟩
  · refine wpAny_Call_Name_kw (ld_glob I hg F.m ?_ hdb)
    refine PySem.W.callWith_KW0 (h₀ := X.base) I.ok.mod.kin F.k hall ?_ hpl
    refine thn (hkw.p.run pos pins s σ H _ I h) fun ws s2 ⟨zs, H2, I2, rz, l1, l2, q2⟩ => ⟨I2.kIn, ?_⟩
    rw [hks]
    exact run_fnN (us := []) (vs := []) F1 (hr.mono hk) kb0 pass0 I2 .nil rz rfl l2 q2
  · intro gs pv os σcs σ H Γ P Q r0 ha hq
    refine hkw.s gs pv os σcs σ H Γ _ _ r0 ha fun vs H1 ds os1 c1 r1 ra p1 => ⟨rfl, ?_, ?_⟩
    · exact F1.len vs H1 (fun v H' => ∃ d, Step (Fm.at pv os1) H1 H' ∧ R X.K (Fm.at pv os1) H' v d ∧ P d c1) (fun _ _ _ => False) ⟨Fm.at pv os1, ds, fun d => P d c1, hC _ _ _ _ r1.st, r1.st.inv, ra, by have p2 := p1; rw [List.append_nil] at p2; exact p2, fun v H' d s r p => ⟨d, s, r, p⟩⟩
    · exact ⟨Fm.at pv os1, ds, fun d => P d c1, hC _ _ _ _ r1.st, r1.st.inv, ra, by have p2 := p1; rw [List.append_nil] at p2; exact p2, fun v H' d s r p => hq v H' d os1 c1 ((r1.step s).gcons r) p⟩
end
structure FncS (P : Program) (w : World) (K : PySem.W.Frag) (mg : Str → Option Value) (base : Heap) (x : Str) (k : Nat) (ps : List Str) (C : WC) (Ab : List D → Cs → (D → Cs → Prop) → Prop) : Prop where
  ex : ∃ fd, FnOk P w K mg base CX0 k (He.ga K x) fd ps (spS K C Ab) ∧ Binds K fd ps []
  m : mg x = some (.ref (He.ga K x))
  k : PySem.W.keepIn K (.ref (He.ga K x)) = true
section
variable {X : Cx} {Fm : Fr} {C C' : WC} {e : Expr} {es : List Expr} {pos p : Pos} {te : TE} {ae : ATE} {t tk : TA} {ag ak : ATA} {x : Str} {k j : Nat} {ps : List Str} {A : List D → Cs → (D → Cs → Prop) → Prop}
theorem je_fns (F : FncS X.prog X.w X.K X.mg X.base x k ps C' A) (hr : Room j X.A) (hk : k ≤ j) (hC : FP X.K Fm C') (ha : JA X Fm (e :: es) t ag) (hg : Gl X x := by rfl) (hdb : (x == ("__debug__" : Str)) = false := by decide) (he : starEach (e :: es) X.env = (false, eval e X.env) :: starEach es X.env := by rfl) (hpl : (backTo pos (starEach es X.env)).any (·.1) = false := by rfl) :
    JE X Fm (.Call (.Name x p) (e :: es) [] pos) (tCall (spS X.K C' A) [] E0 t) (aCallS A [] ag) := by
  obtain ⟨fd, F1, b⟩ := F.ex
  exact ⟨pe_call F1 (hr.mono hk) hg F.m F.k b .nil pass0 ha.p hdb he hpl, snd_callS hC (fun _ _ => .nil) ha.s⟩
end
section
variable {P : Program} {w : World} {K : PySem.W.Frag} {mg : Str → Option Value} {base : Heap} {x : Str} {st : Stmt} {N ps : List Str} {k : Nat} {C : WC} {a : ATS}
theorem fnc_mk {Ab : List D → (D → Prop) → Prop}
    (hF : ∃ fd, FnS K x x st [] (He.ga K x) fd) (m : mg x = some (.ref (He.ga K x))) (S : FnScope N ps (defScope st))
    (hb : ∀ (kV doc pm : Value) (an : Option Addr) (cdv ct : Value) (us : List Value), us.length = ps.length → bindArgs (PySem.W.fnOf x x (defArgs st) (defBody st) (defScope st) .none kV doc pm an cdv ct) ⟨us, []⟩ = pure (ps.zip us))
    (hk : ∀ (kV doc pm : Value) (an : Option Addr) (cdv ct : Value) (us : List Value), us.length = ps.length → bindArgs (PySem.W.fnOf x x (defArgs st) (defBody st) (defScope st) .none kV doc pm an cdv ct) ⟨[], ps.zip us⟩ = pure (ps.zip us))
    (hlen : ∀ ds P, Ab ds P → ds.length = ps.length) (hA : ∀ ds P, Ab ds P → a { nx := fun _ _ => P .non, rt := fun d _ => P d } (startG N.length ds) [])
    (hJ : ∀ (Fm : Fr) (fd : FuncData) (cdv : Value) (A : Around) (outer : List Env) (s : Shared) (H : Hp) (E : XK), C Fm.w → Room k (A.deeper (PyProof.Rows.envOfC x (defScope st) s.heap.objs.size (He.ga K x) cdv)) → ∃ t, JSs (cxOf CX0 P w K mg base N x (defScope st) (He.ga K x) cdv A outer s H E).nox Fm (defBody st) t a) :
    Fnc P w K mg base x (k + 1) ps C Ab := by
  obtain ⟨fd, F⟩ := hF
  refine ⟨⟨fd, fn_rule F S hlen hA (fun Fm => hJ Fm fd), F.bindsN hb, fun n _ _ => ?_⟩, m, F.kp⟩
  obtain ⟨oc, od, dV, kV, doc, pm, an, cdv, ct, osl, rfl, lk, hcd, hD, hK⟩ := F.ex
  rcases hD with ⟨_, rfl⟩ | ⟨e, _⟩
  · exact ⟨fun s us ws X l1 l2 => by
      have : us = [] := List.length_eq_zero_iff.mp l1
      subst this
      exact .of_eq (hk kV doc pm an cdv ct ws l2), fun _ r => r⟩
  · exact absurd rfl e
theorem fns_mk {Ab : List D → Cs → (D → Cs → Prop) → Prop}
    (hF : ∃ fd, FnS K x x st [] (He.ga K x) fd) (m : mg x = some (.ref (He.ga K x))) (S : FnScope N ps (defScope st))
    (hb : ∀ (kV doc pm : Value) (an : Option Addr) (cdv ct : Value) (us : List Value), us.length = ps.length → bindArgs (PySem.W.fnOf x x (defArgs st) (defBody st) (defScope st) .none kV doc pm an cdv ct) ⟨us, []⟩ = pure (ps.zip us))
    (hlen : ∀ ds c P, Ab ds c P → ds.length = ps.length) (hA : ∀ ds c P, Ab ds c P → a { nx := fun _ c' => ∃ n, P .non (c'.drop n), rt := fun d c' => ∃ n, P d (c'.drop n) } (startG N.length ds) c)
    (hJ : ∀ (Fm : Fr) (fd : FuncData) (cdv : Value) (A : Around) (outer : List Env) (s : Shared) (H : Hp) (E : XK), C Fm.w → Room k (A.deeper (PyProof.Rows.envOfC x (defScope st) s.heap.objs.size (He.ga K x) cdv)) → ∃ t, JSs (cxOf CX0 P w K mg base N x (defScope st) (He.ga K x) cdv A outer s H E).nox Fm (defBody st) t a) :
    FncS P w K mg base x (k + 1) ps C Ab := by
  obtain ⟨fd, F⟩ := hF
  exact ⟨⟨fd, fn_ruleS F S hlen hA (fun Fm => hJ Fm fd), F.bindsN hb⟩, m, F.kp⟩
theorem fns_false {Ab : List D → Cs → (D → Cs → Prop) → Prop}
    (hF : ∃ fd, FnS K x x st [] (He.ga K x) fd) (m : mg x = some (.ref (He.ga K x)))
    (hb : ∀ (kV doc pm : Value) (an : Option Addr) (cdv ct : Value) (us : List Value), us.length = ps.length → bindArgs (PySem.W.fnOf x x (defArgs st) (defBody st) (defScope st) .none kV doc pm an cdv ct) ⟨us, []⟩ = pure (ps.zip us))
    (h : ∀ ds c P, ¬ Ab ds c P) : FncS P w K mg base x k ps C Ab := by
  obtain ⟨fd, F⟩ := hF
  exact ⟨⟨fd, ⟨fun vs H Q E ⟨_, _, _, _, _, _, _, _, ha, _⟩ => (h _ _ _ ha).elim, fun A outer s H args us vs Q E _ _ _ _ ⟨_, _, _, _, _, _, _, _, ha, _⟩ => (h _ _ _ ha).elim⟩, F.bindsN hb⟩, m, F.kp⟩
end
/-- a promise that nobody asks for -/
theorem fnc_none {P : Program} {w : World} {K : PySem.W.Frag} {mg : Str → Option Value} {base : Heap} {x : Str} {k j : Nat} {ps : List Str} {C C' : WC} {Ab Ab' : List D → (D → Prop) → Prop} (F : Fnc P w K mg base x j ps C' Ab') (h : ∀ ds P, ¬ Ab ds P) : Fnc P w K mg base x k ps C Ab := by
  obtain ⟨fd, F1, b, kb⟩ := F.ex
  exact ⟨⟨fd, ⟨fun vs H Q E ⟨_, _, _, _, _, _, ha, _⟩ => (h _ _ ha).elim, fun A outer s H args us vs Q E _ _ _ _ ⟨_, _, _, _, _, _, ha, _⟩ => (h _ _ ha).elim⟩, b, kb⟩, F.m, F.k⟩
theorem Fnc.mono {P : Program} {w : World} {K : PySem.W.Frag} {mg : Str → Option Value} {base : Heap} {x : Str} {k j : Nat} {ps : List Str} {C : WC} {Ab : List D → (D → Prop) → Prop} (F : Fnc P w K mg base x j ps C Ab) (h : j ≤ k) : Fnc P w K mg base x k ps C Ab := by
  obtain ⟨fd, F1, b, kb⟩ := F.ex
  exact ⟨⟨fd, F1.mono h, b, kb⟩, F.m, F.k⟩
end Bd
namespace Bd
open PySem L2
/-- nothing is promised -/
theorem fnc_false {P : Program} {w : World} {K : PySem.W.Frag} {mg : Str → Option Value} {base : Heap} {x : Str} {st : Stmt} {ps : List Str} {k : Nat} {C : WC}
    (hF : ∃ fd, FnS K x x st [] (He.ga K x) fd) (m : mg x = some (.ref (He.ga K x)))
    (hb : ∀ (kV doc pm : Value) (an : Option Addr) (cdv ct : Value) (us : List Value), us.length = ps.length → bindArgs (PySem.W.fnOf x x (defArgs st) (defBody st) (defScope st) .none kV doc pm an cdv ct) ⟨us, []⟩ = pure (ps.zip us))
    (hk : ∀ (kV doc pm : Value) (an : Option Addr) (cdv ct : Value) (us : List Value), us.length = ps.length → bindArgs (PySem.W.fnOf x x (defArgs st) (defBody st) (defScope st) .none kV doc pm an cdv ct) ⟨[], ps.zip us⟩ = pure (ps.zip us)) {Ab : List D → (D → Prop) → Prop} (h : ∀ ds P, ¬ Ab ds P) :
    Fnc P w K mg base x k ps C Ab := by
  obtain ⟨fd, F⟩ := hF
  refine ⟨⟨fd, ⟨fun vs H Q E ⟨_, _, _, _, _, _, ha, _⟩ => (h _ _ ha).elim, fun A outer s H args us vs Q E _ _ _ _ ⟨_, _, _, _, _, _, ha, _⟩ => (h _ _ ha).elim⟩, F.bindsN hb, fun n _ _ => ?_⟩, m, F.kp⟩
  obtain ⟨oc, od, dV, kV, doc, pm, an, cdv, ct, osl, rfl, lk, hcd, hD, hK⟩ := F.ex
  rcases hD with ⟨_, rfl⟩ | ⟨e, _⟩
  · exact ⟨fun s us ws X l1 l2 => by
      have : us = [] := List.length_eq_zero_iff.mp l1
      subst this
      exact .of_eq (hk kV doc pm an cdv ct ws l2), fun _ r => r⟩
  · exact absurd rfl e
end Bd
/-! BdG: the laws' bag of numbers: what is drawn is some number below the bound, no more is told. -/
namespace Bd
open PySem L2
def BagAt (b c : Addr) (H : Hp) : Prop := ∃ (ns : List Int) (i g s : Int), H b = some (.lst [.ref c, .int i, .int g, .int s]) ∧ H c = some (.lst (ns.map V.int)) ∧ 0 ≤ i ∧ 0 ≤ g ∧ 0 ≤ s ∧ s < 4294967296 ∧ ns.length ≤ 63
def BagW (w : Wd) : Prop := ∃ b c, w.hd 0 = some b ∧ b ∈ w.ms ∧ c ∈ w.ms ∧ b ≠ c ∧ (∀ H, w.I H → BagAt b c H) ∧ ∀ H H', w.I H → (∀ a, a ∈ w.ms → a ≠ b → H' a = H a) → BagAt b c H' → w.I H'
theorem bag_cl : Cl BagW := by
  rintro w os ⟨b, c, h1, h2, h3, h4, h5, h6⟩ hd
  refine ⟨b, c, h1, List.mem_append_right _ h2, List.mem_append_right _ h3, h4, fun H h => h5 H h.1, fun H H' h k hb => ⟨h6 H H' h.1 (fun a ha hn => k a (List.mem_append_right _ ha) hn) hb, fun p hp => ?_⟩⟩
  exact (k p.1 (List.mem_append_left _ (List.mem_map_of_mem hp)) fun z => hd p hp (z ▸ h2)).trans (h.2 p hp)
def A_l_pull (ds : List D) (P : D → Prop) : Prop := ∃ m : Int, ds = [.hdl 0, .int m] ∧ 0 < m ∧ m.natAbs.log2 < 9000 ∧ ∀ k : Int, 0 ≤ k → k < m → P (.int k)
/-- the bag's world with another bag -/
theorem bag_step {w : Wd} {b c : Addr} {H H' : Hp} (hm : b ∈ w.ms) (h6 : ∀ H H', w.I H → (∀ a, a ∈ w.ms → a ≠ b → H' a = H a) → BagAt b c H' → w.I H') (hI : w.I H) (k : ∀ a, a ≠ b → H' a = H a) (hb : BagAt b c H') : Step w H H' := by
  refine ⟨fun a o e => ?_, h6 H H' hI (fun a _ hn => k a hn) hb⟩
  obtain ⟨h1, h2⟩ := vis_some e
  exact vis_of h1 ((k a fun z => h1 (z ▸ hm)).trans h2)
section
variable {P : Program} {w : World} {K : PySem.W.Frag} {mg : Str → Option Value} {base : Heap}
abbrev pIx (K : PySem.W.Frag) (i : Int) : TE := tOp (rIxL K) (tVar 0) (tC (.int i))
abbrev pP : R2 := rI0 fun i j => .int (i + j)
abbrev pT : R2 := rI CMul fun i j => .int (i * j)
abbrev pM : R2 := rI (fun _ j => j ≠ 0) fun i j => .int (i.fmod j)
abbrev pI (t : TE) : TE := tCB (fun xs H Q => (∃ i, xs = [.int i] ∧ Q (.int i) H) ∨ ∃ k, xs = [.bl k] ∧ Q (.int (if k then 1 else 0)) H) (tCons t tNil)
abbrev pSt (i : Int) (t : TE) : TS := tAsg t (gSub (tVar 0) (tC (.int i)) rSetL)
/-- what _law_pull's body does: the cell, the great cell's digit, the mixed number -/
def t_pull1 (K : PySem.W.Frag) : TS := tIfS (tAnd (tTest (tOp rEq (pIx K 2) (tC (.int 0)))) (tTest (tOp (rI0 fun i j => .bl (decide (i < j))) (pIx K 1) (tCB (fun xs H Q => ∃ p ys, xs = [.ref p] ∧ (SqL K H p ys ∨ SqT K H p ys) ∧ Q (.int ys.length) H) (tCons (pIx K 0) tNil)))))
    (tSeq (tAsg (tOp (rIxL K) (pIx K 0) (pIx K 1)) (gName 2))
    (tSeq (pSt 1 (tOp pP (pIx K 1) (tC (.int 1))))
    (tIfS (tTest (tOp (rI0 fun i j => .bl (decide (j ≤ i))) (tVar 2) (tOp (rI CPow fun i j => .int (i ^ j.toNat)) (tC (.int 10)) (tC (.int 18)))))
      (pSt 2 (tVar 2))
      (pSt 3 (tOp pM (pI (tOp pP (tOp pP (tOp pT (pIx K 3) (tC (.int 48611))) (tOp pT (tOp pM (pI (tVar 2)) (tC (.int 2147483399))) (tC (.int 7577)))) (tC (.int 29)))) (tC (.int 2147483563))))))) tNext
def t_pull3 (K : PySem.W.Frag) : TS := tRet (tOp pM (pI (tOp pP (tOp (rI CDivN fun i j => .int (i.fdiv j)) (pIx K 3) (tC (.int 53))) (tOp pT (tOp pM (pI (pIx K 3)) (tC (.int 8117))) (tC (.int 41))))) (tVar 1))
def t_pull2 (K : PySem.W.Frag) : TS :=
  tSeq (tIfS (tTest (tOp (rI0 fun i j => .bl (decide (j < i))) (pIx K 2) (tC (.int 0))))
    (tSeq (tAsg (tOp pM (pI (pIx K 2)) (tVar 1)) (gName 3))
    (tSeq (pSt 2 (tOp rDivG (pIx K 2) (tVar 1)))
    (tRet (tVar 3)))) tNext)
  (tSeq (pSt 3 (tOp pM (pI (tOp pP (tOp pP (tOp pT (pIx K 3) (pIx K 3)) (tOp pT (pIx K 3) (tC (.int 30011)))) (tC (.int 1400321)))) (tC (.int 2147483563))))
  (t_pull3 K))
theorem fmod_b {x m : Int} (h : 0 < m) : 0 ≤ x.fmod m ∧ x.fmod m < m := ⟨Int.fmod_nonneg_of_pos x h, Int.fmod_lt_of_pos x h⟩
theorem pull_tail {b c : Addr} {H : Hp} {ns : List Int} {i g s m : Int} (hb : H b = some (.lst [.ref c, .int i, .int g, .int s])) (hc : H c = some (.lst (ns.map V.int))) (hbc : b ≠ c) (h0 : 0 ≤ i) (h1 : 0 ≤ g) (h2 : 0 ≤ s) (h3 : s < 4294967296) (h4 : ns.length ≤ 63)
    (hm : 0 < m) (hl : m.natAbs.log2 < 9000) {D' : Ends} {v2 v3 : Option V} (k : ∀ (x : Int) (H' : Hp), 0 ≤ x → x < m → (∀ a, a ≠ b → H' a = H a) → BagAt b c H' → D'.rt (.int x) H') : t_pull2 K D' [some (.ref b), some (.int m), v2, v3] H := by
  have up : ∀ (xs : List V) (H1 : Hp), (∀ a, a ≠ b → H1 a = H a) → ∀ a, a ≠ b → (upd H1 b (.lst xs)) a = H a := fun xs H1 e a ha => by rw [upd_ne ha]; exact e a ha
  refine ⟨_, rfl, b, _, _, _, rfl, rfl, SqL.of hb, rfl, _, _, rfl, rfl, _, rfl, ?_⟩
  refine ite2 (fun hg => ?_) (fun hg => ?_)
  · have hg' : (0 : Int) < g := of_decide_eq_true hg
    refine ⟨_, rfl, b, _, _, _, rfl, rfl, SqL.of hb, rfl, .inl ⟨_, rfl, ?_⟩⟩
    refine ⟨_, rfl, _, _, rfl, rfl, by omega, ?_⟩
    refine ⟨_, rfl, b, _, _, _, rfl, rfl, SqL.of hb, rfl, _, rfl, .inr ⟨_, _, rfl, rfl, ⟨hm, hl⟩, ?_⟩⟩
    refine ⟨_, rfl, b, _, _, 2, rfl, rfl, hb, rfl, _, rfl, ?_⟩
    obtain ⟨f1, f2⟩ := fmod_b (x := g) hm
    refine k _ _ f1 f2 (fun a ha => upd_ne ha) ⟨ns, i, g / m, s, upd_same, by rw [upd_ne hbc.symm]; exact hc, h0, Int.ediv_nonneg h1 (by omega), h2, h3, h4⟩
  · refine ⟨_, rfl, b, _, _, _, rfl, rfl, SqL.of hb, rfl, _, rfl, b, _, _, _, rfl, rfl, SqL.of hb, rfl, _, _, rfl, rfl, .inl (by omega), ?_⟩
    refine ⟨_, rfl, b, _, _, _, rfl, rfl, SqL.of hb, rfl, _, _, rfl, rfl, .inl (by omega), ?_⟩
    refine ⟨_, _, rfl, rfl, _, _, rfl, rfl, .inl ⟨_, rfl, _, _, rfl, rfl, (by show (2147483563 : Int) ≠ 0; decide), ?_⟩⟩
    obtain ⟨f1, f2⟩ := fmod_b (x := s * s + s * 30011 + 1400321) (show (0 : Int) < 2147483563 by decide)
    refine ⟨_, rfl, b, _, _, 3, rfl, rfl, hb, rfl, ?_⟩
    have key : ∀ z : Int, 0 ≤ z → z < 2147483563 → t_pull3 K D' [some (.ref b), some (.int m), v2, v3] (upd H b (.lst [.ref c, .int i, .int g, .int z])) := fun z z1 z2 => by
      have hb2 : (upd H b (.lst [.ref c, .int i, .int g, .int z])) b = some (.lst [.ref c, .int i, .int g, .int z]) := upd_same
      refine ⟨_, rfl, b, _, _, _, rfl, rfl, SqL.of hb2, rfl, _, _, rfl, rfl, ⟨(by show (53 : Int) ≠ 0; decide), (by show (53 : Int).natAbs < 1073741824; decide)⟩, ?_⟩
      refine ⟨_, rfl, b, _, _, _, rfl, rfl, SqL.of hb2, rfl, .inl ⟨_, rfl, _, _, rfl, rfl, (by show (8117 : Int) ≠ 0; decide), ?_⟩⟩
      refine ⟨_, _, rfl, rfl, .inr ⟨(by show -(2 ^ 64) < (41 : Int); decide), (by show (41 : Int) < 2 ^ 64; decide)⟩, _, _, rfl, rfl, .inl ⟨_, rfl, _, rfl, _, _, rfl, rfl, (by show m ≠ 0; omega), ?_⟩⟩
      obtain ⟨e1, e2⟩ := fmod_b (x := z.fdiv 53 + z.fmod 8117 * 41) hm
      exact k _ _ e1 e2 (fun a ha => upd_ne ha) ⟨ns, i, g, z, upd_same, by rw [upd_ne hbc.symm]; exact hc, h0, h1, z1, by omega, h4⟩
    exact key _ f1 f2
theorem pull_all {b c : Addr} {H : Hp} {m : Int} (hB : BagAt b c H) (hbc : b ≠ c) (hm : 0 < m) (hl : m.natAbs.log2 < 9000) {D' : Ends} (k : ∀ (x : Int) (H' : Hp), 0 ≤ x → x < m → (∀ a, a ≠ b → H' a = H a) → BagAt b c H' → D'.rt (.int x) H') :
    tSeq (t_pull1 K) (t_pull2 K) D' [some (.ref b), some (.int m), none, none] H := by
  obtain ⟨ns, i, g, s, hb, hc, h0, h1, h2, h3, h4⟩ := hB
  have done : ∀ {H1 : Hp} {v2 : Option V}, BagAt b c H1 → (∀ a, a ≠ b → H1 a = H a) → t_pull2 K D' [some (.ref b), some (.int m), v2, none] H1 := fun {H1 v2} hB e => by
    obtain ⟨ns, i, g, s, hb, hc, h0, h1, h2, h3, h4⟩ := hB
    exact pull_tail hb hc hbc h0 h1 h2 h3 h4 hm hl fun x H' a1 a2 a3 a4 => k x H' a1 a2 (fun a ha => (a3 a ha).trans (e a ha)) a4
  refine ⟨_, rfl, b, _, _, _, rfl, rfl, SqL.of hb, rfl, rfl, _, rfl, ?_⟩
  refine ite2 (fun hg => ?_) (fun hg => ?_)
  · refine ⟨_, rfl, b, _, _, _, rfl, rfl, SqL.of hb, rfl, _, rfl, b, _, _, _, rfl, rfl, SqL.of hb, rfl, c, _, rfl, .inl (SqL.of hc), _, _, rfl, rfl, _, rfl, ?_⟩
    refine ite2 (fun hi => ?_) (fun hi => ?_)
    · have hi' : i < ((ns.map V.int).length : Int) := of_decide_eq_true hi
      rw [List.length_map] at hi'
      have hn : i.toNat < ns.length := by omega
      have hat : atI (ns.map V.int) i = some (V.int ns[i.toNat]) := by
        refine at_of (j := i.toNat) (by omega) ?_
        rw [List.getElem?_map, List.getElem?_eq_getElem hn]
        rfl
      refine ⟨_, rfl, b, _, _, _, rfl, rfl, SqL.of hb, rfl, _, rfl, b, _, _, _, rfl, rfl, SqL.of hb, rfl, c, _, i, _, rfl, rfl, SqL.of hc, hat, ?_⟩
      generalize ns[i.toNat] = z
      refine ⟨_, rfl, b, _, _, _, rfl, rfl, SqL.of hb, rfl, _, _, rfl, rfl, ?_⟩
      refine ⟨_, rfl, b, _, _, 1, rfl, rfl, hb, rfl, ?_⟩
      have hb2 : (upd H b (.lst [.ref c, .int (i + 1), .int g, .int s])) b = some (.lst [.ref c, .int (i + 1), .int g, .int s]) := upd_same
      refine ⟨_, rfl, _, _, rfl, rfl, ⟨by decide, by decide, by decide⟩, _, _, rfl, rfl, _, rfl, ?_⟩
      refine ite2 (fun hz => ?_) (fun hz => ?_)
      · have hz' : (10 : Int) ^ 18 ≤ z := of_decide_eq_true hz
        refine ⟨_, rfl, _, rfl, b, _, _, 2, rfl, rfl, hb2, rfl, ?_⟩
        refine done ⟨ns, i + 1, z, s, upd_same, ?_, by omega, by omega, h2, h3, h4⟩ fun a ha => ?_
        · rw [upd_ne hbc.symm, upd_ne hbc.symm]; exact hc
        · rw [upd_ne ha, upd_ne ha]
      · obtain ⟨f1, f2⟩ := fmod_b (x := z) (show (0 : Int) < 2147483399 by decide)
        refine ⟨_, rfl, b, _, _, _, rfl, rfl, SqL.of hb2, rfl, _, _, rfl, rfl, .inl (by omega), ?_⟩
        refine ⟨_, rfl, .inl ⟨_, rfl, _, _, rfl, rfl, (by show (2147483399 : Int) ≠ 0; decide), ?_⟩⟩
        refine ⟨_, _, rfl, rfl, .inr ⟨(by show -(2 ^ 64) < (7577 : Int); decide), (by show (7577 : Int) < 2 ^ 64; decide)⟩, _, _, rfl, rfl, _, _, rfl, rfl, .inl ⟨_, rfl, _, _, rfl, rfl, (by show (2147483563 : Int) ≠ 0; decide), ?_⟩⟩
        obtain ⟨g1, g2⟩ := fmod_b (x := s * 48611 + z.fmod 2147483399 * 7577 + 29) (show (0 : Int) < 2147483563 by decide)
        refine ⟨_, rfl, b, _, _, 3, rfl, rfl, hb2, rfl, ?_⟩
        refine done ⟨ns, i + 1, g, _, upd_same, ?_, by omega, h1, g1, by omega, h4⟩ fun a ha => ?_
        · rw [upd_ne hbc.symm, upd_ne hbc.symm]; exact hc
        · rw [upd_ne ha, upd_ne ha]
    · exact done ⟨ns, i, g, s, hb, hc, h0, h1, h2, h3, h4⟩ fun _ _ => rfl
  · exact done ⟨ns, i, g, s, hb, hc, h0, h1, h2, h3, h4⟩ fun _ _ => rfl
/-- _law_pull -/
theorem fnc_pull {x : Str} {st : Stmt} {N : List Str} {ps : List Str} {k : Nat} (hF : ∃ fd, FnS K x x st [] (He.ga K x) fd) (m : mg x = some (.ref (He.ga K x))) (S : FnScope N ps (defScope st)) (hN : N.length = 4) (hps : ps.length = 2)
    (hb : ∀ (kV doc pm : Value) (an : Option Addr) (cdv ct : Value) (us : List Value), us.length = ps.length → bindArgs (PySem.W.fnOf x x (defArgs st) (defBody st) (defScope st) .none kV doc pm an cdv ct) ⟨us, []⟩ = pure (ps.zip us))
    (hk : ∀ (kV doc pm : Value) (an : Option Addr) (cdv ct : Value) (us : List Value), us.length = ps.length → bindArgs (PySem.W.fnOf x x (defArgs st) (defBody st) (defScope st) .none kV doc pm an cdv ct) ⟨[], ps.zip us⟩ = pure (ps.zip us))
    (hJ : ∀ (fd : FuncData) (cdv : Value) (A : Around) (outer : List Env) (s : Shared) (H : Hp) (E : XK), Room k (A.deeper (PyProof.Rows.envOfC x (defScope st) s.heap.objs.size (He.ga K x) cdv)) →
      PSs (cxOf CX0 P w K mg base N x (defScope st) (He.ga K x) cdv A outer s H E).nox (defBody st) (tSeq (t_pull1 K) (t_pull2 K))) : Fnc P w K mg base x (k + 1) ps BagW A_l_pull := by
  have z : ∀ {k : Nat}, Fnc P w K mg base x k ps BagW (fun _ _ => False) := fnc_false hF m hb hk fun _ _ h => h
  obtain ⟨⟨fd0, _, b0, kb0⟩, _, k0⟩ := z (k := 0)
  obtain ⟨fd, F⟩ := hF
  refine ⟨⟨fd, ?_, F.bindsN hb, ?_⟩, m, F.kp⟩
  · refine FunD.ok F S (fun vs H Q E h => ?_) (fun cdv A outer s H vs Q E hr h => ?_)
    · obtain ⟨_, ds, _, _, _, r, ⟨m, rfl, _⟩, _⟩ := h
      rw [r.length, hps]
      rfl
    · obtain ⟨wd, ds, P', ⟨b, c, h1, h2, h3, h4, h5, h6⟩, hI, r, ⟨m, rfl, hm, hl, hP⟩, hq⟩ := h
      refine ⟨_, PSs.nox (hJ fd cdv A outer s H E hr), ?_⟩
      cases r with
      | cons r1 r2 =>
        cases r2 with
        | cons r2 r3 =>
          cases r3
          cases r2
          cases r1 with
          | hdl e =>
            rw [h1] at e
            cases e
            have e4 : L2.start N [.ref b, .int m] = [some (.ref b), some (.int m), none, none] := by
              unfold L2.start
              rw [hN]
              rfl
            rw [e4]
            exact pull_all (h5 H hI) h4 hm hl fun x H' a1 a2 a3 a4 => hq _ _ _ (bag_step h2 h6 hI a3 a4) (.int x) (hP x a1 a2)
  · intro n _ _
    obtain ⟨oc, od, dV, kV, doc, pm, an, cdv, ct, osl, rfl, lk, hcd, hD, hK⟩ := F.ex
    rcases hD with ⟨_, rfl⟩ | ⟨e, _⟩
    · exact ⟨fun s us ws X l1 l2 => by
        have : us = [] := List.length_eq_zero_iff.mp l1
        subst this
        exact .of_eq (hk kV doc pm an cdv ct ws l2), fun _ r => r⟩
    · exact absurd rfl e
/-- _law_bag -/
def spBag (K : PySem.W.Frag) : Sp := fun vs H Q _ => ∃ (a : Addr) (ns : List Int), vs = [.ref a] ∧ SqL K H a (ns.map V.int) ∧ ns.length ≤ 63 ∧ ∀ b c H', Ext H H' → H b = none → H c = none → b ≠ c → BagAt b c H' → Q (.ref b) H'
def t_bag (K : PySem.W.Frag) : TS := tRet (tLst (tCons (tCB (fun xs H Q => ∃ p ys, xs = [.ref p] ∧ (SqL K H p ys ∨ SqT K H p ys) ∧ ∀ l, H l = none → Q (.ref l) (upd H l (.lst ys))) (tCons (tSl (rSlL K) (tVar 0) tNoPart (tPart (tC (.int 63)))) tNil))
  (tCons (tC (.int 0)) (tCons (tC (.int 0)) (tCons (tOp pP (tC (.int 57460)) (tCB (fun xs H Q => ∃ p ys, xs = [.ref p] ∧ (SqL K H p ys ∨ SqT K H p ys) ∧ Q (.int ys.length) H) (tCons (tVar 0) tNil))) tNil)))))
theorem ext_new {H : Hp} {p : Addr} {o : HO} (h : H p = none) : Ext H (upd H p o) := fun a u e => by
  rw [upd_ne (ne_of_none e h)]
  exact e
theorem cutV_int (ns : List Int) (lo hi : Option Int) : ∃ ms : List Int, cutV (ns.map V.int) lo hi = ms.map V.int ∧ ms.length ≤ ns.length := by
  unfold cutV
  rw [← List.map_drop, ← List.map_take]
  exact ⟨_, rfl, by rw [List.length_take, List.length_drop]; omega⟩
theorem bag_all (vs : List V) (H : Hp) (Q : VK) (E : XK) (h : spBag K vs H Q E) : t_bag K { nx := fun _ H' => Q .non H', rt := Q } (L2.start ["x"] vs) H := by
  obtain ⟨a, ns, rfl, hS, hl, k⟩ := h
  obtain ⟨ms, e, hm⟩ := cutV_int ns none (some 63)
  refine ⟨_, rfl, _, rfl, _, _, rfl, hS, fun p hp => ?_⟩
  rw [e]
  refine ⟨p, _, rfl, .inl (SqL.of upd_same), fun c hc => ?_⟩
  have hcp : c ≠ p := fun z => by rw [z, upd_same] at hc; cases hc
  have e1 : Ext H (upd H p (.lst (ms.map V.int))) := ext_new hp
  have e2 : Ext H (upd (upd H p (.lst (ms.map V.int))) c (.lst (ms.map V.int))) := e1.tr (ext_new hc)
  refine ⟨_, rfl, a, _, rfl, .inl (sqL_mono e2 hS), _, _, rfl, rfl, ?_⟩
  refine ⟨(by show 4 ≤ sizeLine; decide), fun b hb => ?_⟩
  have hbc : b ≠ c := fun z => by rw [z, upd_same] at hb; cases hb
  have hb0 : H b = none := by
    cases q : H b with
    | none => rfl
    | some o => rw [e2 b o q] at hb; cases hb
  have hc0 : H c = none := by
    cases q : H c with
    | none => rfl
    | some o => rw [e1 c o q] at hc; cases hc
  refine k b c _ (e2.tr (ext_new hb)) hb0 hc0 hbc ⟨ms, 0, 0, 57460 + ((ns.map V.int).length : Int), upd_same, by rw [upd_ne hbc.symm, upd_same], by omega, by omega, by omega, ?_, by omega⟩
  rw [List.length_map]
  omega
/-- the law's own promise -/
def spLaw (K : PySem.W.Frag) : Sp := fun vs H Q _ => ∃ (a : Addr) (ns : List Int), vs = [.ref a] ∧ SqL K H a (ns.map V.int) ∧ ns.length ≤ 63 ∧ ∀ H', Q (.bl true) H'
def bagWd (b c : Addr) : Wd where
  ms := [b, c]
  hd := fun n => if n = 0 then some b else none
  I := fun H => BagAt b c H
  loc := fun H H' k h => by
    obtain ⟨ns, i, g, s, h1, h2, h3⟩ := h
    exact ⟨ns, i, g, s, (k b (by simp)).trans h1, (k c (by simp)).trans h2, h3⟩
  live := fun H h a ha => by
    obtain ⟨ns, i, g, s, h1, h2, h3⟩ := h
    rcases List.mem_cons.mp ha with e | ha
    · rw [e]; exact ⟨_, h1⟩
    · rw [List.mem_singleton.mp ha]; exact ⟨_, h2⟩
theorem bagWd_ok {b c : Addr} (h : b ≠ c) : BagW (bagWd b c) := ⟨b, c, rfl, by simp [bagWd], by simp [bagWd], h, fun H h => h, fun H H' _ _ h => h⟩
/-- a law: _law_bag_here = _law_bag(_law_script), then the rest over data -/
theorem law_mk {x : Str} {st st1 : Stmt} {rest : List Stmt} {N : List Str} {k : Nat} {fd : FuncData} {y z : Str} {N' : List Str} {a : ATS} {f : Addr} (F : FnS K x x st [] f fd) (S : FnScope N [y] (defScope st)) (hN : N = y :: z :: N') (hB : defBody st = st1 :: rest)
    (hJ : ∀ (Fm : Fr) (cdv : Value) (A : Around) (outer : List Env) (s : Shared) (H : Hp) (E : XK), BagW Fm.w → Room k (A.deeper (PyProof.Rows.envOfC x (defScope st) s.heap.objs.size f cdv)) → PS (cxOf CX0 P w K mg base N x (defScope st) f cdv A outer s H E).nox st1 (tAsg (tCall (spBag K) [] E0 (tCons (tVar 0) tNil)) (gName 1)) ∧
      ∃ t, JSs (cxOf CX0 P w K mg base N x (defScope st) f cdv A outer s H E).nox Fm rest t a)
    (hA : a { nx := fun _ _ => False, rt := fun d _ => d = .bl true } (none :: some (.hdl 0) :: List.replicate N'.length none) []) : FnOk P w K mg base CX0 (k + 1) f fd [y] (spLaw K) := by
  refine FunD.ok F S (fun vs H Q E h => ?_) (fun cdv A outer s H vs Q E hr h => ?_)
  · obtain ⟨a, ns, rfl, _⟩ := h
    rfl
  · obtain ⟨ad, ns, rfl, hS, hl, kq⟩ := h
    -- what the text says does not hang on the frame: the readings are taken for the frame of each bag
    obtain ⟨j1, _⟩ := hJ ⟨bagWd 0 1, [], H⟩ cdv A outer s H E (bagWd_ok (by decide)) hr
    rw [hB]
    refine ⟨tSeq (tAsg (tCall (spBag K) [] E0 (tCons (tVar 0) tNil)) (gName 1)) (fun D' σ H' => ∃ (b c : Addr) (h : b ≠ c), (hJ ⟨bagWd b c, [], H'⟩ cdv A outer s H E (bagWd_ok h) hr).2.choose D' σ H'), PSs.nox (pss_cons j1 ⟨fun pins s' σ H' D' I ⟨b, c, h, q⟩ => (hJ ⟨bagWd b c, [], H'⟩ cdv A outer s H E (bagWd_ok h) hr).2.choose_spec.p.run pins s' σ H' D' I q⟩), ?_⟩
    subst hN
    refine ⟨_, rfl, ad, ns, rfl, hS, hl, fun b c H' ex hb hc hbc hBag => ?_⟩
    refine ⟨b, c, hbc, ?_⟩
    have hs : (L2.start (y :: z :: N') [V.ref ad]).set 1 (some (.ref b)) = some (.ref ad) :: some (.ref b) :: List.replicate N'.length none := by
      unfold L2.start
      rfl
    rw [hs]
    refine (hJ ⟨bagWd b c, [], H'⟩ cdv A outer s H E (bagWd_ok hbc) hr).2.choose_spec.s [] [] [] _ H' _ _ _ ⟨start_stt hBag, by simp, fun i d e => ?_, fun p hp => (by cases hp)⟩ hA ⟨fun _ _ _ _ _ _ p => p.elim, fun _ _ _ _ _ _ p => p.elim, fun _ _ _ _ _ _ p => p.elim, fun v H2 d _ _ _ rv p => ?_⟩
    · match i, e with
      | 0, e => cases e
      | 1, e => cases e; exact ⟨.ref b, rfl, .hdl rfl⟩
      | i + 2, e =>
        have e2 : (List.replicate N'.length (none : Option D))[i]? = some (some d) := e
        rw [List.getElem?_replicate] at e2
        split at e2 <;> cases e2
    · subst p
      rw [r_bl rv]
      exact kq H2
end
end Bd
/-! BdX: what simp knows of data. -/
namespace Bd
open PySem L2
@[simp] theorem eqD_ii (i j : Int) : eqD (.int i) (.int j) = decide (i = j) := by simp [eqD, pyD, PyData.eqv, Bool.beq_eq_decide_eq]
@[simp] theorem eqD_ss (i j : Str) : eqD (.str i) (.str j) = decide (i = j) := by simp [eqD, pyD, PyData.eqv, Bool.beq_eq_decide_eq]
@[simp] theorem eqD_bb (i j : Bool) : eqD (.bl i) (.bl j) = decide (i = j) := by cases i <;> cases j <;> rfl
@[simp] theorem wEq_ii {i j : Int} {P : D → Prop} : wEq (.int i) (.int j) P ↔ P (.bl (decide (i = j))) := by simp [wEq, sclD]
@[simp] theorem wEq_ss {i j : Str} {P : D → Prop} : wEq (.str i) (.str j) P ↔ P (.bl (decide (i = j))) := by simp [wEq, sclD]
@[simp] theorem wEq_bb {i j : Bool} {P : D → Prop} : wEq (.bl i) (.bl j) P ↔ P (.bl (decide (i = j))) := by simp only [wEq, sclD, eqD_bb, Bool.true_or, true_and]
@[simp] theorem wNe_ii {i j : Int} {P : D → Prop} : wNe (.int i) (.int j) P ↔ P (.bl (!decide (i = j))) := by simp [wNe, sclD]
@[simp] theorem wNe_ss {i j : Str} {P : D → Prop} : wNe (.str i) (.str j) P ↔ P (.bl (!decide (i = j))) := by simp [wNe, sclD]
@[simp] theorem startG_1 (a : D) (n : Nat) : startG (n + 1) [a] = some a :: List.replicate n none := rfl
@[simp] theorem startG_2 (a b : D) (n : Nat) : startG (n + 2) [a, b] = some a :: some b :: List.replicate n none := rfl
@[simp] theorem startG_3 (a b c : D) (n : Nat) : startG (n + 3) [a, b, c] = some a :: some b :: some c :: List.replicate n none := rfl
@[simp] theorem startG_0 (n : Nat) : startG n [] = List.replicate n none := rfl
theorem toNat_inj {a b : Char} (h : a.toNat = b.toNat) : a = b := Char.ext (UInt32.toNat_inj.mp h)
@[simp] theorem ofS_inj {a b : String} : (Str.ofString a = Str.ofString b) ↔ a = b := by
  constructor
  · intro h
    rw [Str.ofString_eq_toList, Str.ofString_eq_toList] at h
    have h1 : (a.toList.map Char.toNat).toArray = (b.toList.map Char.toNat).toArray := congrArg Str.cps h
    have h2 : a.toList.map Char.toNat = b.toList.map Char.toNat := by simpa using congrArg Array.toList h1
    have h3 : a.toList = b.toList := (List.map_inj_right fun x y e => toNat_inj e).mp h2
    exact String.toList_inj.mp h3
  · intro h; rw [h]
@[simp] theorem startG_4 (a b c d : D) (n : Nat) : startG (n + 4) [a, b, c, d] = some a :: some b :: some c :: some d :: List.replicate n none := rfl
@[simp] theorem startG_5 (a b c d e : D) (n : Nat) : startG (n + 5) [a, b, c, d, e] = some a :: some b :: some c :: some d :: some e :: List.replicate n none := rfl
/-! ### comprehensions -/
theorem goA_map {body : D → List D → Cs → (List D → Cs → Prop) → Prop} (f : D → D) : ∀ {ds acc : List D} {c : Cs} {P : List D → Cs → Prop}, (∀ d ∈ ds, ∀ (acc : List D) (k : List D → Cs → Prop), k (acc ++ [f d]) c → body d acc c k) → P (acc ++ ds.map f) c → goA body ds acc c P
  | [], acc, c, P, _, h => by
    show P acc c
    simpa using h
  | d :: ds, acc, c, P, hb, h => by
    refine hb d (by simp) acc _ (goA_map f (fun e he => hb e (by simp [he])) ?_)
    simpa using h
/-- some item each time, of which Z holds -/
theorem goA_all {body : D → List D → Cs → (List D → Cs → Prop) → Prop} (Z : D → D → Prop) : ∀ {ds acc : List D} {c : Cs} {P : List D → Cs → Prop}, (∀ d ∈ ds, ∀ (acc : List D) (k : List D → Cs → Prop), (∀ y, Z d y → k (acc ++ [y]) c) → body d acc c k) → (∀ ys : List D, ys.length = ds.length → (∀ z ∈ ys, ∃ d ∈ ds, Z d z) → P (acc ++ ys) c) → goA body ds acc c P
  | [], acc, c, P, _, h => by
    show P acc c
    simpa using h [] rfl (by simp)
  | d :: ds, acc, c, P, hb, h => by
    refine hb d (by simp) acc _ fun y hy => goA_all Z (fun e he => hb e (by simp [he])) fun ys hl hz => ?_
    have := h (y :: ys) (by simp [hl]) (by
      intro z hzm
      rcases List.mem_cons.mp hzm with e | e
      · exact ⟨d, by simp, by rw [e]; exact hy⟩
      · obtain ⟨d', h1, h2⟩ := hz z e
        exact ⟨d', by simp [h1], h2⟩)
    simpa using this
theorem blsOf_map (f : D → Bool) : ∀ ds : List D, blsOf (ds.map fun d => .bl (f d)) = some (ds.map f)
  | [] => rfl
  | d :: ds => by
    show (blsOf (ds.map fun d => .bl (f d))).map (f d :: ·) = _
    rw [blsOf_map f ds]
    rfl
theorem blsOf_bl : ∀ bs : List Bool, blsOf (bs.map D.bl) = some bs
  | [] => rfl
  | b :: bs => by
    show (blsOf (bs.map D.bl)).map (b :: ·) = _
    rw [blsOf_bl bs]
    rfl
theorem strsOf_map : ∀ zs : List Str, strsOf (zs.map D.str) = some zs
  | [] => rfl
  | z :: zs => by
    show (strsOf (zs.map D.str)).map (z :: ·) = _
    rw [strsOf_map zs]
    rfl
/-! ### the laws' helpers over data -/
def kindM : D → Nat
  | .non => 0 | .bl _ => 1 | .int _ => 2 | .str _ => 3 | .lst _ => 4 | .tup _ => 5
  | _ => 7
def A_l_kind (ds : List D) (P : D → Prop) : Prop := ∃ v, ds = [v] ∧ (tyN v).isSome = true ∧ P (.int (kindM v))
def A_l_pick (ds : List D) (P : D → Prop) : Prop := ∃ xs, (ds = [.hdl 0, .lst xs] ∨ ds = [.hdl 0, .tup xs]) ∧ xs ≠ [] ∧ xs.length < 1000000 ∧ ∀ d ∈ xs, P d
mutual
def sameM : D → D → Bool
  | .lst xs, .lst ys => sameA xs ys
  | .tup xs, .tup ys => sameA xs ys
  | .non, .non => true
  | .bl a, .bl b => a == b
  | .int a, .int b => a == b
  | .str a, .str b => a == b
  | _, _ => false
def sameA : List D → List D → Bool
  | [], [] => true
  | x :: xs, y :: ys => sameM x y && sameA xs ys
  | _, _ => false
end
mutual
/-- how deep _law_same goes -/
def dpt : D → Nat
  | .lst xs => dptA xs + 1
  | .tup xs => dptA xs + 1
  | _ => 1
def dptA : List D → Nat
  | [] => 0
  | x :: xs => max (dpt x) (dptA xs)
end
mutual
/-- nothing but data in it -/
def tyd : D → Bool
  | .lst xs => decide (xs.length ≤ 1000000) && tydA xs
  | .tup xs => decide (xs.length ≤ 1000000) && tydA xs
  | .non => true | .bl _ => true | .int _ => true
  | .str z => decide (z.length ≤ 1000000)
  | _ => false
def tydA : List D → Bool
  | [] => true
  | x :: xs => tyd x && tydA xs
end
def A_l_same (n : Nat) (ds : List D) (P : D → Prop) : Prop := ∃ x y, ds = [x, y] ∧ tyd x = true ∧ tyd y = true ∧ dpt y ≤ n ∧ P (.bl (sameM x y))
end Bd
/-! BdK: the rules that name the fragment, with its name given: for use inside comprehensions. -/
namespace Bd
open PySem L2
section
variable {X : Cx} {Kf : PySem.W.Frag} {Fm : Fr} {C C' : WC} {e a b l o : Expr} {es : List Expr} {pos p apos p2 : Pos} {te ta tb tl to : TE} {ae aa ab ao : ATE} {t tk : TA} {ag ak : ATA} {x : Str} {k j : Nat} {ps : List Str} {A : List D → (D → Prop) → Prop}
theorem jo_addK (hK : X.K = Kf) : JO X (binaryOp .Add) (rAddG Kf) wAdd := by subst hK; exact jo_add
theorem jo_eqK (hK : X.K = Kf) (hu : X.A.units + 65 < cLine) : JO X (compareOp .Eq) (rEqG Kf) wEq := by subst hK; exact jo_eq hu
theorem jo_neK (hK : X.K = Kf) (hu : X.A.units + 65 < cLine) : JO X (compareOp .NotEq) (rNeG Kf) wNe := by subst hK; exact jo_ne hu
theorem jo_inK (hK : X.K = Kf) (hu : X.A.units + 65 < cLine) : JO X (compareOp .In) (rInG Kf) wIn := by subst hK; exact jo_in hu
theorem jo_notInK (hK : X.K = Kf) (hu : X.A.units + 65 < cLine) : JO X (compareOp .NotIn) (rNotInG Kf) wNotIn := by subst hK; exact jo_notIn hu
theorem je_ixK (hK : X.K = Kf) (ha : JE X Fm a ta aa) (hb : JE X Fm b tb ab) (hs : PlainIx b := by intro _ _; rfl) : JE X Fm (.Subscript a b pos) (tOp (rIx Kf) ta tb) (aOp wIx aa ab) := by subst hK; exact je_ix ha hb hs
theorem je_slK {lo hi : Option Expr} {tlo thi : TO} {alo ahi : ATO} (hK : X.K = Kf) (h : JE X Fm e te ae) (hl : JP X Fm lo tlo alo) (hh : JP X Fm hi thi ahi) : JE X Fm (.Subscript e (.Slice lo hi none p2) pos) (tSl (rSlG Kf) te tlo thi) (aSl ae alo ahi) := by subst hK; exact je_sl h hl hh
theorem je_joinK (hK : X.K = Kf) (ho : JE X Fm o to ao) (he : JE X Fm e te ae) (hs : starEach [e] X.env = [(false, eval e X.env)] := by rfl) (hbase : attributeBase o "join" X.env (eval o X.env) = eval o X.env := by rfl) (hline : (apos.endLine == pos.line) = true := by rfl) :
    JE X Fm (.Call (.Attribute o "join" apos) [e] [] pos) (tM1 (rJoin Kf) to te) (aMs wJoin ao (aCons ae aNil)) := by subst hK; exact je_join ho he hs hbase hline
theorem je_fncK (hK : X.K = Kf) (F : Fnc X.prog X.w Kf X.mg X.base x k ps C' A) (hr : Room j X.A) (hk : k ≤ j) (hC : FC Kf Fm C') (ha : JA X Fm (e :: es) t ag) (hg : Gl X x := by rfl) (hdb : (x == ("__debug__" : Str)) = false := by decide) (he : starEach (e :: es) X.env = (false, eval e X.env) :: starEach es X.env := by rfl) (hpl : (backTo pos (starEach es X.env)).any (·.1) = false := by rfl) :
    JE X Fm (.Call (.Name x p) (e :: es) [] pos) (tCall (spOf Kf C' A) [] E0 t) (aCall A [] ag) := by subst hK; exact je_fnc F hr hk hC ha hg hdb he hpl
theorem je_fnc0K (hK : X.K = Kf) (F : Fnc X.prog X.w Kf X.mg X.base x k ps C' A) (hr : Room j X.A) (hk : k ≤ j) (hC : FC Kf Fm C') (hg : Gl X x := by rfl) (hdb : (x == ("__debug__" : Str)) = false := by decide) :
    JE X Fm (.Call (.Name x p) [] [] pos) (tCall (spOf Kf C' A) [] E0 tNil) (aCall A [] aNil) := by subst hK; exact je_fnc0 F hr hk hC hg hdb
theorem ji_anyK {tg : Expr} (hK : X.K = Kf) (h : JE X Fm l tl aa) : JI X Fm tg l (iAny Kf tl) (aItems aa) := by subst hK; exact ji_any h
theorem ji_zipK {p tpos : Pos} {elts : List Expr} {kk : Nat} (hK : X.K = Kf) (hm : X.mg "zip" = none) (ha : JA X Fm [a, b] t ag) (hg : Gl X "zip" := by rfl) (hs : starEach [a, b] X.env = (false, eval a X.env) :: starEach [b] X.env := by rfl) (hpl : (backTo pos (starEach [b] X.env)).any (·.1) = false := by rfl) :
    JI X Fm (.Tuple elts kk tpos) (.Call (.Name "zip" p) [a, b] [] pos) (RZ.iZipA Kf t) (aZip ag) := by subst hK; exact ji_zip hm ha hg hs hpl
theorem jg_tupK {js : List Nat} {k n : Nat} {gs : TGs} {a : ATGs} (hK : X.K = Kf) (hc : X.calm = true) (h : JGs X Fm js es gs a) (hn : (assignEach es X.env).length = n := by rfl) (hst : (assignEach es X.env).findIdx? (·.1) = none := by rfl) : JG X Fm js (.Tuple es k pos) (gTup Kf n gs) (gmT n a) := by subst hK; exact jg_tup hc h hn hst
theorem je_ixCK (hK : X.K = Kf) (ha : JE X Fm a ta aa) (hb : JE X Fm b tb ab) (hs : PlainIx b := by intro _ _; rfl) : JE X Fm (.Subscript a b pos) (tOp (rIx Kf) ta tb) (aIxC aa ab) := by subst hK; exact je_ixC ha hb hs
theorem je_fnsK {A : List D → Cs → (D → Cs → Prop) → Prop} (hK : X.K = Kf) (F : FncS X.prog X.w Kf X.mg X.base x k ps C' A) (hr : Room j X.A) (hk : k ≤ j) (hC : FP Kf Fm C') (ha : JA X Fm (e :: es) t ag) (hg : Gl X x := by rfl) (hdb : (x == ("__debug__" : Str)) = false := by decide) (he : starEach (e :: es) X.env = (false, eval e X.env) :: starEach es X.env := by rfl) (hpl : (backTo pos (starEach es X.env)).any (·.1) = false := by rfl) :
    JE X Fm (.Call (.Name x p) (e :: es) [] pos) (tCall (spS Kf C' A) [] E0 t) (aCallS A [] ag) := by subst hK; exact je_fns F hr hk hC ha hg hdb he hpl
end
theorem fc_any {K : PySem.W.Frag} {Fm : Fr} : FC K Fm (fun _ => True) := fun _ _ _ _ _ => trivial
theorem fp_any {K : PySem.W.Frag} {Fm : Fr} : FP K Fm (fun _ => True) := fun _ _ _ _ _ => trivial
theorem fc_bag {K : PySem.W.Frag} {Fm : Fr} (h : BagW Fm.w) : FC K Fm BagW := fun _ _ _ _ s => s.cl bag_cl h
theorem fp_bag {K : PySem.W.Frag} {Fm : Fr} (h : BagW Fm.w) : FP K Fm BagW := fun _ _ _ _ s => bag_cl _ _ h fun p hp => (s.fr p (List.mem_append_left _ hp)).1
end Bd
/-! BdL: tuple(..), repetition, a list put to a cell. -/
namespace Bd
open PySem L2
theorem op_mul_str {X : Cx} : OpR X (binaryOp .Mult) (fun x y H Q => ∃ a n, x = .str a ∧ y = .int n ∧ MulOk a n ∧ Q (.str (Txt.mul a n)) H) := by
  intro pins s σ H x y v u Q I rx ry h
  obtain ⟨i, j, rfl, rfl, hz, q⟩ := h
  obtain ⟨t, rfl⟩ := rx
  obtain ⟨t', rfl⟩ := ry
  exact SB.mul hz fun t' tk => ⟨.str (Txt.mul i j), H, I.tok _, ⟨_, rfl⟩, q⟩
theorem mulOk {a : Str} {n : Int} (h0 : -1000000 ≤ n) (h1 : n ≤ 1000000) (h : a.length * n.toNat ≤ 16000000) : MulOk a n := by
  refine ⟨?_, fun p q => ?_, fun p q => ?_⟩
  · simp
    omega
  · have hn : 0 < n := by omega
    have : (a.length : Int) ≤ (2 ^ 63 - 1) / n := by
      rw [Int.le_ediv_iff_mul_le hn]
      have e : (a.length : Int) * n = ((a.length * n.toNat : Nat) : Int) := by
        rw [Int.natCast_mul, Int.toNat_of_nonneg (by omega)]
      rw [e]
      omega
    omega
  · show decide (_ > sizeLine) = false
    rw [decide_eq_false_iff_not]
    have : (16000000 : Nat) ≤ sizeLine := by decide
    omega
def rMulX (K : PySem.W.Frag) : R2 := fun x y H Q => rMulG x y H Q ∨ (∃ a n, x = .str a ∧ y = .int n ∧ MulOk a n ∧ Q (.str (Txt.mul a n)) H) ∨ rRep x y H Q ∨ rRepT K x y H Q
@[simp] def wMulX (x y : D) (P : D → Prop) : Prop := match x, y with
  | .str a, .int n => (-1000000 ≤ n ∧ n ≤ 1000000 ∧ a.length * n.toNat ≤ 16000000) ∧ P (.str (Txt.mul a n))
  | .lst ds, .int n => (-1000000 ≤ n ∧ n ≤ 1000000 ∧ ds.length * n.toNat ≤ 16000000) ∧ P (.lst (List.replicate n.toNat ds).flatten)
  | .tup ds, .int n => (ds ≠ [] ∧ 2 ≤ n ∧ n ≤ 1000 ∧ ds.length ≤ 1000) ∧ P (.tup (List.replicate n.toNat ds).flatten)
  | x, y => wMul x y P
theorem ra_rep {K : PySem.W.Frag} {w : Wd} {H : Hp} {xs : List V} {ds : List D} (r : RA K w H xs ds) : ∀ n : Nat, RA K w H (List.replicate n xs).flatten (List.replicate n ds).flatten
  | 0 => .nil
  | n + 1 => by
    rw [List.replicate_succ, List.replicate_succ, List.flatten_cons, List.flatten_cons]
    exact RwA.append r (ra_rep r n)
theorem s_mulX {K : PySem.W.Frag} : SndR2 K Any (rMulX K) wMulX := by
  intro w H x y dx dy P Q hc hI r1 r2 hf hq
  unfold wMulX at hf
  split at hf
  · cases r_str r1
    cases r_int r2
    exact .inr (.inl ⟨_, _, rfl, rfl, mulOk hf.1.1 hf.1.2.1 hf.1.2.2, hq _ _ _ (Step.refl hI) (.str _) hf.2⟩)
  · cases r1 with
    | lst hx rx =>
      cases r_int r2
      refine .inr (.inr (.inl ⟨_, _, _, rfl, rfl, (vis_some hx).2, by omega, by omega, ?_, fun p hp => ?_⟩))
      · rw [rx.length]
        exact Nat.le_trans hf.1.2.2 (by decide)
      · obtain ⟨s, r⟩ := new_lst (w := w) hI hp (ra_rep rx _)
        exact hq _ _ _ s r hf.2
  · cases r1 with
    | tup hx rx =>
      cases r_int r2
      obtain ⟨⟨h1, h2, h3, h4⟩, h5⟩ := hf
      refine .inr (.inr (.inr ⟨_, _, _, rfl, rfl, sqT_mono vis_ext hx, fun e => ?_, h2, h3, by rw [rx.length]; exact h4, fun p hp => ?_⟩))
      · subst e
        cases rx
        exact h1 rfl
      · obtain ⟨s, r⟩ := new_tup (w := w) hI hp (ra_rep rx _)
        exact hq _ _ _ s r h5
  · exact .inl (s_mul w H x y _ _ P Q hc hI r1 r2 hf hq)
theorem jo_mulX {X : Cx} : JO X (binaryOp .Mult) (rMulX X.K) wMulX := ⟨op_mul.or op_mulW |>.or (op_mul_str.or (op_rep.or op_repT)), s_mulX⟩
theorem jo_mulXK {X : Cx} {Kf : PySem.W.Frag} (hK : X.K = Kf) : JO X (binaryOp .Mult) (rMulX Kf) wMulX := by subst hK; exact jo_mulX
/-- tuple(a list, a tuple) -/
@[simp] def wTuple (xs : List D) (P : D → Prop) : Prop := match xs with
  | [.lst ds] => P (.tup ds)
  | [.tup ds] => P (.tup ds)
  | _ => False
theorem s_tuple {K : PySem.W.Frag} : SndRs K Any (fun xs H Q => ∃ p ys, xs = [.ref p] ∧ ((SqL K H p ys ∧ ∀ l, H l = none → Q (.ref l) (upd H l (.tup ys))) ∨ (SqT K H p ys ∧ Q (.ref p) H))) wTuple := by
  intro w H xs ds P Q _ hI r hf hq
  unfold wTuple at hf
  split at hf
  · cases r with
    | cons r1 r2 =>
      cases r2
      cases r1 with
      | lst hx rx =>
        refine ⟨_, _, rfl, .inl ⟨SqL.of (vis_some hx).2, fun l hl => ?_⟩⟩
        obtain ⟨s, r⟩ := new_tup (w := w) hI hl rx
        exact hq _ _ _ s r hf
  · cases r with
    | cons r1 r2 =>
      cases r2
      cases r1 with
      | tup hx rx => exact ⟨_, _, rfl, .inr ⟨sqT_mono vis_ext hx, hq _ _ _ (Step.refl hI) (.tup hx rx) hf⟩⟩
  · exact hf.elim
/-- cell + list, as a new cell; the old one is given up. Also data + list, as a new cell -/
@[simp] abbrev aCatN (a b : ATE) : ATE := fun Γ c P => a Γ c fun x c1 => b Γ c1 fun y c2 => match x, y with
  | .adr p, .lst es => match c2.lookup p with
    | some (.lst ds) => ds.length + es.length ≤ 1000000 ∧ ∀ q : Addr, c2.lookup q = none → P (.adr q) ((q, .lst (ds ++ es)) :: cdel c2 p)
    | _ => False
  | .lst ds, .lst es => ds.length + es.length ≤ 1000000 ∧ ∀ q : Addr, c2.lookup q = none → P (.adr q) ((q, .lst (ds ++ es)) :: c2)
  | _, _ => False
section
variable {K : PySem.W.Frag} {F : Fr}
theorem snd_catN {ta tb : TE} {a b : ATE} (h1 : SndE K F ta a) (h2 : SndE K F tb b) : SndE K F (tOp (rAddG K) ta tb) (aCatN a b) := by
  intro gs pv os cs σ H Γ P Q r0 ha hq
  refine h1 gs pv os cs σ H Γ _ _ r0 ha fun v H1 d os1 c1 r1 ha1 => ?_
  refine h2 _ pv os1 c1 σ H1 Γ _ _ r1 ha1 fun u H2 e os2 c2 r2 ha2 => ?_
  split at ha2
  · rename_i p es
    split at ha2
    · rename_i ds el
      cases r_adr r2.tail.head
      obtain ⟨xs, hx, rx⟩ := cell_lst r2 el
      have rh := r2.head
      cases rh with
      | @lst b ys _ hy ry =>
        have hl := rx.length
        have hl2 := ry.length
        have he : ∀ q, H2 q = none → Q (.ref q) (upd H2 q (.lst (xs ++ ys))) := fun q hq0 => by
          obtain ⟨k, r3⟩ := r2.alloc (o := .lst (xs ++ ys)) (d := .lst (ds ++ es)) hq0 (RwA.append rx ry)
          have hne : q ≠ p := fun z => by rw [z, hx] at hq0; cases hq0
          have el2 : ((q, D.lst (ds ++ es)) :: c2).lookup p = some (.lst ds) := by
            rw [List.lookup_cons]
            have : (p == q) = false := by simp; exact fun z => hne z.symm
            rw [this]; exact el
          obtain ⟨o, _, _, r4⟩ := r3.free el2
          have e1 : cdel ((q, D.lst (ds ++ es)) :: c2) p = (q, D.lst (ds ++ es)) :: cdel c2 p := by
            show (if q = p then c2 else (q, D.lst (ds ++ es)) :: cdel c2 p) = _
            rw [if_neg hne]
          rw [e1] at r4
          exact hq _ _ _ _ _ (r4.tail.tail.gcons (.adr q)) (ha2.2 q k)
        have hsz : xs.length + ys.length ≤ sizeLine := Nat.le_trans (by have := ha2.1; omega : xs.length + ys.length ≤ 1000000) (by decide)
        exact .inr (.inr (.inl ⟨p, b, xs, ys, rfl, rfl, hx, (vis_some hy).2, hsz, he⟩))
    · exact ha2.elim
  · rename_i ds es
    have rg := r2.tail.head
    have rh := r2.head
    cases rg with
    | @lst p xs _ hx rx =>
      cases rh with
      | @lst b ys _ hy ry =>
        have hl := rx.length
        have hl2 := ry.length
        have hsz : xs.length + ys.length ≤ sizeLine := Nat.le_trans (by have := ha2.1; omega : xs.length + ys.length ≤ 1000000) (by decide)
        refine .inr (.inr (.inl ⟨p, b, xs, ys, rfl, rfl, (vis_some hx).2, (vis_some hy).2, hsz, fun q hq0 => ?_⟩))
        obtain ⟨k, r3⟩ := r2.alloc (o := .lst (xs ++ ys)) (d := .lst (ds ++ es)) hq0 (RwA.append rx ry)
        exact hq _ _ _ _ _ (r3.tail.tail.gcons (.adr q)) (ha2.2 q k)
  · exact ha2.elim
end
theorem je_catN {X : Cx} {Fm : Fr} {a b : Expr} {pos : Pos} {ta tb : TE} {aa ab : ATE} (ha : JE X Fm a ta aa) (hb : JE X Fm b tb ab) : JE X Fm (.BinOp a .Add b pos) (tOp (rAddG X.K) ta tb) (aCatN aa ab) := ⟨pe_op jo_add.p ha.p hb.p, snd_catN ha.s hb.s⟩
end Bd
/-! BdS: len(set(a tuple of texts)): how many different ones. -/
namespace Bd
open PySem PySem.Spec PyProof.Rows L2
def ddStep (acc : List Str) (x : Str) : List Str := if acc.any (· == x) = true then acc else acc ++ [x]
def dd (xs : List Str) : List Str := xs.foldl ddStep []
theorem dd_snoc (xs : List Str) (x : Str) : dd (xs ++ [x]) = ddStep (dd xs) x := by unfold dd; rw [List.foldl_append]; rfl
theorem ddStep_any (acc : List Str) (x k : Str) : (ddStep acc x).any (· == k) = (acc.any (· == k) || decide (k = x)) := by
  unfold ddStep
  by_cases h : acc.any (· == x) = true
  · rw [if_pos h]
    by_cases e : k = x
    · rw [e, h]; rfl
    · simp [e]
  · rw [if_neg h, List.any_append]
    by_cases e : k = x
    · rw [e]; simp
    · have e2 : (x == k) = false := beq_eq_false_iff_ne.mpr fun z => e z.symm
      simp [e2, e]
theorem ddStep_len (acc : List Str) (x : Str) : (ddStep acc x).length = if acc.any (· == x) = true then acc.length else acc.length + 1 := by
  unfold ddStep
  split <;> simp
theorem dd_le : ∀ xs : List Str, (dd xs).length ≤ xs.length := by
  have go : ∀ (xs acc : List Str), (xs.foldl ddStep acc).length ≤ acc.length + xs.length := by
    intro xs
    induction xs with
    | nil => intro acc; exact Nat.le_refl _
    | cons x xs ih =>
      intro acc
      have h1 := ih (ddStep acc x)
      have h2 := ddStep_len acc x
      have h3 : (ddStep acc x).length ≤ acc.length + 1 := by rw [h2]; split <;> omega
      rw [List.foldl_cons, List.length_cons]
      omega
  intro xs
  have := go xs []
  simpa [dd] using this
theorem dd_any (xs : List Str) (k : Str) : (dd xs).any (· == k) = xs.any (· == k) := by
  have go : ∀ (xs acc : List Str), (xs.foldl ddStep acc).any (· == k) = (acc.any (· == k) || xs.any (· == k)) := by
    intro xs
    induction xs with
    | nil => intro acc; simp
    | cons x xs ih =>
      intro acc
      rw [List.foldl_cons, ih, ddStep_any, List.any_cons]
      have : decide (k = x) = (x == k) := by
        by_cases e : k = x
        · subst e; simp
        · have : (x == k) = false := beq_eq_false_iff_ne.mpr fun z => e z.symm
          simp [this, e]
      rw [this, Bool.or_assoc]
  have := go xs []
  simpa [dd] using this
/-- nothing twice: as many as there are; else fewer -/
theorem dd_nodup {xs : List Str} : (dd xs).length = xs.length ↔ xs.Nodup := by
  have go : ∀ (n : Nat) (xs : List Str), xs.length = n → ((dd xs).length = xs.length ↔ xs.Nodup) := by
    intro n
    induction n with
    | zero => intro xs h; have : xs = [] := List.length_eq_zero_iff.mp h; subst this; simp [dd]
    | succ n ih =>
      intro xs h
      obtain ⟨ys, y, rfl⟩ : ∃ ys y, xs = ys ++ [y] := by
        have hne : xs ≠ [] := fun e => by rw [e] at h; simp at h
        exact ⟨xs.dropLast, xs.getLast hne, (List.dropLast_concat_getLast hne).symm⟩
      have hy : ys.length = n := by simpa using h
      have h1 := ih ys hy
      have h2 := dd_le ys
      rw [dd_snoc, ddStep_len, dd_any, List.length_append, List.length_singleton, List.nodup_append]
      by_cases c : ys.any (· == y) = true
      · rw [if_pos c]
        have hm : y ∈ ys := by
          obtain ⟨z, z1, z2⟩ := List.any_eq_true.mp c
          rw [← eq_of_beq z2]; exact z1
        constructor
        · intro e; omega
        · intro e; exact absurd rfl (e.2.2 y hm y (by simp))
      · rw [if_neg c]
        have hm : y ∉ ys := fun hm => c (List.any_eq_true.mpr ⟨y, hm, by simp⟩)
        constructor
        · intro e
          refine ⟨h1.mp (by omega), by simp, fun a ha b hb e2 => hm ?_⟩
          rw [List.mem_singleton] at hb
          rw [← hb, ← e2]; exact ha
        · intro e
          have := h1.mpr e.1
          omega
  exact go xs.length xs rfl
section
variable {P : Program} {w : World} {A : Around} {E : Value → Shared → Prop} {s : Shared}
abbrev sk (P : Program) (w : World) := PySem.strKind P w
/-- the set so far: what the first i texts hold -/
abbrev Got (P : Program) (w : World) (h : Heap) (S : Addr) (ys : List Str) : Prop := h.SetOf (sk P w) S (fun k => (dd ys).any (· == k)) (dd ys).length
theorem Got.keep {h h' : Heap} {S : Addr} {ys : List Str} (g : Got P w h S ys) (k : ∀ o, h.get? S = some o → h'.get? S = some o) : Got P w h' S ys := by
  obtain ⟨o, es, ep, tb, ho, r⟩ := g
  exact ⟨o, es, ep, tb, k o ho, r⟩
theorem fill_loop {R : Result → Shared → Prop} {I : Addr} {fp wr : List Addr} {G : Array GenState → Array GenState → Prop} {n : Nat} {Pv : Nat → Value → Prop} {St : Nat → Shared → Prop} {S : Addr} {xs : List Str}
    (W : WalksS P w A.in1 I fp wr G n Pv St) (hS : S ∉ fp) (hn : xs.length = n) (hb : n < 1000) (hv : ∀ i v, Pv i v → ∃ t, v = .str (xs.getD i Str.empty) t) : ∀ (m i : Nat) (s : Shared), i + m = n → St i s → Got P w s.heap S (xs.take i) →
      (∀ s', Moved (S :: wr) G s s' → Got P w s'.heap S xs → R (.ok (.ret .none)) s') → codeAny (model P w) A (.builtin "set.update.loop" ⟨[.ref S, .ref I], []⟩) R s
  | m, i, s, hi, st, g, k => by
    have out : S ∉ wr := fun z => hS (W.sub _ z)
    have inc : ∀ b ∈ wr, b ∈ S :: wr := fun b hb => .tail _ hb
    refine codeAny_builtin (F.entry_set_update_loop) ?_
    rw [Around.under_plainId (F.plain_set_update_loop) _]
    match m, hi with
    | 0, hi =>
      have ei : i = n := by omega
      rw [ei] at st g
      refine wpAny_bind (W.done s _ _ st fun s1 mv => wpAny_pure (k s1 (mv.mono inc) ?_))
      rw [← hn, List.take_length] at g
      exact g.keep fun o q => mv.heap S o out q
    | m + 1, hi =>
      have lt : i < n := by omega
      refine wpAny_bind (W.item i s _ _ lt st fun v s1 pv st1 mv => ?_)
      obtain ⟨t, rfl⟩ := hv i v pv
      have g1 : Got P w s1.heap S (xs.take i) := g.keep fun o q => mv.heap S o out q
      have hx : xs.take (i + 1) = xs.take i ++ [xs.getD i Str.empty] := by
        have : i < xs.length := by omega
        rw [List.take_add_one, List.getD_eq_getElem?_getD, List.getElem?_eq_getElem this]
        rfl
      generalize xs.getD i Str.empty = x at hx
      have room : (dd (xs.take i)).length + 1 < scanBound := by
        have h1 := dd_le (xs.take i)
        rw [List.length_take] at h1
        unfold scanBound
        omega
      show wpAny (model P w) A.in1 (holding [Value.str x t] (setAdd S (Value.str x t)) >>= _) _ _ s1
      refine wpAny_bind (wpAny_holding ?_)
      unfold setAdd
      refine wpAny_holding (wpAny_bind ((sk P w).pyHash (k := x) (strKind_is _ _ _ _) ?_))
      refine wpAny_setAddHashed_of (knd := sk P w) (s := { s1 with toks := s1.toks + 1 }) (strKind_is _ _ _ _) rfl g1 room fun h2 sb g2 => ?_
      have g3 : Got P w h2 S (xs.take (i + 1)) := by
        rw [hx]
        exact SetOf_congr g2 (fun k => by rw [dd_snoc, ddStep_any]) (by rw [dd_snoc, ddStep_len])
      have other : ∀ b, b ≠ S → h2.get? b = s1.heap.get? b := fun b hb => sb.2 b hb
      refine wpAny_pure ⟨plainId_quiet (F.plain_set_update_loop) _, fill_loop W hS hn hb hv m (i + 1) _ (by omega) (W.frame _ s1 _ _ st1 (Nat.le_succ _) fun b hb o e => ?_) g3 fun s3 mv3 g4 => k s3 (Moved.trans W.gtrans ((mv.mono inc).then_heap (Nat.le_succ _) fun b o hb e => ?_) mv3) g4⟩
      · rw [other b fun z => hS (z ▸ hb)]; exact e
      · rw [other b fun z => hb (z ▸ .head _)]; exact e
  termination_by m => m
/-- a set just made -/
abbrev sO (led : Bool) : Obj := { cls := .type "set", dict := none, data := .set #[] 0 (.fresh 0 0 led) }
set_option maxHeartbeats 3200000 in
theorem set_tuple {l : Addr} {its : Array Value} {xs : List Str} {Q : Value → Shared → Prop} (hh : A.handled = none) (hl : s.heap.IsTuple l its) (hi : StrsAre its.toList xs) (hb : xs.length < 1000)
    (k : ∀ (h' : Heap) (tk : Nat), Got P w h' s.heap.objs.size xs → (∀ b o, b < s.heap.objs.size → s.heap.get? b = some o → h'.get? b = some o) → Q (.ref s.heap.objs.size) { s with heap := h', toks := tk }) :
    wpAny (model P w) A (call (.type "set") [.ref l]) Q E s := by
  have hsz : xs.length = its.size := by rw [← StrsAre.len_eq hi, Array.length_toList]
  obtain ⟨c, tl, mro⟩ := PySem.F.called_set.mro
  have z1 := PySem.F.called_set.made
  have z2 := PySem.F.called_set.sub
  have z3 := PySem.F.called_set.notType
  have z4 := PySem.F.called_set.canCreate
  have z5 := PySem.F.typeCall_set_1 (.ref l)
  refine wpAny_call (codeAny_of_tree (wpAny_pure ⟨Code.quiet_builtin _ (by decide +kernel), codeAny_builtin (PySem.F.entry_type_call) ?_⟩))
  rw [Around.under_plain (PySem.weight_type_call_type "set" [.ref l] []) rfl]
  repeat (any_goals (first | assumption | wp_step))
  refine codeAny_mono (PySem.code_set_new_1 (.ref l) (E := E) (Q₁ := fun o s1 => ∃ led, o = .ref s.heap.objs.size ∧ s1 = { s with heap := s.heap.push (sO led) }) fun led => ⟨led, rfl, rfl⟩) fun r s1 hr => ?_
  cases r with
  | error e => exact hr
  | ok fl =>
    cases fl with
    | next => exact hr.elim
    | brk => exact hr.elim
    | cont => exact hr.elim
    | ret o =>
      obtain ⟨led, rfl, rfl⟩ := hr
      have at0 : (s.heap.push (sO led)).get? s.heap.objs.size = some (sO led) := Heap.get?_push_size _ rfl
      have ty0 : Shared.TypeIs { s with heap := s.heap.push (sO led) } (.ref s.heap.objs.size) "set" := ⟨_, at0, rfl⟩
      have z6 := PySem.F.called_set.init.lookup
      have z7 := PySem.F.called_set.init.bind (.ref s.heap.objs.size)
      repeat (any_goals (first | assumption | wp_step))
      refine codeAny_mono (codeAny_call_builtin (R := wants (fun r s2 => r = .none ∧ ∃ h2 tk, s2 = { s with heap := h2, toks := tk } ∧ Got P w h2 s.heap.objs.size xs ∧ ∀ b o, b < s.heap.objs.size → s.heap.get? b = some o → h2.get? b = some o) E)
        PySem.F.called_set.init.plain (PySem.F.entry_set_init) (PySem.check_set_init_1 ty0 ?_)) fun r2 s2 hr2 => ?_
      · obtain ⟨⟨oc, od, dt, sl⟩, ho, hc, nl, hd⟩ := hl
        simp only at hc hd
        subst hc; subst hd
        have ho1 := Heap.get?_push_of_some (sO led) ho
        have is1 : (s.heap.push (sO led)).IsTuple l its := ⟨_, ho1, rfl, nl, rfl⟩
        have z8 := PySem.F.sub_tuple_set
        have z9 := PySem.F.sub_tuple_frozenset
        have za : (Value.type "tuple" == Value.type "dict") = false := by decide
        unfold Builtin.«set.__init__» noKeywords Builtin.Frozenset.updateFrom
        generalize hPI : pyIter = PI
        wp_walk
        subst hPI
        refine wpAny_pyIter_tuple is1 (wpAny_bind (wpAny_runValue ?_))
        have lt := Heap.lt_size ho
        have sz1 : (s.heap.push (sO led)).objs.size = s.heap.objs.size + 1 := Heap.size_push _ _
        have neI : l ≠ (s.heap.push (sO led)).objs.size := Nat.ne_of_lt (sz1 ▸ Nat.lt_succ_of_lt lt)
        have notin : s.heap.objs.size ∉ [(s.heap.push (sO led)).objs.size, l] := fun m => by
          rcases List.mem_cons.mp m with e | m
          · exact Nat.ne_of_lt (Nat.lt_succ_self _) (e.trans sz1)
          · exact Nat.ne_of_gt lt (List.mem_singleton.mp m)
        have vals : ∀ (i : Nat) (v : Value), its[i]? = some v → ∃ t, v = .str (xs.getD i Str.empty) t := fun i v hv => SS.strs_at hi i v (by rw [Array.getElem?_toList]; exact hv)
        have hn3 : A.in1.in1.in1.handled = none := by simp [hh]
        refine fill_loop ((Walks.tuple hn3 _ l neI its).toS) notin hsz (by omega) vals its.size 0 _ (by omega) ⟨⟨_, Heap.get?_push_size _ rfl, rfl, rfl⟩, is1.push _⟩ ?_ fun s3 mv g => ?_
        · have at1 : ((s.heap.push (sO led)).push { cls := .type "tuple_iterator", data := .fields #[.ref l, .int 0 0] }).get? s.heap.objs.size = some (sO led) := Heap.get?_push_of_some _ at0
          exact SetOf_congr ((setObjOf_fresh (knd := sk P w) led).setOf at1 (by unfold scanBound; omega)) (fun _ => rfl) rfl
        · obtain ⟨h3, g3, d3, t3, o3⟩ := s3
          obtain rfl : g3 = s.gens := mv.gens
          obtain rfl : d3 = s.drawn := mv.drawn
          obtain rfl : o3 = s.os := mv.os
          refine wpAny_pure (wpAny_pure ⟨rfl, h3, t3, rfl, g, fun b o hb e => mv.heap b o (fun m => ?_) (Heap.get?_push_of_some _ (Heap.get?_push_of_some _ e))⟩)
          rcases List.mem_cons.mp m with e | m
          · exact Nat.ne_of_lt hb e
          · exact Nat.ne_of_lt (sz1 ▸ Nat.lt_succ_of_lt hb) (List.mem_singleton.mp m)
      · cases r2 with
        | error e => exact hr2
        | ok f2 =>
          cases f2 with
          | next => exact hr2.elim
          | brk => exact hr2.elim
          | cont => exact hr2.elim
          | ret r =>
            obtain ⟨rfl, h2, tk, rfl, g, kp⟩ := hr2
            repeat (any_goals (first | assumption | wp_step))
            exact k _ _ g kp
end
/-- len(set(x)), x a tuple of texts -/
def tLenSet (K : PySem.W.Frag) (ta : TE) : TE := fun σ H Q => ta σ H fun x H1 => ∃ l, ∃ xs : List Str, x = .ref l ∧ SqT K H1 l (xs.map V.str) ∧ xs.length < 1000 ∧ Q (.int (dd xs).length) H1
@[simp] abbrev aLenSet (a : ATE) : ATE := fun Γ c P => a Γ c fun x c1 => match x with
  | .tup ds => match strsOf ds with
    | some xs => xs.length < 1000 ∧ P (.int (dd xs).length) c1
    | none => False
  | _ => False
theorem pe_lenSetT {X : Cx} {a : Expr} {ta : TE} {p p2 q pos : Pos} (hc : X.calm = true) (hg : Gl X "len") (hm : X.mg "len" = none) (hg2 : Gl X "set") (hm2 : X.mg "set" = none) (ha : PE X a ta)
    (na : starEach [a] X.env = (false, eval a X.env) :: starEach [] X.env := by rfl) : PE X (.Call (.Name "len" p) [.Call (.Name "set" p2) [a] [] q] [] pos) (tLenSet X.K ta) := by
  refine ⟨fun pins s σ H Q I h => Call_ (ld_blt I hg hm PySem.boot_len ?_)⟩
  refine PyProof.Rows.callWith_builtin1 (PyProof.Rows.args_cons (Call_ (ld_blt I hg2 hm2 PyProof.Rows.boot_set ?_)) rfl) rfl rfl
  refine PyProof.Rows.callWith_type1 (PyProof.Rows.args_cons (thn (ha.run pins s σ H _ I h) fun v s1 ⟨x, H1, I1, r1, l, xs, ex, hq, hb, q1⟩ => PyProof.Rows.args_nil ?_) na) na rfl
  subst ex
  cases r1
  obtain ⟨its, r, pl, hz⟩ := I1.tuple hq
  refine set_tuple (I1.ok.hd hc) pl (by simpa using L2.strsAre_of r) hb fun h' tk g kp => PyProof.Rows.args_nil ?_
  obtain ⟨o, es, ep, t, ho, hex, hd, _, _, _, hf, hn⟩ := g
  have hle := dd_le xs
  have I2 : Inv X pins σ H1 { s1 with heap := h', toks := tk } := I1.kept fun b o e => kp b o (Heap.lt_size e) e
  exact call_len_set ho hex hd hf (by rw [hn] <;> omega) ⟨.int (dd xs).length, H1, I2.tok _, ⟨_, by rw [hn]⟩, q1⟩
theorem snd_lenSet {K : PySem.W.Frag} {F : Fr} {ta : TE} {a : ATE} (h : SndE K F ta a) : SndE K F (tLenSet K ta) (aLenSet a) := by
  intro gs pv os cs σ H Γ P Q r0 ha hq
  refine h gs pv os cs σ H Γ _ _ r0 ha fun v H1 d os1 c1 r1 p1 => ?_
  split at p1
  · rename_i ds
    split at p1
    · rename_i xs e
      have rh := r1.head
      cases rh with
      | tup hx rx =>
        have e2 := strs_rw (w := F.at pv os1) rx e
        subst e2
        exact ⟨_, xs, rfl, sqT_mono vis_ext hx, p1.1, hq _ H1 _ os1 c1 (r1.tail.gcons (.int _)) p1.2⟩
    · exact p1.elim
  · exact p1.elim
theorem je_lenSet {X : Cx} {Fm : Fr} {a : Expr} {ta : TE} {aa : ATE} {p p2 q pos : Pos} (hm : X.mg "len" = none) (hm2 : X.mg "set" = none) (ha : JE X Fm a ta aa) (hc : X.calm = true := by rfl) (hg : Gl X "len" := by rfl) (hg2 : Gl X "set" := by rfl)
    (na : starEach [a] X.env = (false, eval a X.env) :: starEach [] X.env := by rfl) : JE X Fm (.Call (.Name "len" p) [.Call (.Name "set" p2) [a] [] q] [] pos) (tLenSet X.K ta) (aLenSet aa) := ⟨pe_lenSetT hc hg hm hg2 hm2 ha.p na, snd_lenSet ha.s⟩
end Bd
namespace Bd
open PySem L2
/-- slots: 0 _law_bag_here, 1 _law_some -/
def a_l_pick : ATS :=
  aRet (aOp wIx (aVar 1) (aCall A_l_pull [] (aCons (aVar 0) (aCons (aCB wLen (aCons (aVar 1) (aNil))) (aNil)))))
/-- slots: 0 _law_value_z, 1 _law_found -/
def a_l_kind : ATS :=
  aSeq (aAsg (aLst (aCons (aOp wIsN (aVar 0) (aC .non)) (aCons (aCB wIsi (aCons (aVar 0) (aCons (aC (.ty "bool")) (aNil)))) (aCons (aCB wIsi (aCons (aVar 0) (aCons (aC (.ty "int")) (aNil)))) (aCons (aCB wIsi (aCons (aVar 0) (aCons (aC (.ty "str")) (aNil)))) (aNil)))))) (gmN 1))
  (aSeq (aAsg (aOp wAdd (aVar 1) (aLst (aCons (aCB wIsi (aCons (aVar 0) (aCons (aC (.ty "list")) (aNil)))) (aCons (aCB wIsi (aCons (aVar 0) (aCons (aC (.ty "tuple")) (aNil)))) (aCons (aCB wIsi (aCons (aVar 0) (aCons (aC (.ty "dict")) (aNil)))) (aCons (aC (.bl true)) (aNil))))))) (gmN 1))
  (aRet (aMl wIndex (aVar 1) (aCons (aC (.bl true)) (aNil)))))
/-- slots: 0 _law_found, 1 _law_due, 2 _law_key, 3 _law_one, 4 _law_other -/
def a_l_same (A : List D → (D → Prop) → Prop) : ATS :=
  aSeq (aIfS (aB (aOp wNe (aCall A_l_kind [] (aCons (aVar 0) (aNil))) (aCall A_l_kind [] (aCons (aVar 1) (aNil))))) (aRet (aC (.bl false))) (aNext))
  (aSeq (aIfS (aB (aOp wIn (aCall A_l_kind [] (aCons (aVar 1) (aNil))) (aTup (aCons (aC (.int 4)) (aCons (aC (.int 5)) (aNil)))))) (aRet (aAndV (aOp wEq (aCB wLen (aCons (aVar 0) (aNil))) (aCB wLen (aCons (aVar 1) (aNil)))) (aCB wAll (aCons (aLc (aZip (aCons (aVar 0) (aCons (aVar 1) (aNil)))) (gmT 2 (gmCons (gmN 3) (gmCons (gmN 4) (gmNil)))) (aYes) (aCall A [] (aCons (aVar 3) (aCons (aVar 4) (aNil)))) [3, 4]) (aNil))))) (aNext))
  (aSeq (aIfS (aB (aOp wEq (aCall A_l_kind [] (aCons (aVar 1) (aNil))) (aC (.int 6)))) (aNever) (aNext))
  (aRet (aOp wEq (aVar 0) (aVar 1)))))
theorem len_l_pick : ∀ ds P, A_l_pick ds P → ds.length = 2 := by rintro ds P ⟨xs, rfl | rfl, _⟩ <;> rfl
theorem atI_of {xs : List D} {k : Int} (h0 : 0 ≤ k) (h1 : k < xs.length) : ∃ d ∈ xs, atI xs k = some d := by
  have hn : k.toNat < xs.length := by omega
  refine ⟨xs[k.toNat], List.getElem_mem hn, ?_⟩
  obtain ⟨j, rfl⟩ := Int.eq_ofNat_of_zero_le h0
  exact atI_nat (by simp)
theorem log_small {m : Int} (h : 0 < m) (h1 : m < 2 ^ 100) : m.natAbs.log2 < 9000 := by
  have h2 : m.natAbs < 2 ^ 100 := by omega
  have h3 : m.natAbs ≠ 0 := by omega
  have := (Nat.log2_lt h3).mpr h2
  omega
theorem pure_l_pick : ∀ ds P, A_l_pick ds P → a_l_pick { nx := fun _ _ => P .non, rt := fun d _ => P d } (startG 2 ds) [] := by
  rintro ds P ⟨xs, h, hne, hl, hP⟩
  have hpos : 0 < xs.length := List.length_pos_iff.mpr hne
  have go : ∀ k : Int, 0 ≤ k → k < xs.length → ∃ d ∈ xs, atI xs k = some d := fun k a b => atI_of a b
  rcases h with rfl | rfl
  · simp only [a_l_pick, aRet, aOp, aVar, aCall, aCons, aCB, aNil, wLen, startG_2, List.getElem?_cons_zero, List.getElem?_cons_succ, A_l_pull, List.append_nil]
    refine ⟨xs.length, rfl, by omega, log_small (by omega) (by omega), fun k h0 h1 => ?_⟩
    obtain ⟨d, hd, e⟩ := go k h0 h1
    simp only [wIx, e]
    exact hP d hd
  · simp only [a_l_pick, aRet, aOp, aVar, aCall, aCons, aCB, aNil, wLen, startG_2, List.getElem?_cons_zero, List.getElem?_cons_succ, A_l_pull, List.append_nil]
    refine ⟨xs.length, rfl, by omega, log_small (by omega) (by omega), fun k h0 h1 => ?_⟩
    obtain ⟨d, hd, e⟩ := go k h0 h1
    simp only [wIx, e]
    exact hP d hd
theorem len_l_kind : ∀ ds P, A_l_kind ds P → ds.length = 1 := by rintro ds P ⟨v, rfl, _⟩; rfl
theorem pure_l_kind : ∀ ds P, A_l_kind ds P → a_l_kind { nx := fun _ _ => P .non, rt := fun d _ => P d } (startG 2 ds) [] := by
  rintro ds P ⟨v, rfl, hv, hP⟩
  cases v <;> first
    | (simp [a_l_kind, isD, okTy, tyN, isNon, wIndex, flD, eqD_bb, List.findIdx?_cons]; exact hP)
    | cases hv
@[simp] theorem kind_1 {x : D} {P : D → Prop} : A_l_kind [x] P ↔ (tyN x).isSome = true ∧ P (.int (kindM x)) := by
  constructor
  · rintro ⟨v, h, a, b⟩
    cases h
    exact ⟨a, b⟩
  · rintro ⟨a, b⟩
    exact ⟨x, rfl, a, b⟩
theorem tyd_ty {x : D} (h : tyd x = true) : (tyN x).isSome = true := by cases x <;> first | rfl | cases h
theorem tyd_mem : ∀ {xs : List D} {x : D}, tydA xs = true → x ∈ xs → tyd x = true
  | y :: ys, x, h, hm => by
    have h' : tyd y = true ∧ tydA ys = true := by simpa [tydA] using h
    rcases List.mem_cons.mp hm with e | e
    · rw [e]; exact h'.1
    · exact tyd_mem h'.2 e
theorem dpt_mem : ∀ {xs : List D} {x : D}, x ∈ xs → dpt x ≤ dptA xs
  | y :: ys, x, hm => by
    show dpt x ≤ max (dpt y) (dptA ys)
    rcases List.mem_cons.mp hm with e | e
    · rw [e]; exact Nat.le_max_left _ _
    · exact Nat.le_trans (dpt_mem e) (Nat.le_max_right _ _)
theorem len_l_same (n : Nat) : ∀ ds P, A_l_same n ds P → ds.length = 2 := by rintro ds P ⟨x, y, rfl, _⟩; rfl
theorem sameA_zip : ∀ (xs ys : List D), xs.length = ys.length → sameA xs ys = ((zipD xs ys).map fun d => match d with | .tup [a, b] => sameM a b | _ => false).all id
  | [], [], _ => rfl
  | x :: xs, y :: ys, h => by
    have := sameA_zip xs ys (by simpa using h)
    show (sameM x y && sameA xs ys) = _
    rw [this]
    rfl
theorem sameA_len : ∀ (xs ys : List D), xs.length ≠ ys.length → sameA xs ys = false
  | [], [], h => absurd rfl h
  | [], _ :: _, _ => rfl
  | _ :: _, [], _ => rfl
  | x :: xs, y :: ys, h => by
    show (sameM x y && sameA xs ys) = false
    rw [sameA_len xs ys (by simpa using h), Bool.and_false]
theorem zip_mem : ∀ {xs ys : List D} {d : D}, d ∈ zipD xs ys → ∃ a b, d = .tup [a, b] ∧ a ∈ xs ∧ b ∈ ys
  | x :: xs, y :: ys, d, h => by
    have h' : d = .tup [x, y] ∨ d ∈ zipD xs ys := by simpa [zipD] using h
    rcases h' with e | e
    · exact ⟨x, y, e, by simp, by simp⟩
    · obtain ⟨a, b, h1, h2, h3⟩ := zip_mem e
      exact ⟨a, b, h1, by simp [h2], by simp [h3]⟩
  | [], _, d, h => by simp [zipD] at h
  | _ :: _, [], d, h => by simp [zipD] at h
/-- all of the pairs, one by one -/
theorem same_all {n : Nat} {xs ys : List D} {ai : ATA} {Γ : Gs} {c : Cs} {P : D → Prop} (hx : tydA xs = true) (hy : tydA ys = true) (hd : dptA ys ≤ n) (hl : xs.length = ys.length) (hz : xs.length ≤ 1000000) (hP : P (.bl (sameA xs ys))) (hai : ∀ Q : List D → Cs → Prop, Q (zipD xs ys) c → ai Γ c Q) (hG : Γ.length = 5) :
    aLc ai (gmT 2 (gmCons (gmN 3) (gmCons (gmN 4) gmNil))) aYes (aCall (A_l_same n) [] (aCons (aVar 3) (aCons (aVar 4) aNil))) [3, 4] Γ c fun d _ => wAll [d] P := by
  refine hai _ ⟨by rw [zip_len]; omega, ?_⟩
  refine goA_map (fun d => .bl (match d with | .tup [a, b] => sameM a b | _ => false)) (fun d hm acc k hk => ?_) ?_
  · obtain ⟨a, b, rfl, ha, hb⟩ := zip_mem hm
    match Γ, hG with
    | [g0, g1, g2, g3, g4], _ =>
      simp only [lcB, wipeG, gmT, gmCons, gmN, gmNil, aYes, aCall, aCons, aVar, aNil, List.set_cons_succ, List.set_cons_zero, List.getElem?_cons_succ, List.getElem?_cons_zero, List.length_cons, List.length_nil, if_true, true_and, List.append_nil, A_l_same]
      exact ⟨a, b, rfl, tyd_mem hx ha, tyd_mem hy hb, Nat.le_trans (dpt_mem hb) hd, hk⟩
  · rw [List.nil_append]
    show (match blsOf ((zipD xs ys).map fun d => D.bl (match d with | .tup [a, b] => sameM a b | _ => false)) with
      | some bs => P (.bl (bs.all id))
      | none => False)
    rw [blsOf_map]
    show P (.bl (List.all _ id))
    rw [← sameA_zip xs ys hl]
    exact hP
theorem pure_l_same (n : Nat) : ∀ ds P, A_l_same (n + 1) ds P → a_l_same (A_l_same n) { nx := fun _ _ => P .non, rt := fun d _ => P d } (startG 5 ds) [] := by
  rintro ds P ⟨x, y, rfl, hx, hy, hd, hP⟩
  have tx := tyd_ty hx
  have ty := tyd_ty hy
  simp only [a_l_same, aSeq, aIfS, aB, aOp, aCall, aCons, aNil, aVar, aC, aRet, aNext, aNever, startG_2, List.getElem?_cons_zero, List.getElem?_cons_succ, List.append_nil, kind_1, tx, ty, true_and, wNe_ii, wEq_ii]
  by_cases hk : (kindM x : Int) = kindM y
  · simp only [hk, decide_true, Bool.not_true, Bool.false_eq_true, if_false]
    cases x <;> cases y <;> first
      | (cases hx; done)
      | (cases hy; done)
      | (simp [kindM] at hk; done)
      | skip
    case non.non => simpa [kindM, flD, sameM, wEq, sclD, eqD, pyD, PyData.eqv] using hP
    case bl.bl a b => cases a <;> cases b <;> simpa [kindM, flD, sameM, wEq, sclD] using hP
    case int.int => simpa [kindM, flD, sameM, wEq, sclD, Bool.beq_eq_decide_eq] using hP
    case str.str => simpa [kindM, flD, sameM, wEq, sclD, Bool.beq_eq_decide_eq] using hP
    case lst.lst xs ys =>
      have hx' : xs.length ≤ 1000000 ∧ tydA xs = true := by simpa [tyd] using hx
      have hy' : ys.length ≤ 1000000 ∧ tydA ys = true := by simpa [tyd] using hy
      have hd' : dptA ys ≤ n := by simpa [dpt] using hd
      have hP : P (.bl (sameA xs ys)) := by simpa [sameM] using hP
      simp [kindM, flD, wLen]
      by_cases hl : xs.length = ys.length
      · simp [hl]
        exact same_all hx'.2 hy'.2 hd' hl hx'.1 hP (fun Q q => by simpa [aZip] using q) rfl
      · rw [sameA_len xs ys hl] at hP
        have hl' : ¬ (xs.length : Int) = ys.length := by omega
        simpa [hl'] using hP
    case tup.tup xs ys =>
      have hx' : xs.length ≤ 1000000 ∧ tydA xs = true := by simpa [tyd] using hx
      have hy' : ys.length ≤ 1000000 ∧ tydA ys = true := by simpa [tyd] using hy
      have hd' : dptA ys ≤ n := by simpa [dpt] using hd
      have hP : P (.bl (sameA xs ys)) := by simpa [sameM] using hP
      simp [kindM, flD, wLen]
      by_cases hl : xs.length = ys.length
      · simp [hl]
        exact same_all hx'.2 hy'.2 hd' hl hx'.1 hP (fun Q q => by simpa [aZip] using q) rfl
      · rw [sameA_len xs ys hl] at hP
        have hl' : ¬ (xs.length : Int) = ys.length := by omega
        simpa [hl'] using hP
  · have : sameM x y = false := by
      cases x <;> cases y <;> first
        | rfl
        | exact absurd rfl hk
    rw [this] at hP
    simpa [hk] using hP
end Bd
namespace Bd
open PySem L2
/-! ### what the text's words are -/
abbrev kwS : List Str := ["proc", "if", "else", "while", "break", "return", "print", "and", "or", "not", "mod"]
abbrev sgS : List Str := ["+", "-", "*", "//", "mod", "<", "<=", "==", "and", "or"]
def c_KEYWORDS : List D := kwS.map .str
def c_SIGNS : List D := sgS.map .str
abbrev smallS : Str := "abcdefghijklmnopqrstuvwxyz"
abbrev greatS : Str := "ABCDEFGHIJKLMNOPQRSTUVWXYZ"
def inS (z : Str) (l : List Str) : Bool := l.any fun k => decide (k = z)
def wordM (z sg : Str) (m : Int) : Bool := decide (1 ≤ (z.length : Int)) && decide ((z.length : Int) ≤ m) && !inS z kwS && z.cps.toList.all fun c => subS ⟨#[c]⟩ sg
def wordD (v : D) (sg : Str) (m : Int) : Bool := match v with
  | .str z => wordM z sg m
  | _ => false
def ownM (v : D) : Bool := wordD v smallS 4
def sharedM (v : D) : Bool := wordD v greatS 4
def numM (v : D) : Bool := match v with
  | .int _ => true
  | _ => false
def rngM (v : D) : Bool := match v with
  | .int i => decide (0 ≤ i) && decide (i ≤ 999999)
  | _ => false
def sgM (v : D) : Bool := match v with
  | .str z => inS z sgS
  | _ => false
/-- an expression nested at most so deep -/
def fitsM : Nat → D → Bool
  | 0, _ => false
  | n + 1, v => match v with
    | .tup [.str w, x] => if w = "num" then rngM x else if w = "name" then ownM x || sharedM x else if w = "not" then fitsM n x else false
    | .tup [.str w, s, x, y] => if w = "num" ∨ w = "name" ∨ w = "not" then false else decide (w = "op") && sgM s && fitsM n x && fitsM n y
    | _ => false
def A_is_number (ds : List D) (P : D → Prop) : Prop := ∃ v, ds = [v] ∧ tyd v = true ∧ P (.bl (numM v))
def A_is_word (ds : List D) (P : D → Prop) : Prop := ∃ v sg m, ds = [v, .str sg, .int m] ∧ tyd v = true ∧ P (.bl (wordD v sg m))
def A_is_own (ds : List D) (P : D → Prop) : Prop := ∃ v, ds = [v] ∧ tyd v = true ∧ P (.bl (ownM v))
def A_is_shared (ds : List D) (P : D → Prop) : Prop := ∃ v, ds = [v] ∧ tyd v = true ∧ P (.bl (sharedM v))
def A_fits (n : Nat) (ds : List D) (P : D → Prop) : Prop := ∃ v d, ds = [v, .int (d : Nat)] ∧ d < n ∧ tyd v = true ∧ P (.bl (fitsM d v))
def A_is_expression (ds : List D) (P : D → Prop) : Prop := ∃ v, ds = [v] ∧ tyd v = true ∧ P (.bl (fitsM 6 v))
/-- slots: 0 value -/
def a_is_number : ATS :=
  aRet (aAndV (aCB wIsi (aCons (aVar 0) (aCons (aC (.ty "int")) (aNil)))) (aV (aNot (aB (aCB wIsi (aCons (aVar 0) (aCons (aC (.ty "bool")) (aNil))))))))
/-- slots: 0 value, 1 signs, 2 most, 3 sign -/
def a_is_word : ATS :=
  aSeq (aIfS (aOr (aNot (aB (aCB wIsi (aCons (aVar 0) (aCons (aC (.ty "str")) (aNil)))))) (aOr (aNot (aB (aChain wLe wLe (aC (.int 1)) (aCB wLen (aCons (aVar 0) (aNil))) (aVar 2)))) (aB (aOp wIn (aVar 0) (aC (.tup c_KEYWORDS)))))) (aRet (aC (.bl false))) (aNext))
  (aRet (aCB wAll (aCons (aLc (aItems (aVar 0)) (gmN 3) (aYes) (aOp wIn (aVar 3) (aVar 1)) [3]) (aNil))))
/-- slots: 0 value -/
def a_is_own : ATS :=
  aRet (aCall A_is_word [] (aCons (aVar 0) (aCons (aC (.str "abcdefghijklmnopqrstuvwxyz")) (aCons (aC (.int 4)) (aNil)))))
/-- slots: 0 value -/
def a_is_shared : ATS :=
  aRet (aCall A_is_word [] (aCons (aVar 0) (aCons (aC (.str "ABCDEFGHIJKLMNOPQRSTUVWXYZ")) (aCons (aC (.int 4)) (aNil)))))
/-- slots: 0 value, 1 deep, 2 word -/
def a_fits (A : List D → (D → Prop) → Prop) : ATS :=
  aSeq (aIfS (aOr (aB (aOp wLt (aVar 1) (aC (.int 1)))) (aOr (aNot (aB (aCB wIsi (aCons (aVar 0) (aCons (aC (.ty "tuple")) (aNil)))))) (aOr (aB (aOp wLt (aCB wLen (aCons (aVar 0) (aNil))) (aC (.int 2)))) (aNot (aB (aCB wIsi (aCons (aOp wIx (aVar 0) (aC (.int 0))) (aCons (aC (.ty "str")) (aNil))))))))) (aRet (aC (.bl false))) (aNext))
  (aSeq (aAsg (aOp wIx (aVar 0) (aC (.int 0))) (gmN 2))
  (aSeq (aIfS (aB (aOp wEq (aVar 2) (aC (.str "num")))) (aRet (aAndV (aOp wEq (aCB wLen (aCons (aVar 0) (aNil))) (aC (.int 2))) (aAndV (aCall A_is_number [] (aCons (aOp wIx (aVar 0) (aC (.int 1))) (aNil))) (aChain wLe wLe (aC (.int 0)) (aOp wIx (aVar 0) (aC (.int 1))) (aC (.int 999999)))))) (aNext))
  (aSeq (aIfS (aB (aOp wEq (aVar 2) (aC (.str "name")))) (aRet (aAndV (aOp wEq (aCB wLen (aCons (aVar 0) (aNil))) (aC (.int 2))) (aOrV (aCall A_is_own [] (aCons (aOp wIx (aVar 0) (aC (.int 1))) (aNil))) (aCall A_is_shared [] (aCons (aOp wIx (aVar 0) (aC (.int 1))) (aNil)))))) (aNext))
  (aSeq (aIfS (aB (aOp wEq (aVar 2) (aC (.str "not")))) (aRet (aAndV (aOp wEq (aCB wLen (aCons (aVar 0) (aNil))) (aC (.int 2))) (aCall A [] (aCons (aOp wIx (aVar 0) (aC (.int 1))) (aCons (aOp wSub (aVar 1) (aC (.int 1))) (aNil)))))) (aNext))
  (aSeq (aIfS (aOr (aB (aOp wNe (aVar 2) (aC (.str "op")))) (aOr (aB (aOp wNe (aCB wLen (aCons (aVar 0) (aNil))) (aC (.int 4)))) (aOr (aNot (aB (aCB wIsi (aCons (aOp wIx (aVar 0) (aC (.int 1))) (aCons (aC (.ty "str")) (aNil)))))) (aB (aOp wNotIn (aOp wIx (aVar 0) (aC (.int 1))) (aC (.tup c_SIGNS))))))) (aRet (aC (.bl false))) (aNext))
  (aRet (aAndV (aCall A [] (aCons (aOp wIx (aVar 0) (aC (.int 2))) (aCons (aOp wSub (aVar 1) (aC (.int 1))) (aNil)))) (aCall A [] (aCons (aOp wIx (aVar 0) (aC (.int 3))) (aCons (aOp wSub (aVar 1) (aC (.int 1))) (aNil)))))))))))
/-- slots: 0 value -/
def a_is_expression : ATS :=
  aRet (aCall (A_fits 7) [] (aCons (aVar 0) (aCons (aC (.int 6)) (aNil))))

/-! ### the law's draws -/
def lowS (z : Str) : Bool := z.cps.toList.all fun c => decide (97 ≤ c) && decide (c ≤ 122)
def A_l_keywords (ds : List D) (P : D → Prop) : Prop := ds = [] ∧ P (.lst c_KEYWORDS)
def A_l_signs (ds : List D) (P : D → Prop) : Prop := ds = [] ∧ P (.lst c_SIGNS)
def A_l_word (ds : List D) (P : D → Prop) : Prop := ∃ m : Int, ds = [.hdl 0, .int m] ∧ 1 ≤ m ∧ m ≤ 100 ∧ ∀ z : Str, lowS z = true → 1 ≤ (z.length : Int) → (z.length : Int) ≤ m → inS z kwS = false → P (.str z)
def A_l_constant (ds : List D) (P : D → Prop) : Prop := ds = [.hdl 0] ∧ ∀ k : Int, 0 ≤ k → k ≤ 999999 → P (.int k)
def nameM (v : D) : Bool := ownM v || sharedM v
/-- slots:  -/
def a_l_keywords : ATS :=
  aRet (aLst (aCons (aC (.str "proc")) (aCons (aC (.str "if")) (aCons (aC (.str "else")) (aCons (aC (.str "while")) (aCons (aC (.str "break")) (aCons (aC (.str "return")) (aCons (aC (.str "print")) (aCons (aC (.str "and")) (aCons (aC (.str "or")) (aCons (aC (.str "not")) (aCons (aC (.str "mod")) (aNil)))))))))))))
/-- slots: 0 _law_bag_here, 1 _law_most, 2 _law_letters, 3 _law_word_here, 4 _law_k -/
def a_l_word : ATS :=
  aSeq (aAsg (aC (.str "abcdefghijklmnopqrstuvwxyz")) (gmN 2))
  (aSeq (aAsg (aMs wJoin (aC (.str "")) (aCons (aLc (aRng1 (aCons (aOp wAdd (aC (.int 1)) (aCall A_l_pull [] (aCons (aVar 0) (aCons (aVar 1) (aNil))))) (aNil))) (gmN 4) (aYes) (aOp wIx (aVar 2) (aCall A_l_pull [] (aCons (aVar 0) (aCons (aC (.int 26)) (aNil))))) [4]) aNil)) (gmN 3))
  (aRet (aIf (aB (aOp wIn (aVar 3) (aCall A_l_keywords [] aNil))) (aSl (aVar 3) (aNoPart) (aPart (aC (.int 1)))) (aVar 3))))
/-- slots:  -/
def a_l_signs : ATS :=
  aRet (aLst (aCons (aC (.str "+")) (aCons (aC (.str "-")) (aCons (aC (.str "*")) (aCons (aC (.str "//")) (aCons (aC (.str "mod")) (aCons (aC (.str "<")) (aCons (aC (.str "<=")) (aCons (aC (.str "==")) (aCons (aC (.str "and")) (aCons (aC (.str "or")) (aNil))))))))))))
/-- slots: 0 _law_bag_here -/
def a_l_constant : ATS :=
  aRet (aCall A_l_pick [] (aCons (aVar 0) (aCons (aLst (aCons (aC (.int 0)) (aCons (aC (.int 1)) (aCons (aC (.int 2)) (aCons (aC (.int 3)) (aCons (aCall A_l_pull [] (aCons (aVar 0) (aCons (aC (.int 10)) (aNil)))) (aCons (aCall A_l_pull [] (aCons (aVar 0) (aCons (aOp wPow (aC (.int 10)) (aC (.int 6))) (aNil)))) (aCons (aC (.int 999999)) (aNil))))))))) (aNil))))
end Bd
namespace Bd
open PySem L2
theorem sub1 (c : Nat) (z : Str) : subS ⟨#[c]⟩ z = decide (c ∈ z.cps.toList) := PySem.StrLaws.found_one z c
@[simp] theorem at0 {α : Type} {x : α} {xs : List α} : atI (x :: xs) 0 = some x := atI_nat (j := 0) rfl
@[simp] theorem at1 {α : Type} {x y : α} {xs : List α} : atI (x :: y :: xs) 1 = some y := atI_nat (j := 1) rfl
@[simp] theorem at2 {α : Type} {x y z : α} {xs : List α} : atI (x :: y :: z :: xs) 2 = some z := atI_nat (j := 2) rfl
@[simp] theorem at3 {α : Type} {x y z u : α} {xs : List α} : atI (x :: y :: z :: u :: xs) 3 = some u := atI_nat (j := 3) rfl
theorem any_strs (z : Str) : ∀ l : List Str, ((l.map D.str).any fun d => eqD d (.str z)) = inS z l
  | [] => rfl
  | k :: l => by
    have := any_strs z l
    unfold inS at this ⊢
    rw [List.map_cons, List.any_cons, List.any_cons, this, eqD_ss]
theorem all_fl : ∀ l : List Str, (l.map D.str).all flD = true
  | [] => rfl
  | k :: l => by rw [List.map_cons, List.all_cons, all_fl l]; rfl
theorem len_is_number : ∀ ds P, A_is_number ds P → ds.length = 1 := by rintro ds P ⟨v, rfl, _⟩; rfl
theorem pure_is_number : ∀ ds P, A_is_number ds P → a_is_number { nx := fun _ _ => P .non, rt := fun d _ => P d } (startG 1 ds) [] := by
  rintro ds P ⟨v, rfl, hv, hP⟩
  cases v <;> first
    | (simpa [a_is_number, isD, okTy, tyN, numM] using hP)
    | cases hv
theorem len_is_word : ∀ ds P, A_is_word ds P → ds.length = 3 := by rintro ds P ⟨v, _, _, rfl, _⟩; rfl
theorem pure_is_word : ∀ ds P, A_is_word ds P → a_is_word { nx := fun _ _ => P .non, rt := fun d _ => P d } (startG 4 ds) [] := by
  rintro ds P ⟨v, sg, m, rfl, hv, hP⟩
  cases v with
  | str z =>
    have hz : z.length ≤ 1000000 := by simpa [tyd] using hv
    have hz2 : z.length ≤ 16000000 := by omega
    have hz3 : z.cps.size ≤ 1000000 := hz
    have hmem : ((c_KEYWORDS.any fun d => eqD d (.str z)) = inS z kwS) := any_strs z kwS
    have hfl : c_KEYWORDS.all flD = true := all_fl kwS
    simp only [a_is_word, aSeq, aIfS, aOr, aNot, aB, aCB, aCons, aVar, aC, aNil, aChain, aOp, aRet, aNext, startG_3, List.getElem?_cons_zero, List.getElem?_cons_succ, wIsi, okTy, tyN, isD, wLen, wLe, wInt0, wIn, memD, flD, hfl, hmem, hz2]
    simp only [wordD, wordM] at hP
    by_cases h1 : 1 ≤ (z.length : Int)
    · by_cases h2 : (z.length : Int) ≤ m
      · cases h3 : inS z kwS with
        | true => simpa [h1, h2, h3] using hP
        | false =>
          simp [h1, h2, h3]
          simp [h1, h2, h3] at hP
          refine ⟨by simpa using by omega, ?_⟩
          refine goA_map (fun d => .bl (match d with | .str y => subS y sg | _ => false)) (fun d hm acc k hk => ?_) ?_
          · obtain ⟨c, _, rfl⟩ := List.mem_map.mp hm
            simpa [lcB, wipeG] using hk
          · rw [List.nil_append]
            dsimp only
            rw [blsOf_map, List.map_map]
            have e : (List.map ((fun (d : D) => match d with | .str y => subS y sg | _ => false) ∘ fun c => D.str ⟨#[c]⟩) z.cps.toList).all id = z.cps.toList.all fun c => subS ⟨#[c]⟩ sg := by
              rw [List.all_map]; rfl
            show P (.bl (List.all _ id))
            rw [e]
            simpa using hP
      · simpa [h1, h2] using hP
    · simpa [h1] using hP
  | _ => first
    | (simpa [a_is_word, isD, okTy, tyN, wordD] using hP)
    | cases hv
theorem len_is_own : ∀ ds P, A_is_own ds P → ds.length = 1 := by rintro ds P ⟨v, rfl, _⟩; rfl
theorem len_is_shared : ∀ ds P, A_is_shared ds P → ds.length = 1 := by rintro ds P ⟨v, rfl, _⟩; rfl
theorem pure_is_own : ∀ ds P, A_is_own ds P → a_is_own { nx := fun _ _ => P .non, rt := fun d _ => P d } (startG 1 ds) [] := by
  rintro ds P ⟨v, rfl, hv, hP⟩
  simp only [a_is_own, aRet, aCall, aCons, aVar, aC, aNil, startG_1, List.getElem?_cons_zero, List.append_nil]
  exact ⟨v, smallS, 4, rfl, hv, hP⟩
theorem pure_is_shared : ∀ ds P, A_is_shared ds P → a_is_shared { nx := fun _ _ => P .non, rt := fun d _ => P d } (startG 1 ds) [] := by
  rintro ds P ⟨v, rfl, hv, hP⟩
  simp only [a_is_shared, aRet, aCall, aCons, aVar, aC, aNil, startG_1, List.getElem?_cons_zero, List.append_nil]
  exact ⟨v, greatS, 4, rfl, hv, hP⟩
@[simp] theorem A_is_number_1 {v : D} {P : D → Prop} : A_is_number [v] P ↔ tyd v = true ∧ P (.bl (numM v)) := ⟨fun ⟨_, h, a, b⟩ => by cases h; exact ⟨a, b⟩, fun ⟨a, b⟩ => ⟨v, rfl, a, b⟩⟩
@[simp] theorem A_is_own_1 {v : D} {P : D → Prop} : A_is_own [v] P ↔ tyd v = true ∧ P (.bl (ownM v)) := ⟨fun ⟨_, h, a, b⟩ => by cases h; exact ⟨a, b⟩, fun ⟨a, b⟩ => ⟨v, rfl, a, b⟩⟩
@[simp] theorem A_is_shared_1 {v : D} {P : D → Prop} : A_is_shared [v] P ↔ tyd v = true ∧ P (.bl (sharedM v)) := ⟨fun ⟨_, h, a, b⟩ => by cases h; exact ⟨a, b⟩, fun ⟨a, b⟩ => ⟨v, rfl, a, b⟩⟩
theorem len_fits (n : Nat) : ∀ ds P, A_fits n ds P → ds.length = 2 := by rintro ds P ⟨v, d, rfl, _⟩; rfl
theorem fitsM_no {v : D} (h : ∀ xs, v ≠ .tup xs) (d : Nat) : fitsM d v = false := by
  cases d with
  | zero => rfl
  | succ n =>
    cases v <;> first
      | rfl
      | exact absurd rfl (h _)
theorem any_sg (z : Str) : (c_SIGNS.any fun d => eqD d (.str z)) = inS z sgS := any_strs z sgS
theorem all_sg : c_SIGNS.all flD = true := all_fl sgS
theorem kw5 (w : Str) : (w = "num" ∧ ¬ w = "name" ∧ ¬ w = "not" ∧ ¬ w = "op") ∨ (¬ w = "num" ∧ w = "name" ∧ ¬ w = "not" ∧ ¬ w = "op") ∨ (¬ w = "num" ∧ ¬ w = "name" ∧ w = "not" ∧ ¬ w = "op") ∨ (¬ w = "num" ∧ ¬ w = "name" ∧ ¬ w = "not" ∧ w = "op") ∨ (¬ w = "num" ∧ ¬ w = "name" ∧ ¬ w = "not" ∧ ¬ w = "op") := by
  by_cases h1 : w = "num"
  · subst h1; exact .inl ⟨rfl, by decide +kernel, by decide +kernel, by decide +kernel⟩
  · by_cases h2 : w = "name"
    · subst h2; exact .inr (.inl ⟨h1, rfl, by decide +kernel, by decide +kernel⟩)
    · by_cases h3 : w = "not"
      · subst h3; exact .inr (.inr (.inl ⟨h1, h2, rfl, by decide +kernel⟩))
      · by_cases h4 : w = "op"
        · exact .inr (.inr (.inr (.inl ⟨h1, h2, h3, h4⟩)))
        · exact .inr (.inr (.inr (.inr ⟨h1, h2, h3, h4⟩)))
theorem A_fits_go {n d : Nat} {v : D} {P : D → Prop} (hd : d < n) (hv : tyd v = true) (h : P (.bl (fitsM d v))) : A_fits n [v, .int (d : Int)] P := ⟨v, d, rfl, hd, hv, h⟩
theorem pure_fits (n : Nat) : ∀ ds P, A_fits (n + 1) ds P → a_fits (A_fits n) { nx := fun _ _ => P .non, rt := fun d _ => P d } (startG 3 ds) [] := by
  rintro ds P ⟨v, d, rfl, hd, hv, hP⟩
  cases v with
  | tup xs =>
    cases d with
    | zero =>
      have hP : P (.bl false) := hP
      simpa [a_fits] using hP
    | succ d =>
      have hd' : d < n := by omega
      have hpos : ¬ ((d : Int) + 1 < 1) := by omega
      match xs, hv, hP with
      | [], hv, hP => simpa [a_fits, isD, okTy, tyN, hpos, fitsM] using hP
      | [a], hv, hP => simpa [a_fits, isD, okTy, tyN, hpos, fitsM] using hP
      | a :: b :: rest, hv, hP =>
        have hv' : (rest.length + 1 + 1 ≤ 1000000) ∧ tyd a = true ∧ tyd b = true ∧ tydA rest = true := by simpa [tyd, tydA] using hv
        obtain ⟨hlen, ha, hb, hr⟩ := hv'
        cases a with
        | str w =>
          match rest, hr, hP with
          | [], _, hP =>
            rcases kw5 w with ⟨h1, h2, h3, h4⟩ | ⟨h1, h2, h3, h4⟩ | ⟨h1, h2, h3, h4⟩ | ⟨h1, h2, h3, h4⟩ | ⟨h1, h2, h3, h4⟩
            · have hP : P (.bl (rngM b)) := by simpa [fitsM, h1] using hP
              simp [a_fits, isD, okTy, tyN, hpos, h1, hb]
              cases b with
              | int i =>
                by_cases h0 : 0 ≤ i
                · simpa [numM, rngM, h0] using hP
                · simpa [numM, rngM, h0] using hP
              | _ => first
                | (simpa [numM, rngM] using hP)
                | cases hb
            · have hP : P (.bl (ownM b || sharedM b)) := by simpa [fitsM, h1, h2] using hP
              simp [a_fits, isD, okTy, tyN, hpos, h1, h2, hb]
              cases ho : ownM b <;> simpa [ho] using hP
            · have hP : P (.bl (fitsM d b)) := by simpa [fitsM, h1, h2, h3] using hP
              simp [a_fits, isD, okTy, tyN, hpos, h1, h2, h3, hb]
              exact A_fits_go hd' hb hP
            · have hP : P (.bl false) := by simpa [fitsM, h1, h2, h3] using hP
              simpa [a_fits, isD, okTy, tyN, hpos, h1, h2, h3, h4] using hP
            · have hP : P (.bl false) := by simpa [fitsM, h1, h2, h3] using hP
              simpa [a_fits, isD, okTy, tyN, hpos, h1, h2, h3, h4] using hP
          | [c], _, hP =>
            have hP : P (.bl false) := by simpa [fitsM] using hP
            rcases kw5 w with ⟨h1, h2, h3, h4⟩ | ⟨h1, h2, h3, h4⟩ | ⟨h1, h2, h3, h4⟩ | ⟨h1, h2, h3, h4⟩ | ⟨h1, h2, h3, h4⟩ <;>
              simpa [a_fits, isD, okTy, tyN, hpos, h1, h2, h3, h4] using hP
          | [c, e], hr, hP =>
            have hr' : tyd c = true ∧ tyd e = true := by simpa [tydA] using hr
            rcases kw5 w with ⟨h1, h2, h3, h4⟩ | ⟨h1, h2, h3, h4⟩ | ⟨h1, h2, h3, h4⟩ | ⟨h1, h2, h3, h4⟩ | ⟨h1, h2, h3, h4⟩
            · have hP : P (.bl false) := by simpa [fitsM, h1] using hP
              simpa [a_fits, isD, okTy, tyN, hpos, h1, h2, h3, h4] using hP
            · have hP : P (.bl false) := by simpa [fitsM, h1, h2] using hP
              simpa [a_fits, isD, okTy, tyN, hpos, h1, h2, h3, h4] using hP
            · have hP : P (.bl false) := by simpa [fitsM, h1, h2, h3] using hP
              simpa [a_fits, isD, okTy, tyN, hpos, h1, h2, h3, h4] using hP
            · have hP : P (.bl (sgM b && fitsM d c && fitsM d e)) := by simpa [fitsM, h1, h2, h3, h4] using hP
              cases b with
              | str z =>
                simp [a_fits, isD, okTy, tyN, hpos, h1, h2, h3, h4, flD, all_sg, any_sg]
                cases hs : inS z sgS with
                | false => simpa [sgM, hs] using hP
                | true =>
                  simp
                  refine ⟨c, d, rfl, hd', hr'.1, ?_⟩
                  cases hf : fitsM d c with
                  | false => simpa [sgM, hs, hf] using hP
                  | true =>
                    simp
                    exact A_fits_go hd' hr'.2 (by simpa [sgM, hs, hf] using hP)
              | _ => first
                | (simpa [a_fits, isD, okTy, tyN, hpos, h1, h2, h3, h4, sgM] using hP)
                | cases hb
            · have hP : P (.bl false) := by simpa [fitsM, h1, h2, h3, h4] using hP
              simpa [a_fits, isD, okTy, tyN, hpos, h1, h2, h3, h4] using hP
          | c :: e :: f :: r, _, hP =>
            have hP : P (.bl false) := by simpa [fitsM] using hP
            have l2 : ¬ ((r.length : Int) + 1 + 1 + 1 + 1 + 1 = 2) := by omega
            have l4 : ¬ ((r.length : Int) + 1 + 1 + 1 + 1 + 1 = 4) := by omega
            have l1 : ¬ ((r.length : Int) + 1 + 1 + 1 + 1 + 1 < 2) := by omega
            rcases kw5 w with ⟨h1, h2, h3, h4⟩ | ⟨h1, h2, h3, h4⟩ | ⟨h1, h2, h3, h4⟩ | ⟨h1, h2, h3, h4⟩ | ⟨h1, h2, h3, h4⟩ <;>
              simpa [a_fits, isD, okTy, tyN, hpos, h1, h2, h3, h4, l1, l2, l4] using hP
        | _ => first
          | (simpa [a_fits, isD, okTy, tyN, hpos, fitsM] using hP)
          | cases ha
  | _ =>
    first
      | (rw [fitsM_no (by intro xs h; cases h)] at hP
         by_cases h0 : (d : Int) < 1
         · simpa [a_fits, isD, okTy, tyN, h0] using hP
         · simpa [a_fits, isD, okTy, tyN, h0] using hP)
      | cases hv
end Bd
namespace Bd
open PySem L2
theorem len_is_expression : ∀ ds P, A_is_expression ds P → ds.length = 1 := by rintro ds P ⟨v, rfl, _⟩; rfl
theorem pure_is_expression : ∀ ds P, A_is_expression ds P → a_is_expression { nx := fun _ _ => P .non, rt := fun d _ => P d } (startG 1 ds) [] := by
  rintro ds P ⟨v, rfl, hv, hP⟩
  simp only [a_is_expression, aRet, aCall, aCons, aVar, aC, aNil, startG_1, List.getElem?_cons_zero, List.append_nil]
  exact ⟨v, 6, rfl, by decide, hv, hP⟩
@[simp] theorem A_is_expression_1 {v : D} {P : D → Prop} : A_is_expression [v] P ↔ tyd v = true ∧ P (.bl (fitsM 6 v)) := ⟨fun ⟨_, h, a, b⟩ => by cases h; exact ⟨a, b⟩, fun ⟨a, b⟩ => ⟨v, rfl, a, b⟩⟩
theorem len_l_keywords : ∀ ds P, A_l_keywords ds P → ds.length = 0 := by rintro ds P ⟨rfl, _⟩; rfl
theorem len_l_signs : ∀ ds P, A_l_signs ds P → ds.length = 0 := by rintro ds P ⟨rfl, _⟩; rfl
theorem pure_l_keywords : ∀ ds P, A_l_keywords ds P → a_l_keywords { nx := fun _ _ => P .non, rt := fun d _ => P d } (startG 0 ds) [] := by
  rintro ds P ⟨rfl, hP⟩
  exact ⟨by decide, hP⟩
theorem pure_l_signs : ∀ ds P, A_l_signs ds P → a_l_signs { nx := fun _ _ => P .non, rt := fun d _ => P d } (startG 0 ds) [] := by
  rintro ds P ⟨rfl, hP⟩
  exact ⟨by decide, hP⟩
@[simp] theorem A_l_keywords_0 {P : D → Prop} : A_l_keywords [] P ↔ P (.lst c_KEYWORDS) := ⟨fun ⟨_, h⟩ => h, fun h => ⟨rfl, h⟩⟩
@[simp] theorem A_l_signs_0 {P : D → Prop} : A_l_signs [] P ↔ P (.lst c_SIGNS) := ⟨fun ⟨_, h⟩ => h, fun h => ⟨rfl, h⟩⟩
/-- drawing a number -/
theorem A_pull_go {m : Int} {P : D → Prop} (h : 0 < m) (h1 : m < 2 ^ 100) (hP : ∀ k : Int, 0 ≤ k → k < m → P (.int k)) : A_l_pull [.hdl 0, .int m] P := ⟨m, rfl, h, log_small h h1, hP⟩
theorem A_pick_go {xs : List D} {P : D → Prop} (h : xs ≠ []) (h1 : xs.length < 1000000) (hP : ∀ d ∈ xs, P d) : A_l_pick [.hdl 0, .lst xs] P := ⟨xs, .inl rfl, h, h1, hP⟩
theorem small_codes : smallS.cps.toList = List.range' 97 26 := by decide +kernel
theorem great_codes : greatS.cps.toList = List.range' 65 26 := by decide +kernel
theorem len_l_word : ∀ ds P, A_l_word ds P → ds.length = 2 := by rintro ds P ⟨m, rfl, _⟩; rfl
/-- joined single signs -/
theorem join1 : ∀ cs : List Nat, Txt.join "" (cs.map fun c => (⟨#[c]⟩ : Str)) = ⟨cs.toArray⟩ := fun cs => by
  rw [TL.join_eq]
  refine TL.ext_tl ?_
  rw [TL.tl_join]
  have e : ∀ l : List Nat, TL.joinL [] (l.map fun c => [c]) = l := by
    intro l
    induction l with
    | nil => rfl
    | cons a r ih =>
      cases r with
      | nil => rfl
      | cons b r => 
        show [a] ++ ([] ++ TL.joinL [] ((b :: r).map fun c => [c])) = a :: b :: r
        rw [ih]; rfl
  rw [List.map_map]
  exact e cs
theorem strsOf_one : ∀ cs : List Nat, strsOf (cs.map fun c => D.str ⟨#[c]⟩) = some (cs.map fun c => (⟨#[c]⟩ : Str)) := fun cs => by
  have := strsOf_map (cs.map fun c => (⟨#[c]⟩ : Str))
  rw [List.map_map] at this
  exact this
theorem sum_ones : ∀ cs : List Nat, ((cs.map fun c => (⟨#[c]⟩ : Str)).map (·.length)).sum = cs.length := fun cs => by
  induction cs with
  | nil => rfl
  | cons a r ih =>
    rw [List.map_cons, List.map_cons, List.sum_cons, ih]
    show 1 + r.length = r.length + 1
    omega
theorem inS_len1 (c : Nat) : inS ⟨#[c]⟩ kwS = false := by
  unfold inS
  rw [List.any_eq_false]
  intro k hk
  have hl : ∀ k ∈ kwS, k.length ≠ 1 := by decide +kernel
  have := hl k hk
  simp only [decide_eq_true_eq]
  intro e
  rw [e] at this
  exact this rfl
theorem okD_low {z : Str} (h : lowS z = true) : okD (.str z) = true := by
  have : z.cps.all (· < 0x110000) = true := by
    rw [Array.all_eq_true_iff_forall_mem]
    intro c hc
    have h2 := List.all_eq_true.mp h c (Array.mem_toList_iff.mpr hc)
    simp at h2
    simp
    omega
  simp [okD, pureD, pyD, SeqAt.shaped, PyData.canLay0, PyData.depth, PyData.strOk, this]
theorem pure_l_word : ∀ ds P, A_l_word ds P → a_l_word { nx := fun _ _ => P .non, rt := fun d _ => P d } (startG 5 ds) [] := by
  rintro ds P ⟨m, rfl, hm, hm2, hP⟩
  have hfl : c_KEYWORDS.all flD = true := all_fl kwS
  have hmem : ∀ z, ((c_KEYWORDS.any fun d => eqD d (.str z)) = inS z kwS) := fun z => any_strs z kwS
  simp only [a_l_word, aSeq, aAsg, aC, gmN, aMs, aCons, aNil, aRet, startG_2, List.replicate, List.set_cons_succ, List.set_cons_zero, aLc, aRng1, aOp, aCall, aVar, List.getElem?_cons_succ, List.getElem?_cons_zero, List.append_nil]
  refine A_pull_go (by omega) (by omega) fun k k0 k1 => ?_
  simp only [wAdd]
  refine ⟨by omega, ?_, ?_⟩
  · simp
    omega
  -- the signs
  refine goA_all (fun _ y => ∃ c, y = .str ⟨#[c]⟩ ∧ 97 ≤ c ∧ c ≤ 122) (fun d _ acc kk hk => ?_) fun ys hl hy => ?_
  · simp only [lcB, wipeG, List.set_cons_succ, List.set_cons_zero, aYes, if_true]
    refine A_pull_go (by omega) (by omega) fun j j0 j1 => ?_
    simp only [wIx]
    refine ⟨by decide, ?_⟩
    obtain ⟨n, rfl⟩ := Int.eq_ofNat_of_zero_le j0
    have hn : n < 26 := by omega
    have e : atI smallS.cps.toList (n : Int) = some (97 + n) := by
      refine atI_nat ?_
      rw [small_codes, List.getElem?_range' hn]
      simp
    rw [e]
    exact hk _ ⟨97 + n, rfl, by omega, by omega⟩
  · -- the text of these
    have hcs : ∃ cs : List Nat, ys = cs.map (fun c => D.str ⟨#[c]⟩) ∧ ∀ c ∈ cs, 97 ≤ c ∧ c ≤ 122 := by
      clear hl
      induction ys with
      | nil => exact ⟨[], rfl, by simp⟩
      | cons y ys ih =>
        obtain ⟨cs, e1, e2⟩ := ih fun z hz => hy z (by simp [hz])
        obtain ⟨_, _, c, e3, e4⟩ := hy y (by simp)
        exact ⟨c :: cs, by rw [e1, e3]; rfl, fun x hx => by
          rcases List.mem_cons.mp hx with e | e
          · rw [e]; exact e4
          · exact e2 x e⟩
    obtain ⟨cs, rfl, hb⟩ := hcs
    have hlen : cs.length = (1 + k).toNat := by simpa using hl
    rw [List.nil_append]
    simp only [wJoin, strsOf_one, sum_ones, join1]
    have h0 : (Str.ofString "").length = 0 := by decide
    refine ⟨by rw [h0, List.length_map]; omega, ?_⟩
    have hlow : lowS ⟨cs.toArray⟩ = true := by
      unfold lowS
      rw [List.all_eq_true]
      intro c hc
      have := hb c (by simpa using hc)
      simp
      omega
    have hzl : (⟨cs.toArray⟩ : Str).length = cs.length := by show cs.toArray.size = _; simp
    have hne : cs ≠ [] := by
      intro e
      rw [e] at hlen
      simp at hlen
      omega
    simp only [aIf, aB, aOp, aVar, aSl, aNoPart, aPart, aC, aCall, aNil, List.append_nil, A_l_keywords_0, List.getElem?_cons_succ, List.getElem?_cons_zero, List.set_cons_succ, List.set_cons_zero, wIn, memD, flD, hfl, hmem, Bool.true_and, Bool.true_or, true_and, wSl]
    cases hk : inS ⟨cs.toArray⟩ kwS with
    | false =>
      simp only [Bool.false_eq_true, if_false]
      refine hP _ hlow ?_ ?_ hk
      · rw [hzl]; omega
      · rw [hzl]; omega
    | true =>
      simp only [if_true]
      refine ⟨by rw [hzl]; omega, ?_⟩
      obtain ⟨c, r, rfl⟩ := List.exists_cons_of_ne_nil hne
      have ec : cutS ⟨(c :: r).toArray⟩ none (some 1) = ⟨#[c]⟩ := by
        unfold cutS
        rw [hzl]
        have h1 : HT.sIx (r.length + 1) 0 none = 0 := rfl
        have h2 : HT.sIx (r.length + 1) (r.length + 1) (some 1) = 1 := by
          rw [show (1 : Int) = ((1 : Nat) : Int) from rfl, HT.sIx_nat]
          omega
        rw [List.length_cons, h1, h2]
        simp
      rw [ec]
      have hc := hb c (by simp)
      refine hP _ ?_ ?_ ?_ (inS_len1 c)
      · simp [lowS]; omega
      · show (1 : Int) ≤ ((1 : Nat) : Int); omega
      · show ((1 : Nat) : Int) ≤ m; omega
theorem len_l_constant : ∀ ds P, A_l_constant ds P → ds.length = 1 := by rintro ds P ⟨rfl, _⟩; rfl
theorem pure_l_constant : ∀ ds P, A_l_constant ds P → a_l_constant { nx := fun _ _ => P .non, rt := fun d _ => P d } (startG 1 ds) [] := by
  rintro ds P ⟨rfl, hP⟩
  simp only [a_l_constant, aRet, aCall, aCons, aVar, aC, aNil, aLst, aOp, wPow, wInt, startG_1, List.getElem?_cons_zero, List.append_nil]
  refine A_pull_go (by omega) (by omega) fun k k0 k1 => ⟨⟨by decide, by decide, by decide⟩, ?_⟩
  refine A_pull_go (by decide) (by decide) fun j j0 j1 => ⟨by simp, ?_⟩
  have j1 : j < 1000000 := j1
  refine A_pick_go (by simp) (by simp) fun d hd => ?_
  simp at hd
  rcases hd with rfl | rfl | rfl | rfl | rfl | rfl | rfl <;> exact hP _ (by omega) (by omega)
end Bd
namespace Bd
open PySem L2
theorem low_in {c : Nat} (h : 97 ≤ c) (h2 : c ≤ 122) : subS ⟨#[c]⟩ smallS = true := by
  have e : ∀ k, k < 26 → subS ⟨#[97 + k]⟩ smallS = true := by decide +kernel
  have := e (c - 97) (by omega)
  rwa [show 97 + (c - 97) = c by omega] at this
theorem up_in {c : Nat} (h : 97 ≤ c) (h2 : c ≤ 122) : subS ⟨#[PyProof.Rows.up1 c]⟩ greatS = true ∧ 65 ≤ PyProof.Rows.up1 c ∧ PyProof.Rows.up1 c ≤ 90 := by
  have e : ∀ k, k < 26 → subS ⟨#[PyProof.Rows.up1 (97 + k)]⟩ greatS = true ∧ 65 ≤ PyProof.Rows.up1 (97 + k) ∧ PyProof.Rows.up1 (97 + k) ≤ 90 := by decide +kernel
  have := e (c - 97) (by omega)
  rwa [show 97 + (c - 97) = c by omega] at this
theorem low_all {z : Str} (h : lowS z = true) : ∀ c ∈ z.cps.toList, 97 ≤ c ∧ c ≤ 122 := fun c hc => by
  have := List.all_eq_true.mp h c hc
  simpa using this
theorem name_low {z : Str} (h : lowS z = true) (h1 : 1 ≤ (z.length : Int)) (h4 : (z.length : Int) ≤ 4) (hk : inS z kwS = false) : nameM (.str z) = true ∧ tyd (.str z) = true := by
  have ha : (z.cps.toList.all fun c => subS ⟨#[c]⟩ smallS) = true := List.all_eq_true.mpr fun c hc => low_in (low_all h c hc).1 (low_all h c hc).2
  have : ownM (.str z) = true := by simp only [ownM, wordD, wordM, h1, h4, hk, ha, decide_true, Bool.not_false, Bool.and_self]
  exact ⟨by simp [nameM, this], by simp [tyd]; omega⟩
theorem upper_low {z : Str} (h : lowS z = true) : PySem.Txt.upper z = ⟨z.cps.map PyProof.Rows.up1⟩ := PyProof.Rows.upper_ascii fun c hc => by
  have := low_all h c hc
  omega
theorem name_up {z : Str} (h : lowS z = true) (h1 : 1 ≤ (z.length : Int)) (h4 : (z.length : Int) ≤ 4) : nameM (.str (PySem.Txt.upper z)) = true ∧ tyd (.str (PySem.Txt.upper z)) = true := by
  rw [upper_low h]
  have hl : (⟨z.cps.map PyProof.Rows.up1⟩ : Str).length = z.length := by simp [Str.length]
  have hm : ∀ c ∈ (z.cps.map PyProof.Rows.up1).toList, subS ⟨#[c]⟩ greatS = true ∧ 65 ≤ c ∧ c ≤ 90 := fun c hc => by
    rw [Array.toList_map] at hc
    obtain ⟨d, hd, rfl⟩ := List.mem_map.mp hc
    exact up_in (low_all h d hd).1 (low_all h d hd).2
  have ha : ((z.cps.map PyProof.Rows.up1).toList.all fun c => subS ⟨#[c]⟩ greatS) = true := List.all_eq_true.mpr fun c hc => (hm c hc).1
  have hk : inS ⟨z.cps.map PyProof.Rows.up1⟩ kwS = false := by
    cases q : inS ⟨z.cps.map PyProof.Rows.up1⟩ kwS with
    | false => rfl
    | true =>
      exfalso
      obtain ⟨k, k1, k2⟩ := List.any_eq_true.mp q
      have k2 := of_decide_eq_true k2
      have low : ∀ k ∈ kwS, ∀ c ∈ k.cps.toList, 97 ≤ c := by decide +kernel
      have lw := low k k1
      rw [k2] at lw
      cases e : z.cps.toList with
      | nil =>
        have : z.length = 0 := by
          show z.cps.size = 0
          rw [← Array.length_toList, e]
          rfl
        omega
      | cons c cs =>
        have hc : PyProof.Rows.up1 c ∈ (z.cps.map PyProof.Rows.up1).toList := by
          rw [Array.toList_map, e]
          simp
        have a := hm _ hc
        have b := lw _ hc
        omega
  have : sharedM (.str ⟨z.cps.map PyProof.Rows.up1⟩) = true := by simp only [sharedM, wordD, wordM, hl, h1, h4, hk, ha, decide_true, Bool.not_false, Bool.and_self]
  exact ⟨by simp [nameM, this], by simp [tyd, hl]; omega⟩
theorem own_low {z : Str} {m : Int} (h : lowS z = true) (h1 : 1 ≤ (z.length : Int)) (h4 : (z.length : Int) ≤ m) (hk : inS z kwS = false) : wordM z smallS m = true := by
  have ha : (z.cps.toList.all fun c => subS ⟨#[c]⟩ smallS) = true := List.all_eq_true.mpr fun c hc => low_in (low_all h c hc).1 (low_all h c hc).2
  simp only [wordM, h1, h4, hk, ha, decide_true, Bool.not_false, Bool.and_self]
theorem kw_low : ∀ k ∈ kwS, ∃ c ∈ k.cps.toList, 97 ≤ c := by decide +kernel
/-- a text of great letters is no keyword -/
theorem kw_great {z : Str} (h : ∀ c ∈ z.cps.toList, 65 ≤ c ∧ c ≤ 90) : inS z kwS = false := by
  cases q : inS z kwS with
  | false => rfl
  | true =>
    exfalso
    obtain ⟨k, k1, k2⟩ := List.any_eq_true.mp q
    have k2 := of_decide_eq_true k2
    obtain ⟨c, c1, c2⟩ := kw_low k k1
    rw [k2] at c1
    have := h c c1
    omega
theorem great_in {c : Nat} (h : 65 ≤ c) (h2 : c ≤ 90) : subS ⟨#[c]⟩ greatS = true := by
  have e : ∀ k, k < 26 → subS ⟨#[65 + k]⟩ greatS = true := by decide +kernel
  have := e (c - 65) (by omega)
  rwa [show 65 + (c - 65) = c by omega] at this
theorem shared_great {z : Str} (h : ∀ c ∈ z.cps.toList, 65 ≤ c ∧ c ≤ 90) (h1 : 1 ≤ (z.length : Int)) (h4 : (z.length : Int) ≤ 4) : nameM (.str z) = true ∧ tyd (.str z) = true := by
  have hk := kw_great h
  have ha : (z.cps.toList.all fun c => subS ⟨#[c]⟩ greatS) = true := List.all_eq_true.mpr fun c hc => great_in (h c hc).1 (h c hc).2
  have : sharedM (.str z) = true := by simp only [sharedM, wordD, wordM, h1, h4, hk, ha, decide_true, Bool.not_false, Bool.and_self]
  exact ⟨by simp [nameM, this], by simp [tyd]; omega⟩
end Bd
namespace Bd
open PySem L2
/-! ### the texts of expressions -/
def exprT : Nat → D → Str
  | 0, _ => Str.empty
  | n + 1, v => match v with
    | .tup [.str w, x] => if w = "num" then (match x with | .int i => (toString i : String) | _ => Str.empty) else if w = "name" then (match x with | .str z => z | _ => Str.empty) else "not " ++ exprT n x
    | .tup [.str _, .str s, x, y] => "(" ++ exprT n x ++ " " ++ s ++ " " ++ exprT n y ++ ")"
    | _ => Str.empty
def A_expression_text (n : Nat) (ds : List D) (P : D → Prop) : Prop := ∃ v, ds = [v] ∧ fitsM n v = true ∧ n ≤ 8 ∧ P (.str (exprT n v))
def A_l_expr_text (n : Nat) (ds : List D) (P : D → Prop) : Prop := ∃ v, ds = [v] ∧ fitsM n v = true ∧ n ≤ 8 ∧ P (.str (exprT n v))
/-- slots: 0 expression, 1 word, 2 sign, 3 one, 4 other -/
def a_expression_text (A : List D → (D → Prop) → Prop) : ATS :=
  aSeq (aIfS (aB (aOp wEq (aOp wIx (aVar 0) (aC (.int 0))) (aC (.str "num")))) (aRet (aCB wStrI (aCons (aOp wIx (aVar 0) (aC (.int 1))) (aNil)))) (aNext))
  (aSeq (aIfS (aB (aOp wEq (aOp wIx (aVar 0) (aC (.int 0))) (aC (.str "name")))) (aRet (aOp wIx (aVar 0) (aC (.int 1)))) (aNext))
  (aSeq (aIfS (aB (aOp wEq (aOp wIx (aVar 0) (aC (.int 0))) (aC (.str "not")))) (aRet (aOp wAdd (aC (.str "not ")) (aCall A [] (aCons (aOp wIx (aVar 0) (aC (.int 1))) (aNil))))) (aNext))
  (aSeq (aAsg (aVar 0) (gmT 4 (gmCons (gmN 1) (gmCons (gmN 2) (gmCons (gmN 3) (gmCons (gmN 4) (gmNil)))))))
  (aRet (aJoined [aC (.str "("), aFmt (aCall A [] (aCons (aVar 3) (aNil))), aC (.str " "), aFmt (aVar 2), aC (.str " "), aFmt (aCall A [] (aCons (aVar 4) (aNil))), aC (.str ")")])))))
/-- slots: 0 _law_expression -/
def a_l_expr_text (A : List D → (D → Prop) → Prop) : ATS :=
  aSeq (aIfS (aB (aOp wEq (aOp wIx (aVar 0) (aC (.int 0))) (aC (.str "num")))) (aRet (aCB wStrI (aCons (aOp wIx (aVar 0) (aC (.int 1))) (aNil)))) (aNext))
  (aSeq (aIfS (aB (aOp wEq (aOp wIx (aVar 0) (aC (.int 0))) (aC (.str "name")))) (aRet (aOp wIx (aVar 0) (aC (.int 1)))) (aNext))
  (aSeq (aIfS (aB (aOp wEq (aOp wIx (aVar 0) (aC (.int 0))) (aC (.str "not")))) (aRet (aOp wAdd (aC (.str "not ")) (aCall A [] (aCons (aOp wIx (aVar 0) (aC (.int 1))) (aNil))))) (aNext))
  (aRet (aOp wAdd (aOp wAdd (aOp wAdd (aOp wAdd (aOp wAdd (aOp wAdd (aC (.str "(")) (aCall A [] (aCons (aOp wIx (aVar 0) (aC (.int 2))) (aNil)))) (aC (.str " "))) (aOp wIx (aVar 0) (aC (.int 1)))) (aC (.str " "))) (aCall A [] (aCons (aOp wIx (aVar 0) (aC (.int 3))) (aNil)))) (aC (.str ")"))))))

theorem len_app (a b : Str) : (a ++ b).length = a.length + b.length := by
  show (a.cps ++ b.cps).size = a.cps.size + b.cps.size
  exact Array.size_append
theorem emp_app (a : Str) : Str.empty ++ a = a := by
  show (⟨#[] ++ a.cps⟩ : Str) = a
  simp
theorem app_assoc (a b c : Str) : a ++ b ++ c = a ++ (b ++ c) := by
  show (⟨a.cps ++ b.cps ++ c.cps⟩ : Str) = ⟨a.cps ++ (b.cps ++ c.cps)⟩
  rw [Array.append_assoc]
theorem fits_cases {n : Nat} {v : D} (h : fitsM (n + 1) v = true) : (∃ i, v = .tup [.str "num", .int i] ∧ 0 ≤ i ∧ i ≤ 999999) ∨ (∃ z : Str, v = .tup [.str "name", .str z] ∧ z.length ≤ 4) ∨ (∃ x, v = .tup [.str "not", x] ∧ fitsM n x = true) ∨
    (∃ s x y, v = .tup [.str "op", .str s, x, y] ∧ inS s sgS = true ∧ fitsM n x = true ∧ fitsM n y = true) := by
  unfold fitsM at h
  split at h
  · rename_i w x
    by_cases h1 : w = "num"
    · subst h1
      simp at h
      cases x with
      | int i => exact .inl ⟨i, rfl, by simpa [rngM] using h⟩
      | _ => cases h
    · by_cases h2 : w = "name"
      · subst h2
        have h : (ownM x || sharedM x) = true := by simpa [h1] using h
        refine .inr (.inl ?_)
        cases x with
        | str z =>
          refine ⟨z, rfl, ?_⟩
          rcases Bool.or_eq_true_iff.mp h with q | q
          · have q : wordM z smallS 4 = true := q
            simp [wordM] at q
            omega
          · have q : wordM z greatS 4 = true := q
            simp [wordM] at q
            omega
        | _ => cases h
      · by_cases h3 : w = "not"
        · subst h3
          exact .inr (.inr (.inl ⟨x, rfl, by simpa [h1, h2] using h⟩))
        · simp [h1, h2, h3] at h
  · rename_i w s x y
    split at h
    · cases h
    · simp at h
      obtain ⟨⟨⟨h1, h2⟩, h3⟩, h4⟩ := h
      subst h1
      cases s with
      | str s => exact .inr (.inr (.inr ⟨s, x, y, rfl, h2, h3, h4⟩))
      | _ => cases h2
  · cases h
theorem exprT_len : ∀ (n : Nat) {v : D}, fitsM n v = true → (exprT n v).length + 7 ≤ 7 * 2 ^ n
  | 0, v, h => by cases h
  | n + 1, v, h => by
    have hp : 1 ≤ 2 ^ n := Nat.one_le_two_pow
    have h2 : 2 ^ (n + 1) = 2 * 2 ^ n := by rw [Nat.pow_succ]; omega
    rcases fits_cases h with ⟨i, rfl, i0, i1⟩ | ⟨z, rfl, hz⟩ | ⟨x, rfl, hx⟩ | ⟨s, x, y, rfl, hs, hx, hy⟩
    · have e : (exprT (n + 1) (.tup [.str "num", .int i])) = Str.ofString (toString i) := by simp [exprT]
      have := PyProof.Rows.toString_length_le (v := i) i0 (k := 6) (by decide) (by omega)
      rw [e]
      omega
    · have e : (exprT (n + 1) (.tup [.str "name", .str z])) = z := by simp [exprT]
      rw [e]
      omega
    · have e : (exprT (n + 1) (.tup [.str "not", x])) = "not " ++ exprT n x := by simp [exprT]
      have := exprT_len n hx
      rw [e, len_app]
      have : (Str.ofString "not ").length = 4 := by decide
      omega
    · have e : (exprT (n + 1) (.tup [.str "op", .str s, x, y])) = "(" ++ exprT n x ++ " " ++ s ++ " " ++ exprT n y ++ ")" := by simp [exprT]
      have h3 := exprT_len n hx
      have h4 := exprT_len n hy
      have hl : s.length ≤ 3 := by
        obtain ⟨k, k1, k2⟩ := List.any_eq_true.mp hs
        have k2 := of_decide_eq_true k2
        have low : ∀ k ∈ sgS, k.length ≤ 3 := by decide +kernel
        rw [← k2]
        exact low k k1
      rw [e]
      simp only [len_app]
      have a1 : (Str.ofString "(").length = 1 := by decide
      have a2 : (Str.ofString " ").length = 1 := by decide
      have a3 : (Str.ofString ")").length = 1 := by decide
      omega
theorem pow8 {n : Nat} (h : n ≤ 8) : 7 * 2 ^ n ≤ 1792 := by
  have : 2 ^ n ≤ 2 ^ 8 := Nat.pow_le_pow_right (by decide) h
  omega
theorem zero_expression_text : ∀ ds P, ¬ A_expression_text 0 ds P := by
  rintro ds P ⟨v, _, h, _⟩
  cases h
theorem zero_l_expr_text : ∀ ds P, ¬ A_l_expr_text 0 ds P := by
  rintro ds P ⟨v, _, h, _⟩
  cases h
theorem len_expression_text (n : Nat) : ∀ ds P, A_expression_text n ds P → ds.length = 1 := by rintro ds P ⟨v, rfl, _⟩; rfl
theorem len_l_expr_text (n : Nat) : ∀ ds P, A_l_expr_text n ds P → ds.length = 1 := by rintro ds P ⟨v, rfl, _⟩; rfl
theorem txt_go {n : Nat} {v : D} {P : D → Prop} (h : fitsM n v = true) (hn : n ≤ 8) (hP : P (.str (exprT n v))) : A_expression_text n [v] P := ⟨v, rfl, h, hn, hP⟩
theorem txt_go2 {n : Nat} {v : D} {P : D → Prop} (h : fitsM n v = true) (hn : n ≤ 8) (hP : P (.str (exprT n v))) : A_l_expr_text n [v] P := ⟨v, rfl, h, hn, hP⟩
theorem log_i {i : Int} (h0 : 0 ≤ i) (h1 : i ≤ 999999) : i.natAbs.log2 < 1900 := by
  have h2 : i.natAbs < 2 ^ 100 := by omega
  by_cases h3 : i.natAbs = 0
  · rw [h3]; decide
  · have := (Nat.log2_lt h3).mpr h2
    omega
theorem exprT_le {n : Nat} {v : D} (hn : n ≤ 8) (h : fitsM n v = true) : (exprT n v).length ≤ 1792 := by
  have := exprT_len n h
  have := pow8 hn
  omega
theorem sg_len {s : Str} (hs : inS s sgS = true) : s.length ≤ 3 := by
  obtain ⟨k, k1, k2⟩ := List.any_eq_true.mp hs
  have k2 := of_decide_eq_true k2
  have low : ∀ k ∈ sgS, k.length ≤ 3 := by decide +kernel
  rw [← k2]
  exact low k k1
theorem pure_expression_text (n : Nat) : ∀ ds P, A_expression_text (n + 1) ds P → a_expression_text (A_expression_text n) { nx := fun _ _ => P .non, rt := fun d _ => P d } (startG 5 ds) [] := by
  rintro ds P ⟨v, rfl, h, hn, hP⟩
  have a0 : Str.empty.length = 0 := by decide
  have a1 : (Str.ofString "(").length = 1 := by decide
  have a2 : (Str.ofString " ").length = 1 := by decide
  have a3 : (Str.ofString ")").length = 1 := by decide
  have a4 : (Str.ofString "not ").length = 4 := by decide
  rcases fits_cases h with ⟨i, rfl, i0, i1⟩ | ⟨z, rfl, hz⟩ | ⟨x, rfl, hx⟩ | ⟨s, x, y, rfl, hs, hx, hy⟩
  · simp [exprT] at hP
    simp [a_expression_text, wIx]
    exact ⟨by have := log_i i0 i1; omega, hP⟩
  · simp [exprT] at hP
    simpa [a_expression_text, wIx] using hP
  · simp [exprT] at hP
    simp [a_expression_text, wIx]
    have b1 := exprT_le (by omega : n ≤ 8) hx
    exact txt_go hx (by omega) ⟨by omega, hP⟩
  · simp [exprT] at hP
    simp [a_expression_text, wIx, aJoined, aJs]
    have b1 := exprT_le (by omega : n ≤ 8) hx
    have b2 := exprT_le (by omega : n ≤ 8) hy
    have b3 := sg_len hs
    refine ⟨by omega, txt_go hx (by omega) ?_⟩
    simp only [emp_app, len_app]
    refine ⟨by omega, by omega, by omega, by omega, by omega, by omega, txt_go hy (by omega) ?_⟩
    simp only [len_app]
    exact ⟨by omega, by omega, by omega, hP⟩
theorem pure_l_expr_text (n : Nat) : ∀ ds P, A_l_expr_text (n + 1) ds P → a_l_expr_text (A_l_expr_text n) { nx := fun _ _ => P .non, rt := fun d _ => P d } (startG 1 ds) [] := by
  rintro ds P ⟨v, rfl, h, hn, hP⟩
  have a0 : Str.empty.length = 0 := by decide
  have a1 : (Str.ofString "(").length = 1 := by decide
  have a2 : (Str.ofString " ").length = 1 := by decide
  have a3 : (Str.ofString ")").length = 1 := by decide
  have a4 : (Str.ofString "not ").length = 4 := by decide
  rcases fits_cases h with ⟨i, rfl, i0, i1⟩ | ⟨z, rfl, hz⟩ | ⟨x, rfl, hx⟩ | ⟨s, x, y, rfl, hs, hx, hy⟩
  · simp [exprT] at hP
    simp [a_l_expr_text, wIx]
    exact ⟨by have := log_i i0 i1; omega, hP⟩
  · simp [exprT] at hP
    simpa [a_l_expr_text, wIx] using hP
  · simp [exprT] at hP
    simp [a_l_expr_text, wIx]
    have b1 := exprT_le (by omega : n ≤ 8) hx
    exact txt_go2 hx (by omega) ⟨by omega, hP⟩
  · simp [exprT] at hP
    simp [a_l_expr_text, wIx]
    have b1 := exprT_le (by omega : n ≤ 8) hx
    have b2 := exprT_le (by omega : n ≤ 8) hy
    have b3 := sg_len hs
    refine txt_go2 hx (by omega) ?_
    simp only [len_app]
    refine ⟨by omega, by omega, by omega, by omega, txt_go2 hy (by omega) ?_⟩
    simp only [len_app]
    exact ⟨by omega, by omega, hP⟩
end Bd
namespace Bd
open PySem L2
/-! ### statements, their texts -/
def wtM (v : D) : Prop := ∃ a b : Int, v = .tup [.int a, .int b] ∧ 0 ≤ a ∧ a ≤ 99 ∧ 1 ≤ b ∧ b ≤ 12 ∧ Int.gcd a b = 1
def intS (i : Int) : Str := (toString i : String)
def wtT (v : D) : Str := match v with
  | .tup [.int a, .int b] => if b = 1 then intS a else intS a ++ "/" ++ intS b
  | _ => Str.empty
def exM (x : D) : Prop := fitsM 6 x = true ∧ tyd x = true
def tgM (x : D) : Prop := nameM x = true ∧ tyd x = true
def fnm (z : Str) : Prop := lowS z = true ∧ 1 ≤ (z.length : Int) ∧ (z.length : Int) ≤ 6 ∧ inS z kwS = false
mutual
/-- a statement: room for so much depth, within a while, lines, calls -/
inductive St : Nat → Bool → Nat → Nat → D → Prop where
  | brk {n : Nat} : St (n + 1) true 1 0 (.tup [.str "break"])
  | set {n : Nat} {w : Bool} {t x : D} : tgM t → exM x → St (n + 1) w 1 0 (.tup [.str "set", t, x])
  | prt {n : Nat} {w : Bool} {x : D} : exM x → St (n + 1) w 1 0 (.tup [.str "print", x])
  | ret {n : Nat} {w : Bool} {x : D} : exM x → St (n + 1) w 1 0 (.tup [.str "return", x])
  | call {n : Nat} {w : Bool} {t v : D} {f : Str} {xs : List D} : tgM t → fnm f → xs.length ≤ 3 → (∀ x ∈ xs, exM x) → wtM v → St (n + 1) w 1 1 (.tup [.str "call", t, .str f, .tup xs, v])
  | whl {n l c : Nat} {w : Bool} {x : D} {b : List D} : exM x → Bk n true l c b → St (n + 1) w (l + 1) c (.tup [.str "while", x, .tup b])
  | ite {n l c : Nat} {w : Bool} {x : D} {b : List D} : exM x → Bk n w l c b → St (n + 1) w (l + 1) c (.tup [.str "if", x, .tup b, .tup []])
  | ite2 {n l c l2 c2 : Nat} {w : Bool} {x : D} {b e : List D} : exM x → Bk n w l c b → Bk n w l2 c2 e → St (n + 1) w (l + l2 + 1) (c + c2) (.tup [.str "if", x, .tup b, .tup e])
inductive Bk : Nat → Bool → Nat → Nat → List D → Prop where
  | one {n l c : Nat} {w : Bool} {s : D} : St n w l c s → Bk n w l c [s]
  | cons {n l c l2 c2 : Nat} {w : Bool} {s : D} {b : List D} : St n w l c s → Bk n w l2 c2 b → Bk n w (l + l2) (c + c2) (s :: b)
end
def headT (s : D) : Str := match s with
  | .tup [.str _] => "break"
  | .tup [.str w, x] => w ++ " " ++ exprT 6 x
  | .tup [.str w, y, x] => if w = "set" then (match y with | .str t => t ++ " = " ++ exprT 6 x | _ => Str.empty) else w ++ " " ++ exprT 6 y ++ ":"
  | .tup [.str w, x, .tup b, .tup e] => w ++ " " ++ exprT 6 x ++ ":"
  | .tup [.str _, .str t, .str f, .tup xs, v] => t ++ " = " ++ f ++ "(" ++ Txt.join ", " (xs.map (exprT 6)) ++ ") @ " ++ wtT v
  | _ => Str.empty
def padT (d : Nat) : Str := Txt.mul "  " (d : Int)
def stR : Nat → Nat → D → List Str
  | 0, _, _ => []
  | n + 1, d, s => (padT d ++ headT s) :: (match s with
    | .tup [.str w, _, .tup b] => if w = "while" then b.flatMap (stR n (d + 1)) else []
    | .tup [.str w, _, .tup b, .tup e] => if w = "if" then b.flatMap (stR n (d + 1)) ++ (if e = [] then [] else (padT d ++ "else:") :: e.flatMap (stR n (d + 1))) else []
    | _ => [])
def A_weight_text (ds : List D) (P : D → Prop) : Prop := ∃ v, ds = [v] ∧ wtM v ∧ P (.str (wtT v))
def A_l_frac_text (ds : List D) (P : D → Prop) : Prop := ∃ v, ds = [v] ∧ wtM v ∧ P (.str (wtT v))
def A_head_text (ds : List D) (P : D → Prop) : Prop := ∃ n w l c s, ds = [s] ∧ St n w l c s ∧ P (.str (headT s))
def A_l_head_text (ds : List D) (P : D → Prop) : Prop := ∃ n w l c s, ds = [s] ∧ St n w l c s ∧ P (.str (headT s))
/-- slots: 0 weight -/
def a_weight_text : ATS :=
  aRet (aIf (aB (aOp wEq (aOp wIx (aVar 0) (aC (.int 1))) (aC (.int 1)))) (aCB wStrI (aCons (aOp wIx (aVar 0) (aC (.int 0))) (aNil))) (aJoined [aFmt (aOp wIx (aVar 0) (aC (.int 0))), aC (.str "/"), aFmt (aOp wIx (aVar 0) (aC (.int 1)))]))
/-- slots: 0 _law_pair -/
def a_l_frac_text : ATS :=
  aRet (aIf (aB (aOp wEq (aOp wIx (aVar 0) (aC (.int 1))) (aC (.int 1)))) (aCB wStrI (aCons (aOp wIx (aVar 0) (aC (.int 0))) (aNil))) (aOp wAdd (aOp wAdd (aCB wStrI (aCons (aOp wIx (aVar 0) (aC (.int 0))) (aNil))) (aC (.str "/"))) (aCB wStrI (aCons (aOp wIx (aVar 0) (aC (.int 1))) (aNil)))))
/-- slots: 0 statement, 1 word, 2 args, 3 text, 4 one -/
def a_head_text : ATS :=
  aSeq (aAsg (aOp wIx (aVar 0) (aC (.int 0))) (gmN 1))
  (aSeq (aIfS (aB (aOp wEq (aVar 1) (aC (.str "break")))) (aRet (aC (.str "break"))) (aNext))
  (aSeq (aIfS (aB (aOp wEq (aVar 1) (aC (.str "set")))) (aRet (aJoined [aFmt (aOp wIx (aVar 0) (aC (.int 1))), aC (.str " = "), aFmt (aCall (A_expression_text 6) [] (aCons (aOp wIx (aVar 0) (aC (.int 2))) (aNil)))])) (aNext))
  (aSeq (aIfS (aB (aOp wEq (aVar 1) (aC (.str "call")))) (aSeq (aAsg (aMs wJoin (aC (.str ", ")) (aCons (aLc (aItems (aOp wIx (aVar 0) (aC (.int 3)))) (gmN 4) (aYes) (aCall (A_expression_text 6) [] (aCons (aVar 4) (aNil))) [4]) aNil)) (gmN 2))
  (aRet (aJoined [aFmt (aOp wIx (aVar 0) (aC (.int 1))), aC (.str " = "), aFmt (aOp wIx (aVar 0) (aC (.int 2))), aC (.str "("), aFmt (aVar 2), aC (.str ") @ "), aFmt (aCall A_weight_text [] (aCons (aOp wIx (aVar 0) (aC (.int 4))) (aNil)))]))) (aNext))
  (aSeq (aAsg (aJoined [aFmt (aVar 1), aC (.str " "), aFmt (aCall (A_expression_text 6) [] (aCons (aOp wIx (aVar 0) (aC (.int 1))) (aNil)))]) (gmN 3))
  (aRet (aIf (aB (aOp wIn (aVar 1) (aTup (aCons (aC (.str "if")) (aCons (aC (.str "while")) (aNil)))))) (aOp wAdd (aVar 3) (aC (.str ":"))) (aVar 3)))))))
/-- slots: 0 _law_line_here, 1 _law_args, 2 _law_text_here, 3 _law_one -/
def a_l_head_text : ATS :=
  aSeq (aIfS (aB (aOp wEq (aOp wIx (aVar 0) (aC (.int 0))) (aC (.str "break")))) (aRet (aC (.str "break"))) (aNext))
  (aSeq (aIfS (aB (aOp wEq (aOp wIx (aVar 0) (aC (.int 0))) (aC (.str "set")))) (aRet (aOp wAdd (aOp wAdd (aOp wIx (aVar 0) (aC (.int 1))) (aC (.str " = "))) (aCall (A_l_expr_text 6) [] (aCons (aOp wIx (aVar 0) (aC (.int 2))) (aNil))))) (aNext))
  (aSeq (aIfS (aB (aOp wEq (aOp wIx (aVar 0) (aC (.int 0))) (aC (.str "call")))) (aSeq (aAsg (aMs wJoin (aC (.str ", ")) (aCons (aLc (aItems (aOp wIx (aVar 0) (aC (.int 3)))) (gmN 3) (aYes) (aCall (A_l_expr_text 6) [] (aCons (aVar 3) (aNil))) [3]) aNil)) (gmN 1))
  (aRet (aOp wAdd (aOp wAdd (aOp wAdd (aOp wAdd (aOp wAdd (aOp wAdd (aOp wIx (aVar 0) (aC (.int 1))) (aC (.str " = "))) (aOp wIx (aVar 0) (aC (.int 2)))) (aC (.str "("))) (aVar 1)) (aC (.str ") @ "))) (aCall A_l_frac_text [] (aCons (aOp wIx (aVar 0) (aC (.int 4))) (aNil)))))) (aNext))
  (aSeq (aAsg (aOp wAdd (aOp wAdd (aOp wIx (aVar 0) (aC (.int 0))) (aC (.str " "))) (aCall (A_l_expr_text 6) [] (aCons (aOp wIx (aVar 0) (aC (.int 1))) (aNil)))) (gmN 2))
  (aRet (aIf (aB (aOp wIn (aOp wIx (aVar 0) (aC (.int 0))) (aTup (aCons (aC (.str "if")) (aCons (aC (.str "while")) (aNil)))))) (aOp wAdd (aVar 2) (aC (.str ":"))) (aVar 2))))))

theorem intS_len {i : Int} (h0 : 0 ≤ i) (h1 : i ≤ 999999) : (intS i).length ≤ 6 := PyProof.Rows.toString_length_le h0 (by decide) (by omega)
theorem len_weight_text : ∀ ds P, A_weight_text ds P → ds.length = 1 := by rintro ds P ⟨v, rfl, _⟩; rfl
theorem len_l_frac_text : ∀ ds P, A_l_frac_text ds P → ds.length = 1 := by rintro ds P ⟨v, rfl, _⟩; rfl
theorem pure_weight_text : ∀ ds P, A_weight_text ds P → a_weight_text { nx := fun _ _ => P .non, rt := fun d _ => P d } (startG 1 ds) [] := by
  rintro ds P ⟨v, rfl, ⟨a, b, rfl, a0, a1, b0, b1, _⟩, hP⟩
  have l1 := log_i a0 (by omega)
  have l2 := log_i (show 0 ≤ b by omega) (by omega)
  have n1 := intS_len a0 (by omega)
  have n2 := intS_len (show 0 ≤ b by omega) (by omega)
  have n3 : (Str.ofString "/").length = 1 := by decide
  have n4 : Str.empty.length = 0 := by decide
  by_cases hb : b = 1
  · simp [wtT, hb] at hP
    simp [a_weight_text, wIx, hb]
    exact ⟨by omega, hP⟩
  · simp [wtT, hb] at hP
    simp [a_weight_text, wIx, hb, aJoined, aJs]
    simp only [intS] at n1 n2 hP
    simp at n1 n2 hP
    simp only [emp_app, len_app]
    exact ⟨by omega, by omega, by omega, by omega, by omega, hP⟩
theorem pure_l_frac_text : ∀ ds P, A_l_frac_text ds P → a_l_frac_text { nx := fun _ _ => P .non, rt := fun d _ => P d } (startG 1 ds) [] := by
  rintro ds P ⟨v, rfl, ⟨a, b, rfl, a0, a1, b0, b1, _⟩, hP⟩
  have l1 := log_i a0 (by omega)
  have l2 := log_i (show 0 ≤ b by omega) (by omega)
  have n1 := intS_len a0 (by omega)
  have n2 := intS_len (show 0 ≤ b by omega) (by omega)
  have n3 : (Str.ofString "/").length = 1 := by decide
  by_cases hb : b = 1
  · simp [wtT, hb] at hP
    simp [a_l_frac_text, wIx, hb]
    exact ⟨by omega, hP⟩
  · simp [wtT, hb] at hP
    simp [a_l_frac_text, wIx, hb]
    simp only [intS] at n1 n2 hP
    simp at n1 n2 hP
    simp only [len_app]
    exact ⟨by omega, by omega, by omega, by omega, hP⟩
end Bd
namespace Bd
open PySem L2
theorem len_head_text : ∀ ds P, A_head_text ds P → ds.length = 1 := by rintro ds P ⟨n, w, l, c, s, rfl, _⟩; rfl
theorem len_l_head_text : ∀ ds P, A_l_head_text ds P → ds.length = 1 := by rintro ds P ⟨n, w, l, c, s, rfl, _⟩; rfl
theorem ex_le {x : D} (h : exM x) : (exprT 6 x).length ≤ 441 := by have := exprT_len 6 h.1; omega
theorem tg_str {t : D} (h : tgM t) : ∃ z, t = .str z ∧ z.length ≤ 4 := by
  have h1 : (ownM t || sharedM t) = true := h.1
  cases t with
  | str z =>
    refine ⟨z, rfl, ?_⟩
    rcases Bool.or_eq_true_iff.mp h1 with q | q
    · have q : wordM z smallS 4 = true := q
      simp [wordM] at q
      omega
    · have q : wordM z greatS 4 = true := q
      simp [wordM] at q
      omega
  | _ => cases h1
theorem txt6 {v : D} {P : D → Prop} (h : exM v) (hP : P (.str (exprT 6 v))) : A_expression_text 6 [v] P := ⟨v, rfl, h.1, by decide, hP⟩
theorem txt6l {v : D} {P : D → Prop} (h : exM v) (hP : P (.str (exprT 6 v))) : A_l_expr_text 6 [v] P := ⟨v, rfl, h.1, by decide, hP⟩
theorem sum_le (B : Nat) : ∀ ys : List Str, (∀ y ∈ ys, y.length ≤ B) → (ys.map (·.length)).sum ≤ ys.length * B
  | [], _ => by simp
  | y :: ys, h => by
    have h1 := h y (by simp)
    have h2 := sum_le B ys fun z hz => h z (by simp [hz])
    rw [List.map_cons, List.sum_cons, List.length_cons, Nat.succ_mul]
    omega
theorem foldl_len (sep : Str) : ∀ (ys : List Str) (acc : Array Nat), (ys.foldl (fun a p => a ++ sep.cps ++ p.cps) acc).size = acc.size + (ys.map (·.length)).sum + ys.length * sep.length
  | [], acc => by simp
  | y :: ys, acc => by
    rw [List.foldl_cons, foldl_len sep ys, List.map_cons, List.sum_cons, List.length_cons, Nat.succ_mul, Array.size_append, Array.size_append]
    show acc.size + sep.cps.size + y.cps.size + _ + ys.length * sep.cps.size = acc.size + (y.cps.size + _) + (ys.length * sep.cps.size + sep.cps.size)
    omega
theorem join_len (sep : Str) (ys : List Str) : (Txt.join sep ys).length ≤ (ys.map (·.length)).sum + ys.length * sep.length := by
  cases ys with
  | nil => exact Nat.zero_le _
  | cons y ys =>
    have e : (Txt.join sep (y :: ys)).length = (ys.foldl (fun a p => a ++ sep.cps ++ p.cps) y.cps).size := rfl
    rw [e, foldl_len, List.map_cons, List.sum_cons, List.length_cons, Nat.succ_mul]
    show y.cps.size + _ + _ ≤ y.cps.size + _ + _
    omega
theorem wt_len {v : D} (h : wtM v) : (wtT v).length ≤ 13 := by
  obtain ⟨a, b, rfl, a0, a1, b0, b1, _⟩ := h
  have n1 := intS_len a0 (by omega)
  have n2 := intS_len (show 0 ≤ b by omega) (by omega)
  have n3 : (Str.ofString "/").length = 1 := by decide
  by_cases hb : b = 1
  · simp only [wtT, if_pos hb]
    omega
  · simp only [wtT, if_neg hb, len_app]
    omega
theorem args_len {xs : List D} (hl : xs.length ≤ 3) (hx : ∀ x ∈ xs, exM x) : ((xs.map (exprT 6)).map (·.length)).sum + (xs.map (exprT 6)).length * (Str.ofString ", ").length ≤ 1340 := by
  have h := sum_le 441 (xs.map (exprT 6)) fun y hy => by
    obtain ⟨x, hxm, rfl⟩ := List.mem_map.mp hy
    exact ex_le (hx x hxm)
  rw [List.length_map] at h ⊢
  have a1 : (Str.ofString ", ").length = 2 := by decide
  rw [a1]
  have : xs.length * 441 ≤ 3 * 441 := Nat.mul_le_mul_right _ hl
  omega
theorem pure_head_text : ∀ ds P, A_head_text ds P → a_head_text { nx := fun _ _ => P .non, rt := fun d _ => P d } (startG 5 ds) [] := by
  rintro ds P ⟨n, w, l, c, s, rfl, hs, hP⟩
  have a0 : Str.empty.length = 0 := by decide
  have a1 : (Str.ofString " = ").length = 3 := by decide
  have a2 : (Str.ofString " ").length = 1 := by decide
  have a3 : (Str.ofString ":").length = 1 := by decide
  have a4 : (Str.ofString "print").length = 5 := by decide
  have a5 : (Str.ofString "return").length = 6 := by decide
  have a6 : (Str.ofString "while").length = 5 := by decide
  have a7 : (Str.ofString "if").length = 2 := by decide
  cases hs with
  | brk => simpa [a_head_text, wIx, headT] using hP
  | @set n w t x ht hx =>
    obtain ⟨z, rfl, hz⟩ := tg_str ht
    have b1 := ex_le hx
    simp [headT] at hP
    simp [a_head_text, wIx, aJoined, aJs]
    simp only [emp_app, len_app]
    refine ⟨by omega, by omega, by omega, txt6 hx ?_⟩
    simp only [len_app]
    exact ⟨by omega, by omega, hP⟩
  | @prt n w x hx =>
    have b1 := ex_le hx
    simp [headT] at hP
    simp [a_head_text, wIx, aJoined, aJs]
    simp only [emp_app, len_app]
    refine ⟨by omega, by omega, by omega, txt6 hx ?_⟩
    simp only [emp_app, len_app]
    exact ⟨by omega, by omega, by simp [flD], hP⟩
  | @ret n w x hx =>
    have b1 := ex_le hx
    simp [headT] at hP
    simp [a_head_text, wIx, aJoined, aJs]
    simp only [emp_app, len_app]
    refine ⟨by omega, by omega, by omega, txt6 hx ?_⟩
    simp only [emp_app, len_app]
    exact ⟨by omega, by omega, by simp [flD], hP⟩
  | @whl n l c w x b hx hb =>
    have b1 := ex_le hx
    simp [headT] at hP
    simp [a_head_text, wIx, aJoined, aJs]
    simp only [emp_app, len_app]
    refine ⟨by omega, by omega, by omega, txt6 hx ?_⟩
    simp only [emp_app, len_app]
    exact ⟨by omega, by omega, by simp [flD], by omega, hP⟩
  | @ite n l c w x b hx hb =>
    have b1 := ex_le hx
    simp [headT] at hP
    simp [a_head_text, wIx, aJoined, aJs]
    simp only [emp_app, len_app]
    refine ⟨by omega, by omega, by omega, txt6 hx ?_⟩
    simp only [emp_app, len_app]
    exact ⟨by omega, by omega, by simp [flD], by omega, hP⟩
  | @ite2 n l c l2 c2 w x b e hx hb he =>
    have b1 := ex_le hx
    simp [headT] at hP
    simp [a_head_text, wIx, aJoined, aJs]
    simp only [emp_app, len_app]
    refine ⟨by omega, by omega, by omega, txt6 hx ?_⟩
    simp only [emp_app, len_app]
    exact ⟨by omega, by omega, by simp [flD], by omega, hP⟩
  | @call n w t v f xs ht hf hl hx hv =>
    obtain ⟨z, rfl, hz⟩ := tg_str ht
    simp [headT] at hP
    simp [a_head_text, wIx]
    refine ⟨by simpa using by omega, goA_map (fun d => .str (exprT 6 d)) (fun d hd acc k hk => ?_) ?_⟩
    · simp [lcB, wipeG]
      exact txt6 (hx d hd) hk
    · have e : ([] ++ List.map (fun d => D.str (exprT 6 d)) xs) = (xs.map (exprT 6)).map D.str := by simp
      rw [e]
      dsimp only
      rw [strsOf_map]
      have g1 := args_len hl hx
      have g2 := join_len (Str.ofString ", ") (xs.map (exprT 6))
      have g3 := wt_len hv
      have g4 : (f.length : Int) ≤ 6 := hf.2.2.1
      have a8 : (Str.ofString "(").length = 1 := by decide
      have a9 : (Str.ofString ") @ ").length = 4 := by decide
      refine ⟨by omega, ?_⟩
      simp [aJoined, aJs, wIx]
      simp only [emp_app, len_app]
      refine ⟨by omega, by omega, by omega, by omega, by omega, by omega, by omega, by omega, by omega, ?_⟩
      show A_weight_text [v] _
      exact ⟨v, rfl, hv, by omega, by omega, hP⟩
theorem pure_l_head_text : ∀ ds P, A_l_head_text ds P → a_l_head_text { nx := fun _ _ => P .non, rt := fun d _ => P d } (startG 4 ds) [] := by
  rintro ds P ⟨n, w, l, c, s, rfl, hs, hP⟩
  have a0 : Str.empty.length = 0 := by decide
  have a1 : (Str.ofString " = ").length = 3 := by decide
  have a2 : (Str.ofString " ").length = 1 := by decide
  have a3 : (Str.ofString ":").length = 1 := by decide
  have a4 : (Str.ofString "print").length = 5 := by decide
  have a5 : (Str.ofString "return").length = 6 := by decide
  have a6 : (Str.ofString "while").length = 5 := by decide
  have a7 : (Str.ofString "if").length = 2 := by decide
  cases hs with
  | brk => simpa [a_l_head_text, wIx, headT] using hP
  | @set n w t x ht hx =>
    obtain ⟨z, rfl, hz⟩ := tg_str ht
    have b1 := ex_le hx
    simp [headT] at hP
    simp [a_l_head_text, wIx]
    refine ⟨by omega, txt6l hx ?_⟩
    simp only [len_app]
    exact ⟨by omega, hP⟩
  | @prt n w x hx =>
    have b1 := ex_le hx
    simp [headT] at hP
    simp [a_l_head_text, wIx]
    refine ⟨by omega, txt6l hx ?_⟩
    simp only [len_app]
    exact ⟨by omega, by simp [flD], hP⟩
  | @ret n w x hx =>
    have b1 := ex_le hx
    simp [headT] at hP
    simp [a_l_head_text, wIx]
    refine ⟨by omega, txt6l hx ?_⟩
    simp only [len_app]
    exact ⟨by omega, by simp [flD], hP⟩
  | @whl n l c w x b hx hb =>
    have b1 := ex_le hx
    simp [headT] at hP
    simp [a_l_head_text, wIx]
    refine ⟨by omega, txt6l hx ?_⟩
    simp only [len_app]
    exact ⟨by omega, by simp [flD], by omega, hP⟩
  | @ite n l c w x b hx hb =>
    have b1 := ex_le hx
    simp [headT] at hP
    simp [a_l_head_text, wIx]
    refine ⟨by omega, txt6l hx ?_⟩
    simp only [len_app]
    exact ⟨by omega, by simp [flD], by omega, hP⟩
  | @ite2 n l c l2 c2 w x b e hx hb he =>
    have b1 := ex_le hx
    simp [headT] at hP
    simp [a_l_head_text, wIx]
    refine ⟨by omega, txt6l hx ?_⟩
    simp only [len_app]
    exact ⟨by omega, by simp [flD], by omega, hP⟩
  | @call n w t v f xs ht hf hl hx hv =>
    obtain ⟨z, rfl, hz⟩ := tg_str ht
    simp [headT] at hP
    simp [a_l_head_text, wIx]
    refine ⟨by simpa using by omega, goA_map (fun d => .str (exprT 6 d)) (fun d hd acc k hk => ?_) ?_⟩
    · simp [lcB, wipeG]
      exact txt6l (hx d hd) hk
    · have e : ([] ++ List.map (fun d => D.str (exprT 6 d)) xs) = (xs.map (exprT 6)).map D.str := by simp
      rw [e]
      dsimp only
      rw [strsOf_map]
      have g1 := args_len hl hx
      have g2 := join_len (Str.ofString ", ") (xs.map (exprT 6))
      have g3 := wt_len hv
      have g4 : (f.length : Int) ≤ 6 := hf.2.2.1
      have a8 : (Str.ofString "(").length = 1 := by decide
      have a9 : (Str.ofString ") @ ").length = 4 := by decide
      refine ⟨by omega, ?_⟩
      simp only [len_app]
      refine ⟨by omega, by omega, by omega, by omega, by omega, ?_⟩
      show A_l_frac_text [v] _
      refine ⟨v, rfl, hv, ?_⟩
      show _ ∧ _
      simp only [len_app]
      exact ⟨by omega, hP⟩
end Bd
namespace Bd
open PySem L2
theorem Bk.mem {n : Nat} {w : Bool} : ∀ {b : List D} {l c : Nat}, Bk n w l c b → ∀ s ∈ b, ∃ l' c', l' ≤ l ∧ St n w l' c' s
  | [], _, _, h, s, hm => by cases hm
  | [_], _, _, .one h, s, hm => by
    have : s = _ := List.mem_singleton.mp hm
    subst this
    exact ⟨_, _, Nat.le_refl _, h⟩
  | _ :: b, _, _, .cons h t, s, hm => by
    rcases List.mem_cons.mp hm with e | hm
    · subst e
      exact ⟨_, _, Nat.le_add_right _ _, h⟩
    · obtain ⟨l', c', h1, h2⟩ := Bk.mem t s hm
      exact ⟨l', c', Nat.le_trans h1 (Nat.le_add_left _ _), h2⟩
theorem Bk.ne {n : Nat} {w : Bool} {b : List D} {l c : Nat} (h : Bk n w l c b) : b ≠ [] := by cases h <;> simp
mutual
theorem St.rows : ∀ {n : Nat} {w : Bool} {l c : Nat} {s : D}, St n w l c s → ∀ d, (stR n d s).length + 1 ≤ 2 * l
  | _, _, _, _, _, .brk, d => by simp [stR]
  | _, _, _, _, _, .set ht hx, d => by
    unfold stR
    split
    · rename_i h; cases h; simp
    · rename_i h; cases h
    · simp
  | _, _, _, _, _, .prt hx, d => by simp [stR]
  | _, _, _, _, _, .ret hx, d => by simp [stR]
  | _, _, _, _, _, .call _ _ _ _ _, d => by simp [stR]
  | _, _, _, _, _, .whl hx hb, d => by
    have := Bk.rows hb (d + 1)
    simp [stR]
    simp at this
    omega
  | _, _, _, _, _, .ite hx hb, d => by
    have := Bk.rows hb (d + 1)
    simp [stR]
    simp at this
    omega
  | _, _, _, _, _, .ite2 (e := e) hx hb he, d => by
    have h1 := Bk.rows hb (d + 1)
    have h2 := Bk.rows he (d + 1)
    have h3 := he.ne
    simp [stR, h3]
    simp at h1 h2
    omega
theorem Bk.rows : ∀ {n : Nat} {w : Bool} {l c : Nat} {b : List D}, Bk n w l c b → ∀ d, (b.flatMap (stR n d)).length + 1 ≤ 2 * l
  | _, _, _, _, _, .one h, d => by
    have := St.rows h d
    simpa using this
  | _, _, _, _, _, .cons h t, d => by
    have h1 := St.rows h d
    have h2 := Bk.rows t d
    rw [List.flatMap_cons, List.length_append]
    omega
end
end Bd
namespace Bd
open PySem L2
/-- plain data, nested so much at most -/
def okN (k : Nat) (d : D) : Prop := pureD d = true ∧ (pyD d).canLay0 = true ∧ (pyD d).depth ≤ k
def okNA (k : Nat) (ds : List D) : Prop := pureA ds = true ∧ PyData.canLayAll0 (pyA ds) = true ∧ PyData.depthAll (pyA ds) ≤ k
theorem okN.mono {k j : Nat} {d : D} (h : okN k d) (hk : k ≤ j) : okN j d := ⟨h.1, h.2.1, Nat.le_trans h.2.2 hk⟩
theorem okNA_of {k : Nat} : ∀ {ds : List D}, (∀ d ∈ ds, okN k d) → okNA k ds
  | [], _ => ⟨rfl, rfl, Nat.zero_le _⟩
  | d :: ds, h => by
    obtain ⟨a1, a2, a3⟩ := h d (by simp)
    obtain ⟨b1, b2, b3⟩ := okNA_of (ds := ds) fun e he => h e (by simp [he])
    refine ⟨by simp [pureA, a1, b1], by simp [pyA, PyData.canLayAll0, a2, b2], ?_⟩
    show max _ _ ≤ k
    exact Nat.max_le.mpr ⟨a3, b3⟩
theorem okN_tup {k : Nat} {ds : List D} (h : ∀ d ∈ ds, okN k d) : okN (k + 1) (.tup ds) := by
  obtain ⟨a, b, c⟩ := okNA_of h
  exact ⟨a, b, by show _ + 1 ≤ k + 1; omega⟩
theorem okN_int {k : Nat} (i : Int) : okN k (.int i) := ⟨rfl, rfl, Nat.zero_le _⟩
theorem okN_str {k : Nat} {z : Str} (h : PyData.strOk z = true) : okN k (.str z) := ⟨rfl, h, Nat.zero_le _⟩
theorem okD_of {k : Nat} {d : D} (h : okN k d) (hk : k ≤ 64) : okD d = true := by
  obtain ⟨a, b, c⟩ := h
  have : (pyD d).depth ≤ 64 := Nat.le_trans c hk
  simp [okD, SeqAt.shaped, a, b, this]
theorem word_codes {z sg : Str} {m : Int} (h : wordM z sg m = true) : (z.length : Int) ≤ m ∧ ∀ c ∈ z.cps.toList, c ∈ sg.cps.toList := by
  simp only [wordM, Bool.and_eq_true, decide_eq_true_eq, List.all_eq_true] at h
  refine ⟨h.1.1.2, fun c hc => ?_⟩
  have := h.2 c hc
  rw [sub1] at this
  exact of_decide_eq_true this
theorem name_str {x : D} (h : nameM x = true) : ∃ z, x = .str z ∧ z.length ≤ 4 ∧ PyData.strOk z = true := by
  cases x with
  | str z =>
    have h' : wordM z smallS 4 = true ∨ wordM z greatS 4 = true := by simpa [nameM, ownM, sharedM, wordD] using h
    have key : ∀ c, c ∈ smallS.cps.toList ∨ c ∈ greatS.cps.toList → c < 0x110000 := fun c hc => by
      rw [small_codes, great_codes] at hc
      rcases hc with hc | hc <;> (have := List.mem_range'_1.mp hc; omega)
    rcases h' with h' | h'
    · obtain ⟨h1, h2⟩ := word_codes h'
      refine ⟨z, rfl, by omega, ?_⟩
      rw [PyData.strOk, Array.all_eq_true_iff_forall_mem]
      intro c hc
      exact decide_eq_true (key c (.inl (h2 c (Array.mem_toList_iff.mpr hc))))
    · obtain ⟨h1, h2⟩ := word_codes h'
      refine ⟨z, rfl, by omega, ?_⟩
      rw [PyData.strOk, Array.all_eq_true_iff_forall_mem]
      intro c hc
      exact decide_eq_true (key c (.inr (h2 c (Array.mem_toList_iff.mpr hc))))
  | _ => simp [nameM, ownM, sharedM, wordD] at h
theorem sg_ok {s : Str} (hs : inS s sgS = true) : PyData.strOk s = true := by
  obtain ⟨k, k1, k2⟩ := List.any_eq_true.mp hs
  have k2 := of_decide_eq_true k2
  have low : ∀ k ∈ sgS, PyData.strOk k = true := by decide +kernel
  rw [← k2]
  exact low k k1
theorem fits_name {n : Nat} {z : Str} (h : fitsM (n + 1) (.tup [.str "name", .str z]) = true) : nameM (.str z) = true := by
  have : (ownM (.str z) || sharedM (.str z)) = true := by simpa [fitsM] using h
  exact this
theorem fits_okN : ∀ (n : Nat) {v : D}, fitsM n v = true → okN n v
  | 0, v, h => by cases h
  | n + 1, v, h => by
    rcases fits_cases h with ⟨i, rfl, i0, i1⟩ | ⟨z, rfl, hz⟩ | ⟨x, rfl, hx⟩ | ⟨s, x, y, rfl, hs, hx, hy⟩
    · refine okN_tup fun d hd => ?_
      simp at hd
      rcases hd with rfl | rfl
      · exact okN_str (by decide +kernel)
      · exact okN_int i
    · obtain ⟨z', e, _, ok⟩ := name_str (fits_name h)
      cases e
      refine okN_tup fun d hd => ?_
      simp at hd
      rcases hd with rfl | rfl
      · exact okN_str (by decide +kernel)
      · exact okN_str ok
    · have := fits_okN n hx
      refine okN_tup fun d hd => ?_
      simp at hd
      rcases hd with rfl | rfl
      · exact okN_str (by decide +kernel)
      · exact this
    · have h1 := fits_okN n hx
      have h2 := fits_okN n hy
      refine okN_tup fun d hd => ?_
      simp at hd
      rcases hd with rfl | rfl | rfl | rfl
      · exact okN_str (by decide +kernel)
      · exact okN_str (sg_ok hs)
      · exact h1
      · exact h2
end Bd
namespace Bd
open PySem L2
theorem ex_ok {k : Nat} {x : D} (h : exM x) (hk : 6 ≤ k) : okN k x := (fits_okN 6 h.1).mono hk
theorem tg_ok {k : Nat} {t : D} (h : tgM t) : okN k t := by
  obtain ⟨z, rfl, _, ok⟩ := name_str h.1
  exact okN_str ok
theorem wt_ok {k : Nat} {v : D} (h : wtM v) (hk : 1 ≤ k) : okN k v := by
  obtain ⟨a, b, rfl, _⟩ := h
  refine okN.mono (k := 0 + 1) (okN_tup fun d hd => ?_) hk
  simp at hd
  rcases hd with rfl | rfl <;> exact okN_int _
theorem low_ok {z : Str} (h : lowS z = true) : PyData.strOk z = true := by
  have := okD_low h
  simp [okD, SeqAt.shaped, pyD, PyData.canLay0] at this
  exact this.2.1
theorem okN_lit {k : Nat} {z : String} (h : PyData.strOk (Str.ofString z) = true) : okN k (.str z) := okN_str h
mutual
theorem St.ok : ∀ {n : Nat} {w : Bool} {l c : Nat} {s : D}, St n w l c s → okN (2 * n + 8) s
  | _, _, _, _, _, .brk (n := n) => okN.mono (okN_tup (k := 0) fun d hd => by
      simp at hd; subst hd; exact okN_lit (by decide +kernel)) (by omega)
  | _, _, _, _, _, .set (n := n) ht hx => okN.mono (okN_tup (k := 6) fun d hd => by
      simp at hd
      rcases hd with rfl | rfl | rfl
      · exact okN_lit (by decide +kernel)
      · exact tg_ok ht
      · exact ex_ok hx (by omega)) (by omega)
  | _, _, _, _, _, .prt (n := n) hx => okN.mono (okN_tup (k := 6) fun d hd => by
      simp at hd
      rcases hd with rfl | rfl
      · exact okN_lit (by decide +kernel)
      · exact ex_ok hx (by omega)) (by omega)
  | _, _, _, _, _, .ret (n := n) hx => okN.mono (okN_tup (k := 6) fun d hd => by
      simp at hd
      rcases hd with rfl | rfl
      · exact okN_lit (by decide +kernel)
      · exact ex_ok hx (by omega)) (by omega)
  | _, _, _, _, _, .call (n := n) ht hf hl hx hv => okN.mono (okN_tup (k := 7) fun d hd => by
      simp at hd
      rcases hd with rfl | rfl | rfl | rfl | rfl
      · exact okN_lit (by decide +kernel)
      · exact tg_ok ht
      · exact okN_str (low_ok hf.1)
      · exact okN_tup fun d hd => ex_ok (hx d hd) (by omega)
      · exact wt_ok hv (by omega)) (by omega)
  | _, _, _, _, _, .whl (n := n) hx hb => by
    have h := Bk.ok hb
    refine okN.mono (okN_tup (k := 2 * n + 9) fun d hd => ?_) (by omega)
    simp at hd
    rcases hd with rfl | rfl | rfl
    · exact okN_lit (by decide +kernel)
    · exact ex_ok hx (by omega)
    · exact okN_tup h
  | _, _, _, _, _, .ite (n := n) hx hb => by
    have h := Bk.ok hb
    refine okN.mono (okN_tup (k := 2 * n + 9) fun d hd => ?_) (by omega)
    simp at hd
    rcases hd with rfl | rfl | rfl | rfl
    · exact okN_lit (by decide +kernel)
    · exact ex_ok hx (by omega)
    · exact okN_tup h
    · exact okN_tup fun d hd => by cases hd
  | _, _, _, _, _, .ite2 (n := n) hx hb he => by
    have h := Bk.ok hb
    have h2 := Bk.ok he
    refine okN.mono (okN_tup (k := 2 * n + 9) fun d hd => ?_) (by omega)
    simp at hd
    rcases hd with rfl | rfl | rfl | rfl
    · exact okN_lit (by decide +kernel)
    · exact ex_ok hx (by omega)
    · exact okN_tup h
    · exact okN_tup h2
theorem Bk.ok : ∀ {n : Nat} {w : Bool} {l c : Nat} {b : List D}, Bk n w l c b → ∀ d ∈ b, okN (2 * n + 8) d
  | _, _, _, _, _, .one h, d, hd => by
    rw [List.mem_singleton.mp hd]
    exact St.ok h
  | _, _, _, _, _, .cons h t, d, hd => by
    rcases List.mem_cons.mp hd with e | hd
    · rw [e]; exact St.ok h
    · exact Bk.ok t d hd
end
end Bd
namespace Bd
open PySem L2
def A_block_rows (n : Nat) (ds : List D) (P : D → Prop) : Prop := ∃ (w : Bool) (l c d : Nat) (b : List D), ds = [.tup b, .int (d : Nat)] ∧ Bk n w l c b ∧ l ≤ 100 ∧ d + n ≤ 7 ∧ P (.lst ((b.flatMap (stR n d)).map .str))
def A_l_rows (n : Nat) (ds : List D) (P : D → Prop) : Prop := ∃ (w : Bool) (l c d : Nat) (b : List D), ds = [.tup b, .int (d : Nat)] ∧ Bk n w l c b ∧ l ≤ 100 ∧ d + n ≤ 7 ∧ P (.lst ((b.flatMap (stR n d)).map .str))
/-- slots: 0 block, 1 depth, 2 found, 3 front, 4 statement -/
def a_block_rows (A : List D → (D → Prop) → Prop) : ATS :=
  aSeq (aPar 2 3 (aCons (aNew (aNil)) (aCons (aOp wMulX (aC (.str "  ")) (aVar 1)) (aNil))))
  (aSeq (aFor (aItems (aVar 0)) (gmN 4) (aSeq (aDrop (aApp (aVar 2) (aOp wAdd (aVar 3) (aCall A_head_text [] (aCons (aVar 4) (aNil))))))
  (aSeq (aIfS (aB (aOp wIn (aOp wIx (aVar 4) (aC (.int 0))) (aTup (aCons (aC (.str "if")) (aCons (aC (.str "while")) (aNil)))))) (aDrop (aExt (aVar 2) (aCall A [] (aCons (aOp wIx (aVar 4) (aC (.int 2))) (aCons (aOp wAdd (aVar 1) (aC (.int 1))) (aNil)))))) (aNext))
  (aIfS (aAnd (aB (aOp wEq (aOp wIx (aVar 4) (aC (.int 0))) (aC (.str "if")))) (aB (aOp wNe (aOp wIx (aVar 4) (aC (.int 3))) (aTup (aNil))))) (aSeq (aDrop (aApp (aVar 2) (aOp wAdd (aVar 3) (aC (.str "else:")))))
  (aDrop (aExt (aVar 2) (aCall A [] (aCons (aOp wIx (aVar 4) (aC (.int 3))) (aCons (aOp wAdd (aVar 1) (aC (.int 1))) (aNil))))))) (aNext)))))
  (aFrz 2 (aRet (aVar 2))))
/-- slots: 0 _law_block_here, 1 _law_depth, 2 _law_found, 3 _law_line_here -/
def a_l_rows (A : List D → (D → Prop) → Prop) : ATS :=
  aSeq (aAsg (aNew (aNil)) (gmN 2))
  (aSeq (aFor (aItems (aVar 0)) (gmN 3) (aSeq (aDrop (aApp (aVar 2) (aOp wAdd (aOp wMulX (aC (.str "  ")) (aVar 1)) (aCall A_l_head_text [] (aCons (aVar 3) (aNil))))))
  (aSeq (aIfS (aB (aOp wIn (aOp wIx (aVar 3) (aC (.int 0))) (aTup (aCons (aC (.str "if")) (aCons (aC (.str "while")) (aNil)))))) (aAsg (aCatN (aVar 2) (aCall A [] (aCons (aOp wIx (aVar 3) (aC (.int 2))) (aCons (aOp wAdd (aVar 1) (aC (.int 1))) (aNil))))) (gmN 2)) (aNext))
  (aIfS (aAnd (aB (aOp wEq (aOp wIx (aVar 3) (aC (.int 0))) (aC (.str "if")))) (aB (aOp wNe (aOp wIx (aVar 3) (aC (.int 3))) (aTup (aNil))))) (aAsg (aCatN (aCatN (aVar 2) (aLst (aCons (aOp wAdd (aOp wMulX (aC (.str "  ")) (aVar 1)) (aC (.str "else:"))) (aNil)))) (aCall A [] (aCons (aOp wIx (aVar 3) (aC (.int 3))) (aCons (aOp wAdd (aVar 1) (aC (.int 1))) (aNil))))) (gmN 2)) (aNext)))))
  (aFrz 2 (aRet (aVar 2))))
theorem len_block_rows (n : Nat) : ∀ ds P, A_block_rows n ds P → ds.length = 2 := by rintro ds P ⟨w, l, c, d, b, rfl, _⟩; rfl
theorem len_l_rows (n : Nat) : ∀ ds P, A_l_rows n ds P → ds.length = 2 := by rintro ds P ⟨w, l, c, d, b, rfl, _⟩; rfl
theorem no_St {w : Bool} {l c : Nat} {s : D} : ¬ St 0 w l c s := fun h => by cases h
theorem no_Bk {w : Bool} {l c : Nat} {b : List D} : ¬ Bk 0 w l c b := fun h => by
  cases h with
  | one h => exact no_St h
  | cons h _ => exact no_St h
theorem zero_block_rows : ∀ ds P, ¬ A_block_rows 0 ds P := by
  rintro ds P ⟨w, l, c, d, b, _, h, _⟩
  exact no_Bk h
theorem zero_l_rows : ∀ ds P, ¬ A_l_rows 0 ds P := by
  rintro ds P ⟨w, l, c, d, b, _, h, _⟩
  exact no_Bk h
theorem pad_len (d : Nat) (h : d ≤ 7) : (padT d).length ≤ 14 := by
  have : ∀ d, d ≤ 7 → (padT d).length ≤ 14 := by decide +kernel
  exact this d h
theorem head_len {n : Nat} {w : Bool} {l c : Nat} {s : D} (hs : St n w l c s) : (headT s).length ≤ 1400 := by
  have a1 : (Str.ofString " = ").length = 3 := by decide
  have a2 : (Str.ofString " ").length = 1 := by decide
  have a3 : (Str.ofString ":").length = 1 := by decide
  have a4 : (Str.ofString "print").length = 5 := by decide
  have a5 : (Str.ofString "return").length = 6 := by decide
  have a6 : (Str.ofString "while").length = 5 := by decide
  have a7 : (Str.ofString "if").length = 2 := by decide
  have a8 : (Str.ofString "(").length = 1 := by decide
  have a9 : (Str.ofString ") @ ").length = 4 := by decide
  have b0 : (Str.ofString "break").length = 5 := by decide
  cases hs with
  | brk => simp [headT]; omega
  | set ht hx =>
    obtain ⟨z, rfl, hz⟩ := tg_str ht
    have := ex_le hx
    simp [headT, len_app]; omega
  | prt hx => have := ex_le hx; simp [headT, len_app]; omega
  | ret hx => have := ex_le hx; simp [headT, len_app]; omega
  | @call _ _ t v f xs ht hf hl hx hv =>
    obtain ⟨z, rfl, hz⟩ := tg_str ht
    have g1 := args_len hl hx
    have g2 := join_len (Str.ofString ", ") (xs.map (exprT 6))
    have g3 := wt_len hv
    have g4 : (f.length : Int) ≤ 6 := hf.2.2.1
    simp only [headT, len_app]; omega
  | whl hx _ => have := ex_le hx; simp [headT, len_app]; omega
  | ite hx _ => have := ex_le hx; simp [headT, len_app]; omega
  | ite2 hx _ _ => have := ex_le hx; simp [headT, len_app]; omega
theorem pure_block_rows (n : Nat) : ∀ ds P, A_block_rows (n + 1) ds P → a_block_rows (A_block_rows n) { nx := fun _ _ => P .non, rt := fun d _ => P d } (startG 5 ds) [] := by
  rintro ds P ⟨w, l, c, d, b, rfl, hb, hl, hd, hP⟩
  have a1 : (Str.ofString "  ").length = 2 := by decide
  have hr := hb.rows d
  simp only [a_block_rows, aSeq, aPar, aCons, aNew, aNil, aOp, aC, aVar, wMulX, startG_2, List.replicate, List.getElem?_cons_zero, List.getElem?_cons_succ, aFor, aItems, itemsD, List.set_cons_succ, List.set_cons_zero]
  refine ⟨by simp, fun p hp => ⟨⟨by omega, by omega, by rw [a1]; omega⟩, ?_⟩⟩
  refine ⟨fun i Γ cs => ∃ g4, Γ = [some (.tup b), some (.int d), some (.adr p), some (.str (padT d)), g4] ∧ cs = [(p, .lst (((b.take i).flatMap (stR (n + 1) d)).map .str))], ⟨none, ?_, ?_⟩, ?_, ?_⟩
  · rfl
  · simp
  · rintro i s Γ cs hi ⟨g4, rfl, rfl⟩
    -- open: one statement of the block; its rows come behind the others
    obtain ⟨l', c', hl', hs⟩ := hb.mem s (List.mem_of_getElem? hi)
    have hp7 := pad_len d (by omega)
    have htake : (b.take (i + 1)).flatMap (stR (n + 1) d) = (b.take i).flatMap (stR (n + 1) d) ++ stR (n + 1) d s := by
      rw [List.take_add_one, hi]
      simp
    have hlen : ((b.take i).flatMap (stR (n + 1) d)).length ≤ 200 := by
      have e := List.take_append_drop i b
      have : ((b.take i).flatMap (stR (n + 1) d) ++ (b.drop i).flatMap (stR (n + 1) d)).length + 1 ≤ 2 * l := by
        rw [← List.flatMap_append, e]
        exact hr
      rw [List.length_append] at this
      omega
    generalize (b.take i).flatMap (stR (n + 1) d) = acc at hlen htake
    simp only [gmN, aSeq, aDrop, aApp, aVar, aOp, aCall, aCons, aNil, aC, List.set_cons_succ, List.set_cons_zero, List.getElem?_cons_zero, List.getElem?_cons_succ, List.lookup_cons, BEq.rfl, List.append_nil]
    refine ⟨n + 1, w, l', c', s, rfl, hs, ?_⟩
    simp only [wAdd, cset, if_true]
    refine ⟨?_, by simp; omega, ?_⟩
    · have := head_len hs
      omega
    · have fin : ∀ (g : Option D) (rs : List Str), stR (n + 1) d s = (padT d ++ headT s) :: rs → ∃ g4, [some (D.tup b), some (D.int d), some (D.adr p), some (D.str (padT d)), g] = [some (D.tup b), some (D.int d), some (D.adr p), some (D.str (padT d)), g4] ∧
          [(p, D.lst ((acc ++ (padT d ++ headT s) :: rs).map D.str))] = [(p, D.lst (List.map D.str (List.flatMap (stR (n + 1) d) (List.take (i + 1) b))))] := fun g rs e => ⟨g, rfl, by rw [htake, e]⟩
      cases hs with
      | brk =>
        have f := fin (some (.tup [.str "break"])) [] (by simp [stR])
        simp [flD, wIx]
        simpa using f
      | @set _ _ t x ht hx =>
        have f := fin (some (.tup [.str "set", t, x])) [] (by
          unfold stR
          congr 1
          split
          · rename_i h; cases h; simp
          · rename_i h; cases h
          · rfl)
        simp [flD, wIx]
        simpa using f
      | @prt _ _ x hx =>
        have f := fin (some (.tup [.str "print", x])) [] (by simp [stR])
        simp [flD, wIx]
        simpa using f
      | @ret _ _ x hx =>
        have f := fin (some (.tup [.str "return", x])) [] (by simp [stR])
        simp [flD, wIx]
        simpa using f
      | @call _ _ t v fn xs ht hf hxl hx hv =>
        have f := fin (some (.tup [.str "call", t, .str fn, .tup xs, v])) [] (by simp [stR])
        simp [flD, wIx]
        simpa using f
      | @whl _ l2 c2 _ x b2 hx hb2 =>
        have f := fin (some (.tup [.str "while", x, .tup b2])) (b2.flatMap (stR n (d + 1))) (by simp [stR])
        have r2 := hb2.rows (d + 1)
        simp [flD, wIx]
        refine ⟨true, l2, _, d + 1, b2, by simp, hb2, by omega, by omega, ?_⟩
        simp [cset, List.lookup]
        simp at r2
        exact ⟨by omega, by simpa using f⟩
      | @ite _ l2 c2 _ x b2 hx hb2 =>
        have f := fin (some (.tup [.str "if", x, .tup b2, .tup []])) (b2.flatMap (stR n (d + 1))) (by simp [stR])
        have r2 := hb2.rows (d + 1)
        have o0 : okD (.tup []) = true := by decide +kernel
        have q0 : eqD (.tup []) (.tup []) = true := by decide +kernel
        simp [flD, wIx]
        refine ⟨w, l2, _, d + 1, b2, by simp, hb2, by omega, by omega, ?_⟩
        simp [cset, List.lookup, wNe, o0, q0]
        simp at r2
        exact ⟨by omega, by simpa using f⟩
      | @ite2 _ l2 c2 l3 c3 _ x b2 b3 hx hb2 hb3 =>
        have h3 := hb3.ne
        have f := fin (some (.tup [.str "if", x, .tup b2, .tup b3])) (b2.flatMap (stR n (d + 1)) ++ (padT d ++ "else:") :: b3.flatMap (stR n (d + 1))) (by simp [stR, h3])
        have r2 := hb2.rows (d + 1)
        have r3 := hb3.rows (d + 1)
        have o0 : okD (.tup []) = true := by decide +kernel
        have o1 : okD (.tup b3) = true := okD_of (okN_tup hb3.ok) (by omega)
        have q0 : eqD (.tup b3) (.tup []) = false := by
          cases b3 with
          | nil => exact absurd rfl h3
          | cons _ _ => rfl
        have a5 : (Str.ofString "else:").length = 5 := by decide
        simp [flD, wIx]
        refine ⟨w, l2, _, d + 1, b2, by simp, hb2, by omega, by omega, ?_⟩
        simp [cset, List.lookup, wNe, o0, o1, q0]
        simp at r2 r3
        refine ⟨by omega, by omega, by omega, w, l3, c3, d + 1, b3, by simp, hb3, by omega, by omega, ?_⟩
        simp
        exact ⟨by omega, by simpa using f⟩
  · rintro Γ cs ⟨g4, rfl, rfl⟩
    simp [List.lookup]
    exact hP
end Bd
namespace Bd
open PySem L2
theorem pure_l_rows (n : Nat) : ∀ ds P, A_l_rows (n + 1) ds P → a_l_rows (A_l_rows n) { nx := fun _ _ => P .non, rt := fun d _ => P d } (startG 4 ds) [] := by
  rintro ds P ⟨w, l, c, d, b, rfl, hb, hl, hd, hP⟩
  have a1 : (Str.ofString "  ").length = 2 := by decide
  have hr := hb.rows d
  simp only [a_l_rows, aSeq, aPar, aCons, aNew, aNil, aOp, aC, aVar, wMulX, startG_2, List.replicate, List.getElem?_cons_zero, List.getElem?_cons_succ, aFor, aItems, itemsD, List.set_cons_succ, List.set_cons_zero]
  refine ⟨by simp, fun p hp => ?_⟩
  refine ⟨fun i Γ cs => ∃ (p : Addr) (g4 : Option D), Γ = [some (.tup b), some (.int d), some (.adr p), g4] ∧ cs = [(p, .lst (((b.take i).flatMap (stR (n + 1) d)).map .str))], ⟨p, none, ?_, ?_⟩, ?_, ?_⟩
  · rfl
  · simp
  · rintro i s Γ cs hi ⟨p, g4, rfl, rfl⟩
    -- open: one statement of the block; its rows come behind the others
    obtain ⟨l', c', hl', hs⟩ := hb.mem s (List.mem_of_getElem? hi)
    have hp7 := pad_len d (by omega)
    have htake : (b.take (i + 1)).flatMap (stR (n + 1) d) = (b.take i).flatMap (stR (n + 1) d) ++ stR (n + 1) d s := by
      rw [List.take_add_one, hi]
      simp
    have hlen : ((b.take i).flatMap (stR (n + 1) d)).length ≤ 200 := by
      have e := List.take_append_drop i b
      have : ((b.take i).flatMap (stR (n + 1) d) ++ (b.drop i).flatMap (stR (n + 1) d)).length + 1 ≤ 2 * l := by
        rw [← List.flatMap_append, e]
        exact hr
      rw [List.length_append] at this
      omega
    generalize (b.take i).flatMap (stR (n + 1) d) = acc at hlen htake
    simp only [gmN, aSeq, aDrop, aApp, aVar, aOp, aCall, aCons, aNil, aC, wMulX, List.set_cons_succ, List.set_cons_zero, List.getElem?_cons_zero, List.getElem?_cons_succ, List.lookup_cons, BEq.rfl, List.append_nil]
    refine ⟨⟨by omega, by omega, by rw [a1]; omega⟩, n + 1, w, l', c', s, rfl, hs, ?_⟩
    have hl2 := head_len hs
    simp only [wAdd, cset, if_true]
    refine ⟨by show (padT d).length + _ ≤ _; omega, by simp; omega, ?_⟩
    · have fin : ∀ (g : Option D) (q : Addr) (rs : List Str), stR (n + 1) d s = (padT d ++ headT s) :: rs → ∃ (p : Addr) (g4 : Option D), [some (D.tup b), some (D.int d), some (D.adr q), g] = [some (D.tup b), some (D.int d), some (D.adr p), g4] ∧
          [(q, D.lst ((acc ++ (padT d ++ headT s) :: rs).map D.str))] = [(p, D.lst (List.map D.str (List.flatMap (stR (n + 1) d) (List.take (i + 1) b))))] := fun g q rs e => ⟨q, g, rfl, by rw [htake, e]⟩
      cases hs with
      | @brk _ =>
        have f := fin (some (.tup [.str "break"])) p [] (by simp [stR])
        simp [flD, wIx]
        simpa [padT] using f
      | @set _ _ t x ht hx =>
        have f := fin (some (.tup [.str "set", t, x])) p [] (by 
          unfold stR
          congr 1
          split
          · rename_i h; cases h; simp
          · rename_i h; cases h
          · rfl)
        simp [flD, wIx]
        simpa [padT] using f
      | @prt _ _ x hx =>
        have f := fin (some (.tup [.str "print", x])) p [] (by simp [stR])
        simp [flD, wIx]
        simpa [padT] using f
      | @ret _ _ x hx =>
        have f := fin (some (.tup [.str "return", x])) p [] (by simp [stR])
        simp [flD, wIx]
        simpa [padT] using f
      | @call _ _ t v fn xs ht hf hxl hx hv =>
        have f := fin (some (.tup [.str "call", t, .str fn, .tup xs, v])) p [] (by simp [stR])
        simp [flD, wIx]
        simpa [padT] using f
      | @whl _ l2 c2 _ x b2 hx hb2 =>
        have r2 := hb2.rows (d + 1)
        simp [flD, wIx]
        refine ⟨true, l2, _, d + 1, b2, by simp, hb2, by omega, by omega, ?_⟩
        simp [cdel, List.lookup]
        simp at r2
        refine ⟨by omega, fun q hq => ?_⟩
        have f := fin (some (.tup [.str "while", x, .tup b2])) q (b2.flatMap (stR n (d + 1))) (by simp [stR])
        simpa [padT] using f
      | @ite _ l2 c2 _ x b2 hx hb2 =>
        have r2 := hb2.rows (d + 1)
        have o0 : okD (.tup []) = true := by decide +kernel
        have q0 : eqD (.tup []) (.tup []) = true := by decide +kernel
        simp [flD, wIx]
        refine ⟨w, l2, _, d + 1, b2, by simp, hb2, by omega, by omega, ?_⟩
        simp [cdel, List.lookup, wNe, o0, q0]
        simp at r2
        refine ⟨by omega, fun q hq => ?_⟩
        have f := fin (some (.tup [.str "if", x, .tup b2, .tup []])) q (b2.flatMap (stR n (d + 1))) (by simp [stR])
        simpa [padT] using f
      | @ite2 _ l2 c2 l3 c3 _ x b2 b3 hx hb2 hb3 =>
        have h3 := hb3.ne
        have r2 := hb2.rows (d + 1)
        have r3 := hb3.rows (d + 1)
        have o0 : okD (.tup []) = true := by decide +kernel
        have o1 : okD (.tup b3) = true := okD_of (okN_tup hb3.ok) (by omega)
        have q0 : eqD (.tup b3) (.tup []) = false := by
          cases b3 with
          | nil => exact absurd rfl h3
          | cons _ _ => rfl
        have a5 : (Str.ofString "else:").length = 5 := by decide
        simp [flD, wIx]
        refine ⟨w, l2, _, d + 1, b2, by simp, hb2, by omega, by omega, ?_⟩
        simp [cdel, List.lookup, wNe, o0, o1, q0]
        simp at r2 r3
        refine ⟨by omega, fun q hq => ?_⟩
        refine ⟨⟨by omega, by rw [a1]; omega⟩, by show (padT d).length + _ ≤ _; omega, by omega, fun q1 hq1 => ⟨w, l3, c3, d + 1, b3, by simp, hb3, by omega, by omega, ?_⟩⟩
        simp
        refine ⟨by omega, fun q2 hq2 => ?_⟩
        have f := fin (some (.tup [.str "if", x, .tup b2, .tup b3])) q2 (b2.flatMap (stR n (d + 1)) ++ (padT d ++ "else:") :: b3.flatMap (stR n (d + 1))) (by simp [stR, h3])
        simpa [padT] using f
  · rintro Γ cs ⟨p, g4, rfl, rfl⟩
    simp [List.lookup]
    exact hP
end Bd
namespace Bd
open PySem L2
/-! ### the texts of procedures -/
structure PrOk (nm : Str) (ps : List Str) (b : List D) (l c : Nat) : Prop where
  nm : fnm nm
  len : ps.length ≤ 3
  own : ∀ z ∈ ps, wordM z smallS 4 = true
  nd : ps.Nodup
  bk : Bk 5 false l c b
  lc : l ≤ 40 ∧ c ≤ 6
def prD (nm : Str) (ps : List Str) (b : List D) : D := .tup [.str nm, .tup (ps.map .str), .tup b]
def prR (nm : Str) (ps : List Str) (b : List D) : List Str := ("proc " ++ nm ++ "(" ++ Txt.join ", " ps ++ "):") :: b.flatMap (stR 5 1)
def lfT (rs : List Str) : Str := Txt.join "" (rs.map (· ++ Str.ofString "\n"))
def A_procedure_text (ds : List D) (P : D → Prop) : Prop := ∃ nm ps b l c, ds = [prD nm ps b] ∧ PrOk nm ps b l c ∧ P (.str (lfT (prR nm ps b)))
def A_l_procedure_rows (ds : List D) (P : D → Prop) : Prop := ∃ nm ps b l c, ds = [prD nm ps b] ∧ PrOk nm ps b l c ∧ P (.lst ((prR nm ps b).map .str))
/-- the procedures of a list -/
def prsOk (ps : List (Str × List Str × List D)) : Prop := ∀ p ∈ ps, ∃ l c, PrOk p.1 p.2.1 p.2.2 l c
def prsD (ps : List (Str × List Str × List D)) : List D := ps.map fun p => prD p.1 p.2.1 p.2.2
def prsT (ps : List (Str × List Str × List D)) : Str := lfT (ps.flatMap fun p => prR p.1 p.2.1 p.2.2)
def A_l_text (ds : List D) (P : D → Prop) : Prop := ∃ ps, ds = [.lst (prsD ps)] ∧ prsOk ps ∧ ps.length ≤ 8 ∧ P (.str (prsT ps))
/-- slots: 0 procedure, 1 name, 2 params, 3 body, 4 rows, 5 row -/
def a_procedure_text : ATS :=
  aSeq (aAsg (aVar 0) (gmT 3 (gmCons (gmN 1) (gmCons (gmN 2) (gmCons (gmN 3) (gmNil))))))
  (aSeq (aAsg (aOp wAdd (aLst (aCons (aJoined [aC (.str "proc "), aFmt (aVar 1), aC (.str "("), aFmt (aMs wJoin (aC (.str ", ")) (aCons (aVar 2) aNil)), aC (.str "):")]) (aNil))) (aCall (A_block_rows 5) [] (aCons (aVar 3) (aCons (aC (.int 1)) (aNil))))) (gmN 4))
  (aRet (aMs wJoin (aC (.str "")) (aCons (aLc (aItems (aVar 4)) (gmN 5) (aYes) (aOp wAdd (aVar 5) (aC (.str "\n"))) [5]) aNil))))
/-- slots: 0 _law_procedure_z, 1 _law_head -/
def a_l_procedure_rows : ATS :=
  aSeq (aAsg (aOp wAdd (aOp wAdd (aOp wAdd (aOp wAdd (aC (.str "proc ")) (aOp wIx (aVar 0) (aC (.int 0)))) (aC (.str "("))) (aMs wJoin (aC (.str ", ")) (aCons (aOp wIx (aVar 0) (aC (.int 1))) aNil))) (aC (.str "):"))) (gmN 1))
  (aRet (aOp wAdd (aLst (aCons (aVar 1) (aNil))) (aCall (A_l_rows 5) [] (aCons (aOp wIx (aVar 0) (aC (.int 2))) (aCons (aC (.int 1)) (aNil))))))
/-- slots: 0 _law_procedures, 1 _law_rows_here, 2 _law_procedure_z, 3 _law_row -/
def a_l_text : ATS :=
  aSeq (aAsg (aLst (aNil)) (gmN 1))
  (aSeq (aFor (aItems (aVar 0)) (gmN 2) (aAsg (aOp wAdd (aVar 1) (aCall A_l_procedure_rows [] (aCons (aVar 2) (aNil)))) (gmN 1)))
  (aRet (aMs wJoin (aC (.str "")) (aCons (aLc (aItems (aVar 1)) (gmN 3) (aYes) (aOp wAdd (aVar 3) (aC (.str "\n"))) [3]) aNil))))
theorem len_procedure_text : ∀ ds P, A_procedure_text ds P → ds.length = 1 := by rintro ds P ⟨nm, ps, b, l, c, rfl, _⟩; rfl
theorem len_l_procedure_rows : ∀ ds P, A_l_procedure_rows ds P → ds.length = 1 := by rintro ds P ⟨nm, ps, b, l, c, rfl, _⟩; rfl
theorem len_l_text : ∀ ds P, A_l_text ds P → ds.length = 1 := by rintro ds P ⟨ps, rfl, _⟩; rfl
theorem stR_len {n : Nat} {w : Bool} {l c : Nat} : ∀ {s : D}, St n w l c s → ∀ d, d + n ≤ 7 → ∀ r ∈ stR n d s, r.length ≤ 1500 := by
  induction n generalizing w l c with
  | zero => intro s h; exact (no_St h).elim
  | succ n ih =>
    intro s hs d hd r hr
    have hp := pad_len d (by omega)
    have hh := head_len hs
    have ihb : ∀ {w : Bool} {l c : Nat} {b : List D}, Bk n w l c b → ∀ r ∈ b.flatMap (stR n (d + 1)), r.length ≤ 1500 := fun hb r hr => by
      obtain ⟨s, h1, h2⟩ := List.mem_flatMap.mp hr
      obtain ⟨l', c', _, h3⟩ := hb.mem s h1
      exact ih h3 (d + 1) (by omega) r h2
    have e5 : (Str.ofString "else:").length = 5 := by decide
    have hr0 := hr
    unfold stR at hr
    rcases List.mem_cons.mp hr with e | hr
    · rw [e, len_app]; omega
    · cases hs with
      | brk => cases hr
      | @set _ _ t x ht hx =>
        have : stR (n + 1) d (.tup [.str "set", t, x]) = [padT d ++ headT (.tup [.str "set", t, x])] := by
          unfold stR
          congr 1
          split
          · rename_i h; cases h; simp
          · rename_i h; cases h
          · rfl
        rw [this] at hr0
        rw [List.mem_singleton.mp hr0, len_app]; omega
      | prt hx => cases hr
      | ret hx => cases hr
      | call _ _ _ _ _ => cases hr
      | whl hx hb =>
        simp only [if_true] at hr
        exact ihb hb r hr
      | ite hx hb =>
        simp only [if_true, List.append_nil] at hr
        exact ihb hb r hr
      | ite2 hx hb he =>
        have h3 := he.ne
        simp only [if_true, h3, if_false] at hr
        rcases List.mem_append.mp hr with m | m
        · exact ihb hb r m
        · rcases List.mem_cons.mp m with e | m
          · rw [e, len_app]; omega
          · exact ihb he r m
theorem own_str {z : Str} (h : wordM z smallS 4 = true) : z.length ≤ 4 := by
  have := (word_codes h).1
  omega
theorem ps_len {ps : List Str} (hl : ps.length ≤ 3) (h : ∀ z ∈ ps, wordM z smallS 4 = true) : (ps.map (·.length)).sum ≤ 12 := by
  have : ∀ {ps : List Str}, (∀ z ∈ ps, wordM z smallS 4 = true) → (ps.map (·.length)).sum ≤ 4 * ps.length := by
    intro ps
    induction ps with
    | nil => intro _; simp
    | cons z ps ih =>
      intro h
      have h1 := own_str (h z (by simp))
      have h2 := ih fun y hy => h y (by simp [hy])
      rw [List.map_cons, List.sum_cons, List.length_cons]
      omega
  have := this h
  omega
theorem sum_le' {B : Nat} : ∀ {rs : List Str}, (∀ r ∈ rs, r.length ≤ B) → (rs.map (·.length)).sum ≤ B * rs.length
  | [], _ => by simp
  | r :: rs, h => by
    have h1 := h r (by simp)
    have h2 := sum_le' (B := B) (rs := rs) fun y hy => h y (by simp [hy])
    rw [List.map_cons, List.sum_cons, List.length_cons, Nat.mul_succ]
    omega
theorem prR_len {nm : Str} {ps : List Str} {b : List D} {l c : Nat} (h : PrOk nm ps b l c) : (prR nm ps b).length ≤ 80 ∧ ∀ r ∈ prR nm ps b, r.length ≤ 1500 := by
  have h1 := h.bk.rows 1
  have h2 := h.lc
  refine ⟨by show _ + 1 ≤ 80; omega, fun r hr => ?_⟩
  rcases List.mem_cons.mp hr with e | hr
  · have g1 := ps_len h.len h.own
    have g2 := join_len (Str.ofString ", ") ps
    have g4 : (nm.length : Int) ≤ 6 := h.nm.2.2.1
    have g5 := h.len
    have a1 : (Str.ofString "proc ").length = 5 := by decide
    have a2 : (Str.ofString "(").length = 1 := by decide
    have a3 : (Str.ofString "):").length = 2 := by decide
    have a4 : (Str.ofString ", ").length = 2 := by decide
    rw [a4] at g2
    have : ps.length * 2 ≤ 6 := by omega
    rw [e]
    simp only [len_app]
    omega
  · obtain ⟨s, k1, k2⟩ := List.mem_flatMap.mp hr
    obtain ⟨l', c', _, k3⟩ := h.bk.mem s k1
    exact stR_len k3 1 (by decide) r k2
/-- the rows, each with a line feed, joined -/
theorem join_rows {ai : ATA} {i : Nat} {Γ : Gs} {c : Cs} {rs : List Str} {P : D → Prop} (hi : i < Γ.length) (hl : rs.length ≤ 640) (hr : ∀ r ∈ rs, r.length ≤ 1500) (hai : ∀ Q : List D → Cs → Prop, Q (rs.map .str) c → ai Γ c Q) (hP : P (.str (lfT rs))) :
    aMs wJoin (aC (.str "")) (aCons (aLc ai (gmN i) aYes (aOp wAdd (aVar i) (aC (.str "\n"))) [i]) aNil) Γ c fun d _ => P d := by
  have a1 : (Str.ofString "\n").length = 1 := by decide
  have a0 : (Str.ofString "").length = 0 := by decide
  simp only [aMs, aC, aCons, aNil, aLc]
  refine hai _ ⟨by simp; omega, ?_⟩
  refine goA_map (fun d => match d with | .str r => .str (r ++ "\n") | _ => .non) (fun d hd acc k hk => ?_) ?_
  · obtain ⟨r, h1, rfl⟩ := List.mem_map.mp hd
    have := hr r h1
    simp only [lcB, aYes, if_true, gmN, aOp, aVar, aC]
    have e : ((wipeG Γ [i]).set i (some (D.str r)))[i]? = some (some (.str r)) := by
      rw [List.getElem?_set_self (by rw [wipeG_length]; exact hi)]
    rw [e]
    simp only [wAdd]
    exact ⟨by omega, hk⟩
  · have e : ([] ++ (rs.map D.str).map fun d => match d with | .str r => D.str (r ++ "\n") | _ => .non) = (rs.map (· ++ Str.ofString "\n")).map D.str := by
      rw [List.nil_append, List.map_map, List.map_map]
      rfl
    rw [e]
    simp only [wJoin, strsOf_map]
    have g : ((rs.map (· ++ (Str.ofString "\n"))).map (·.length)).sum ≤ 1501 * rs.length := by
      have := sum_le' (B := 1501) (rs := rs.map (· ++ (Str.ofString "\n"))) fun r hr' => by
        obtain ⟨r', h1, rfl⟩ := List.mem_map.mp hr'
        have := hr r' h1
        rw [len_app]
        omega
      rw [List.length_map] at this
      exact this
    refine ⟨?_, hP⟩
    rw [a0]
    have : 1501 * rs.length ≤ 1501 * 640 := Nat.mul_le_mul_left _ hl
    omega
theorem pure_procedure_text : ∀ ds P, A_procedure_text ds P → a_procedure_text { nx := fun _ _ => P .non, rt := fun d _ => P d } (startG 6 ds) [] := by
  rintro ds P ⟨nm, ps, b, l, c, rfl, h, hP⟩
  have a1 : (Str.ofString "proc ").length = 5 := by decide
  have a2 : (Str.ofString "(").length = 1 := by decide
  have a3 : (Str.ofString "):").length = 2 := by decide
  have a4 : (Str.ofString ", ").length = 2 := by decide
  have a0 : Str.empty.length = 0 := by decide
  have g1 := ps_len h.len h.own
  have g2 := join_len (Str.ofString ", ") ps
  have g4 : (nm.length : Int) ≤ 6 := h.nm.2.2.1
  have g5 := h.len
  have g6 := h.lc
  have g7 := h.bk.rows 1
  rw [a4] at g2
  obtain ⟨k1, k2⟩ := prR_len h
  have e2 : ps.length * 2 ≤ 6 := by omega
  simp [a_procedure_text, prD, aJoined, aJs, strsOf_map]
  simp only [emp_app, len_app, a4]
  refine ⟨by omega, by omega, by omega, by omega, by omega, by omega, by omega, by omega, ?_⟩
  refine ⟨false, l, c, 1, b, rfl, h.bk, by omega, by omega, ?_⟩
  simp only [wAdd]
  refine ⟨by simp at g7 ⊢; omega, ?_⟩
  have := join_rows (i := 5) (Γ := [some (prD nm ps b), some (.str nm), some (.tup (ps.map .str)), some (.tup b), some (.lst ((prR nm ps b).map .str)), none]) (c := []) (ai := aItems (aVar 4)) (rs := prR nm ps b) (P := P) (by simp) (by omega) k2 (fun Q q => q) hP
  simpa [prR, prD] using this
theorem pure_l_procedure_rows : ∀ ds P, A_l_procedure_rows ds P → a_l_procedure_rows { nx := fun _ _ => P .non, rt := fun d _ => P d } (startG 2 ds) [] := by
  rintro ds P ⟨nm, ps, b, l, c, rfl, h, hP⟩
  have a1 : (Str.ofString "proc ").length = 5 := by decide
  have a2 : (Str.ofString "(").length = 1 := by decide
  have a3 : (Str.ofString "):").length = 2 := by decide
  have a4 : (Str.ofString ", ").length = 2 := by decide
  have g1 := ps_len h.len h.own
  have g2 := join_len (Str.ofString ", ") ps
  have g4 : (nm.length : Int) ≤ 6 := h.nm.2.2.1
  have g5 := h.len
  have g6 := h.lc
  have g7 := h.bk.rows 1
  rw [a4] at g2
  have e2 : ps.length * 2 ≤ 6 := by omega
  simp [a_l_procedure_rows, prD, strsOf_map, wIx]
  simp only [len_app, a4]
  refine ⟨by omega, by omega, by omega, by omega, by omega, ?_⟩
  refine ⟨false, l, c, 1, b, rfl, h.bk, by omega, by omega, ?_⟩
  simp only [wAdd]
  refine ⟨by simp at g7 ⊢; omega, ?_⟩
  simpa [prR] using hP
theorem pure_l_text : ∀ ds P, A_l_text ds P → a_l_text { nx := fun _ _ => P .non, rt := fun d _ => P d } (startG 4 ds) [] := by
  rintro ds P ⟨ps, rfl, h, hl, hP⟩
  have key : ∀ {qs : List (Str × List Str × List D)}, prsOk qs → (qs.flatMap fun p => prR p.1 p.2.1 p.2.2).length ≤ 80 * qs.length ∧ ∀ r ∈ (qs.flatMap fun p => prR p.1 p.2.1 p.2.2), r.length ≤ 1500 := by
    intro qs
    induction qs with
    | nil => intro _; simp
    | cons q qs ih =>
      intro h
      obtain ⟨l, c, h1⟩ := h q (by simp)
      obtain ⟨k1, k2⟩ := prR_len h1
      obtain ⟨i1, i2⟩ := ih fun p hp => h p (by simp [hp])
      rw [List.flatMap_cons, List.length_append, List.length_cons]
      refine ⟨by omega, fun r hr => ?_⟩
      rcases List.mem_append.mp hr with m | m
      · exact k2 r m
      · exact i2 r m
  simp only [a_l_text, aSeq, aAsg, aLst, aNil, gmN, startG_1, List.replicate, List.set_cons_succ, List.set_cons_zero, aFor, aItems, aVar, List.getElem?_cons_zero, itemsD]
  refine ⟨by simp, fun i Γ cs => ∃ g2, Γ = [some (.lst (prsD ps)), some (.lst (((ps.take i).flatMap fun p => prR p.1 p.2.1 p.2.2).map .str)), g2, none] ∧ cs = [], ⟨none, by simp, rfl⟩, ?_, ?_⟩
  · rintro i d Γ cs hi ⟨g2, rfl, rfl⟩
    unfold prsD at hi
    rw [List.getElem?_map] at hi
    cases e : ps[i]? with
    | none => rw [e] at hi; cases hi
    | some p =>
      rw [e] at hi
      cases hi
      obtain ⟨l, c, h1⟩ := h p (List.mem_of_getElem? e)
      obtain ⟨k1, k2⟩ := prR_len h1
      have ht := key (qs := ps.take i) fun p hp => h p (List.mem_of_mem_take hp)
      have hlt : (ps.take i).length ≤ 8 := by rw [List.length_take]; omega
      simp only [aOp, aVar, aCall, aCons, aNil, List.set_cons_succ, List.set_cons_zero, List.getElem?_cons_succ, List.getElem?_cons_zero, List.append_nil]
      refine ⟨p.1, p.2.1, p.2.2, l, c, rfl, h1, ?_⟩
      simp only [wAdd, List.length_map]
      have : 80 * (ps.take i).length ≤ 80 * 8 := Nat.mul_le_mul_left _ hlt
      refine ⟨by omega, ?_⟩
      refine ⟨some (prD p.1 p.2.1 p.2.2), ?_, trivial⟩
      rw [List.take_add_one, e, List.flatMap_append, List.map_append]
      simp
  · rintro Γ cs ⟨g2, rfl, rfl⟩
    have ht := key h
    have hls : (prsD ps).length = ps.length := by simp [prsD]
    rw [hls, List.take_length]
    have hl2 : 80 * ps.length ≤ 80 * 8 := Nat.mul_le_mul_left _ hl
    have hlen : (ps.flatMap fun p => prR p.1 p.2.1 p.2.2).length ≤ 640 := by have := ht.1; omega
    have hrs : ∀ r ∈ (ps.flatMap fun p => prR p.1 p.2.1 p.2.2), r.length ≤ 1500 := ht.2
    clear ht key
    unfold prsT at hP
    generalize (ps.flatMap fun p => prR p.1 p.2.1 p.2.2) = rs at *
    have := join_rows (i := 3) (Γ := [some (.lst (prsD ps)), some (.lst (rs.map .str)), g2, none]) (c := []) (ai := aItems (aVar 1)) (rs := rs) (P := P) (by simp) hlen hrs (fun Q q => q) hP
    exact this
end Bd
namespace Bd
open PySem L2
/-! ### fractions, weights -/
def A_l_divisor (ds : List D) (P : D → Prop) : Prop := ∃ a b : Int, ds = [.int a, .int b] ∧ 0 ≤ a ∧ 0 ≤ b ∧ P (.int (Int.gcd a b : Nat))
def A_l_frac (ds : List D) (P : D → Prop) : Prop := ∃ a b : Int, ds = [.int a, .int b] ∧ 0 ≤ a ∧ 1 ≤ b ∧ a < 1000000000 ∧ b < 1000000000 ∧ P (.tup [.int (a / (Int.gcd a b : Nat)), .int (b / (Int.gcd a b : Nat))])
def A_l_weight (ds : List D) (P : D → Prop) : Prop := ds = [.hdl 0] ∧ ∀ v, wtM v → P v
def A_l_small_weight (ds : List D) (P : D → Prop) : Prop := ds = [.hdl 0] ∧ ∀ v, wtM v → P v
/-- slots: 0 _law_one, 1 _law_other -/
def a_l_divisor : ATS :=
  aSeq (aWhile (aB (aOp wGt (aVar 1) (aC (.int 0)))) (aPar 0 1 (aCons (aVar 1) (aCons (aOp wMod (aVar 0) (aVar 1)) (aNil)))))
  (aRet (aVar 0))
/-- slots: 0 _law_top, 1 _law_bottom, 2 _law_by -/
def a_l_frac : ATS :=
  aSeq (aAsg (aCall A_l_divisor [] (aCons (aCB wAbs (aCons (aVar 0) (aNil))) (aCons (aVar 1) (aNil)))) (gmN 2))
  (aRet (aTup (aCons (aOp wDiv (aVar 0) (aVar 2)) (aCons (aOp wDiv (aVar 1) (aVar 2)) (aNil)))))
/-- slots: 0 _law_bag_here, 1 _law_bottom, 2 _law_top -/
def a_l_weight : ATS :=
  aSeq (aAsg (aCall A_l_pick [] (aCons (aVar 0) (aCons (aLst (aCons (aC (.int 1)) (aCons (aC (.int 2)) (aCons (aC (.int 3)) (aCons (aC (.int 4)) (aCons (aOp wAdd (aC (.int 1)) (aCall A_l_pull [] (aCons (aVar 0) (aCons (aC (.int 12)) (aNil))))) (aNil))))))) (aNil)))) (gmN 1))
  (aSeq (aAsg (aCall A_l_pick [] (aCons (aVar 0) (aCons (aLst (aCons (aC (.int 0)) (aCons (aC (.int 1)) (aCons (aC (.int 1)) (aCons (aC (.int 1)) (aCons (aCall A_l_pull [] (aCons (aVar 0) (aCons (aC (.int 4)) (aNil)))) (aCons (aCall A_l_pull [] (aCons (aVar 0) (aCons (aC (.int 100)) (aNil)))) (aNil)))))))) (aNil)))) (gmN 2))
  (aRet (aCall A_l_frac [] (aCons (aVar 2) (aCons (aVar 1) (aNil))))))
/-- slots: 0 _law_bag_here, 1 _law_bottom -/
def a_l_small_weight : ATS :=
  aSeq (aAsg (aOp wAdd (aC (.int 2)) (aCall A_l_pull [] (aCons (aVar 0) (aCons (aC (.int 5)) (aNil))))) (gmN 1))
  (aRet (aCall A_l_frac [] (aCons (aCall A_l_pick [] (aCons (aVar 0) (aCons (aLst (aCons (aC (.int 0)) (aCons (aC (.int 1)) (aCons (aC (.int 1)) (aCons (aC (.int 1)) (aCons (aOp wSub (aVar 1) (aC (.int 1))) (aCons (aVar 1) (aNil)))))))) (aNil)))) (aCons (aVar 1) (aNil)))))
theorem len_l_divisor : ∀ ds P, A_l_divisor ds P → ds.length = 2 := by rintro ds P ⟨a, b, rfl, _⟩; rfl
theorem len_l_frac : ∀ ds P, A_l_frac ds P → ds.length = 2 := by rintro ds P ⟨a, b, rfl, _⟩; rfl
theorem len_l_weight : ∀ ds P, A_l_weight ds P → ds.length = 1 := by rintro ds P ⟨rfl, _⟩; rfl
theorem len_l_small_weight : ∀ ds P, A_l_small_weight ds P → ds.length = 1 := by rintro ds P ⟨rfl, _⟩; rfl
theorem gcd_step {a b : Int} (h0 : 0 ≤ a) (hb : 0 < b) : Int.gcd b (a.fmod b) = Int.gcd a b ∧ 0 ≤ a.fmod b ∧ a.fmod b < b := by
  rw [Int.fmod_eq_emod_of_nonneg a (by omega)]
  refine ⟨?_, Int.emod_nonneg _ (by omega), Int.emod_lt_of_pos _ hb⟩
  obtain ⟨x, rfl⟩ := Int.eq_ofNat_of_zero_le h0
  obtain ⟨y, rfl⟩ := Int.eq_ofNat_of_zero_le (by omega : 0 ≤ b)
  show Nat.gcd y (x % y) = Nat.gcd x y
  rw [Nat.gcd_comm x y, Nat.gcd_rec y x, Nat.gcd_comm]
theorem pure_l_divisor : ∀ ds P, A_l_divisor ds P → a_l_divisor { nx := fun _ _ => P .non, rt := fun d _ => P d } (startG 2 ds) [] := by
  rintro ds P ⟨a, b, rfl, ha, hb, hP⟩
  simp only [a_l_divisor, aSeq, aWhile]
  refine ⟨fun m Γ c => ∃ x y : Int, Γ = [some (.int x), some (.int y)] ∧ 0 ≤ x ∧ 0 ≤ y ∧ m = y.toNat ∧ Int.gcd x y = Int.gcd a b, ⟨b.toNat, a, b, rfl, ha, hb, rfl, rfl⟩, ?_⟩
  rintro m Γ c ⟨x, y, rfl, hx, hy, rfl, hg⟩
  by_cases h : 0 < y
  · obtain ⟨e1, e2, e3⟩ := gcd_step hx h
    simp [h]
    exact ⟨by omega, (x.fmod y).toNat, by omega, y, x.fmod y, ⟨rfl, rfl⟩, by omega, e2, rfl, by rw [e1, hg]⟩
  · have e : y = 0 := by omega
    subst e
    simp
    have : Int.gcd x 0 = x.natAbs := Int.gcd_zero_right x
    rw [this] at hg
    have e2 : (x : Int) = ((Int.gcd a b : Nat) : Int) := by omega
    rw [e2]
    exact hP
theorem gcd_pos {a b : Int} (hb : 1 ≤ b) : 0 < Int.gcd a b := Int.gcd_pos_of_ne_zero_right a (by omega)
theorem gcd_le {a b : Int} (hb : 1 ≤ b) : (Int.gcd a b : Int) ≤ b := Int.le_of_dvd (by omega) (Int.gcd_dvd_right a b)
theorem pure_l_frac : ∀ ds P, A_l_frac ds P → a_l_frac { nx := fun _ _ => P .non, rt := fun d _ => P d } (startG 3 ds) [] := by
  rintro ds P ⟨a, b, rfl, ha, hb, ha2, hb2, hP⟩
  have h0 : ¬ a < 0 := by omega
  have g1 := gcd_pos (a := a) hb
  have g2 := gcd_le (a := a) hb
  simp [a_l_frac, h0]
  refine ⟨a, b, rfl, ha, by omega, ?_⟩
  have e1 : a.fdiv (Int.gcd a b : Nat) = a / (Int.gcd a b : Nat) := Int.fdiv_eq_ediv_of_nonneg a (by omega)
  have e2 : b.fdiv (Int.gcd a b : Nat) = b / (Int.gcd a b : Nat) := Int.fdiv_eq_ediv_of_nonneg b (by omega)
  have hc : ∀ x : Int, CDivA x (Int.gcd a b : Nat) := fun x => .inl ⟨by omega, by omega⟩
  simp only [e1, e2]
  exact ⟨hc _, hc _, hP⟩
theorem frac_wt {a b : Int} (a0 : 0 ≤ a) (a1 : a ≤ 99) (b0 : 1 ≤ b) (b1 : b ≤ 12) : wtM (.tup [.int (a / (Int.gcd a b : Nat)), .int (b / (Int.gcd a b : Nat))]) := by
  have g1 := gcd_pos (a := a) b0
  have g2 := gcd_le (a := a) b0
  refine ⟨_, _, rfl, Int.ediv_nonneg a0 (by omega), ?_, ?_, ?_, ?_⟩
  · exact Int.le_trans (Int.ediv_le_self _ a0) a1
  · exact Int.le_ediv_of_mul_le (by omega) (by omega)
  · exact Int.le_trans (Int.ediv_le_self _ (by omega)) b1
  · exact Int.gcd_ediv_gcd_ediv_gcd g1
theorem frac_go {a b : Int} {P : D → Prop} (a0 : 0 ≤ a) (a1 : a ≤ 99) (b0 : 1 ≤ b) (b1 : b ≤ 12) (hP : ∀ v, wtM v → P v) : A_l_frac [.int a, .int b] P := ⟨a, b, rfl, a0, b0, by omega, by omega, hP _ (frac_wt a0 a1 b0 b1)⟩
theorem pure_l_weight : ∀ ds P, A_l_weight ds P → a_l_weight { nx := fun _ _ => P .non, rt := fun d _ => P d } (startG 3 ds) [] := by
  rintro ds P ⟨rfl, hP⟩
  simp [a_l_weight]
  refine A_pull_go (by omega) (by omega) fun k k0 k1 => A_pick_go (by simp) (by simp) fun d hd => ?_
  have hd : ∃ y : Int, d = .int y ∧ 1 ≤ y ∧ y ≤ 12 := by
    simp at hd
    rcases hd with rfl | rfl | rfl | rfl | rfl <;> exact ⟨_, rfl, by omega, by omega⟩
  obtain ⟨y, rfl, y0, y1⟩ := hd
  refine A_pull_go (by omega) (by omega) fun i i0 i1 => ?_
  refine A_pull_go (by omega) (by omega) fun j j0 j1 => A_pick_go (by simp) (by simp) fun d hd => ?_
  have hd : ∃ x : Int, d = .int x ∧ 0 ≤ x ∧ x ≤ 99 := by
    simp at hd
    rcases hd with rfl | rfl | rfl | rfl <;> exact ⟨_, rfl, by omega, by omega⟩
  obtain ⟨x, rfl, x0, x1⟩ := hd
  exact frac_go x0 x1 y0 y1 hP
theorem pure_l_small_weight : ∀ ds P, A_l_small_weight ds P → a_l_small_weight { nx := fun _ _ => P .non, rt := fun d _ => P d } (startG 2 ds) [] := by
  rintro ds P ⟨rfl, hP⟩
  simp [a_l_small_weight]
  refine A_pull_go (by omega) (by omega) fun k k0 k1 => ?_
  simp
  refine A_pick_go (by simp) (by simp) fun d hd => ?_
  have hd : ∃ x : Int, d = .int x ∧ 0 ≤ x ∧ x ≤ 99 := by
    simp at hd
    rcases hd with rfl | rfl | rfl | rfl <;> exact ⟨_, rfl, by omega, by omega⟩
  obtain ⟨x, rfl, x0, x1⟩ := hd
  exact frac_go x0 x1 (by omega) (by omega) hP
theorem A_weight_go {P : D → Prop} (hP : ∀ v, wtM v → P v) : A_l_weight [.hdl 0] P := ⟨rfl, hP⟩
theorem A_small_weight_go {P : D → Prop} (hP : ∀ v, wtM v → P v) : A_l_small_weight [.hdl 0] P := ⟨rfl, hP⟩
end Bd
namespace Bd
open PySem L2
/-! ### different words -/
def wordsOk (m : Int) (zs : List Str) : Prop := zs.Nodup ∧ ∀ z ∈ zs, lowS z = true ∧ 1 ≤ (z.length : Int) ∧ (z.length : Int) ≤ m ∧ inS z kwS = false
def A_l_words (ds : List D) (P : D → Prop) : Prop := ∃ (k : Nat) (m : Int), ds = [.hdl 0, .int k, .int m] ∧ k ≤ 20 ∧ 1 ≤ m ∧ m ≤ 6 ∧ ∀ zs : List Str, zs.length = k → wordsOk m zs → P (.lst (zs.map .str))
/-- slots: 0 _law_bag_here, 1 _law_count, 2 _law_most, 3 _law_found, 4 _law_k, 5 _law_word_here, 6 _law_letter -/
def a_l_words : ATS :=
  aSeq (aAsg (aNew (aNil)) (gmN 3))
  (aSeq (aFor (aRng1 (aCons (aVar 1) (aNil))) (gmN 4) (aSeq (aAsg (aCall A_l_word [] (aCons (aVar 0) (aCons (aVar 2) (aNil)))) (gmN 5))
  (aSeq (aIfS (aAnd (aB (aOpL wNe (aVar 3) (aLst (aNil)))) (aB (aOp wEq (aCall A_l_pull [] (aCons (aVar 0) (aCons (aC (.int 4)) (aNil)))) (aC (.int 0))))) (aAsg (aSl (aOp wAdd (aIxC (aVar 3) (aUn wNeg (aC (.int 1)))) (aVar 5)) (aNoPart) (aPart (aVar 2))) (gmN 5)) (aNext))
  (aSeq (aIfS (aOr (aB (aOpR wIn (aVar 5) (aVar 3))) (aB (aOp wIn (aVar 5) (aCall A_l_keywords [] aNil)))) (aAsg (aOp wIx (aLc (aItems (aC (.str "abcdefghijklmnopqrstuvwxyz"))) (gmN 6) (aB (aOpR wNotIn (aVar 6) (aVar 3))) (aVar 6) [6]) (aC (.int 0))) (gmN 5)) (aNext))
  (aDrop (aApp (aVar 3) (aVar 5)))))))
  (aFrz 3 (aRet (aVar 3))))
theorem len_l_words : ∀ ds P, A_l_words ds P → ds.length = 3 := by rintro ds P ⟨k, m, rfl, _⟩; rfl
theorem goA_filter {body : D → List D → Cs → (List D → Cs → Prop) → Prop} (t : D → Bool) : ∀ {ds acc : List D} {c : Cs} {P : List D → Cs → Prop}, (∀ d ∈ ds, ∀ (acc : List D) (k : List D → Cs → Prop), k (if t d = true then acc ++ [d] else acc) c → body d acc c k) → P (acc ++ ds.filter t) c → goA body ds acc c P
  | [], acc, c, P, _, h => by
    show P acc c
    simpa using h
  | d :: ds, acc, c, P, hb, h => by
    refine hb d (by simp) acc _ (goA_filter t (fun e he => hb e (by simp [he])) ?_)
    by_cases q : t d = true
    · rw [List.filter_cons_of_pos q] at h
      rw [if_pos q]
      simpa using h
    · rw [List.filter_cons_of_neg q] at h
      rw [if_neg q]
      exact h
theorem nodup_sub {xs : List Str} : ∀ {ys : List Str}, xs.Nodup → (∀ x ∈ xs, x ∈ ys) → xs.length ≤ ys.length := by
  induction xs with
  | nil => intro ys _ _; exact Nat.zero_le _
  | cons x xs ih =>
    intro ys hn h
    obtain ⟨n1, n2⟩ := List.nodup_cons.mp hn
    have hx := h x (by simp)
    have := ih (ys := ys.erase x) n2 fun y hy => (List.mem_erase_of_ne (fun e => n1 (by rw [← e]; exact hy))).mpr (h y (by simp [hy]))
    rw [List.length_erase_of_mem hx] at this
    have : 0 < ys.length := List.length_pos_of_mem hx
    rw [List.length_cons]
    omega
theorem inS_mem {z : Str} {l : List Str} : inS z l = true ↔ z ∈ l := by
  unfold inS
  rw [List.any_eq_true]
  constructor
  · rintro ⟨k, h1, h2⟩
    rw [← of_decide_eq_true h2]
    exact h1
  · intro h
    exact ⟨z, h, decide_eq_true rfl⟩
theorem inS_not {z : Str} {l : List Str} : inS z l = false ↔ z ∉ l := by
  rw [← inS_mem]
  cases inS z l <;> simp
/-- some letter is not among twenty words -/
theorem letter_free {zs : List Str} (h : zs.length < 26) : ∃ c cs, (smallS.cps.toList.map fun c => D.str ⟨#[c]⟩).filter (fun d => !((zs.map D.str).any fun e => eqD e d)) = D.str ⟨#[c]⟩ :: cs ∧ 97 ≤ c ∧ c ≤ 122 ∧ (⟨#[c]⟩ : Str) ∉ zs := by
  have hf : ∀ y ∈ (smallS.cps.toList.map fun c => D.str ⟨#[c]⟩).filter (fun d => !((zs.map D.str).any fun e => eqD e d)), ∃ c, y = D.str ⟨#[c]⟩ ∧ 97 ≤ c ∧ c ≤ 122 ∧ (⟨#[c]⟩ : Str) ∉ zs := by
    intro y hy
    obtain ⟨h1, h2⟩ := List.mem_filter.mp hy
    obtain ⟨c, h3, rfl⟩ := List.mem_map.mp h1
    rw [any_strs] at h2
    rw [small_codes] at h3
    have := List.mem_range'_1.mp h3
    exact ⟨c, rfl, by omega, by omega, inS_not.mp (by simpa using h2)⟩
  cases q : (smallS.cps.toList.map fun c => D.str ⟨#[c]⟩).filter (fun d => !((zs.map D.str).any fun e => eqD e d)) with
  | cons y ys =>
    rw [q] at hf
    obtain ⟨c, rfl, h1, h2, h3⟩ := hf y (by simp)
    exact ⟨c, ys, rfl, h1, h2, h3⟩
  | nil =>
    exfalso
    rw [List.filter_eq_nil_iff] at q
    have all : ∀ x ∈ smallS.cps.toList.map fun c => (⟨#[c]⟩ : Str), x ∈ zs := fun x hx => by
      obtain ⟨c, hc, rfl⟩ := List.mem_map.mp hx
      have := q (D.str ⟨#[c]⟩) (List.mem_map.mpr ⟨c, hc, rfl⟩)
      rw [any_strs] at this
      exact inS_mem.mp (by simpa using this)
    have nd : (smallS.cps.toList.map fun c => (⟨#[c]⟩ : Str)).Nodup := by
      rw [small_codes]
      have nr : (List.range' 97 26).Nodup := List.nodup_range' 1
      refine List.Pairwise.map (R := fun a b => a ≠ b) _ (fun a b hab e => hab ?_) nr
      have := congrArg Str.cps e
      simpa using this
    have := nodup_sub nd all
    rw [List.length_map, small_codes, List.length_range'] at this
    omega
theorem words_tail {A : AE} {w : Str} {zs : List Str} {p : Addr} {k m : Int} {g4 : Option D} (h1 : lowS w = true) (h2 : 1 ≤ (w.length : Int)) (h3 : (w.length : Int) ≤ m) (h4 : 1 ≤ m) (hz : wordsOk m zs) (hl : zs.length < 20)
    (hk : ∀ w', wordsOk m (zs ++ [w']) → A.nx [some (.hdl 0), some (.int k), some (.int m), some (.adr p), g4, some (.str w'), none] [(p, .lst ((zs ++ [w']).map .str))]) :
    aSeq (aIfS (aOr (aB (aOpR wIn (aVar 5) (aVar 3))) (aB (aOp wIn (aVar 5) (aCall A_l_keywords [] aNil)))) (aAsg (aOp wIx (aLc (aItems (aC (.str "abcdefghijklmnopqrstuvwxyz"))) (gmN 6) (aB (aOpR wNotIn (aVar 6) (aVar 3))) (aVar 6) [6]) (aC (.int 0))) (gmN 5)) (aNext))
      (aDrop (aApp (aVar 3) (aVar 5))) A [some (.hdl 0), some (.int k), some (.int m), some (.adr p), g4, some (.str w), none] [(p, .lst (zs.map .str))] := by
  have kfl : c_KEYWORDS.all flD = true := all_fl kwS
  have kmem : ∀ z, (c_KEYWORDS.any fun d => eqD d (.str z)) = inS z kwS := fun z => any_strs z kwS
  have fin : ∀ w', w' ∉ zs → lowS w' = true → 1 ≤ (w'.length : Int) → (w'.length : Int) ≤ m → inS w' kwS = false → aDrop (aApp (aVar 3) (aVar 5)) A [some (.hdl 0), some (.int k), some (.int m), some (.adr p), g4, some (.str w'), none] [(p, .lst (zs.map .str))] := by
    intro w' n1 n2 n3 n4 n5
    have ok : wordsOk m (zs ++ [w']) := by
      refine ⟨List.nodup_append.mpr ⟨hz.1, List.nodup_cons.mpr ⟨by simp, List.nodup_nil⟩, fun a ha b hb e => ?_⟩, fun z hm => ?_⟩
      · rw [List.mem_singleton.mp hb] at e
        exact n1 (e ▸ ha)
      · rcases List.mem_append.mp hm with hm | hm
        · exact hz.2 z hm
        · rw [List.mem_singleton.mp hm]; exact ⟨n2, n3, n4, n5⟩
    simp [List.lookup, cset]
    exact ⟨by omega, by simpa using hk w' ok⟩
  have sub : ∀ {B : Prop}, B = B := rfl
  simp only [aSeq, aIfS, aOr, aB, aOpR, aVar, List.getElem?_cons_succ, List.getElem?_cons_zero, List.lookup_cons, BEq.rfl, wIn, memD, flD, all_fl, Bool.true_and, Bool.true_or, any_strs, true_and]
  have go : ∀ b : Bool, (b = false → w ∉ zs ∧ inS w kwS = false) → (if b = true then aAsg (aOp wIx (aLc (aItems (aC (.str "abcdefghijklmnopqrstuvwxyz"))) (gmN 6) (aB (aOpR wNotIn (aVar 6) (aVar 3))) (aVar 6) [6]) (aC (.int 0))) (gmN 5)
      { A with nx := aDrop (aApp (aVar 3) (aVar 5)) A } [some (.hdl 0), some (.int k), some (.int m), some (.adr p), g4, some (.str w), none] [(p, .lst (zs.map .str))]
      else aNext { A with nx := aDrop (aApp (aVar 3) (aVar 5)) A } [some (.hdl 0), some (.int k), some (.int m), some (.adr p), g4, some (.str w), none] [(p, .lst (zs.map .str))]) := by
    intro b hb
    cases b with
    | false =>
      obtain ⟨b1, b2⟩ := hb rfl
      simp only [Bool.false_eq_true, if_false]
      exact fin w b1 h1 h2 h3 b2
    | true =>
      simp only [if_true, aAsg, aOp, aLc, aItems, aC, itemsD]
      refine ⟨by rw [List.length_map, small_codes]; decide, goA_filter (fun d => !((zs.map D.str).any fun e => eqD e d)) (fun d hd acc kk hk2 => ?_) ?_⟩
      · obtain ⟨c, h5, rfl⟩ := List.mem_map.mp hd
        simp only [lcB, wipeG, List.set_cons_succ, List.set_cons_zero, gmN, aB, aOpR, aVar, List.getElem?_cons_succ, List.getElem?_cons_zero, List.lookup_cons, BEq.rfl, wNotIn, memD, flD, all_fl, Bool.true_and, Bool.true_or, any_strs, true_and]
        simp only [any_strs] at hk2
        cases q : inS ⟨#[c]⟩ zs with
        | true =>
          rw [q] at hk2
          simpa using hk2
        | false =>
          rw [q] at hk2
          simpa using hk2
      · obtain ⟨c, cs, e, c1, c2, c3⟩ := letter_free (zs := zs) (by omega)
        rw [List.nil_append, e]
        simp only [wIx, at0, gmN, List.set_cons_succ, List.set_cons_zero]
        refine fin _ c3 ?_ (by show (1 : Int) ≤ ((1 : Nat) : Int); omega) (by show ((1 : Nat) : Int) ≤ m; omega) (inS_len1 c)
        simp [lowS]; omega
  cases q : inS w zs with
  | true => 
    have := go true (fun e => by cases e)
    simpa only [if_true] using this
  | false =>
    have := go (inS w kwS) (fun e => ⟨inS_not.mp q, e⟩)
    simp only [Bool.false_eq_true, if_false, aOp, aVar, aCall, aNil, List.append_nil, A_l_keywords_0, List.getElem?_cons_succ, List.getElem?_cons_zero, memD, wIn, flD, kfl, Bool.true_and, Bool.true_or, kmem, true_and]
    exact this
theorem okN_lst {k : Nat} {ds : List D} (h : ∀ d ∈ ds, okN k d) : okN (k + 1) (.lst ds) := by
  obtain ⟨a, b, c⟩ := okNA_of h
  exact ⟨a, b, by show _ + 1 ≤ k + 1; omega⟩
theorem lowS_app {a b : Str} (h1 : lowS a = true) (h2 : lowS b = true) : lowS (a ++ b) = true := by
  unfold lowS at h1 h2 ⊢
  show ((a.cps ++ b.cps).toList.all _) = true
  rw [Array.toList_append, List.all_append, h1, h2]
  rfl
theorem cut_to {z : Str} {m : Nat} : cutS z none (some (m : Int)) = ⟨(z.cps.toList.take m).toArray⟩ := by
  unfold cutS
  have h1 : HT.sIx z.length 0 none = 0 := rfl
  rw [h1, HT.sIx_nat, List.drop_zero, Nat.sub_zero]
  congr 2
  have : z.cps.toList.length = z.length := Array.length_toList
  rw [← this]
  by_cases h : m ≤ z.cps.toList.length
  · rw [Nat.min_eq_left h]
  · rw [Nat.min_eq_right (by omega), List.take_length, List.take_of_length_le (by omega)]
theorem lowS_cut {z : Str} {m : Nat} (h : lowS z = true) (h1 : 1 ≤ z.length) (hm : 1 ≤ m) : lowS (cutS z none (some (m : Int))) = true ∧ 1 ≤ (cutS z none (some (m : Int))).length ∧ (cutS z none (some (m : Int))).length ≤ m := by
  rw [cut_to]
  have hl : (⟨(z.cps.toList.take m).toArray⟩ : Str).length = min m z.length := by
    show (z.cps.toList.take m).toArray.size = _
    simp [Str.length]
  refine ⟨?_, by rw [hl]; omega, by rw [hl]; omega⟩
  unfold lowS at h ⊢
  rw [List.all_eq_true] at h ⊢
  intro c hc
  exact h c (List.mem_of_mem_take (by simpa using hc))
theorem pure_l_words : ∀ ds P, A_l_words ds P → a_l_words { nx := fun _ _ => P .non, rt := fun d _ => P d } (startG 7 ds) [] := by
  rintro ds P ⟨k, m, rfl, hk, hm, hm2, hP⟩
  simp only [a_l_words, aSeq, aAsg, aNew, aNil, gmN, startG_3, List.replicate, List.set_cons_succ, List.set_cons_zero, aFor, aRng1, aCons, aVar, List.getElem?_cons_zero, List.getElem?_cons_succ]
  refine ⟨by simp, fun p _ => ⟨⟨by omega, by omega⟩, fun i Γ cs => ∃ (zs : List Str) (g4 g5 : Option D), Γ = [some (.hdl 0), some (.int k), some (.int m), some (.adr p), g4, g5, none] ∧ cs = [(p, .lst (zs.map .str))] ∧ zs.length = i ∧ wordsOk m zs, ⟨[], none, none, rfl, rfl, rfl, List.nodup_nil, by simp⟩, ?_, ?_⟩⟩
  · rintro i d Γ cs hi ⟨zs, g4, g5, rfl, rfl, hl, hz⟩
    have hik : i < k := by
      have := (List.getElem?_eq_some_iff.mp hi).1
      simpa using this
    have nxt : ∀ w' : Str, wordsOk m (zs ++ [w']) → ∃ (zs' : List Str) (g4' g5' : Option D), [some (D.hdl 0), some (.int (k : Int)), some (.int m), some (.adr p), some d, some (.str w'), none] = [some (.hdl 0), some (.int k), some (.int m), some (.adr p), g4', g5', none] ∧
        [(p, D.lst ((zs ++ [w']).map .str))] = [(p, .lst (zs'.map .str))] ∧ zs'.length = i + 1 ∧ wordsOk m zs' := fun w' h => ⟨zs ++ [w'], some d, some (.str w'), rfl, rfl, by simp [hl], h⟩
    simp only [gmN, aCall, aCons, aVar, aNil, List.set_cons_succ, List.set_cons_zero, List.getElem?_cons_zero, List.getElem?_cons_succ, List.append_nil]
    refine ⟨m, rfl, hm, by omega, fun z z1 z2 z3 z4 => ?_⟩
    have hok : okD (.lst (zs.map .str)) = true := okD_of (k := 1) (okN_lst fun d hd => by
      obtain ⟨y, hy, rfl⟩ := List.mem_map.mp hd
      exact okN_str (low_ok (hz.2 y hy).1)) (by decide)
    have hok0 : okD (.lst []) = true := by decide
    simp only [List.set_cons_succ, List.set_cons_zero, aIfS, aAnd, aB, aOpL, aLst, aNil, aVar, List.getElem?_cons_zero, List.getElem?_cons_succ, List.lookup_cons, BEq.rfl, wNe, hok, hok0, Bool.and_self, Bool.or_true, flD, true_and]
    refine ⟨by simp, ?_⟩
    cases zs with
    | nil =>
      have e0 : eqD (.lst (([] : List Str).map .str)) (.lst []) = true := by decide
      simp only [e0, Bool.not_true, Bool.false_eq_true, if_false, aNext]
      exact words_tail z1 z2 z3 hm hz (by omega) nxt
    | cons y ys =>
      have e0 : eqD (.lst ((y :: ys).map .str)) (.lst []) = false := rfl
      simp only [e0, Bool.not_false, if_true, aOp, aCall, aCons, aVar, aC, aNil, List.getElem?_cons_zero, List.append_nil, wEq_ii]
      refine A_pull_go (by omega) (by omega) fun j j0 j1 => ?_
      simp only [wEq_ii]
      by_cases hj : j = 0
      · -- behind the last one
        obtain ⟨q, hq⟩ : ∃ q, (y :: ys).getLast (by simp) = q := ⟨_, rfl⟩
        have hqm : q ∈ y :: ys := hq ▸ List.getLast_mem (by simp)
        obtain ⟨q1, q2, q3, q4⟩ := hz.2 q hqm
        have hat : atI ((y :: ys).map D.str) (-1) = some (.str q) := by
          have e : y :: ys = (y :: ys).dropLast ++ [q] := by rw [← hq, List.dropLast_concat_getLast]
          rw [e, List.map_append]
          exact atI_last _ _
        have hnn : m = ((m.toNat : Nat) : Int) := by omega
        have ln := len_app q z
        obtain ⟨c1, c2, c3⟩ := lowS_cut (z := q ++ z) (m := m.toNat) (lowS_app q1 z1) (by omega) (by omega)
        rw [← hnn] at c1 c2 c3
        simp only [hj, decide_true, if_true, aAsg, aSl, aOp, aIxC, aUn, aC, aVar, aNoPart, aPart, wNeg, List.getElem?_cons_zero, List.getElem?_cons_succ, List.lookup_cons, BEq.rfl, hat, wAdd, wSl, gmN, List.set_cons_succ, List.set_cons_zero]
        refine ⟨by omega, by omega, ?_⟩
        exact words_tail c1 (by omega) (by omega) hm hz (by omega) nxt
      · simp only [hj, decide_false, Bool.false_eq_true, if_false, aNext]
        exact words_tail z1 z2 z3 hm hz (by omega) nxt
  · rintro Γ cs ⟨zs, g4, g5, rfl, rfl, hl, hz⟩
    have hl : zs.length = k := by simpa using hl
    simp [List.lookup]
    exact hP zs hl hz
end Bd
namespace Bd
open PySem L2
/-! ### drawn expressions, calls -/
theorem fits_mono : ∀ {n : Nat} {v : D}, fitsM n v = true → fitsM (n + 1) v = true
  | 0, v, h => by cases h
  | n + 1, v, h => by
    rcases fits_cases h with ⟨i, rfl, i0, i1⟩ | ⟨z, rfl, hz⟩ | ⟨x, rfl, hx⟩ | ⟨s, x, y, rfl, hs, hx, hy⟩
    · simpa [fitsM] using h
    · simpa [fitsM] using h
    · have := fits_mono hx
      simpa [fitsM] using this
    · have h1 := fits_mono hx
      have h2 := fits_mono hy
      simp [fitsM] at h1 h2 ⊢
      exact ⟨⟨hs, h1⟩, h2⟩
theorem fits_le {n m : Nat} {v : D} (h : fitsM n v = true) (hm : n ≤ m) : fitsM m v = true := by
  induction m with
  | zero => have : n = 0 := by omega
            subst this; exact h
  | succ m ih =>
    by_cases e : n = m + 1
    · subst e; exact h
    · exact fits_mono (ih (by omega))
theorem name_tyd {x : D} (h : nameM x = true) : tyd x = true := by
  obtain ⟨z, rfl, hz, _⟩ := name_str h
  simp [tyd]; omega
theorem fits_tyd : ∀ {n : Nat} {v : D}, fitsM n v = true → tyd v = true
  | 0, v, h => by cases h
  | n + 1, v, h => by
    have k1 : (Str.ofString "num").length = 3 := by decide
    have k2 : (Str.ofString "name").length = 4 := by decide
    have k3 : (Str.ofString "not").length = 3 := by decide
    have k4 : (Str.ofString "op").length = 2 := by decide
    rcases fits_cases h with ⟨i, rfl, i0, i1⟩ | ⟨z, rfl, hz⟩ | ⟨x, rfl, hx⟩ | ⟨s, x, y, rfl, hs, hx, hy⟩
    · simp [tyd, tydA, k1]
    · simp [tyd, tydA, k2]; omega
    · have := fits_tyd hx
      simp [tyd, tydA, k3, this]
    · have h1 := fits_tyd hx
      have h2 := fits_tyd hy
      have h3 := sg_len hs
      simp [tyd, tydA, k4, h1, h2]; omega
def callOf (ds : List D) : List D := match ds with
  | [.str _, _, .str f, .tup xs, _] => [.tup [.str f, .int (xs.length : Nat)]]
  | _ => []
@[simp] theorem callOf_0 : callOf [] = [] := rfl
@[simp] theorem callOf_1 {a : D} : callOf [a] = [] := by simp [callOf]
@[simp] theorem callOf_2 {a b : D} : callOf [a, b] = [] := by simp [callOf]
@[simp] theorem callOf_3 {a b c : D} : callOf [a, b, c] = [] := by simp [callOf]
@[simp] theorem callOf_4 {a b c d : D} : callOf [a, b, c, d] = [] := by simp [callOf]
@[simp] theorem callOf_5 {w f : Str} {t v : D} {xs : List D} : callOf [.str w, t, .str f, .tup xs, v] = [.tup [.str f, .int (xs.length : Nat)]] := rfl
theorem callOf_str {ds : List D} (h : ∀ z, D.str z ∉ ds) : callOf ds = [] := by
  unfold callOf
  split
  · rename_i z _ _ _ _
    exact absurd List.mem_cons_self (h z)
  · rfl
mutual
/-- the calls within a statement: name and number of arguments -/
def callsD : D → List D
  | .tup ds => callOf ds ++ callsA ds
  | _ => []
def callsA : List D → List D
  | [] => []
  | d :: ds => callsD d ++ callsA ds
end
theorem calls_fits : ∀ {n : Nat} {v : D}, fitsM n v = true → callsD v = []
  | 0, v, h => by cases h
  | n + 1, v, h => by
    rcases fits_cases h with ⟨i, rfl, i0, i1⟩ | ⟨z, rfl, hz⟩ | ⟨x, rfl, hx⟩ | ⟨s, x, y, rfl, hs, hx, hy⟩
    · simp [callsD, callsA]
    · simp [callsD, callsA]
    · have := calls_fits hx
      simp [callsD, callsA, this]
    · have h1 := calls_fits hx
      have h2 := calls_fits hy
      simp [callsD, callsA, h1, h2]
theorem callsA_mem : ∀ {ds : List D} {q : D}, q ∈ callsA ds ↔ ∃ d ∈ ds, q ∈ callsD d
  | [], q => by simp [callsA]
  | d :: ds, q => by
    rw [callsA, List.mem_append, callsA_mem (ds := ds)]
    simp
def A_l_expr (n : Nat) (ds : List D) (P : D → Prop) : Prop := ∃ (xs : List D) (d : Nat), ds = [.hdl 0, .lst xs, .int (d : Nat)] ∧ 1 ≤ d ∧ d ≤ n ∧ xs ≠ [] ∧ xs.length < 1000000 ∧ (∀ x ∈ xs, nameM x = true) ∧ ∀ t, fitsM d t = true → P t
/-- slots: 0 _law_bag_here, 1 _law_names, 2 _law_deep, 3 _law_way, 4 _law_sign, 5 _law_one -/
def a_l_expr (A : List D → (D → Prop) → Prop) : ATS :=
  aSeq (aAsg (aCall A_l_pull [] (aCons (aVar 0) (aCons (aC (.int 7)) (aNil)))) (gmN 3))
  (aSeq (aIfS (aOr (aB (aOp wLt (aVar 2) (aC (.int 2)))) (aB (aOp wLt (aVar 3) (aC (.int 3))))) (aSeq (aIfS (aAnd (aB (aOp wEq (aOp wMod (aVar 3) (aC (.int 2))) (aC (.int 0)))) (aB (aOp wNe (aVar 1) (aLst (aNil))))) (aRet (aTup (aCons (aC (.str "name")) (aCons (aCall A_l_pick [] (aCons (aVar 0) (aCons (aVar 1) (aNil)))) (aNil))))) (aNext))
  (aRet (aTup (aCons (aC (.str "num")) (aCons (aCall A_l_constant [] (aCons (aVar 0) (aNil))) (aNil)))))) (aNext))
  (aSeq (aIfS (aB (aOp wEq (aVar 3) (aC (.int 3)))) (aRet (aTup (aCons (aC (.str "not")) (aCons (aCall A [] (aCons (aVar 0) (aCons (aVar 1) (aCons (aOp wSub (aVar 2) (aC (.int 1))) (aNil))))) (aNil))))) (aNext))
  (aSeq (aAsg (aCall A_l_pick [] (aCons (aVar 0) (aCons (aCall A_l_signs [] aNil) (aNil)))) (gmN 4))
  (aSeq (aAsg (aCall A [] (aCons (aVar 0) (aCons (aVar 1) (aCons (aOp wSub (aVar 2) (aC (.int 1))) (aNil))))) (gmN 5))
  (aRet (aTup (aCons (aC (.str "op")) (aCons (aVar 4) (aCons (aVar 5) (aCons (aCall A [] (aCons (aVar 0) (aCons (aVar 1) (aCons (aOp wSub (aVar 2) (aC (.int 1))) (aNil))))) (aNil)))))))))))
theorem len_l_expr (n : Nat) : ∀ ds P, A_l_expr n ds P → ds.length = 3 := by rintro ds P ⟨xs, d, rfl, _⟩; rfl
theorem zero_l_expr : ∀ ds P, ¬ A_l_expr 0 ds P := by
  rintro ds P ⟨xs, d, _, h1, h2, _⟩
  omega
theorem A_expr_go {n d : Nat} {xs : List D} {P : D → Prop} (h1 : 1 ≤ d) (h2 : d ≤ n) (h3 : xs ≠ []) (h4 : xs.length < 1000000) (h5 : ∀ x ∈ xs, nameM x = true) (hP : ∀ t, fitsM d t = true → P t) : A_l_expr n [.hdl 0, .lst xs, .int (d : Nat)] P := ⟨xs, d, rfl, h1, h2, h3, h4, h5, hP⟩
theorem okD_names {xs : List D} (h : ∀ x ∈ xs, nameM x = true) : okD (.lst xs) = true := okD_of (k := 1) (okN_lst fun d hd => by
  obtain ⟨z, rfl, _, ok⟩ := name_str (h d hd)
  exact okN_str ok) (by decide)
theorem eqD_emp {xs : List D} (h : xs ≠ []) : eqD (.lst xs) (.lst []) = false := by
  cases xs with
  | nil => exact absurd rfl h
  | cons x xs => rfl
theorem pure_l_expr (n : Nat) : ∀ ds P, A_l_expr (n + 1) ds P → a_l_expr (A_l_expr n) { nx := fun _ _ => P .non, rt := fun d _ => P d } (startG 6 ds) [] := by
  rintro ds P ⟨xs, d, rfl, hd, hdn, hne, hlen, hxs, hP⟩
  have hok := okD_names hxs
  have hok0 : okD (.lst []) = true := by decide
  have hemp := eqD_emp hne
  have dec : d = (d - 1) + 1 := by omega
  simp only [a_l_expr, aSeq, aAsg, aCall, aCons, aVar, aC, aNil, gmN, startG_3, List.getElem?_cons_zero, List.append_nil, List.replicate, List.set_cons_succ, List.set_cons_zero]
  refine A_pull_go (by omega) (by omega) fun k k0 k1 => ?_
  have num : A_l_constant [.hdl 0] fun x => P (.tup [.str "num", x]) := ⟨rfl, fun k h0 h1 => hP _ (by rw [dec]; simp [fitsM, rngM, h0, h1])⟩
  have leaf : (if decide (k.fmod 2 = 0) = true then (if (true : Bool) = true then A_l_pick [.hdl 0, .lst xs] (fun x => P (.tup [.str "name", x])) else A_l_constant [.hdl 0] fun x => P (.tup [.str "num", x])) else A_l_constant [.hdl 0] fun x => P (.tup [.str "num", x])) := by
    by_cases he : k.fmod 2 = 0
    · simp only [he, decide_true, if_true]
      exact A_pick_go hne hlen fun x hx => hP _ (by
        have := hxs x hx
        rw [dec]
        have e : (ownM x || sharedM x) = true := this
        simpa [fitsM] using e)
    · simp only [he, decide_false, Bool.false_eq_true, if_false]
      exact num
  by_cases h1 : (d : Int) < 2
  · simp [h1, wNe, hok, hok0, hemp]
    simpa using leaf
  · have hsub : (d : Int) - 1 = ((d - 1 : Nat) : Int) := by omega
    by_cases h2 : k < 3
    · simp [h1, h2, wNe, hok, hok0, hemp]
      simpa using leaf
    · by_cases h3 : k = 3
      · simp [h1, h3, hsub]
        refine A_expr_go (by omega) (by omega) hne hlen hxs fun t ht => hP _ ?_
        rw [dec]
        simpa [fitsM] using ht
      · simp [h1, h2, h3, hsub]
        refine A_pick_go (by simp [c_SIGNS]) (by simp [c_SIGNS]) fun s hs => ?_
        obtain ⟨s, hsm, rfl⟩ := List.mem_map.mp hs
        refine A_expr_go (by omega) (by omega) hne hlen hxs fun t ht => ?_
        refine A_expr_go (by omega) (by omega) hne hlen hxs fun u hu => hP _ ?_
        rw [dec]
        have : inS s sgS = true := inS_mem.mpr hsm
        simp [fitsM, sgM, this, ht, hu]
/-- a world: the names, the procedures with their numbers of params -/
structure WOk (ns hs : List D) : Prop where
  ne : ns ≠ []
  len : ns.length < 1000000
  nm : ∀ x ∈ ns, nameM x = true
  hne : hs ≠ []
  hlen : hs.length < 1000000
  hd : ∀ h ∈ hs, ∃ (f : Str) (m : Nat), h = .tup [.str f, .int m] ∧ fnm f ∧ m ≤ 3
def A_l_calls (ds : List D) (P : D → Prop) : Prop := ∃ (ns hs : List D) (dr : Int), ds = [.hdl 0, .tup [.lst ns, .lst hs, .int dr]] ∧ WOk ns hs ∧
  ∀ t f xs v, tgM t → (D.tup [.str f, .int (xs.length : Nat)]) ∈ hs → fnm f → xs.length ≤ 3 → (∀ x ∈ xs, exM x) → wtM v → P (.tup [.str "call", t, .str f, .tup xs, v])
/-- slots: 0 _law_bag_here, 1 _law_world, 2 _law_name, 3 _law_many, 4 _law_args, 5 _law_weight_here, 6 _law_k -/
def a_l_calls : ATS :=
  aSeq (aAsg (aCall A_l_pick [] (aCons (aVar 0) (aCons (aOp wIx (aVar 1) (aC (.int 1))) (aNil)))) (gmT 2 (gmCons (gmN 2) (gmCons (gmN 3) (gmNil)))))
  (aSeq (aAsg (aCB wTuple (aCons (aLc (aRng1 (aCons (aVar 3) (aNil))) (gmN 6) (aYes) (aCall (A_l_expr 4) [] (aCons (aVar 0) (aCons (aOp wIx (aVar 1) (aC (.int 0))) (aCons (aC (.int 2)) (aNil))))) [6]) (aNil))) (gmN 4))
  (aSeq (aAsg (aIf (aB (aOp wEq (aOp wIx (aVar 1) (aC (.int 2))) (aC (.int 0)))) (aCall A_l_small_weight [] (aCons (aVar 0) (aNil))) (aCall A_l_weight [] (aCons (aVar 0) (aNil)))) (gmN 5))
  (aRet (aTup (aCons (aC (.str "call")) (aCons (aCall A_l_pick [] (aCons (aVar 0) (aCons (aOp wIx (aVar 1) (aC (.int 0))) (aNil)))) (aCons (aVar 2) (aCons (aVar 4) (aCons (aVar 5) (aNil))))))))))
theorem len_l_calls : ∀ ds P, A_l_calls ds P → ds.length = 2 := by rintro ds P ⟨ns, hs, dr, rfl, _⟩; rfl
theorem ex_of {n : Nat} {x : D} (h : fitsM n x = true) (hn : n ≤ 6) : exM x := ⟨fits_le h hn, fits_tyd h⟩
theorem tg_of {x : D} (h : nameM x = true) : tgM x := ⟨h, name_tyd h⟩
theorem pure_l_calls : ∀ ds P, A_l_calls ds P → a_l_calls { nx := fun _ _ => P .non, rt := fun d _ => P d } (startG 7 ds) [] := by
  rintro ds P ⟨ns, hs, dr, rfl, hw, hP⟩
  simp [a_l_calls, wIx]
  refine A_pick_go hw.hne hw.hlen fun h hh => ?_
  obtain ⟨f, m, rfl, hf, hm⟩ := hw.hd h hh
  simp [aLc, aRng1, wIx]
  refine ⟨by omega, by omega, goA_all (fun _ y => exM y) (fun d _ acc kk hk => ?_) fun ys hl hy => ?_⟩
  · simp [lcB, wipeG, wIx]
    exact A_expr_go (d := 2) (by omega) (by omega) hw.ne hw.len hw.nm fun t ht => hk _ (ex_of ht (by omega))
  · have hy' : ∀ y ∈ ys, exM y := fun y hm => by
      obtain ⟨_, _, h⟩ := hy y hm
      exact h
    have hl' : ys.length = m := by simpa using hl
    have fin : ∀ v, wtM v → A_l_pick [.hdl 0, .lst ns] fun t => P (.tup [.str "call", t, .str f, .tup ys, v]) := fun v hv => A_pick_go hw.ne hw.len fun t ht => hP t f ys v (tg_of (hw.nm t ht)) (by rw [hl']; exact hh) hf (by omega) hy' hv
    simp [wIx]
    by_cases h0 : dr = 0
    · simp [h0]
      exact A_small_weight_go fun v hv => by simpa [wIx] using fin v hv
    · simp [h0]
      exact A_weight_go fun v hv => by simpa [wIx] using fin v hv
end Bd
namespace Bd
open PySem L2
/-! ### drawn statements and blocks -/
theorem look_cset {c : Cs} {p : Addr} {d d0 : D} (h : c.lookup p = some d0) : (cset c p d).lookup p = some d := by
  induction c with
  | nil => cases h
  | cons q c ih =>
    obtain ⟨a, e⟩ := q
    by_cases z : a = p
    · subst z
      simp [cset]
    · have hb : (p == a) = false := by simp; exact fun y => z y.symm
      rw [List.lookup_cons, hb] at h
      simp only [cset, if_neg z, List.lookup_cons, hb]
      exact ih h
theorem cset_cset {c : Cs} {p : Addr} {d e : D} : cset (cset c p d) p e = cset c p e := by
  induction c with
  | nil => rfl
  | cons q c ih =>
    obtain ⟨a, x⟩ := q
    by_cases z : a = p
    · subst z; simp [cset]
    · simp only [cset, if_neg z, ih]
theorem cset_self {c : Cs} {p : Addr} {d : D} (h : c.lookup p = some d) : cset c p d = c := by
  induction c with
  | nil => rfl
  | cons q c ih =>
    obtain ⟨a, x⟩ := q
    by_cases z : a = p
    · subst z
      simp at h
      simp [cset, h]
    · have hb : (p == a) = false := by simp; exact fun y => z y.symm
      rw [List.lookup_cons, hb] at h
      simp only [cset, if_neg z, ih h]
theorem look_other {c : Cs} {p q : Addr} {x : D} (h : q ≠ p) : List.lookup p ((q, x) :: c) = c.lookup p := by
  have hb : (p == q) = false := by simp; exact fun y => h y.symm
  rw [List.lookup_cons, hb]
theorem cset_other {c : Cs} {p q : Addr} {x d : D} (h : q ≠ p) : cset ((q, x) :: c) p d = (q, x) :: cset c p d := by simp [cset, h]
theorem cset_here {c : Cs} {q : Addr} {x d : D} : cset ((q, x) :: c) q d = (q, d) :: c := by simp [cset]
theorem cdel_here {c : Cs} {q : Addr} {x : D} : cdel ((q, x) :: c) q = c := by simp [cdel]
theorem look_here {c : Cs} {q : Addr} {x : D} : List.lookup q ((q, x) :: c) = some x := by simp
theorem ne_of_look {c : Cs} {p q : Addr} {d : D} (h : c.lookup p = some d) (hq : c.lookup q = none) : q ≠ p := fun e => by rw [e, h] at hq; cases hq
def roomD (l s : Nat) : D := .lst [.int (l : Nat), .int (s : Nat)]
def worldD (ns hs : List D) (dr : Int) : D := .tup [.lst ns, .lst hs, .int dr]
def A_l_line (n : Nat) (ds : List D) (c : Cs) (P : D → Cs → Prop) : Prop := ∃ (ns hs : List D) (dr : Int) (p : Addr) (dp : Nat) (w : Bool) (l s : Nat), ds = [.hdl 0, worldD ns hs dr, .adr p, .int dp, .bl w] ∧ WOk ns hs ∧ c.lookup p = some (roomD l s) ∧ 1 ≤ l ∧ l ≤ 1000 ∧ 1 ≤ dp ∧ dp ≤ 5 ∧ dp + n = 6 ∧
  ∀ v l' s', l' < l → s' ≤ s → St n w (l - l') (s - s') v → (∀ q ∈ callsD v, q ∈ hs) → P v (cset c p (roomD l' s'))
def A_l_block (n : Nat) (ds : List D) (c : Cs) (P : D → Cs → Prop) : Prop := ∃ (ns hs : List D) (dr : Int) (p : Addr) (dp : Nat) (w : Bool) (l s : Nat), ds = [.hdl 0, worldD ns hs dr, .adr p, .int dp, .bl w] ∧ WOk ns hs ∧ c.lookup p = some (roomD l s) ∧ 1 ≤ l ∧ l ≤ 1000 ∧ 1 ≤ dp ∧ dp ≤ 5 ∧ dp + n = 6 ∧
  ∀ b l' s', l' < l → s' ≤ s → Bk n w (l - l') (s - s') b → (∀ q ∈ callsA b, q ∈ hs) → P (.tup b) (cset c p (roomD l' s'))
/-- slots: 0 _law_bag_here, 1 _law_world, 2 _law_room, 3 _law_depth, 4 _law_in_while, 5 _law_way, 6 _law_test, 7 _law_first, 8 _law_other -/
def a_l_line (A : List D → Cs → (D → Cs → Prop) → Prop) : ATS :=
  aSeq (aAsg (aOp wSub (aIxC (aVar 2) (aC (.int 0))) (aC (.int 1))) (gmSub (aVar 2) (aC (.int 0))))
  (aSeq (aAsg (aCall A_l_pull [] (aCons (aVar 0) (aCons (aC (.int 10)) (aNil)))) (gmN 5))
  (aSeq (aIfS (aAnd (aB (aOp wLt (aVar 5) (aC (.int 3)))) (aB (aOp wGt (aIxC (aVar 2) (aC (.int 1))) (aC (.int 0))))) (aSeq (aAsg (aOp wSub (aIxC (aVar 2) (aC (.int 1))) (aC (.int 1))) (gmSub (aVar 2) (aC (.int 1))))
  (aRet (aCall A_l_calls [] (aCons (aVar 0) (aCons (aVar 1) (aNil)))))) (aNext))
  (aSeq (aIfS (aAnd (aB (aOp wEq (aVar 5) (aC (.int 3)))) (aAnd (aB (aOp wGt (aIxC (aVar 2) (aC (.int 0))) (aC (.int 0)))) (aB (aOp wLt (aVar 3) (aC (.int 5)))))) (aSeq (aAsg (aCall (A_l_expr 4) [] (aCons (aVar 0) (aCons (aOp wIx (aVar 1) (aC (.int 0))) (aCons (aC (.int 3)) (aNil))))) (gmN 6))
  (aSeq (aAsg (aCallS A [] (aCons (aVar 0) (aCons (aVar 1) (aCons (aVar 2) (aCons (aOp wAdd (aVar 3) (aC (.int 1))) (aCons (aVar 4) (aNil))))))) (gmN 7))
  (aSeq (aAsg (aTup (aNil)) (gmN 8))
  (aSeq (aIfS (aAnd (aB (aOp wGt (aIxC (aVar 2) (aC (.int 0))) (aC (.int 0)))) (aB (aOp wEq (aCall A_l_pull [] (aCons (aVar 0) (aCons (aC (.int 2)) (aNil)))) (aC (.int 0))))) (aAsg (aCallS A [] (aCons (aVar 0) (aCons (aVar 1) (aCons (aVar 2) (aCons (aOp wAdd (aVar 3) (aC (.int 1))) (aCons (aVar 4) (aNil))))))) (gmN 8)) (aNext))
  (aRet (aTup (aCons (aC (.str "if")) (aCons (aVar 6) (aCons (aVar 7) (aCons (aVar 8) (aNil))))))))))) (aNext))
  (aSeq (aIfS (aAnd (aB (aOp wEq (aVar 5) (aC (.int 4)))) (aAnd (aB (aOp wGt (aIxC (aVar 2) (aC (.int 0))) (aC (.int 0)))) (aB (aOp wLt (aVar 3) (aC (.int 5)))))) (aSeq (aAsg (aCall (A_l_expr 4) [] (aCons (aVar 0) (aCons (aOp wIx (aVar 1) (aC (.int 0))) (aCons (aC (.int 3)) (aNil))))) (gmN 6))
  (aRet (aTup (aCons (aC (.str "while")) (aCons (aVar 6) (aCons (aCallS A [] (aCons (aVar 0) (aCons (aVar 1) (aCons (aVar 2) (aCons (aOp wAdd (aVar 3) (aC (.int 1))) (aCons (aC (.bl true)) (aNil))))))) (aNil))))))) (aNext))
  (aSeq (aIfS (aAnd (aB (aOp wEq (aVar 5) (aC (.int 5)))) (aB (aVar 4))) (aRet (aTup (aCons (aC (.str "break")) (aNil)))) (aNext))
  (aSeq (aIfS (aB (aOp wEq (aVar 5) (aC (.int 6)))) (aRet (aTup (aCons (aC (.str "print")) (aCons (aCall (A_l_expr 4) [] (aCons (aVar 0) (aCons (aOp wIx (aVar 1) (aC (.int 0))) (aCons (aC (.int 3)) (aNil))))) (aNil))))) (aNext))
  (aSeq (aIfS (aAnd (aB (aOp wEq (aVar 5) (aC (.int 7)))) (aB (aOp wEq (aCall A_l_pull [] (aCons (aVar 0) (aCons (aC (.int 3)) (aNil)))) (aC (.int 0))))) (aRet (aTup (aCons (aC (.str "return")) (aCons (aCall (A_l_expr 4) [] (aCons (aVar 0) (aCons (aOp wIx (aVar 1) (aC (.int 0))) (aCons (aC (.int 3)) (aNil))))) (aNil))))) (aNext))
  (aRet (aTup (aCons (aC (.str "set")) (aCons (aCall A_l_pick [] (aCons (aVar 0) (aCons (aOp wIx (aVar 1) (aC (.int 0))) (aNil)))) (aCons (aCall (A_l_expr 4) [] (aCons (aVar 0) (aCons (aOp wIx (aVar 1) (aC (.int 0))) (aCons (aC (.int 3)) (aNil))))) (aNil)))))))))))))
/-- slots: 0 _law_bag_here, 1 _law_world, 2 _law_room, 3 _law_depth, 4 _law_in_while, 5 _law_found, 6 _law_k -/
def a_l_block (A : List D → Cs → (D → Cs → Prop) → Prop) : ATS :=
  aSeq (aAsg (aNew (aNil)) (gmN 5))
  (aSeq (aFor (aRng1 (aCons (aOp wAdd (aC (.int 1)) (aCall A_l_pull [] (aCons (aVar 0) (aCons (aC (.int 4)) (aNil))))) (aNil))) (gmN 6) (aIfS (aB (aOp wGt (aIxC (aVar 2) (aC (.int 0))) (aC (.int 0)))) (aDrop (aApp (aVar 5) (aCallS A [] (aCons (aVar 0) (aCons (aVar 1) (aCons (aVar 2) (aCons (aVar 3) (aCons (aVar 4) (aNil))))))))) (aNext)))
  (aFrz 5 (aRet (aCB wTuple (aCons (aVar 5) (aNil))))))
theorem len_l_line (n : Nat) : ∀ ds c P, A_l_line n ds c P → ds.length = 5 := by rintro ds c P ⟨ns, hs, dr, p, dp, w, l, s, rfl, _⟩; rfl
theorem len_l_block (n : Nat) : ∀ ds c P, A_l_block n ds c P → ds.length = 5 := by rintro ds c P ⟨ns, hs, dr, p, dp, w, l, s, rfl, _⟩; rfl
theorem calls_call {t w : D} {f : Str} {xs : List D} (ht : tgM t) (hx : ∀ x ∈ xs, exM x) (hw : wtM w) : callsD (.tup [.str "call", t, .str f, .tup xs, w]) = [.tup [.str f, .int (xs.length : Nat)]] := by
  obtain ⟨z, rfl, _⟩ := tg_str ht
  obtain ⟨a, b, rfl, _⟩ := hw
  have : callsA xs = [] := by
    apply List.eq_nil_iff_forall_not_mem.mpr
    intro q hq
    obtain ⟨d, h1, h2⟩ := callsA_mem.mp hq
    rw [calls_fits (hx d h1).1] at h2
    cases h2
  have h6 : callOf xs = [] := callOf_str fun z hz => by
    have := hx _ hz
    exact absurd this.1 (by simp [fitsM])
  simp [callsD, callsA, this, h6]
theorem calls_tg {t : D} (ht : tgM t) : callsD t = [] := by
  obtain ⟨z, rfl, _⟩ := tg_str ht
  rfl
theorem callOf_blk {xs : List D} {n : Nat} {w : Bool} {l c : Nat} (h : Bk n w l c xs) : callOf xs = [] := callOf_str fun z hz => by
  obtain ⟨_, _, _, h⟩ := h.mem _ hz
  cases h
theorem callsD_blk {xs : List D} {n : Nat} {w : Bool} {l c : Nat} (h : Bk n w l c xs) : callsD (.tup xs) = callsA xs := by
  rw [callsD, callOf_blk h, List.nil_append]
theorem pure_l_line (n : Nat) : ∀ ds c P, A_l_line (n + 1) ds c P → a_l_line (A_l_block n) { nx := fun _ c' => ∃ n, P .non (c'.drop n), rt := fun d c' => ∃ n, P d (c'.drop n) } (startG 9 ds) c := by
  rintro ds c P ⟨ns, hs, dr, p, dp, w, l, s, rfl, hw, hp, hl, hl2, hd, hd5, hdn, hP⟩
  have hP : ∀ v l' s', l' < l → s' ≤ s → St (n + 1) w (l - l') (s - s') v → (∀ q ∈ callsD v, q ∈ hs) → ∃ n, P v ((cset c p (roomD l' s')).drop n) := fun v l' s' a b d e => ⟨0, hP v l' s' a b d e⟩
  simp only [roomD] at hp hP
  have e1 : (l : Int) - 1 = ((l - 1 : Nat) : Int) := by omega
  have lk1 := look_cset (d := .lst [.int ((l - 1 : Nat) : Int), .int (s : Nat)]) hp
  have dp1 : (dp : Int) + 1 = ((dp + 1 : Nat) : Int) := by omega
  have ix0 : ixN (0 + 1 + 1) 0 = some 0 := by decide
  have ix1 : ixN (0 + 1 + 1) 1 = some 1 := by decide
  simp only [a_l_line, aSeq, aAsg, aOp, aIxC, aVar, aC, startG_5, List.replicate, List.getElem?_cons_zero, List.getElem?_cons_succ, hp, at0, at1, wSub, wInt0, gmSub, List.length_cons, List.length_nil, ix0, List.set_cons_zero, List.set_cons_succ, e1,
    aCall, aCons, aNil, List.append_nil]
  refine A_pull_go (by omega) (by omega) fun k k0 k1 => ?_
  have hlt : l - 1 < l := by omega
  have hll : l - (l - 1) = 1 := by omega
  have leaf : ∀ v, St (n + 1) w 1 0 v → callsD v = [] → ∃ n, P v ((cset c p (.lst [.int ((l - 1 : Nat) : Int), .int (s : Nat)])).drop n) := fun v h1 h2 => hP v (l - 1) s hlt (Nat.le_refl _) (by rw [hll, Nat.sub_self]; exact h1) (by rw [h2]; simp)
  have ex3 : ∀ {Q : D → Prop}, (∀ t, exM t → callsD t = [] → Q t) → A_l_expr 4 [.hdl 0, .lst ns, .int 3] Q := fun hQ => A_expr_go (d := 3) (by omega) (by omega) hw.ne hw.len hw.nm fun t ht => hQ t (ex_of ht (by omega)) (calls_fits ht)
  -- the end: a set
  have set_ : A_l_pick [.hdl 0, .lst ns] (fun t => A_l_expr 4 [.hdl 0, .lst ns, .int 3] fun x => ∃ n, P (.tup [.str "set", t, x]) ((cset c p (.lst [.int ((l - 1 : Nat) : Int), .int (s : Nat)])).drop n)) :=
    A_pick_go hw.ne hw.len fun t ht => ex3 fun x hx cx => leaf _ (.set (tg_of (hw.nm t ht)) hx) (by simp [callsD, callsA, calls_tg (tg_of (hw.nm t ht)), cx])
  have ret_ : A_l_expr 4 [.hdl 0, .lst ns, .int 3] fun x => ∃ n, P (.tup [.str "return", x]) ((cset c p (.lst [.int ((l - 1 : Nat) : Int), .int (s : Nat)])).drop n) := ex3 fun x hx cx => leaf _ (.ret hx) (by simp [callsD, callsA, cx])
  have prt_ : A_l_expr 4 [.hdl 0, .lst ns, .int 3] fun x => ∃ n, P (.tup [.str "print", x]) ((cset c p (.lst [.int ((l - 1 : Nat) : Int), .int (s : Nat)])).drop n) := ex3 fun x hx cx => leaf _ (.prt hx) (by simp [callsD, callsA, cx])
  have len2 : ([D.int ((l - 1 : Nat) : Int), D.int (s : Nat)] : List D).length = 2 := rfl
  simp only [worldD, aSeq, aAsg, aCall, aCons, aNil, gmN, aIfS, aAnd, aB, aOp, aIxC, aVar, aC, aRet, aNext, gmSub, List.set_cons_zero, List.set_cons_succ, List.getElem?_cons_zero, List.getElem?_cons_succ, lk1, at0, at1, wGt, wLt, wInt0, wEq_ii, List.append_nil, aTup, wIx, List.length_cons, List.length_nil]
  by_cases c1 : k < 3 ∧ 0 < s
  · -- a call
    have hs1 : (0 : Int) < (s : Nat) := by omega
    have e2 : (s : Int) - 1 = ((s - 1 : Nat) : Int) := by omega
    simp only [c1.1, hs1, decide_true, if_true, lk1, at1, wSub, wInt0, ix1, e2, List.set_cons_zero, List.set_cons_succ, cset_cset, look_cset hp]
    refine ⟨ns, hs, dr, rfl, hw, fun t f xs v ht hm hf hx hxs hv => ?_⟩
    exact hP _ (l - 1) (s - 1) hlt (by omega) (by rw [hll, show s - (s - 1) = 1 by omega]; exact .call ht hf hx hxs hv) (by rw [calls_call ht hxs hv]; simpa using hm)
  · have skip : (if decide (k < 3) = true then (decide ((0 : Int) < (s : Nat))) else false) = false := by
      by_cases q : k < 3
      · have : ¬ 0 < s := fun h => c1 ⟨q, h⟩
        simp [q]; omega
      · simp [q]
    have step : ∀ {A B : Prop}, B → (if decide (k < 3) = true then (if decide ((0 : Int) < (s : Nat)) = true then A else B) else (if false = true then A else B)) := by
      intro A B hB
      by_cases q : k < 3
      · have : ¬ (0 : Int) < (s : Nat) := by
          intro h
          exact c1 ⟨q, by omega⟩
        simp only [q, this, decide_true, decide_false, if_true, Bool.false_eq_true, if_false]
        exact hB
      · simp only [q, decide_false, Bool.false_eq_true, if_false]
        exact hB
    refine step ?_
    by_cases c3 : k = 3 ∧ 1 < l ∧ dp < 5
    · -- an if
      obtain ⟨rfl, c3, c4⟩ := c3
      have g1 : (0 : Int) < ((l - 1 : Nat) : Int) := by omega
      have g2 : (dp : Int) < 5 := by omega
      simp only [decide_true, if_true, g1, g2]
      refine ex3 fun x hx cx => ?_
      simp only [aCallS, aCons, aNil, aVar, aOp, aC, wAdd, dp1, List.set_cons_zero, List.set_cons_succ, List.getElem?_cons_zero, List.getElem?_cons_succ, List.append_nil]
      refine ⟨ns, hs, dr, p, dp + 1, w, l - 1, s, rfl, hw, lk1, by omega, by omega, by omega, by omega, by omega, fun b l1 s1 h1 h2 hb cb => ?_⟩
      rw [cset_cset]
      have lk2 := look_cset (d := roomD l1 s1) hp
      simp only [roomD] at lk2 ⊢
      simp only [List.set_cons_zero, List.set_cons_succ, List.getElem?_cons_zero, List.getElem?_cons_succ, lk2, at0, aCallS, aCons, aNil, aVar, aOp, aC, wAdd, dp1, List.append_nil]
      refine ⟨by simp, ?_⟩
      have one : ∃ n, P (.tup [.str "if", x, .tup b, .tup []]) ((cset c p (.lst [.int (l1 : Nat), .int (s1 : Nat)])).drop n) := hP _ l1 s1 (by omega) h2 (by
          have := St.ite (n := n) (w := w) hx hb
          rwa [show l - 1 - l1 + 1 = l - l1 by omega] at this) (by
          simpa [callsD, callsA, cx, callOf_blk hb] using cb)
      by_cases c5 : 0 < l1
      · have g3 : (0 : Int) < (l1 : Nat) := by omega
        simp only [g3, decide_true, if_true]
        refine A_pull_go (by omega) (by omega) fun j j0 j1 => ?_
        simp only [wEq_ii]
        by_cases c6 : j = 0
        · simp only [c6, decide_true, if_true]
          refine ⟨ns, hs, dr, p, dp + 1, w, l1, s1, rfl, hw, lk2, by omega, by omega, by omega, by omega, by omega, fun b2 l2 s2 h3 h4 hb2 cb2 => ?_⟩
          rw [cset_cset]
          simp only [List.set_cons_zero, List.set_cons_succ, List.getElem?_cons_zero, List.getElem?_cons_succ]
          refine ⟨by simp, ?_⟩
          refine hP _ l2 s2 (by omega) (by omega) (by
            have := St.ite2 (n := n) (w := w) hx hb hb2
            rwa [show l - 1 - l1 + (l1 - l2) + 1 = l - l2 by omega, show s - s1 + (s1 - s2) = s - s2 by omega] at this) ?_
          simp only [callsD, callsA, cx, callOf_blk hb, callOf_blk hb2, callOf_0, callOf_1, callOf_2, callOf_3, callOf_4, List.nil_append, List.append_nil]
          intro q hq
          rcases List.mem_append.mp hq with m | m
          · exact cb q m
          · exact cb2 q m
        · simp only [c6, decide_false, Bool.false_eq_true, if_false, List.set_cons_zero, List.set_cons_succ, List.getElem?_cons_zero, List.getElem?_cons_succ]
          exact ⟨by simp, one⟩
      · have g3 : ¬ (0 : Int) < (l1 : Nat) := by omega
        simp only [g3, decide_false, Bool.false_eq_true, if_false, List.set_cons_zero, List.set_cons_succ, List.getElem?_cons_zero, List.getElem?_cons_succ]
        exact ⟨by simp, one⟩
    · have step3 : ∀ {A B : Prop} {n : Int}, (n = 3 ∨ n = 4) → (¬ (k = n ∧ 1 < l ∧ dp < 5)) → B → (if decide (k = n) = true then (if decide ((0 : Int) < ((l - 1 : Nat) : Int)) = true then (if decide ((dp : Int) < 5) = true then A else B) else (if false = true then A else B)) else (if false = true then A else B)) := by
        intro A B n _ hn hB
        by_cases q : k = n
        · by_cases q2 : (0 : Int) < ((l - 1 : Nat) : Int)
          · have : ¬ (dp : Int) < 5 := fun h => hn ⟨q, by omega, by omega⟩
            simp only [q, q2, this, decide_true, decide_false, if_true, Bool.false_eq_true, if_false]
            exact hB
          · simp only [q, q2, decide_true, decide_false, if_true, Bool.false_eq_true, if_false]
            exact hB
        · simp only [q, decide_false, Bool.false_eq_true, if_false]
          exact hB
      refine step3 (.inl rfl) c3 ?_
      by_cases c4 : k = 4 ∧ 1 < l ∧ dp < 5
      · -- a while
        obtain ⟨rfl, c4, c5⟩ := c4
        have g1 : (0 : Int) < ((l - 1 : Nat) : Int) := by omega
        have g2 : (dp : Int) < 5 := by omega
        simp only [decide_true, if_true, g1, g2]
        refine ex3 fun x hx cx => ?_
        simp only [aCallS, aCons, aNil, aVar, aOp, aC, wAdd, dp1, List.set_cons_zero, List.set_cons_succ, List.getElem?_cons_zero, List.getElem?_cons_succ, List.append_nil]
        refine ⟨ns, hs, dr, p, dp + 1, true, l - 1, s, rfl, hw, lk1, by omega, by omega, by omega, by omega, by omega, fun b l1 s1 h1 h2 hb cb => ?_⟩
        rw [cset_cset]
        refine ⟨by simp, ?_⟩
        refine hP _ l1 s1 (by omega) h2 (by
          have := St.whl (n := n) (w := w) hx hb
          rwa [show l - 1 - l1 + 1 = l - l1 by omega] at this) ?_
        simpa [callsD, callsA, cx, callOf_blk hb] using cb
      · refine step3 (.inr rfl) c4 ?_
        have hd0 : ∀ {Q : Prop}, Q → Q := fun h => h
        by_cases c5 : k = 5 ∧ w = true
        · obtain ⟨rfl, rfl⟩ := c5
          simp only [decide_true, if_true]
          exact ⟨by simp, leaf _ .brk (by simp [callsD, callsA])⟩
        · have step5 : ∀ {A B : Prop}, B → (if decide (k = 5) = true then (if w = true then A else B) else (if false = true then A else B)) := by
            intro A B hB
            by_cases q : k = 5
            · have : ¬ w = true := fun h => c5 ⟨q, h⟩
              simp only [q, this, decide_true, if_true, Bool.false_eq_true, if_false]
              exact hB
            · simp only [q, decide_false, Bool.false_eq_true, if_false]
              exact hB
          refine step5 ?_
          by_cases c6 : k = 6
          · simp only [c6, decide_true, if_true]
            refine ex3 fun x hx cx => ⟨by simp, leaf _ (.prt hx) (by simp [callsD, callsA, cx])⟩
          · simp only [c6, decide_false, Bool.false_eq_true, if_false]
            by_cases c7 : k = 7
            · simp only [c7, decide_true, if_true]
              refine A_pull_go (by omega) (by omega) fun j j0 j1 => ?_
              simp only [wEq_ii]
              by_cases c8 : j = 0
              · simp only [c8, decide_true, if_true]
                exact ex3 fun x hx cx => ⟨by simp, leaf _ (.ret hx) (by simp [callsD, callsA, cx])⟩
              · simp only [c8, decide_false, Bool.false_eq_true, if_false]
                exact A_pick_go hw.ne hw.len fun t ht => ex3 fun x hx cx => ⟨by simp, leaf _ (.set (tg_of (hw.nm t ht)) hx) (by simp [callsD, callsA, calls_tg (tg_of (hw.nm t ht)), cx])⟩
            · simp only [c7, decide_false, Bool.false_eq_true, if_false]
              exact A_pick_go hw.ne hw.len fun t ht => ex3 fun x hx cx => ⟨by simp, leaf _ (.set (tg_of (hw.nm t ht)) hx) (by simp [callsD, callsA, calls_tg (tg_of (hw.nm t ht)), cx])⟩
theorem Bk.snoc {n : Nat} {w : Bool} {s : D} {l2 c2 : Nat} (hs : St n w l2 c2 s) : ∀ {b : List D} {l c : Nat}, Bk n w l c b → Bk n w (l + l2) (c + c2) (b ++ [s])
  | _, _, _, .one h => .cons h (.one hs)
  | _, _, _, .cons (l := l) (c := c) (l2 := l3) (c2 := c3) h t => by
    have := Bk.snoc hs t
    have e := Bk.cons h this
    rw [Nat.add_assoc, Nat.add_assoc]
    exact e
theorem callsA_app {a b : List D} : callsA (a ++ b) = callsA a ++ callsA b := by
  induction a with
  | nil => rfl
  | cons x a ih => rw [List.cons_append, callsA, callsA, ih, List.append_assoc]
/-- some statements drawn so far -/
def blkSt (n : Nat) (w : Bool) (hs : List D) (l s : Nat) (b : List D) (l' s' : Nat) : Prop := (b = [] ∧ l' = l ∧ s' = s) ∨ (l' < l ∧ s' ≤ s ∧ Bk n w (l - l') (s - s') b ∧ ∀ q ∈ callsA b, q ∈ hs)
theorem blk_snoc {n : Nat} {w : Bool} {hs : List D} {l s : Nat} {b : List D} {l' s' l2 s2 : Nat} {v : D} (h : blkSt n w hs l s b l' s') (h1 : l2 < l') (h2 : s2 ≤ s') (hv : St n w (l' - l2) (s' - s2) v) (cv : ∀ q ∈ callsD v, q ∈ hs) : blkSt n w hs l s (b ++ [v]) l2 s2 := by
  rcases h with ⟨rfl, rfl, rfl⟩ | ⟨a1, a2, a3, a4⟩
  · exact .inr ⟨h1, h2, .one hv, by simpa [callsA] using cv⟩
  · refine .inr ⟨by omega, by omega, ?_, ?_⟩
    · have := Bk.snoc hv a3
      rwa [show l - l' + (l' - l2) = l - l2 by omega, show s - s' + (s' - s2) = s - s2 by omega] at this
    · rw [callsA_app]
      intro q hq
      rcases List.mem_append.mp hq with m | m
      · exact a4 q m
      · exact cv q (by simpa [callsA] using m)
theorem pure_l_block (n : Nat) : ∀ ds c P, A_l_block (n + 1) ds c P → a_l_block (A_l_line (n + 1)) { nx := fun _ c' => ∃ n, P .non (c'.drop n), rt := fun d c' => ∃ n, P d (c'.drop n) } (startG 7 ds) c := by
  rintro ds c P ⟨ns, hs, dr, p, dp, w, l, s, rfl, hw, hp, hl, hl2, hd, hd5, hdn, hP⟩
  simp only [a_l_block, aSeq, aAsg, aNew, aNil, gmN, startG_5, List.replicate, List.set_cons_succ, List.set_cons_zero, aFor, aRng1, aCons, aOp, aC, aCall, aVar, List.getElem?_cons_zero, List.getElem?_cons_succ, List.append_nil]
  refine ⟨by simp, fun q hq => ?_⟩
  have hqp : q ≠ p := ne_of_look hp hq
  refine A_pull_go (by omega) (by omega) fun k k0 k1 => ?_
  simp only [wAdd]
  refine ⟨⟨by omega, by omega⟩, fun i Γ cs => ∃ (b : List D) (l' s' : Nat) (g6 : Option D), Γ = [some (.hdl 0), some (worldD ns hs dr), some (.adr p), some (.int dp), some (.bl w), some (.adr q), g6] ∧ cs = (q, .lst b) :: cset c p (roomD l' s') ∧ blkSt (n + 1) w hs l s b l' s' ∧ b.length ≤ i ∧ (1 ≤ i → b ≠ []), ⟨[], l, s, none, rfl, by rw [cset_self hp], .inl ⟨rfl, rfl, rfl⟩, Nat.le_refl _, by omega⟩, ?_, ?_⟩
  · rintro i d Γ cs hi ⟨b, l', s', g6, rfl, rfl, hb, hbl, hbn⟩
    have hik : i < 4 := by
      have := (List.getElem?_eq_some_iff.mp hi).1
      simp at this
      omega
    have lk : (cset c p (roomD l' s')).lookup p = some (roomD l' s') := look_cset hp
    simp only [gmN, List.set_cons_succ, List.set_cons_zero, aIfS, aB, aOp, aIxC, aVar, aC, List.getElem?_cons_zero, List.getElem?_cons_succ, look_other hqp, lk]
    simp only [roomD, at0, wGt, wInt0]
    by_cases h : 0 < l'
    · have h' : (0 : Int) < (l' : Nat) := by omega
      simp only [h', decide_true, if_true, aDrop, aApp, aVar, aCallS, aCons, aNil, List.getElem?_cons_zero, List.getElem?_cons_succ, look_here, List.append_nil]
      have hl' : l' ≤ l := by
        rcases hb with ⟨_, e, _⟩ | ⟨e, _⟩ <;> omega
      refine ⟨ns, hs, dr, p, dp, w, l', s', rfl, hw, by rw [look_other hqp]; exact lk, by omega, by omega, hd, hd5, hdn, fun v l2 s2 h1 h2 hv cv => ?_⟩
      simp only [cset_other hqp, look_here, cset_cset, cset_here]
      exact ⟨by omega, b ++ [v], l2, s2, some d, rfl, rfl, blk_snoc hb h1 h2 hv cv, by simp; omega, by simp⟩
    · have h' : ¬ (0 : Int) < (l' : Nat) := by omega
      simp only [h', decide_false, Bool.false_eq_true, if_false, aNext]
      refine ⟨b, l', s', some d, rfl, rfl, hb, by omega, fun _ => ?_⟩
      rcases hb with ⟨_, e, _⟩ | ⟨_, _, e, _⟩
      · omega
      · exact e.ne
  · rintro Γ cs ⟨b, l', s', g6, rfl, rfl, hb, hbl, hbn⟩
    simp only [aFrz, aRet, aCB, aCons, aNil, aVar, List.getElem?_cons_zero, List.getElem?_cons_succ, look_here, cdel_here, List.set_cons_succ, List.set_cons_zero, wTuple]
    refine ⟨0, ?_⟩
    have hb1 : b ≠ [] := hbn (by simp; omega)
    rcases hb with ⟨e, _⟩ | ⟨a1, a2, a3, a4⟩
    · exact absurd e hb1
    · exact hP b l' s' a1 a2 a3 a4
theorem zero_l_block : ∀ ds c P, ¬ A_l_block 0 ds c P := by
  rintro ds c P ⟨ns, hs, dr, p, dp, w, l, s, rfl, hw, hp, hl, hl2, hd, hd5, hdn, hP⟩
  omega
end Bd
namespace Bd
open PySem L2
/-! ### drawn procedures -/
def A_l_body (ds : List D) (P : D → Prop) : Prop := ∃ (ns hs : List D) (dr : Int) (L S : Nat), ds = [.hdl 0, worldD ns hs dr, .int L, .int S] ∧ WOk ns hs ∧ 1 ≤ L ∧ L ≤ 40 ∧ ∀ b l c, Bk 5 false l c b → l ≤ L → c ≤ S → (∀ q ∈ callsA b, q ∈ hs) → P (.tup b)
/-- slots: 0 _law_bag_here, 1 _law_world, 2 _law_lines, 3 _law_sites, 4 _law_room, 5 _law_found, 6 _law_k -/
def a_l_body : ATS :=
  aSeq (aPar 4 5 (aCons (aNew (aCons (aOp wAdd (aC (.int 1)) (aCall A_l_pull [] (aCons (aVar 0) (aCons (aVar 2) (aNil))))) (aCons (aVar 3) (aNil)))) (aCons (aNew (aNil)) (aNil))))
  (aSeq (aFor (aRng1 (aCons (aVar 2) (aNil))) (gmN 6) (aIfS (aB (aOp wGt (aIxC (aVar 4) (aC (.int 0))) (aC (.int 0)))) (aDrop (aApp (aVar 5) (aCallS (A_l_line 5) [] (aCons (aVar 0) (aCons (aVar 1) (aCons (aVar 4) (aCons (aC (.int 1)) (aCons (aC (.bl false)) (aNil))))))))) (aNext)))
  (aFrz 5 (aRet (aCB wTuple (aCons (aVar 5) (aNil))))))
theorem len_l_body : ∀ ds P, A_l_body ds P → ds.length = 4 := by rintro ds P ⟨ns, hs, dr, L, S, rfl, _⟩; rfl
theorem pure_l_body : ∀ ds P, A_l_body ds P → a_l_body { nx := fun _ _ => P .non, rt := fun d _ => P d } (startG 7 ds) [] := by
  rintro ds P ⟨ns, hs, dr, L, S, rfl, hw, hL, hL2, hP⟩
  simp only [a_l_body, aSeq, aPar, aCons, aNew, aNil, gmN, startG_4, List.replicate, List.set_cons_succ, List.set_cons_zero, aOp, aC, aCall, aVar, List.getElem?_cons_zero, List.getElem?_cons_succ, List.append_nil, aFor, aRng1]
  refine A_pull_go (by omega) (by omega) fun k k0 k1 => ?_
  simp only [wAdd]
  refine ⟨by simp, fun p hp => ⟨by simp, fun q hq => ?_⟩⟩
  have e0 : (1 : Int) + k = ((1 + k).toNat : Nat) := by omega
  rw [e0] at hq ⊢
  have hl1 : 1 ≤ (1 + k).toNat := by omega
  have hl2 : (1 + k).toNat ≤ L := by omega
  generalize (1 + k).toNat = l at hl1 hl2 hq ⊢
  have hpl : List.lookup p ([(p, D.lst [.int (l : Nat), .int (S : Nat)])] : Cs) = some (roomD l S) := look_here
  have hqp : q ≠ p := ne_of_look hpl hq
  refine ⟨⟨by omega, by omega⟩, fun i Γ cs => ∃ (b : List D) (l' s' : Nat) (g6 : Option D), Γ = [some (.hdl 0), some (worldD ns hs dr), some (.int L), some (.int S), some (.adr p), some (.adr q), g6] ∧ cs = [(q, .lst b), (p, roomD l' s')] ∧ blkSt 5 false hs l S b l' s' ∧ b.length ≤ i ∧ (1 ≤ i → b ≠ []), ⟨[], l, S, none, rfl, rfl, .inl ⟨rfl, rfl, rfl⟩, Nat.le_refl _, by omega⟩, ?_, ?_⟩
  · rintro i d Γ cs hi ⟨b, l', s', g6, rfl, rfl, hb, hbl, hbn⟩
    have hik : i < 40 := by
      have := (List.getElem?_eq_some_iff.mp hi).1
      simp at this
      omega
    simp only [gmN, List.set_cons_succ, List.set_cons_zero, aIfS, aB, aOp, aIxC, aVar, aC, List.getElem?_cons_zero, List.getElem?_cons_succ, look_other hqp, look_here]
    simp only [roomD, at0, wGt, wInt0]
    by_cases h : 0 < l'
    · have h' : (0 : Int) < (l' : Nat) := by omega
      simp only [h', decide_true, if_true, aDrop, aApp, aVar, aCallS, aCons, aNil, aC, List.getElem?_cons_zero, List.getElem?_cons_succ, look_here, List.append_nil]
      have hl' : l' ≤ l := by
        rcases hb with ⟨_, e, _⟩ | ⟨e, _⟩ <;> omega
      refine ⟨ns, hs, dr, p, 1, false, l', s', rfl, hw, by rw [look_other hqp]; exact look_here, by omega, by omega, by omega, by omega, by omega, fun v l2 s2 h1 h2 hv cv => ?_⟩
      simp only [cset_other hqp, look_here, cset_cset, cset_here]
      exact ⟨by omega, b ++ [v], l2, s2, some d, rfl, rfl, blk_snoc hb h1 h2 hv cv, by simp; omega, by simp⟩
    · have h' : ¬ (0 : Int) < (l' : Nat) := by omega
      simp only [h', decide_false, Bool.false_eq_true, if_false, aNext]
      refine ⟨b, l', s', some d, rfl, rfl, hb, by omega, fun _ => ?_⟩
      rcases hb with ⟨_, e, _⟩ | ⟨_, _, e, _⟩
      · omega
      · exact e.ne
  · rintro Γ cs ⟨b, l', s', g6, rfl, rfl, hb, hbl, hbn⟩
    simp only [aFrz, aRet, aCB, aCons, aNil, aVar, List.getElem?_cons_zero, List.getElem?_cons_succ, look_here, cdel_here, List.set_cons_succ, List.set_cons_zero, wTuple]
    have hb1 : b ≠ [] := hbn (by simp; omega)
    rcases hb with ⟨e, _⟩ | ⟨a1, a2, a3, a4⟩
    · exact absurd e hb1
    · exact hP b _ _ a3 (by omega) (by omega) a4
/-! ### programs -/
inductive All2 (Z : D → D → Prop) : List D → List D → Prop where
  | nil : All2 Z [] []
  | cons {d e : D} {ds es : List D} : Z d e → All2 Z ds es → All2 Z (d :: ds) (e :: es)
theorem goA_rel {body : D → List D → Cs → (List D → Cs → Prop) → Prop} (Z : D → D → Prop) : ∀ {ds acc : List D} {c : Cs} {P : List D → Cs → Prop}, (∀ d ∈ ds, ∀ (acc : List D) (k : List D → Cs → Prop), (∀ y, Z d y → k (acc ++ [y]) c) → body d acc c k) → (∀ ys, All2 Z ds ys → P (acc ++ ys) c) → goA body ds acc c P
  | [], acc, c, P, _, h => by
    show P acc c
    simpa using h [] .nil
  | d :: ds, acc, c, P, hb, h => by
    refine hb d (by simp) acc _ fun y hy => goA_rel Z (fun e he => hb e (by simp [he])) fun ys hz => ?_
    have := h (y :: ys) (.cons hy hz)
    simpa using this
abbrev Pr := Str × List Str × List D
structure ShapeOk (L S : Nat) (ps : List Pr) : Prop where
  ok : ∀ p ∈ ps, ∃ l c, PrOk p.1 p.2.1 p.2.2 l c ∧ l ≤ L ∧ c ≤ S
  nd : (ps.map (·.1)).Nodup
  ne : ps ≠ []
  calls : ∀ p ∈ ps, ∀ q ∈ callsA p.2.2, ∃ r ∈ ps, q = .tup [.str r.1, .int (r.2.1.length : Nat)]
def A_l_shape (ds : List D) (P : D → Prop) : Prop := ∃ (M L S : Nat) (dr : Int), ds = [.hdl 0, .int M, .int L, .int S, .int dr] ∧ 1 ≤ M ∧ M ≤ 8 ∧ 1 ≤ L ∧ L ≤ 40 ∧ S ≤ 6 ∧ ∀ ps, ShapeOk L S ps → ps.length ≤ M → P (.lst (prsD ps))
/-- slots: 0 _law_bag_here, 1 _law_most, 2 _law_lines, 3 _law_sites, 4 _law_draws, 5 _law_names, 6 _law_heads, 7 _law_found, 8 _law_name, 9 _law_many, 10 _law_own, 11 _law_great, 12 _law_shared, 13 _law_world -/
def a_l_shape : ATS :=
  aSeq (aAsg (aCall A_l_words [] (aCons (aVar 0) (aCons (aOp wAdd (aC (.int 1)) (aCall A_l_pull [] (aCons (aVar 0) (aCons (aVar 1) (aNil))))) (aCons (aC (.int 6)) (aNil))))) (gmN 5))
  (aSeq (aAsg (aLc (aItems (aVar 5)) (gmN 8) (aYes) (aTup (aCons (aVar 8) (aCons (aCall A_l_pull [] (aCons (aVar 0) (aCons (aC (.int 4)) (aNil)))) (aNil)))) [8]) (gmN 6))
  (aSeq (aAsg (aNew (aNil)) (gmN 7))
  (aSeq (aFor (aItems (aVar 6)) (gmT 2 (gmCons (gmN 8) (gmCons (gmN 9) (gmNil)))) (aSeq (aAsg (aCall A_l_words [] (aCons (aVar 0) (aCons (aOp wAdd (aVar 9) (aC (.int 1))) (aCons (aC (.int 4)) (aNil))))) (gmN 10))
  (aSeq (aAsg (aC (.str "ABCDEFGHIJKLMNOPQRSTUVWXYZ")) (gmN 11))
  (aSeq (aAsg (aLst (aCons (aOp wAdd (aOp wIx (aVar 11) (aCall A_l_pull [] (aCons (aVar 0) (aCons (aC (.int 26)) (aNil))))) (aOp wMulX (aOp wIx (aVar 11) (aCall A_l_pull [] (aCons (aVar 0) (aCons (aC (.int 26)) (aNil))))) (aCall A_l_pull [] (aCons (aVar 0) (aCons (aC (.int 2)) (aNil)))))) (aNil))) (gmN 12))
  (aSeq (aAsg (aTup (aCons (aOp wAdd (aOp wAdd (aVar 10) (aVar 10)) (aVar 12)) (aCons (aVar 6) (aCons (aVar 4) (aNil))))) (gmN 13))
  (aDrop (aApp (aVar 7) (aTup (aCons (aVar 8) (aCons (aCB wTuple (aCons (aSl (aVar 10) (aNoPart) (aPart (aVar 9))) (aNil))) (aCons (aCall A_l_body [] (aCons (aVar 0) (aCons (aVar 13) (aCons (aVar 2) (aCons (aVar 3) (aNil)))))) (aNil))))))))))))
  (aFrz 7 (aRet (aVar 7))))))
theorem len_l_shape : ∀ ds P, A_l_shape ds P → ds.length = 5 := by rintro ds P ⟨M, L, S, dr, rfl, _⟩; rfl
theorem A_words_go {k : Nat} {m : Int} {P : D → Prop} (h1 : k ≤ 20) (h2 : 1 ≤ m) (h3 : m ≤ 6) (hP : ∀ zs : List Str, zs.length = k → wordsOk m zs → P (.lst (zs.map .str))) : A_l_words [.hdl 0, .int (k : Nat), .int m] P := ⟨k, m, rfl, h1, h2, h3, hP⟩
/-- a sign of the great letters -/
theorem great_go {j : Int} (h0 : 0 ≤ j) (h1 : j < 26) : ∃ c, 65 ≤ c ∧ c ≤ 90 ∧ atI greatS.cps.toList j = some c := by
  obtain ⟨n, rfl⟩ := Int.eq_ofNat_of_zero_le h0
  have hn : n < 26 := by omega
  refine ⟨65 + n, by omega, by omega, atI_nat ?_⟩
  rw [great_codes, List.getElem?_range' hn]
  simp
theorem heads_of {zs : List Str} : ∀ {hs : List D}, All2 (fun d y => ∃ m : Nat, m ≤ 3 ∧ y = .tup [d, .int m]) (zs.map .str) hs → ∃ qs : List (Str × Nat), hs = qs.map (fun q => .tup [.str q.1, .int (q.2 : Nat)]) ∧ qs.map (·.1) = zs ∧ ∀ q ∈ qs, q.2 ≤ 3 := by
  induction zs with
  | nil => intro hs h; cases h; exact ⟨[], rfl, rfl, by simp⟩
  | cons z zs ih =>
    intro hs h
    cases h with
    | cons h1 h2 =>
      obtain ⟨m, hm, rfl⟩ := h1
      obtain ⟨qs, rfl, rfl, h3⟩ := ih h2
      exact ⟨(z, m) :: qs, rfl, rfl, by
        intro q hq
        rcases List.mem_cons.mp hq with e | hq
        · rw [e]; exact hm
        · exact h3 q hq⟩
theorem cutD_to {xs : List D} {m : Nat} : cutD xs none (some (m : Int)) = xs.take m := by
  unfold cutD
  have h1 : HT.sIx xs.length 0 none = 0 := rfl
  rw [h1, HT.sIx_nat, List.drop_zero, Nat.sub_zero]
  by_cases h : m ≤ xs.length
  · rw [Nat.min_eq_left h]
  · rw [Nat.min_eq_right (by omega), List.take_length, List.take_of_length_le (by omega)]
theorem pure_l_shape : ∀ ds P, A_l_shape ds P → a_l_shape { nx := fun _ _ => P .non, rt := fun d _ => P d } (startG 14 ds) [] := by
  rintro ds P ⟨M, L, S, dr, rfl, hM, hM2, hL, hL2, hS, hP⟩
  simp only [a_l_shape, aSeq, aAsg, aCall, aCons, aNil, aVar, aOp, aC, gmN, startG_5, List.replicate, List.getElem?_cons_zero, List.getElem?_cons_succ, List.append_nil]
  refine A_pull_go (by omega) (by omega) fun k k0 k1 => ?_
  simp only [wAdd]
  have e0 : (1 : Int) + k = ((1 + k).toNat : Nat) := by omega
  rw [e0]
  refine A_words_go (by omega) (by omega) (by omega) fun zs hzl hzs => ?_
  have hzl2 : zs.length ≤ M := by omega
  have hzl1 : 1 ≤ zs.length := by omega
  simp only [aLc, aItems, aVar, itemsD, List.set_cons_succ, List.set_cons_zero, List.getElem?_cons_zero, List.getElem?_cons_succ]
  refine ⟨by rw [List.length_map]; omega, goA_rel (fun d y => ∃ m : Nat, m ≤ 3 ∧ y = .tup [d, .int m]) (fun d _ acc kk hk => ?_) fun hs hh => ?_⟩
  · simp only [lcB, wipeG, gmN, aYes, aTup, aCons, aVar, aNil, aCall, aC, if_true, List.set_cons_succ, List.set_cons_zero, List.getElem?_cons_zero, List.getElem?_cons_succ, List.append_nil]
    refine A_pull_go (by omega) (by omega) fun j j0 j1 => ⟨by simp, hk _ ⟨j.toNat, by omega, ?_⟩⟩
    rw [Int.toNat_of_nonneg j0]
  obtain ⟨qs, rfl, rfl, hq3⟩ := heads_of hh
  clear hh
  simp only [List.nil_append]
  have hqs : (qs.map (·.1)).length = qs.length := List.length_map _
  generalize hhs : (qs.map fun q : Str × Nat => D.tup [.str q.1, .int (q.2 : Nat)]) = hs
  have hh : ∀ h ∈ hs, ∃ (f : Str) (m : Nat), h = .tup [.str f, .int m] ∧ fnm f ∧ m ≤ 3 := by
    intro h hm
    rw [← hhs] at hm
    obtain ⟨q, h1, rfl⟩ := List.mem_map.mp hm
    obtain ⟨a1, a2, a3, a4⟩ := hzs.2 q.1 (List.mem_map_of_mem (f := (·.1)) h1)
    exact ⟨q.1, q.2, rfl, ⟨a1, a2, a3, a4⟩, hq3 q h1⟩
  have hsl : hs.length = qs.length := by rw [← hhs]; simp
  simp only [aNew, aNil, aFor, aItems, aVar, itemsD, gmN, List.set_cons_succ, List.set_cons_zero, List.getElem?_cons_zero, List.getElem?_cons_succ]
  refine ⟨by simp, fun p hp => ?_⟩
  refine ⟨fun i Γ cs => ∃ (ps : List Pr) (g8 g9 g10 g11 g12 g13 : Option D), Γ = [some (.hdl 0), some (.int M), some (.int L), some (.int S), some (.int dr), some (.lst ((qs.map (·.1)).map .str)), some (.lst hs), some (.adr p), g8, g9, g10, g11, g12, g13] ∧ cs = [(p, .lst (prsD ps))] ∧
    ps.map (fun p => (p.1, p.2.1.length)) = qs.take i ∧ (∀ p ∈ ps, ∃ l c, PrOk p.1 p.2.1 p.2.2 l c ∧ l ≤ L ∧ c ≤ S) ∧ ∀ p ∈ ps, ∀ q ∈ callsA p.2.2, q ∈ hs, ⟨[], none, none, none, none, none, none, rfl, rfl, rfl, by simp, by simp⟩, ?_, ?_⟩
  · rintro i d Γ cs hi ⟨ps, g8, g9, g10, g11, g12, g13, rfl, rfl, hps, hok, hcl⟩
    have hil : i < qs.length := by
      have := (List.getElem?_eq_some_iff.mp hi).1
      omega
    obtain ⟨f, m⟩ : Str × Nat := qs[i]
    have hqi : ∃ q, qs[i]? = some q := ⟨_, List.getElem?_eq_getElem hil⟩
    obtain ⟨⟨f, m⟩, hqi⟩ := hqi
    have hd : d = .tup [.str f, .int (m : Nat)] := by
      rw [← hhs, List.getElem?_map, hqi] at hi
      exact (Option.some.inj hi).symm
    subst hd
    have hqm : (f, m) ∈ qs := List.mem_of_getElem? hqi
    have hm3 : m ≤ 3 := hq3 _ hqm
    obtain ⟨f1, f2, f3, f4⟩ := hzs.2 f (List.mem_map_of_mem (f := (·.1)) hqm)
    have e1 : (m : Int) + 1 = ((m + 1 : Nat) : Int) := by omega
    simp only [gmT, gmCons, gmN, gmNil, aSeq, aAsg, aCall, aCons, aNil, aVar, aOp, aC, wAdd, e1, List.length_cons, List.length_nil, List.set_cons_succ, List.set_cons_zero, List.getElem?_cons_zero, List.getElem?_cons_succ, List.append_nil, true_and]
    refine A_words_go (by omega) (by omega) (by omega) fun own hol how => ?_
    simp only [aLst, aOp, aCall, aCons, aNil, aVar, aC, gmN, wIx, List.set_cons_succ, List.set_cons_zero, List.getElem?_cons_zero, List.getElem?_cons_succ, List.append_nil]
    refine A_pull_go (by omega) (by omega) fun x x0 x1 => ?_
    obtain ⟨c1, c10, c11, cx⟩ := great_go x0 x1
    simp only [cx]
    refine ⟨by decide, ?_⟩
    refine A_pull_go (by omega) (by omega) fun y y0 y1 => ?_
    obtain ⟨c2, c20, c21, cy⟩ := great_go y0 y1
    simp only [cy]
    refine ⟨by decide, ?_⟩
    refine A_pull_go (by omega) (by omega) fun z z0 z1 => ?_
    have one : ∀ c, (⟨#[c]⟩ : Str).length = 1 := fun c => rfl
    simp only [wMulX, wAdd, one]
    have hz : z = 0 ∨ z = 1 := by omega
    refine ⟨⟨by omega, by omega, by omega⟩, ?_⟩
    have hsh : ∃ w : Str, (⟨#[c1]⟩ : Str) ++ Txt.mul ⟨#[c2]⟩ z = w ∧ nameM (.str w) = true ∧ (1 + (Txt.mul ⟨#[c2]⟩ z).length ≤ 16000000) := by
      refine ⟨_, rfl, ?_⟩
      rcases hz with rfl | rfl
      · have : Txt.mul ⟨#[c2]⟩ 0 = Str.empty := rfl
        rw [this]
        refine ⟨(shared_great (fun c hc => ?_) (by rw [len_app]; show (1 : Int) ≤ ((1 + 0 : Nat) : Int); omega) (by rw [len_app]; show ((1 + 0 : Nat) : Int) ≤ 4; omega)).1, by decide⟩
        have : c = c1 := by
          have e : ((⟨#[c1]⟩ : Str) ++ Str.empty) = ⟨#[c1]⟩ := rfl
          rw [e] at hc
          simpa using hc
        omega
      · have : Txt.mul ⟨#[c2]⟩ 1 = ⟨#[c2]⟩ := rfl
        rw [this]
        refine ⟨(shared_great (fun c hc => ?_) (by rw [len_app]; show (1 : Int) ≤ ((1 + 1 : Nat) : Int); omega) (by rw [len_app]; show ((1 + 1 : Nat) : Int) ≤ 4; omega)).1, by rw [one]; omega⟩
        have : c = c1 ∨ c = c2 := by
          have e : ((⟨#[c1]⟩ : Str) ++ ⟨#[c2]⟩) = ⟨#[c1, c2]⟩ := rfl
          rw [e] at hc
          simpa using hc
        omega
    obtain ⟨w, hw, hwn, hwl⟩ := hsh
    rw [hw]
    refine ⟨hwl, by simp, ?_⟩
    simp only [aTup, aCons, aNil, aVar, aOp, aCall, wAdd, gmN, List.set_cons_succ, List.set_cons_zero, List.getElem?_cons_zero, List.getElem?_cons_succ, List.append_nil, List.length_map, List.length_append, List.length_cons, List.length_nil, hol]
    refine ⟨by omega, by omega, by omega, ?_⟩
    simp only [aDrop, aApp, aTup, aCons, aNil, aVar, aCB, aSl, aNoPart, aPart, aCall, wSl, wTuple, List.getElem?_cons_zero, List.getElem?_cons_succ, List.append_nil, look_here]
    have wok : WOk (own.map D.str ++ own.map D.str ++ [.str w]) hs := by
      refine ⟨by simp, by simp; omega, fun v hv => ?_, fun e => ?_, by omega, hh⟩
      · have : (∃ a ∈ own, v = .str a) ∨ v = .str w := by
          rcases List.mem_append.mp hv with hv | hv
          · left
            rcases List.mem_append.mp hv with hv | hv
            · obtain ⟨a, h1, h2⟩ := List.mem_map.mp hv
              exact ⟨a, h1, h2.symm⟩
            · obtain ⟨a, h1, h2⟩ := List.mem_map.mp hv
              exact ⟨a, h1, h2.symm⟩
          · right; exact List.mem_singleton.mp hv
        rcases this with ⟨a, h1, rfl⟩ | rfl
        · obtain ⟨a1, a2, a3, a4⟩ := how.2 a h1
          exact (name_low a1 a2 a3 a4).1
        · exact hwn
      · rw [e] at hsl
        simp at hsl
        omega
    refine ⟨_, hs, dr, L, S, rfl, wok, hL, hL2, fun b l c hb hbl hbc hbcl => ?_⟩
    simp only [look_here, cset_here]
    have eown : cutD (own.map D.str) none (some (m : Int)) = (own.take m).map D.str := by
      rw [cutD_to, List.map_take]
    rw [eown]
    have hlen : ps.length = i := by
      have := congrArg List.length hps
      rw [List.length_map, List.length_take] at this
      omega
    have htl : (own.take m).length = m := by rw [List.length_take]; omega
    refine ⟨by simp, by simp [prsD, hlen]; omega, ps ++ [(f, own.take m, b)], _, _, _, _, _, _, rfl, by simp [prsD, prD], ?_, ?_, ?_⟩
    · rw [List.map_append, hps, List.take_add_one, hqi]
      simp [htl]
    · intro p hp
      rcases List.mem_append.mp hp with hp | hp
      · exact hok p hp
      · rw [List.mem_singleton.mp hp]
        refine ⟨l, c, ⟨⟨f1, f2, f3, f4⟩, by rw [htl]; exact hm3, fun z hz => ?_, ?_, hb, by omega, by omega⟩, hbl, hbc⟩
        · obtain ⟨a1, a2, a3, a4⟩ := how.2 z (List.mem_of_mem_take hz)
          exact own_low a1 a2 a3 a4
        · exact (List.take_sublist m own).nodup how.1
    · intro p hp
      rcases List.mem_append.mp hp with hp | hp
      · exact hcl p hp
      · rw [List.mem_singleton.mp hp]
        exact hbcl
  · rintro Γ cs ⟨ps, g8, g9, g10, g11, g12, g13, rfl, rfl, hps, hok, hcl⟩
    simp only [aFrz, aRet, aVar, List.getElem?_cons_zero, List.getElem?_cons_succ, look_here, cdel_here, List.set_cons_succ, List.set_cons_zero]
    rw [hsl, List.take_length] at hps
    have e1 : ps.map (·.1) = qs.map (·.1) := by
      have := congrArg (List.map Prod.fst) hps
      rw [List.map_map] at this
      exact this
    have e2 : ps.length = qs.length := by
      have := congrArg List.length hps
      rwa [List.length_map] at this
    refine hP ps ⟨hok, by rw [e1]; exact hzs.1, fun e => ?_, fun p hp q hq => ?_⟩ (by omega)
    · rw [e] at e2
      simp at e2
      omega
    · have := hcl p hp q hq
      rw [← hhs, ← hps] at this
      obtain ⟨q', h1, h2⟩ := List.mem_map.mp this
      obtain ⟨r, h3, h4⟩ := List.mem_map.mp h1
      refine ⟨r, h3, ?_⟩
      rw [← h2, ← h4]
end Bd
namespace Bd
open PySem L2
theorem fits_not {n : Nat} {x : D} (h : fitsM n x = true) : fitsM (n + 1) (.tup [.str "not", x]) = true := by simpa [fitsM] using h
theorem fits_op {n : Nat} {s : Str} {x y : D} (hs : inS s sgS = true) (h : fitsM n x = true) (h2 : fitsM n y = true) : fitsM (n + 1) (.tup [.str "op", .str s, x, y]) = true := by simp [fitsM, sgM, hs, h, h2]
theorem zero_l_same : ∀ ds P, ¬ A_l_same 0 ds P := by
  rintro ds P ⟨x, y, rfl, _, _, h, _⟩
  cases y <;> simp [dpt] at h
theorem same_go {n : Nat} {x y : D} {P : D → Prop} (hx : tyd x = true) (hy : tyd y = true) (hd : dpt y ≤ n) (hP : P (.bl (sameM x y))) : A_l_same n [x, y] P := ⟨x, y, rfl, hx, hy, hd, hP⟩
theorem word_go {m : Int} {P : D → Prop} (h1 : 1 ≤ m) (h2 : m ≤ 100) (hP : ∀ z : Str, lowS z = true → 1 ≤ (z.length : Int) → (z.length : Int) ≤ m → inS z kwS = false → P (.str z)) : A_l_word [.hdl 0, .int m] P := ⟨m, rfl, h1, h2, hP⟩
theorem same_str {z : Str} {P : D → Prop} (h : z.length ≤ 1000000) (hP : P (.bl true)) : A_l_same 4 [.str z, .str z] P := same_go (by simp [tyd]; exact h) (by simp [tyd]; exact h) (by simp [dpt]) (by simpa [sameM] using hP)
end Bd
namespace Bd
open PySem L2
/-! ### good data: plain, nested at most so deep, of bounded sizes -/
def gdD : Nat → D → Bool
  | _, .non => true
  | _, .bl _ => true
  | _, .int _ => true
  | _, .str z => decide (z.length ≤ 1000000) && PyData.strOk z
  | n + 1, .lst ds => decide (ds.length ≤ 1000000) && ds.all (gdD n)
  | n + 1, .tup ds => decide (ds.length ≤ 1000000) && ds.all (gdD n)
  | _, _ => false
theorem gd_tup {n : Nat} {ds : List D} : gdD (n + 1) (.tup ds) = true ↔ ds.length ≤ 1000000 ∧ ∀ d ∈ ds, gdD n d = true := by simp [gdD]
theorem gd_lst {n : Nat} {ds : List D} : gdD (n + 1) (.lst ds) = true ↔ ds.length ≤ 1000000 ∧ ∀ d ∈ ds, gdD n d = true := by simp [gdD]
theorem gd_str {n : Nat} {z : Str} : gdD n (.str z) = true ↔ z.length ≤ 1000000 ∧ PyData.strOk z = true := by cases n <;> simp [gdD]
theorem gd_int {n : Nat} {i : Int} : gdD n (.int i) = true := by cases n <;> rfl
theorem gd_bl {n : Nat} {i : Bool} : gdD n (.bl i) = true := by cases n <;> rfl
theorem gd_non {n : Nat} : gdD n .non = true := by cases n <;> rfl
theorem gd_mono : ∀ {n : Nat} {d : D}, gdD n d = true → gdD (n + 1) d = true
  | n, .non, _ => gd_non
  | n, .bl _, _ => gd_bl
  | n, .int _, _ => gd_int
  | n, .str _, h => gd_str.mpr (gd_str.mp h)
  | 0, .lst _, h => by cases h
  | 0, .tup _, h => by cases h
  | n + 1, .lst ds, h => gd_lst.mpr ⟨(gd_lst.mp h).1, fun d hd => gd_mono ((gd_lst.mp h).2 d hd)⟩
  | n + 1, .tup ds, h => gd_tup.mpr ⟨(gd_tup.mp h).1, fun d hd => gd_mono ((gd_tup.mp h).2 d hd)⟩
  | n, .ty _, h => by cases n <;> cases h
  | n, .obj _ _ _, h => by cases n <;> cases h
  | n, .hdl _, h => by cases n <;> cases h
  | n, .cls _, h => by cases n <;> cases h
  | n, .adr _, h => by cases n <;> cases h
theorem gd_le {n m : Nat} {d : D} (h : gdD n d = true) (hm : n ≤ m) : gdD m d = true := by
  induction m with
  | zero => have : n = 0 := by omega
            subst this; exact h
  | succ m ih =>
    by_cases e : n = m + 1
    · subst e; exact h
    · exact gd_mono (ih (by omega))
theorem tydA_all {ds : List D} (h : ∀ d ∈ ds, tyd d = true) : tydA ds = true := by
  induction ds with
  | nil => rfl
  | cons d ds ih => simp [tydA, h d (by simp), ih fun e he => h e (by simp [he])]
theorem gd_tyd : ∀ {n : Nat} {d : D}, gdD n d = true → tyd d = true
  | n, .non, _ => rfl
  | n, .bl _, _ => rfl
  | n, .int _, _ => rfl
  | n, .str z, h => by simpa [tyd] using (gd_str.mp h).1
  | 0, .lst _, h => by cases h
  | 0, .tup _, h => by cases h
  | n + 1, .lst ds, h => by
    have h' := gd_lst.mp h
    simp [tyd, h'.1, tydA_all fun d hd => gd_tyd (h'.2 d hd)]
  | n + 1, .tup ds, h => by
    have h' := gd_tup.mp h
    simp [tyd, h'.1, tydA_all fun d hd => gd_tyd (h'.2 d hd)]
  | n, .ty _, h => by cases n <;> cases h
  | n, .obj _ _ _, h => by cases n <;> cases h
  | n, .hdl _, h => by cases n <;> cases h
  | n, .cls _, h => by cases n <;> cases h
  | n, .adr _, h => by cases n <;> cases h
theorem gd_okN : ∀ {n : Nat} {d : D}, gdD n d = true → okN n d
  | n, .non, _ => ⟨rfl, rfl, Nat.zero_le _⟩
  | n, .bl _, _ => ⟨rfl, rfl, Nat.zero_le _⟩
  | n, .int _, _ => okN_int _
  | n, .str z, h => okN_str (gd_str.mp h).2
  | 0, .lst _, h => by cases h
  | 0, .tup _, h => by cases h
  | n + 1, .lst ds, h => okN_lst fun d hd => gd_okN ((gd_lst.mp h).2 d hd)
  | n + 1, .tup ds, h => okN_tup fun d hd => gd_okN ((gd_tup.mp h).2 d hd)
  | n, .ty _, h => by cases n <;> cases h
  | n, .obj _ _ _, h => by cases n <;> cases h
  | n, .hdl _, h => by cases n <;> cases h
  | n, .cls _, h => by cases n <;> cases h
  | n, .adr _, h => by cases n <;> cases h
theorem gd_okD {n : Nat} {d : D} (h : gdD n d = true) (hn : n ≤ 64) : okD d = true := okD_of (gd_okN h) hn
/-! ### what the tests of statements say -/
def wtB (v : D) : Bool := match v with
  | .tup [.int a, .int b] => decide (0 ≤ a) && decide (a ≤ 99) && decide (1 ≤ b) && decide (b ≤ 12) && decide (Int.gcd a b = 1)
  | _ => false
def nmB (v : D) : Bool := wordD v smallS 6
def callB (rest : List D) : Bool := match rest with
  | [t, f, .tup xs, w] => nameM t && nmB f && decide (xs.length ≤ 3) && xs.all (fitsM 6) && wtB w
  | _ => false
def empB (e : D) : Bool := match e with
  | .tup [] => true
  | _ => false
def oneB (rest : List D) : Bool := match rest with
  | [x] => fitsM 6 x
  | _ => false
/-- a statement; blk: the test of a block one deeper -/
def stB (blk : Bool → D → Bool) (w : Bool) (v : D) : Bool := match v with
  | .tup (.str k :: rest) =>
    if k = "break" then rest.isEmpty && w
    else if k = "set" then (match rest with | [t, x] => nameM t && fitsM 6 x | _ => false)
    else if k = "print" ∨ k = "return" then oneB rest
    else if k = "call" then callB rest
    else if k = "if" then (match rest with | [x, b, e] => fitsM 6 x && blk w b && (empB e || blk w e) | _ => false)
    else if k = "while" then (match rest with | [x, b] => fitsM 6 x && blk true b | _ => false)
    else false
  | _ => false
/-- a block of depth 6 - n -/
def blkB : Nat → Bool → D → Bool
  | 0, _, _ => false
  | n + 1, w, v => match v with
    | .tup ds => !ds.isEmpty && ds.all (stB (blkB n) w)
    | _ => false
def A_common_divisor (ds : List D) (P : D → Prop) : Prop := ∃ a b : Int, ds = [.int a, .int b] ∧ 0 ≤ a ∧ 0 ≤ b ∧ P (.int (Int.gcd a b : Nat))
def A_is_name (ds : List D) (P : D → Prop) : Prop := ∃ v, ds = [v] ∧ tyd v = true ∧ P (.bl (nmB v))
def A_is_target (ds : List D) (P : D → Prop) : Prop := ∃ v, ds = [v] ∧ tyd v = true ∧ P (.bl (nameM v))
def A_is_weight (ds : List D) (P : D → Prop) : Prop := ∃ v, ds = [v] ∧ tyd v = true ∧ P (.bl (wtB v))
def A_is_call (ds : List D) (P : D → Prop) : Prop := ∃ k rest, ds = [.tup (.str k :: rest)] ∧ tyd (.tup (.str k :: rest)) = true ∧ P (.bl (callB rest))
def A_is_statement (n : Nat) (ds : List D) (P : D → Prop) : Prop := ∃ (v : D) (d : Nat) (w : Bool), ds = [v, .int d, .bl w] ∧ gdD 50 v = true ∧ d + n = 7 ∧ 1 ≤ d ∧ 2 ≤ n ∧ P (.bl (stB (blkB (n - 2)) w v))
def A_is_block (n : Nat) (ds : List D) (P : D → Prop) : Prop := ∃ (v : D) (d : Nat) (w : Bool), ds = [v, .int d, .bl w] ∧ gdD 50 v = true ∧ d + n = 7 ∧ 1 ≤ d ∧ 1 ≤ n ∧ P (.bl (blkB (n - 1) w v))
/-- slots: 0 one, 1 other -/
def a_common_divisor : ATS :=
  aSeq (aWhile (aB (aOp wGt (aVar 1) (aC (.int 0)))) (aPar 0 1 (aCons (aVar 1) (aCons (aOp wMod (aVar 0) (aVar 1)) (aNil)))))
  (aRet (aVar 0))
def a_is_name : ATS :=
  aRet (aCall A_is_word [] (aCons (aVar 0) (aCons (aC (.str "abcdefghijklmnopqrstuvwxyz")) (aCons (aC (.int 6)) (aNil)))))

def a_is_weight : ATS :=
  aSeq (aIfS (aOr (aNot (aB (aCB wIsi (aCons (aVar 0) (aCons (aC (.ty "tuple")) (aNil)))))) (aOr (aB (aOp wNe (aCB wLen (aCons (aVar 0) (aNil))) (aC (.int 2)))) (aOr (aNot (aB (aCall A_is_number [] (aCons (aOp wIx (aVar 0) (aC (.int 0))) (aNil))))) (aNot (aB (aCall A_is_number [] (aCons (aOp wIx (aVar 0) (aC (.int 1))) (aNil)))))))) (aRet (aC (.bl false))) (aNext))
  (aRet (aAndV (aChain wLe wLe (aC (.int 0)) (aOp wIx (aVar 0) (aC (.int 0))) (aC (.int 99))) (aAndV (aChain wLe wLe (aC (.int 1)) (aOp wIx (aVar 0) (aC (.int 1))) (aC (.int 12))) (aOp wEq (aCall A_common_divisor [] (aCons (aOp wIx (aVar 0) (aC (.int 0))) (aCons (aOp wIx (aVar 0) (aC (.int 1))) (aNil)))) (aC (.int 1))))))

def a_is_target : ATS :=
  aRet (aOrV (aCall A_is_own [] (aCons (aVar 0) (aNil))) (aCall A_is_shared [] (aCons (aVar 0) (aNil))))

def a_is_call : ATS :=
  aSeq (aIfS (aOr (aB (aOp wNe (aCB wLen (aCons (aVar 0) (aNil))) (aC (.int 5)))) (aOr (aNot (aB (aCall A_is_target [] (aCons (aOp wIx (aVar 0) (aC (.int 1))) (aNil))))) (aOr (aNot (aB (aCall A_is_name [] (aCons (aOp wIx (aVar 0) (aC (.int 2))) (aNil))))) (aNot (aB (aCB wIsi (aCons (aOp wIx (aVar 0) (aC (.int 3))) (aCons (aC (.ty "tuple")) (aNil))))))))) (aRet (aC (.bl false))) (aNext))
  (aRet (aAndV (aOp wLe (aCB wLen (aCons (aOp wIx (aVar 0) (aC (.int 3))) (aNil))) (aC (.int 3))) (aAndV (aCB wAll (aCons (aLc (aItems (aOp wIx (aVar 0) (aC (.int 3)))) (gmN 1) (aYes) (aCall A_is_expression [] (aCons (aVar 1) (aNil))) [1]) (aNil))) (aCall A_is_weight [] (aCons (aOp wIx (aVar 0) (aC (.int 4))) (aNil))))))

def a_is_statement (A : List D → (D → Prop) → Prop) : ATS :=
  aSeq (aIfS (aOr (aNot (aB (aCB wIsi (aCons (aVar 0) (aCons (aC (.ty "tuple")) (aNil)))))) (aOr (aB (aOp wEq (aCB wLen (aCons (aVar 0) (aNil))) (aC (.int 0)))) (aNot (aB (aCB wIsi (aCons (aOp wIx (aVar 0) (aC (.int 0))) (aCons (aC (.ty "str")) (aNil)))))))) (aRet (aC (.bl false))) (aNext))
  (aSeq (aAsg (aOp wIx (aVar 0) (aC (.int 0))) (gmN 3))
  (aSeq (aIfS (aB (aOp wEq (aVar 3) (aC (.str "break")))) (aRet (aAndV (aOp wEq (aCB wLen (aCons (aVar 0) (aNil))) (aC (.int 1))) (aVar 2))) (aNext))
  (aSeq (aIfS (aB (aOp wEq (aVar 3) (aC (.str "set")))) (aRet (aAndV (aOp wEq (aCB wLen (aCons (aVar 0) (aNil))) (aC (.int 3))) (aAndV (aCall A_is_target [] (aCons (aOp wIx (aVar 0) (aC (.int 1))) (aNil))) (aCall A_is_expression [] (aCons (aOp wIx (aVar 0) (aC (.int 2))) (aNil)))))) (aNext))
  (aSeq (aIfS (aOr (aB (aOp wEq (aVar 3) (aC (.str "print")))) (aB (aOp wEq (aVar 3) (aC (.str "return"))))) (aRet (aAndV (aOp wEq (aCB wLen (aCons (aVar 0) (aNil))) (aC (.int 2))) (aCall A_is_expression [] (aCons (aOp wIx (aVar 0) (aC (.int 1))) (aNil))))) (aNext))
  (aSeq (aIfS (aB (aOp wEq (aVar 3) (aC (.str "call")))) (aRet (aCall A_is_call [] (aCons (aVar 0) (aNil)))) (aNext))
  (aSeq (aIfS (aB (aOp wEq (aVar 3) (aC (.str "if")))) (aSeq (aIfS (aOr (aB (aOp wNe (aCB wLen (aCons (aVar 0) (aNil))) (aC (.int 4)))) (aOr (aNot (aB (aCall A_is_expression [] (aCons (aOp wIx (aVar 0) (aC (.int 1))) (aNil))))) (aNot (aB (aCall A [] (aCons (aOp wIx (aVar 0) (aC (.int 2))) (aCons (aOp wAdd (aVar 1) (aC (.int 1))) (aCons (aVar 2) (aNil))))))))) (aRet (aC (.bl false))) (aNext))
  (aRet (aOrV (aOp wEq (aOp wIx (aVar 0) (aC (.int 3))) (aTup (aNil))) (aCall A [] (aCons (aOp wIx (aVar 0) (aC (.int 3))) (aCons (aOp wAdd (aVar 1) (aC (.int 1))) (aCons (aVar 2) (aNil)))))))) (aNext))
  (aRet (aAndV (aOp wEq (aVar 3) (aC (.str "while"))) (aAndV (aOp wEq (aCB wLen (aCons (aVar 0) (aNil))) (aC (.int 3))) (aAndV (aCall A_is_expression [] (aCons (aOp wIx (aVar 0) (aC (.int 1))) (aNil))) (aCall A [] (aCons (aOp wIx (aVar 0) (aC (.int 2))) (aCons (aOp wAdd (aVar 1) (aC (.int 1))) (aCons (aC (.bl true)) (aNil)))))))))))))))

def a_is_block (A : List D → (D → Prop) → Prop) : ATS :=
  aSeq (aIfS (aOr (aB (aOp wGt (aVar 1) (aC (.int 5)))) (aOr (aNot (aB (aCB wIsi (aCons (aVar 0) (aCons (aC (.ty "tuple")) (aNil)))))) (aB (aOp wEq (aCB wLen (aCons (aVar 0) (aNil))) (aC (.int 0)))))) (aRet (aC (.bl false))) (aNext))
  (aRet (aCB wAll (aCons (aLc (aItems (aVar 0)) (gmN 3) (aYes) (aCall A [] (aCons (aVar 3) (aCons (aVar 1) (aCons (aVar 2) (aNil))))) [3]) (aNil))))

theorem zero_fits : ∀ ds P, ¬ A_fits 0 ds P := by
  rintro ds P ⟨v, d, _, h, _⟩
  omega
theorem len_common_divisor : ∀ ds P, A_common_divisor ds P → ds.length = 2 := by rintro ds P ⟨a, b, rfl, _⟩; rfl
theorem len_is_name : ∀ ds P, A_is_name ds P → ds.length = 1 := by rintro ds P ⟨v, rfl, _⟩; rfl
theorem len_is_target : ∀ ds P, A_is_target ds P → ds.length = 1 := by rintro ds P ⟨v, rfl, _⟩; rfl
theorem len_is_weight : ∀ ds P, A_is_weight ds P → ds.length = 1 := by rintro ds P ⟨v, rfl, _⟩; rfl
theorem len_is_call : ∀ ds P, A_is_call ds P → ds.length = 1 := by rintro ds P ⟨k, r, rfl, _⟩; rfl
theorem len_is_statement (n : Nat) : ∀ ds P, A_is_statement n ds P → ds.length = 3 := by rintro ds P ⟨v, d, w, rfl, _⟩; rfl
theorem len_is_block (n : Nat) : ∀ ds P, A_is_block n ds P → ds.length = 3 := by rintro ds P ⟨v, d, w, rfl, _⟩; rfl
theorem zero_is_block : ∀ ds P, ¬ A_is_block 0 ds P := by
  rintro ds P ⟨v, d, w, rfl, _, _, _, h, _⟩
  omega
theorem pure_common_divisor : ∀ ds P, A_common_divisor ds P → a_common_divisor { nx := fun _ _ => P .non, rt := fun d _ => P d } (startG 2 ds) [] := pure_l_divisor
theorem pure_is_name : ∀ ds P, A_is_name ds P → a_is_name { nx := fun _ _ => P .non, rt := fun d _ => P d } (startG 1 ds) [] := by
  rintro ds P ⟨v, rfl, hv, hP⟩
  simp only [a_is_name, aRet, aCall, aCons, aVar, aC, aNil, startG_1, List.getElem?_cons_zero, List.append_nil]
  exact ⟨v, _, _, rfl, hv, hP⟩
theorem pure_is_target : ∀ ds P, A_is_target ds P → a_is_target { nx := fun _ _ => P .non, rt := fun d _ => P d } (startG 1 ds) [] := by
  rintro ds P ⟨v, rfl, hv, hP⟩
  simp [a_is_target, hv]
  cases h : ownM v with
  | true => simpa [nameM, h] using hP
  | false => simpa [nameM, h] using hP
@[simp] theorem A_is_name_1 {v : D} {P : D → Prop} : A_is_name [v] P ↔ tyd v = true ∧ P (.bl (nmB v)) := ⟨fun ⟨_, h, a, b⟩ => by cases h; exact ⟨a, b⟩, fun ⟨a, b⟩ => ⟨v, rfl, a, b⟩⟩
@[simp] theorem A_is_target_1 {v : D} {P : D → Prop} : A_is_target [v] P ↔ tyd v = true ∧ P (.bl (nameM v)) := ⟨fun ⟨_, h, a, b⟩ => by cases h; exact ⟨a, b⟩, fun ⟨a, b⟩ => ⟨v, rfl, a, b⟩⟩
@[simp] theorem A_is_weight_1 {v : D} {P : D → Prop} : A_is_weight [v] P ↔ tyd v = true ∧ P (.bl (wtB v)) := ⟨fun ⟨_, h, a, b⟩ => by cases h; exact ⟨a, b⟩, fun ⟨a, b⟩ => ⟨v, rfl, a, b⟩⟩
theorem pure_is_weight : ∀ ds P, A_is_weight ds P → a_is_weight { nx := fun _ _ => P .non, rt := fun d _ => P d } (startG 1 ds) [] := by
  rintro ds P ⟨v, rfl, hv, hP⟩
  cases v with
  | tup xs =>
    match xs, hv, hP with
    | [], hv, hP => simpa [a_is_weight, isD, okTy, tyN, wtB] using hP
    | [a], hv, hP => simpa [a_is_weight, isD, okTy, tyN, wtB] using hP
    | a :: b :: c :: r, hv, hP =>
      have l2 : ¬ ((r.length : Int) + 1 + 1 + 1 = 2) := by omega
      simpa [a_is_weight, isD, okTy, tyN, wtB, l2] using hP
    | [a, b], hv, hP =>
      have hv' : tyd a = true ∧ tyd b = true := by simpa [tyd, tydA] using hv
      have no : ∀ x y, (numM x && numM y) = false → wtB (.tup [x, y]) = false := by
        intro x y h
        cases x <;> cases y <;> first | rfl | cases h
      simp [a_is_weight, isD, okTy, tyN, hv'.1, hv'.2]
      cases ha : numM a with
      | false => simpa [no a b (by simp [ha])] using hP
      | true =>
        cases hb : numM b with
        | false => simpa [no a b (by simp [hb])] using hP
        | true =>
          cases a with
          | int i =>
            cases b with
            | int j =>
              simp
              by_cases h0 : 0 ≤ i
              · by_cases h1 : i ≤ 99
                · by_cases h2 : 1 ≤ j
                  · by_cases h3 : j ≤ 12
                    · simp [h0, h1, h2, h3]
                      exact ⟨i, j, rfl, h0, by omega, by
                        simp [wtB, h0, h1, h2, h3] at hP
                        by_cases hg : Int.gcd i j = 1
                        · simpa [hg] using hP
                        · have : ¬ ((Int.gcd i j : Nat) : Int) = 1 := by omega
                          simpa [hg, this] using hP⟩
                    · simpa [h0, h1, h2, h3, wtB] using hP
                  · simpa [h0, h1, h2, wtB] using hP
                · simpa [h0, h1, wtB] using hP
              · simpa [h0, wtB] using hP
            | _ => cases hb
          | _ => cases ha
  | _ => first
    | (simpa [a_is_weight, isD, okTy, tyN, wtB] using hP)
    | cases hv
theorem pure_is_call : ∀ ds P, A_is_call ds P → a_is_call { nx := fun _ _ => P .non, rt := fun d _ => P d } (startG 2 ds) [] := by
  rintro ds P ⟨k, rest, rfl, hv, hP⟩
  match rest, hv, hP with
  | [], hv, hP => simpa [a_is_call, callB] using hP
  | [_], hv, hP => simpa [a_is_call, callB] using hP
  | [_, _], hv, hP => simpa [a_is_call, callB] using hP
  | [_, _, _], hv, hP => simpa [a_is_call, callB] using hP
  | _ :: _ :: _ :: _ :: _ :: r, hv, hP =>
    have l5 : ¬ ((r.length : Int) + 1 + 1 + 1 + 1 + 1 + 1 = 5) := by omega
    simpa [a_is_call, callB, l5] using hP
  | [t, f, x, w], hv, hP =>
    have hv' : (k.length ≤ 1000000) ∧ tyd t = true ∧ tyd f = true ∧ tyd x = true ∧ tyd w = true := by simpa [tyd, tydA] using hv
    obtain ⟨_, h1, h2, h3, h4⟩ := hv'
    have no : ∀ x : D, isD "tuple" x = false → callB [t, f, x, w] = false := by
      intro x h
      cases x <;> first | rfl | (simp [isD] at h)
    have nt : (nameM t && nmB f) = false → callB [t, f, x, w] = false := by
      intro h
      cases x <;> first
        | rfl
        | (show (nameM t && nmB f && _ && _ && _) = false; rw [h]; rfl)
    simp [a_is_call, wIx, h1, h2]
    cases c1 : nameM t with
    | false => simpa [nt (by simp [c1])] using hP
    | true =>
      simp
      cases c2 : nmB f with
      | false => simpa [nt (by simp [c2])] using hP
      | true =>
        simp
        refine ⟨⟨by decide, tyd_ty h3⟩, ?_⟩
        cases c3 : isD "tuple" x with
        | false => simpa [no x c3] using hP
        | true =>
          simp
          cases x with
          | tup xs =>
            have h3' : xs.length ≤ 1000000 ∧ tydA xs = true := by simpa [tyd] using h3
            simp
            by_cases c4 : xs.length ≤ 3
            · have c4' : (xs.length : Int) ≤ 3 := by omega
              simp [c4']
              simp only [aLc, aItems, aOp, aVar, aC, wIx, at3, List.getElem?_cons_zero, itemsD]
              refine ⟨h3'.1, goA_map (fun d => .bl (fitsM 6 d)) (fun d hd acc kk hk => ?_) ?_⟩
              · simp [lcB, wipeG]
                exact ⟨tyd_mem h3'.2 hd, hk⟩
              · simp only [List.nil_append, blsOf_map]
                cases c5 : xs.all (fitsM 6) with
                | false =>
                  have : false ∈ xs.map (fitsM 6) := by
                    obtain ⟨x, hx, e⟩ := List.all_eq_false.mp c5
                    exact List.mem_map.mpr ⟨x, hx, by simpa using e⟩
                  rw [if_pos this]
                  simpa [callB, c1, c2, c4, c5] using hP
                | true =>
                  have : false ∉ xs.map (fitsM 6) := fun m => by
                    obtain ⟨x, hx, e⟩ := List.mem_map.mp m
                    have := List.all_eq_true.mp c5 x hx
                    rw [e] at this
                    cases this
                  rw [if_neg this]
                  have a4 : atI [D.str k, t, f, D.tup xs, w] 4 = some w := atI_nat (j := 4) rfl
                  simp only [a4]
                  exact ⟨h4, by simpa [callB, c1, c2, c4, c5] using hP⟩
            · have c4' : ¬ (xs.length : Int) ≤ 3 := by omega
              simpa [c4', c4, callB, c1, c2] using hP
          | _ => first | (simp [isD] at c3; done) | cases c3
end Bd
namespace Bd
open PySem L2
theorem stB_str {blk : Bool → D → Bool} {w : Bool} {k : Str} {rest : List D} : stB blk w (.tup (.str k :: rest)) = (if k = "break" then rest.isEmpty && w
          else if k = "set" then (match rest with | [t, x] => nameM t && fitsM 6 x | _ => false)
          else if k = "print" ∨ k = "return" then oneB rest
          else if k = "call" then callB rest
          else if k = "if" then (match rest with | [x, b, e] => fitsM 6 x && blk w b && (empB e || blk w e) | _ => false)
          else if k = "while" then (match rest with | [x, b] => fitsM 6 x && blk true b | _ => false)
          else false) := rfl
theorem emp_eq (e : D) (h : okD e = true) {P : D → Prop} : wEq e (.tup []) P ↔ P (.bl (empB e)) := by
  have o0 : okD (.tup []) = true := by decide +kernel
  have : eqD e (.tup []) = empB e := by
    cases e with
    | tup ds => cases ds <;> rfl
    | _ => first | rfl | (simp [okD, pureD] at h)
  simp [wEq, h, o0, this]
theorem blk_go {n d : Nat} {v : D} {w : Bool} {P : D → Prop} (h1 : gdD 50 v = true) (h2 : d + n = 7) (h3 : 1 ≤ d) (h4 : 1 ≤ n) (hP : P (.bl (blkB (n - 1) w v))) : A_is_block n [v, .int (d : Nat), .bl w] P := ⟨v, d, w, rfl, h1, h2, h3, h4, hP⟩
theorem gd_mem {a : D} {rest : List D} (h : gdD 50 (.tup (a :: rest)) = true) : ∀ d ∈ rest, gdD 50 d = true ∧ tyd d = true ∧ okD d = true := fun d hd => by
  have := (gd_tup.mp h).2 d (by simp [hd])
  exact ⟨gd_le this (by omega), gd_tyd this, gd_okD this (by omega)⟩
theorem one_row {k : Str} {rest : List D} {d : Nat} {w : Bool} {P : D → Prop} (hm : ∀ x ∈ rest, tyd x = true) (hP : P (.bl (oneB rest))) :
    aRet (aAndV (aOp wEq (aCB wLen (aCons (aVar 0) (aNil))) (aC (.int 2))) (aCall A_is_expression [] (aCons (aOp wIx (aVar 0) (aC (.int 1))) (aNil)))) { nx := fun _ _ => P .non, rt := fun d _ => P d } [some (.tup (.str k :: rest)), some (.int (d : Nat)), some (.bl w), some (.str k)] [] := by
  match rest, hP, hm with
  | [], hP, hm => simpa [oneB] using hP
  | _ :: _ :: r, hP, hm =>
    have : ¬ ((r.length : Int) + 1 + 1 + 1 = 2) := by omega
    simpa [this, oneB] using hP
  | [x], hP, hm =>
    simp [wIx]
    exact ⟨hm x (by simp), hP⟩
theorem pure_is_statement (n : Nat) : ∀ ds P, A_is_statement (n + 1) ds P → a_is_statement (A_is_block n) { nx := fun _ _ => P .non, rt := fun d _ => P d } (startG 4 ds) [] := by
  rintro ds P ⟨v, d, w, rfl, hv, hd, hd1, hn, hP⟩
  have ht := gd_tyd hv
  have hn1 : n + 1 - 2 = n - 1 := by omega
  rw [hn1] at hP
  have hdd : (d : Int) + 1 = ((d + 1 : Nat) : Int) := by omega
  have go : ∀ {v : D} {w : Bool} {Q : D → Prop}, gdD 50 v = true → Q (.bl (blkB (n - 1) w v)) → A_is_block n [v, .int ((d : Int) + 1), .bl w] Q := fun h hQ => by
    rw [hdd]
    exact blk_go h (by omega) (by omega) (by omega) hQ
  cases v with
  | tup xs =>
    match xs, hv, ht, hP with
    | [], hv, ht, hP => simpa [a_is_statement, isD, okTy, tyN, stB] using hP
    | a :: rest, hv, ht, hP =>
      have hm := gd_mem hv
      have ha : tyd a = true := by
        have := ht
        simp [tyd, tydA] at this
        exact this.2.1
      have hlen : ¬ ((rest.length : Int) + 1 = 0) := by omega
      cases a with
      | str k =>
        rw [stB_str] at hP
        by_cases k1 : k = "break"
        · rw [if_pos k1] at hP
          simp [a_is_statement, isD, okTy, tyN, hlen, k1]
          cases rest with
          | nil => simpa using hP
          | cons b r =>
            have : ¬ ((r.length : Int) + 1 + 1 = 1) := by omega
            simpa [this] using hP
        rw [if_neg k1] at hP
        by_cases k2 : k = "set"
        · rw [if_pos k2] at hP
          simp [a_is_statement, isD, okTy, tyN, hlen, k1, k2]
          match rest, hP, hm with
          | [], hP, hm => simpa using hP
          | [_], hP, hm => simpa using hP
          | _ :: _ :: _ :: r, hP, hm =>
            have : ¬ ((r.length : Int) + 1 + 1 + 1 + 1 = 3) := by omega
            simpa [this] using hP
          | [t, x], hP, hm =>
            simp [wIx, (hm t (by simp)).2.1]
            cases c : nameM t with
            | false => simpa [c] using hP
            | true =>
              simp
              exact ⟨(hm x (by simp)).2.1, by simpa [c] using hP⟩
        rw [if_neg k2] at hP
        by_cases k3 : k = "print" ∨ k = "return"
        · rw [if_pos k3] at hP
          have f2 := one_row (d := d) (w := w) (k := k) (fun x hx => (hm x hx).2.1) hP
          rcases k3 with k3 | k3
          · simp [a_is_statement, isD, okTy, tyN, hlen, k1, k2, k3]
            simpa [k3] using f2
          · simp [a_is_statement, isD, okTy, tyN, hlen, k1, k2, k3]
            simpa [k3] using f2
        rw [if_neg k3] at hP
        have k3a : ¬ k = "print" := fun e => k3 (.inl e)
        have k3b : ¬ k = "return" := fun e => k3 (.inr e)
        by_cases k4 : k = "call"
        · rw [if_pos k4] at hP
          simp [a_is_statement, isD, okTy, tyN, hlen, k1, k2, k3a, k3b, k4]
          subst k4
          exact ⟨_, rest, rfl, ht, hP⟩
        rw [if_neg k4] at hP
        by_cases k5 : k = "if"
        · rw [if_pos k5] at hP
          simp [a_is_statement, isD, okTy, tyN, hlen, k1, k2, k3a, k3b, k4, k5]
          match rest, hP, hm with
          | [], hP, hm => simpa using hP
          | [_], hP, hm => simpa using hP
          | [_, _], hP, hm => simpa using hP
          | _ :: _ :: _ :: _ :: r, hP, hm =>
            have : ¬ ((r.length : Int) + 1 + 1 + 1 + 1 + 1 = 4) := by omega
            simpa [this] using hP
          | [x, b, e], hP, hm =>
            obtain ⟨b1, b2, b3⟩ := hm b (by simp)
            obtain ⟨e1, e2, e3⟩ := hm e (by simp)
            simp [wIx, (hm x (by simp)).2.1]
            cases c : fitsM 6 x with
            | false => simpa [c] using hP
            | true =>
              simp
              refine go b1 ?_
              cases c2 : blkB (n - 1) w b with
              | false => simpa [c, c2] using hP
              | true =>
                simp
                rw [emp_eq e e3]
                cases c3 : empB e with
                | true => simpa [c, c2, c3] using hP
                | false =>
                  simp
                  exact go e1 (by simpa [c, c2, c3] using hP)
        rw [if_neg k5] at hP
        by_cases k6 : k = "while"
        · rw [if_pos k6] at hP
          simp [a_is_statement, isD, okTy, tyN, hlen, k1, k2, k3a, k3b, k4, k5, k6]
          match rest, hP, hm with
          | [], hP, hm => simpa using hP
          | [_], hP, hm => simpa using hP
          | _ :: _ :: _ :: r, hP, hm =>
            have : ¬ ((r.length : Int) + 1 + 1 + 1 + 1 = 3) := by omega
            simpa [this] using hP
          | [x, b], hP, hm =>
            obtain ⟨b1, b2, b3⟩ := hm b (by simp)
            simp [wIx, (hm x (by simp)).2.1]
            cases c : fitsM 6 x with
            | false => simpa [c] using hP
            | true =>
              simp
              exact go b1 (by simpa [c] using hP)
        · rw [if_neg k6] at hP
          simpa [a_is_statement, isD, okTy, tyN, hlen, k1, k2, k3a, k3b, k4, k5, k6] using hP
      | _ => first
        | (simpa [a_is_statement, isD, okTy, tyN, hlen, stB] using hP)
        | cases ha
  | _ => first
    | (simpa [a_is_statement, isD, okTy, tyN, stB] using hP)
    | cases ht
theorem pure_is_block (n : Nat) : ∀ ds P, A_is_block (n + 1) ds P → a_is_block (A_is_statement (n + 1)) { nx := fun _ _ => P .non, rt := fun d _ => P d } (startG 4 ds) [] := by
  rintro ds P ⟨v, d, w, rfl, hv, hd, hd1, hn, hP⟩
  have ht := gd_tyd hv
  rw [Nat.add_sub_cancel] at hP
  by_cases h5 : 5 < d
  · have : n = 0 := by omega
    subst this
    have h5' : (5 : Int) < (d : Nat) := by omega
    simpa [a_is_block, h5', blkB] using hP
  · have h5' : ¬ (5 : Int) < (d : Nat) := by omega
    obtain ⟨m, rfl⟩ : ∃ m, n = m + 1 := ⟨n - 1, by omega⟩
    cases v with
    | tup xs =>
      cases xs with
      | nil => simpa [a_is_block, h5', isD, okTy, tyN, blkB] using hP
      | cons x xs =>
        have hl := (gd_tup.mp hv).1
        have hm := (gd_tup.mp hv).2
        have h0 : ¬ ((xs.length : Int) + 1 = 0) := by omega
        simp [a_is_block, h5', isD, okTy, tyN, h0]
        simp only [aLc, aItems, aVar, List.getElem?_cons_zero, itemsD]
        refine ⟨hl, goA_map (fun d => .bl (stB (blkB m) w d)) (fun e he acc kk hk => ?_) ?_⟩
        · simp [lcB, wipeG]
          exact ⟨e, d, w, rfl, gd_le (hm e he) (by omega), hd, hd1, by omega, hk⟩
        · simp only [List.nil_append, blsOf_map]
          have : blkB (m + 1) w (.tup (x :: xs)) = (x :: xs).all (stB (blkB m) w) := rfl
          rw [this] at hP
          simpa using hP
    | _ => first
      | (simpa [a_is_block, h5', isD, okTy, tyN, blkB] using hP)
      | cases ht
end Bd
namespace Bd
open PySem L2
/-! ### the lines of a block, procedures -/
def tupL (d : D) : List D := match d with
  | .tup c => c
  | _ => []
def innerD (s : D) : List D := match s with
  | .tup (.str k :: rest) => if k = "if" ∨ k = "while" then rest.drop 1 else []
  | _ => []
def linesD : Nat → List D → List D
  | 0, _ => []
  | n + 1, b => b.flatMap fun s => s :: (innerD s).flatMap fun e => linesD n (tupL e)
def isCall (s : D) : Bool := match s with
  | .tup (.str k :: _) => decide (k = "call")
  | _ => false
def nodB (ps : List D) : Bool := match strsOf ps with
  | some xs => decide (xs.Nodup)
  | none => false
def thirdD (v : D) : D := match v with
  | .tup [_, _, b] => b
  | _ => .non
def procB (v : D) : Bool := match v with
  | .tup [nm, .tup ps, b] => nmB nm && decide (ps.length ≤ 3) && ps.all ownM && nodB ps && blkB 5 false b && decide ((linesD 6 (tupL b)).length ≤ 40) && decide (((linesD 6 (tupL b)).filter isCall).length ≤ 6)
  | _ => false
def A_lines_of (n : Nat) (ds : List D) (P : D → Prop) : Prop := ∃ b : List D, ds = [.tup b] ∧ 1 ≤ n ∧ (b = [] ∨ ∃ w, blkB (n - 1) w (.tup b) = true) ∧ (linesD n b).length ≤ 100000 ∧ P (.lst (linesD n b))
def A_is_procedure (ds : List D) (P : D → Prop) : Prop := ∃ v, ds = [v] ∧ gdD 50 v = true ∧ (linesD 6 (tupL (thirdD v))).length ≤ 100000 ∧ P (.bl (procB v))
def a_lines_of (A : List D → (D → Prop) → Prop) : ATS :=
  aSeq (aAsg (aNew (aNil)) (gmN 1))
  (aSeq (aFor (aItems (aVar 0)) (gmN 2) (aSeq (aDrop (aApp (aVar 1) (aVar 2)))
  (aIfS (aB (aOp wIn (aOp wIx (aVar 2) (aC (.int 0))) (aTup (aCons (aC (.str "if")) (aCons (aC (.str "while")) (aNil)))))) (aFor (aItems (aSl (aVar 2) (aPart (aC (.int 2))) (aNoPart))) (gmN 3) (aDrop (aExt (aVar 1) (aCall A [] (aCons (aVar 3) (aNil)))))) (aNext))))
  (aFrz 1 (aRet (aVar 1))))

def a_is_procedure : ATS :=
  aSeq (aIfS (aOr (aNot (aB (aCB wIsi (aCons (aVar 0) (aCons (aC (.ty "tuple")) (aNil)))))) (aOr (aB (aOp wNe (aCB wLen (aCons (aVar 0) (aNil))) (aC (.int 3)))) (aOr (aNot (aB (aCall A_is_name [] (aCons (aOp wIx (aVar 0) (aC (.int 0))) (aNil))))) (aNot (aB (aCB wIsi (aCons (aOp wIx (aVar 0) (aC (.int 1))) (aCons (aC (.ty "tuple")) (aNil))))))))) (aRet (aC (.bl false))) (aNext))
  (aSeq (aAsg (aOp wIx (aVar 0) (aC (.int 1))) (gmN 1))
  (aSeq (aIfS (aOr (aB (aOp wGt (aCB wLen (aCons (aVar 1) (aNil))) (aC (.int 3)))) (aOr (aNot (aB (aCB wAll (aCons (aLc (aItems (aVar 1)) (gmN 3) (aYes) (aCall A_is_own [] (aCons (aVar 3) (aNil))) [3]) (aNil))))) (aB (aOp wNe (aLenSet (aVar 1)) (aCB wLen (aCons (aVar 1) (aNil))))))) (aRet (aC (.bl false))) (aNext))
  (aSeq (aIfS (aNot (aB (aCall (A_is_block 6) [] (aCons (aOp wIx (aVar 0) (aC (.int 2))) (aCons (aC (.int 1)) (aCons (aC (.bl false)) (aNil))))))) (aRet (aC (.bl false))) (aNext))
  (aSeq (aAsg (aCall (A_lines_of 6) [] (aCons (aOp wIx (aVar 0) (aC (.int 2))) (aNil))) (gmN 2))
  (aRet (aAndV (aOp wLe (aCB wLen (aCons (aVar 2) (aNil))) (aC (.int 40))) (aOp wLe (aCB wLen (aCons (aLc (aItems (aVar 2)) (gmN 3) (aB (aOp wEq (aOp wIx (aVar 3) (aC (.int 0))) (aC (.str "call")))) (aVar 3) [3]) (aNil))) (aC (.int 6)))))))))

theorem len_lines_of (n : Nat) : ∀ ds P, A_lines_of n ds P → ds.length = 1 := by rintro ds P ⟨b, rfl, _⟩; rfl
theorem len_is_procedure : ∀ ds P, A_is_procedure ds P → ds.length = 1 := by rintro ds P ⟨v, rfl, _⟩; rfl
theorem zero_lines_of : ∀ ds P, ¬ A_lines_of 0 ds P := by
  rintro ds P ⟨b, _, h, _⟩
  omega
/-- a statement that may stand: its word, its blocks -/
theorem st_word {n : Nat} {w : Bool} {s : D} (h : stB (blkB n) w s = true) : ∃ k rest, s = .tup (.str k :: rest) ∧ ∀ e ∈ innerD s, ∃ c, e = .tup c ∧ (c = [] ∨ ∃ w', blkB n w' (.tup c) = true) := by
  have tb : ∀ {w : Bool} {b : D}, blkB n w b = true → ∃ c, b = .tup c ∧ (c = [] ∨ ∃ w', blkB n w' (.tup c) = true) := fun {w b} h => by
    cases n with
    | zero => cases h
    | succ n =>
      cases b with
      | tup c => exact ⟨c, rfl, .inr ⟨w, h⟩⟩
      | _ => cases h
  cases s with
  | tup xs =>
    cases xs with
    | nil => cases h
    | cons a rest =>
      cases a with
      | str k =>
        refine ⟨k, rest, rfl, fun e he => ?_⟩
        rw [stB_str] at h
        by_cases k1 : k = "break"
        · subst k1; simp [innerD] at he
        rw [if_neg k1] at h
        by_cases k2 : k = "set"
        · subst k2; simp [innerD] at he
        rw [if_neg k2] at h
        by_cases k3 : k = "print" ∨ k = "return"
        · rcases k3 with k3 | k3 <;> (subst k3; simp [innerD] at he)
        rw [if_neg k3] at h
        by_cases k4 : k = "call"
        · subst k4; simp [innerD] at he
        rw [if_neg k4] at h
        by_cases k5 : k = "if"
        · rw [if_pos k5] at h
          subst k5
          match rest, h, he with
          | [x, b, e2], h, he =>
            simp [innerD] at he
            simp at h
            rcases he with rfl | rfl
            · exact tb h.1.2
            · rcases h.2 with h2 | h2
              · cases e with
                | tup c => cases c with
                  | nil => exact ⟨[], rfl, .inl rfl⟩
                  | cons _ _ => cases h2
                | _ => cases h2
              · exact tb h2
          | [], h, he => cases h
          | [_], h, he => cases h
          | [_, _], h, he => cases h
          | _ :: _ :: _ :: _ :: _, h, he => cases h
        rw [if_neg k5] at h
        by_cases k6 : k = "while"
        · rw [if_pos k6] at h
          subst k6
          match rest, h, he with
          | [x, b], h, he =>
            simp [innerD] at he
            simp at h
            subst he
            exact tb h.2
          | [], h, he => cases h
          | [_], h, he => cases h
          | _ :: _ :: _ :: _, h, he => cases h
        · rw [if_neg k6] at h
          cases h
      | _ => cases h
  | _ => cases h
theorem cut2 {a b : D} {r : List D} : cutD (a :: b :: r) (some 2) none = r := by
  unfold cutD
  have h1 : HT.sIx (a :: b :: r).length 0 (some 2) = 2 := by
    rw [show (2 : Int) = ((2 : Nat) : Int) from rfl, HT.sIx_nat]
    simp
  have h2 : HT.sIx (a :: b :: r).length (a :: b :: r).length none = (a :: b :: r).length := rfl
  rw [h1, h2]
  simp
theorem cut1 {a : D} : cutD [a] (some 2) none = [] := by
  unfold cutD
  have h1 : HT.sIx [a].length 0 (some 2) = 1 := by
    rw [show (2 : Int) = ((2 : Nat) : Int) from rfl, HT.sIx_nat]
    simp
  rw [h1]
  simp
theorem cut_drop {a : D} {rest : List D} : cutD (a :: rest) (some 2) none = rest.drop 1 := by
  cases rest with
  | nil => rw [cut1]; rfl
  | cons b r => rw [cut2]; rfl
theorem flat_take_le {f : D → List D} {b : List D} {i : Nat} {s : D} (h : b[i]? = some s) : ((b.take i).flatMap f).length + (f s).length ≤ (b.flatMap f).length := by
  have e := List.take_append_drop (i + 1) b
  rw [List.take_add_one, h] at e
  have : (b.flatMap f).length = (((b.take i ++ [s]) ++ b.drop (i + 1)).flatMap f).length := by
    congr 2
    exact e.symm
  rw [this, List.flatMap_append, List.flatMap_append, List.length_append, List.length_append]
  simp
theorem flat_take {f : D → List D} {b : List D} {i : Nat} {s : D} (h : b[i]? = some s) : (b.take (i + 1)).flatMap f = (b.take i).flatMap f ++ f s := by
  rw [List.take_add_one, h, List.flatMap_append]
  simp
theorem pure_lines_of (n : Nat) : ∀ ds P, A_lines_of (n + 1) ds P → a_lines_of (A_lines_of n) { nx := fun _ _ => P .non, rt := fun d _ => P d } (startG 4 ds) [] := by
  rintro ds P ⟨b, rfl, _, hb, hl, hP⟩
  rw [Nat.add_sub_cancel] at hb
  have hst : ∀ s ∈ b, ∃ m w, n = m + 1 ∧ stB (blkB m) w s = true := fun s hs => by
    rcases hb with rfl | ⟨w, hb⟩
    · cases hs
    · cases n with
      | zero => cases hb
      | succ m =>
        have : (!b.isEmpty && b.all (stB (blkB m) w)) = true := hb
        simp at this
        exact ⟨m, w, rfl, this.2 s hs⟩
  simp only [a_lines_of, aSeq, aAsg, aNew, aNil, gmN, startG_1, List.replicate, List.set_cons_succ, List.set_cons_zero, aFor, aItems, aVar, List.getElem?_cons_zero, List.getElem?_cons_succ, itemsD]
  refine ⟨by simp, fun p _ => ?_⟩
  refine ⟨fun i Γ cs => ∃ g2 g3, Γ = [some (.tup b), some (.adr p), g2, g3] ∧ cs = [(p, .lst ((b.take i).flatMap fun s => s :: (innerD s).flatMap fun e => linesD n (tupL e)))], ⟨none, none, rfl, by simp⟩, ?_, ?_⟩
  · rintro i s Γ cs hi ⟨g2, g3, rfl, rfl⟩
    obtain ⟨m, w, hnm, hs⟩ := hst s (List.mem_of_getElem? hi)
    have hle := flat_take_le (f := fun s => s :: (innerD s).flatMap fun e => linesD n (tupL e)) hi
    have htake := flat_take (f := fun s => s :: (innerD s).flatMap fun e => linesD n (tupL e)) hi
    have hL : (linesD (n + 1) b).length = (b.flatMap fun s => s :: (innerD s).flatMap fun e => linesD n (tupL e)).length := rfl
    rw [hL] at hl
    generalize ((b.take i).flatMap fun s => s :: (innerD s).flatMap fun e => linesD n (tupL e)) = acc at hle htake ⊢
    rw [List.length_cons] at hle
    obtain ⟨k, rest, rfl, hin⟩ := st_word hs
    simp only [gmN, aSeq, aDrop, aApp, aVar, List.set_cons_succ, List.set_cons_zero, List.getElem?_cons_zero, List.getElem?_cons_succ, look_here, cset_here]
    refine ⟨by omega, ?_⟩
    simp only [aIfS, aB, aOp, aVar, aC, wIx, aTup, aCons, aNil, wIn, memD, at0, List.getElem?_cons_zero, List.getElem?_cons_succ]
    refine ⟨by simp, ?_⟩
    refine ⟨by simp [flD], ?_⟩
    by_cases hk : k = "if" ∨ k = "while"
    · have hc : ([D.str "if", D.str "while"].any fun z => eqD z (.str k)) = true := by
        rcases hk with e | e <;> simp [e]
      have hinn : innerD (.tup (.str k :: rest)) = rest.drop 1 := by simp [innerD, hk]
      rw [hinn] at hin hle htake
      simp only [hc, if_true, aFor, aItems, aSl, aVar, aPart, aC, aNoPart, wSl, List.getElem?_cons_zero, List.getElem?_cons_succ, cut_drop, itemsD]
      refine ⟨fun j Γ cs => ∃ g3, Γ = [some (.tup b), some (.adr p), some (.tup (.str k :: rest)), g3] ∧ cs = [(p, .lst (acc ++ [.tup (.str k :: rest)] ++ ((rest.drop 1).take j).flatMap fun e => linesD n (tupL e)))], ⟨g3, rfl, by simp⟩, ?_, ?_⟩
      · rintro j e Γ cs hj ⟨g3, rfl, rfl⟩
        obtain ⟨c, rfl, hc2⟩ := hin e (List.mem_of_getElem? hj)
        have hle2 := flat_take_le (f := fun e => linesD n (tupL e)) hj
        have htake2 := flat_take (f := fun e => linesD n (tupL e)) hj
        generalize (((rest.drop 1).take j).flatMap fun e => linesD n (tupL e)) = acc2 at hle2 htake2 ⊢
        simp only [gmN, aDrop, aExt, aVar, aCall, aCons, aNil, List.set_cons_succ, List.set_cons_zero, List.getElem?_cons_zero, List.getElem?_cons_succ, look_here, cset_here, List.append_nil]
        have hln : (linesD n c).length ≤ 100000 := by
          have : (linesD n (tupL (.tup c))).length ≤ 100000 := by omega
          exact this
        refine ⟨c, rfl, by omega, ?_, hln, ?_⟩
        · rw [hnm, Nat.add_sub_cancel]
          exact hc2
        · have h3 : (linesD n (tupL (.tup c))).length = (linesD n c).length := rfl
          refine ⟨by simp; omega, _, rfl, by rw [htake2]; simp [tupL]⟩
      · rintro Γ cs ⟨g3, rfl, rfl⟩
        exact ⟨_, _, rfl, by rw [htake, List.take_length]; simp⟩
    · have hc : ([D.str "if", D.str "while"].any fun z => eqD z (.str k)) = false := by
        have h1 : ¬ (Str.ofString "if" = k) := fun e => hk (.inl e.symm)
        have h2 : ¬ (Str.ofString "while" = k) := fun e => hk (.inr e.symm)
        simp [h1, h2]
      have hinn : innerD (.tup (.str k :: rest)) = [] := by simp [innerD, hk]
      rw [hinn] at htake
      simp only [hc, Bool.false_eq_true, if_false, aNext]
      exact ⟨_, _, rfl, by rw [htake]; simp⟩
  · rintro Γ cs ⟨g2, g3, rfl, rfl⟩
    simp only [aFrz, aRet, aVar, List.getElem?_cons_zero, List.getElem?_cons_succ, look_here, cdel_here, List.set_cons_succ, List.set_cons_zero]
    rw [List.take_length]
    exact hP
end Bd
namespace Bd
open PySem L2
theorem strs_of_own {ps : List D} (h : ps.all ownM = true) : ∃ xs : List Str, ps = xs.map .str ∧ strsOf ps = some xs := by
  have : ∃ xs : List Str, ps = xs.map .str := by
    induction ps with
    | nil => exact ⟨[], rfl⟩
    | cons p ps ih =>
      rw [List.all_cons, Bool.and_eq_true] at h
      obtain ⟨xs, rfl⟩ := ih h.2
      cases p with
      | str z => exact ⟨z :: xs, rfl⟩
      | _ => exact absurd h.1 (by simp [ownM, wordD])
  obtain ⟨xs, rfl⟩ := this
  exact ⟨xs, rfl, strsOf_map xs⟩
theorem lines_word {m : Nat} : ∀ (n : Nat) {b : List D}, (b = [] ∨ ∃ w, blkB n w (.tup b) = true) → ∀ s ∈ linesD m b, ∃ k rest, s = .tup (.str k :: rest) := by
  induction m with
  | zero => intro n b _ s hs; cases hs
  | succ m ih =>
    intro n b hb s hs
    obtain ⟨s0, h0, hs⟩ := List.mem_flatMap.mp hs
    rcases hb with rfl | ⟨w, hb⟩
    · cases h0
    · cases n with
      | zero => cases hb
      | succ n =>
        have : (!b.isEmpty && b.all (stB (blkB n) w)) = true := hb
        simp at this
        obtain ⟨k, rest, rfl, hin⟩ := st_word (this.2 s0 h0)
        rcases List.mem_cons.mp hs with e | hs
        · exact ⟨k, rest, e⟩
        · obtain ⟨e, he, hs⟩ := List.mem_flatMap.mp hs
          obtain ⟨c, rfl, hc⟩ := hin e he
          exact ih n hc s hs
theorem pure_is_procedure : ∀ ds P, A_is_procedure ds P → a_is_procedure { nx := fun _ _ => P .non, rt := fun d _ => P d } (startG 4 ds) [] := by
  rintro ds P ⟨v, rfl, hv, hl, hP⟩
  have ht := gd_tyd hv
  cases v with
  | tup xs =>
    match xs, hv, ht, hl, hP with
    | [], hv, ht, hl, hP => simpa [a_is_procedure, isD, okTy, tyN, procB] using hP
    | [_], hv, ht, hl, hP => simpa [a_is_procedure, isD, okTy, tyN, procB] using hP
    | [_, _], hv, ht, hl, hP => simpa [a_is_procedure, isD, okTy, tyN, procB] using hP
    | _ :: _ :: _ :: _ :: r, hv, ht, hl, hP =>
      have : ¬ ((r.length : Int) + 1 + 1 + 1 + 1 = 3) := by omega
      simpa [a_is_procedure, isD, okTy, tyN, procB, this] using hP
    | [nm, q, b], hv, ht, hl, hP =>
      have hm := (gd_tup.mp hv).2
      have h1 := gd_tyd (hm nm (by simp))
      have h2 := gd_tyd (hm q (by simp))
      have hb := gd_mono (hm b (by simp))
      have hl : (linesD 6 (tupL b)).length ≤ 100000 := hl
      have no : ∀ q : D, isD "tuple" q = false → procB (.tup [nm, q, b]) = false := by
        intro q h
        cases q <;> first | rfl | (simp [isD] at h)
      have nt : nmB nm = false → procB (.tup [nm, q, b]) = false := by
        intro h
        cases q <;> first
          | rfl
          | simp [procB, h]
      have w0 : okTy "tuple" = true := by decide
      have w1 : (tyN (D.tup [nm, q, b])).isSome = true := rfl
      have w2 : isD "tuple" (D.tup [nm, q, b]) = true := by simp [isD]
      simp [a_is_procedure, wIx, h1, h2, w0, w1, w2]
      cases c1 : nmB nm with
      | false => simpa [nt c1] using hP
      | true =>
        simp
        refine ⟨tyd_ty h2, ?_⟩
        cases c2 : isD "tuple" q with
        | false => simpa [no q c2] using hP
        | true =>
          simp
          cases q with
          | tup ps =>
            have h2' : ps.length ≤ 1000000 ∧ tydA ps = true := by simpa [tyd] using h2
            simp
            by_cases c3 : (3 : Int) < ps.length
            · have c3' : ¬ ps.length ≤ 3 := by omega
              simpa [c3, procB, c3'] using hP
            · have c3' : ps.length ≤ 3 := by omega
              simp [c3]
              simp only [aLc, aItems, aVar, List.getElem?_cons_zero, List.getElem?_cons_succ, itemsD]
              refine ⟨h2'.1, goA_map (fun d => .bl (ownM d)) (fun d hd acc kk hk => ?_) ?_⟩
              · simp [lcB, wipeG]
                exact ⟨tyd_mem h2'.2 hd, hk⟩
              · simp only [List.nil_append, blsOf_map]
                cases c4 : ps.all ownM with
                | false =>
                  have : false ∈ ps.map ownM := by
                    obtain ⟨x, hx, e⟩ := List.all_eq_false.mp c4
                    exact List.mem_map.mpr ⟨x, hx, by simpa using e⟩
                  rw [if_pos this]
                  simpa [procB, c1, c4] using hP
                | true =>
                  have : false ∉ ps.map ownM := fun m => by
                    obtain ⟨x, hx, e⟩ := List.mem_map.mp m
                    have := List.all_eq_true.mp c4 x hx
                    rw [e] at this
                    cases this
                  obtain ⟨xs, rfl, e⟩ := strs_of_own c4
                  rw [if_neg this]
                  simp only [strsOf_map]
                  refine ⟨by simp at c3'; omega, ?_⟩
                  by_cases c5 : xs.Nodup
                  · have c5' : ((dd xs).length : Int) = (xs.length : Int) := by rw [dd_nodup.mpr c5]
                    simp only [List.length_map, c5', if_true]
                    refine ⟨b, 1, false, rfl, hb, by omega, by omega, by omega, ?_⟩
                    simp
                    cases c6 : blkB 5 false b with
                    | false => simpa [procB, c1, c4, c6] using hP
                    | true =>
                      simp
                      cases b with
                      | tup bs =>
                        refine ⟨bs, rfl, by omega, .inr ⟨false, c6⟩, hl, ?_⟩
                        simp
                        have hl' : (linesD 6 bs).length ≤ 100000 := hl
                        have nodT : nodB (xs.map D.str) = true := by simp [nodB, strsOf_map, c5]
                        by_cases c7 : (linesD 6 bs).length ≤ 40
                        · have c7' : ((linesD 6 bs).length : Int) ≤ 40 := by omega
                          simp only [c7', decide_true, if_true]
                          refine ⟨by omega, goA_filter isCall (fun s hs acc kk hk => ?_) ?_⟩
                          · obtain ⟨k, rest, rfl⟩ := lines_word 5 (.inr ⟨false, c6⟩) s hs
                            simp [lcB, wipeG, wIx]
                            by_cases ck : k = "call"
                            · simpa [ck, isCall] using hk
                            · simpa [ck, isCall] using hk
                          · simp only [List.nil_append]
                            have e : procB (.tup [nm, .tup (xs.map D.str), .tup bs]) = decide (((linesD 6 bs).filter isCall).length ≤ 6) := by
                              have hxl : xs.length ≤ 3 := by simpa using c3'
                              have c4x : (xs.map D.str).all ownM = true := c4
                              simp only [procB, c1, c4x, nodT, c6, tupL, List.length_map, hxl, c7, decide_true, Bool.true_and]
                              rfl
                            rw [e] at hP
                            by_cases c8 : ((linesD 6 bs).filter isCall).length ≤ 6
                            · have c8' : (((linesD 6 bs).filter isCall).length : Int) ≤ 6 := by omega
                              simpa [c8, c8'] using hP
                            · have c8' : ¬ (((linesD 6 bs).filter isCall).length : Int) ≤ 6 := by omega
                              simpa [c8, c8'] using hP
                        · have c7' : ¬ ((linesD 6 bs).length : Int) ≤ 40 := by omega
                          simp only [c7', decide_false, Bool.false_eq_true, if_false]
                          have : procB (.tup [nm, .tup (xs.map D.str), .tup bs]) = false := by simp [procB, c7, tupL]
                          rw [this] at hP
                          exact hP
                      | _ => cases c6
                  · have c5' : ¬ ((dd xs).length : Int) = (xs.length : Int) := fun e => c5 (dd_nodup.mp (by omega))
                    simp only [List.length_map, c5', if_false]
                    have : procB (.tup [nm, .tup (xs.map D.str), b]) = false := by simp [procB, nodB, strsOf_map, c5]
                    rw [this] at hP
                    exact hP
          | _ => first | (simp [isD] at c2; done) | cases c2
  | _ => first
    | (simpa [a_is_procedure, isD, okTy, tyN, procB] using hP)
    | cases ht
end Bd
namespace Bd
open PySem L2
/-! ### what was drawn may stand -/
theorem gd_lit {n : Nat} {z : Str} (h : (decide (z.length ≤ 1000000) && PyData.strOk z) = true) : gdD n (.str z) = true := gd_str.mpr (by simpa using h)
theorem fits_gd : ∀ (n : Nat) {v : D}, fitsM n v = true → gdD n v = true
  | 0, v, h => by cases h
  | n + 1, v, h => by
    rcases fits_cases h with ⟨i, rfl, i0, i1⟩ | ⟨z, rfl, hz⟩ | ⟨x, rfl, hx⟩ | ⟨s, x, y, rfl, hs, hx, hy⟩
    · refine gd_tup.mpr ⟨by simp, fun d hd => ?_⟩
      simp at hd
      rcases hd with rfl | rfl
      · exact gd_lit (by decide +kernel)
      · exact gd_int
    · obtain ⟨z', e, hz2, ok⟩ := name_str (fits_name h)
      cases e
      refine gd_tup.mpr ⟨by simp, fun d hd => ?_⟩
      simp at hd
      rcases hd with rfl | rfl
      · exact gd_lit (by decide +kernel)
      · exact gd_str.mpr ⟨by omega, ok⟩
    · have := fits_gd n hx
      refine gd_tup.mpr ⟨by simp, fun d hd => ?_⟩
      simp at hd
      rcases hd with rfl | rfl
      · exact gd_lit (by decide +kernel)
      · exact this
    · have h1 := fits_gd n hx
      have h2 := fits_gd n hy
      have h3 := sg_len hs
      refine gd_tup.mpr ⟨by simp, fun d hd => ?_⟩
      simp at hd
      rcases hd with rfl | rfl | rfl | rfl
      · exact gd_lit (by decide +kernel)
      · exact gd_str.mpr ⟨by omega, sg_ok hs⟩
      · exact h1
      · exact h2
theorem ex_gd {k : Nat} {x : D} (h : exM x) (hk : 6 ≤ k) : gdD k x = true := gd_le (fits_gd 6 h.1) hk
theorem tg_gd {k : Nat} {t : D} (h : tgM t) : gdD k t = true := by
  obtain ⟨z, rfl, hz, ok⟩ := name_str h.1
  exact gd_str.mpr ⟨by omega, ok⟩
theorem wt_gd {k : Nat} {v : D} (h : wtM v) (hk : 1 ≤ k) : gdD k v = true := by
  obtain ⟨a, b, rfl, _⟩ := h
  refine gd_le (n := 1) (gd_tup.mpr ⟨by simp, fun d hd => ?_⟩) hk
  simp at hd
  rcases hd with rfl | rfl <;> exact gd_int
theorem wt_B {v : D} (h : wtM v) : wtB v = true := by
  obtain ⟨a, b, rfl, h1, h2, h3, h4, h5⟩ := h
  simp [wtB, h1, h2, h3, h4, h5]
theorem fnm_B {f : Str} (h : fnm f) : nmB (.str f) = true := own_low h.1 h.2.1 h.2.2.1 h.2.2.2
theorem fnm_gd {k : Nat} {f : Str} (h : fnm f) : gdD k (.str f) = true := gd_str.mpr ⟨by have := h.2.2.1; omega, low_ok h.1⟩
theorem Bk.len : ∀ {n : Nat} {w : Bool} {l c : Nat} {b : List D}, Bk n w l c b → b.length ≤ l ∧ 1 ≤ l
  | _, _, _, _, _, .one h => by
    have := St.rows h 0
    simp
    omega
  | _, _, _, _, _, .cons h t => by
    have h1 := St.rows h 0
    have h2 := Bk.len t
    simp
    omega
mutual
theorem St.gd : ∀ {n : Nat} {w : Bool} {l c : Nat} {s : D}, St n w l c s → l ≤ 1000000 → gdD (2 * n + 8) s = true
  | _, _, _, _, _, .brk (n := n), _ => gd_le (n := 1) (gd_tup.mpr ⟨by simp, fun d hd => by
      simp at hd; subst hd; exact gd_lit (by decide +kernel)⟩) (by omega)
  | _, _, _, _, _, .set (n := n) ht hx, _ => gd_le (n := 7) (gd_tup.mpr ⟨by simp, fun d hd => by
      simp at hd
      rcases hd with rfl | rfl | rfl
      · exact gd_lit (by decide +kernel)
      · exact tg_gd ht
      · exact ex_gd hx (by omega)⟩) (by omega)
  | _, _, _, _, _, .prt (n := n) hx, _ => gd_le (n := 7) (gd_tup.mpr ⟨by simp, fun d hd => by
      simp at hd
      rcases hd with rfl | rfl
      · exact gd_lit (by decide +kernel)
      · exact ex_gd hx (by omega)⟩) (by omega)
  | _, _, _, _, _, .ret (n := n) hx, _ => gd_le (n := 7) (gd_tup.mpr ⟨by simp, fun d hd => by
      simp at hd
      rcases hd with rfl | rfl
      · exact gd_lit (by decide +kernel)
      · exact ex_gd hx (by omega)⟩) (by omega)
  | _, _, _, _, _, .call (n := n) ht hf hl hx hv, _ => gd_le (n := 8) (gd_tup.mpr ⟨by simp, fun d hd => by
      simp at hd
      rcases hd with rfl | rfl | rfl | rfl | rfl
      · exact gd_lit (by decide +kernel)
      · exact tg_gd ht
      · exact fnm_gd hf
      · exact gd_tup.mpr ⟨by omega, fun d hd => ex_gd (hx d hd) (by omega)⟩
      · exact wt_gd hv (by omega)⟩) (by omega)
  | _, _, _, _, _, .whl (n := n) hx hb, hl => by
    have h := Bk.gd hb (by omega)
    have h2 := hb.len
    refine gd_le (n := 2 * n + 10) (gd_tup.mpr ⟨by simp, fun d hd => ?_⟩) (by omega)
    simp at hd
    rcases hd with rfl | rfl | rfl
    · exact gd_lit (by decide +kernel)
    · exact ex_gd hx (by omega)
    · exact gd_tup.mpr ⟨by omega, h⟩
  | _, _, _, _, _, .ite (n := n) hx hb, hl => by
    have h := Bk.gd hb (by omega)
    have h2 := hb.len
    refine gd_le (n := 2 * n + 10) (gd_tup.mpr ⟨by simp, fun d hd => ?_⟩) (by omega)
    simp at hd
    rcases hd with rfl | rfl | rfl | rfl
    · exact gd_lit (by decide +kernel)
    · exact ex_gd hx (by omega)
    · exact gd_tup.mpr ⟨by omega, h⟩
    · exact gd_tup.mpr ⟨by simp, fun d hd => by cases hd⟩
  | _, _, _, _, _, .ite2 (n := n) hx hb he, hl => by
    have h := Bk.gd hb (by omega)
    have h2 := hb.len
    have h3 := Bk.gd he (by omega)
    have h4 := he.len
    refine gd_le (n := 2 * n + 10) (gd_tup.mpr ⟨by simp, fun d hd => ?_⟩) (by omega)
    simp at hd
    rcases hd with rfl | rfl | rfl | rfl
    · exact gd_lit (by decide +kernel)
    · exact ex_gd hx (by omega)
    · exact gd_tup.mpr ⟨by omega, h⟩
    · exact gd_tup.mpr ⟨by omega, h3⟩
theorem Bk.gd : ∀ {n : Nat} {w : Bool} {l c : Nat} {b : List D}, Bk n w l c b → l ≤ 1000000 → ∀ d ∈ b, gdD (2 * n + 8) d = true
  | _, _, _, _, _, .one h, hl, d, hd => by
    rw [List.mem_singleton.mp hd]
    exact St.gd h hl
  | _, _, _, _, _, .cons h t, hl, d, hd => by
    rcases List.mem_cons.mp hd with e | hd
    · rw [e]; exact St.gd h (by omega)
    · exact Bk.gd t (by omega) d hd
end
mutual
theorem St.B : ∀ {n : Nat} {w : Bool} {l c : Nat} {s : D}, St n w l c s → stB (blkB (n - 1)) w s = true
  | _, _, _, _, _, .brk (n := n) => by simp [stB]
  | _, _, _, _, _, .set (n := n) ht hx => by simp [stB, ht.1, hx.1]
  | _, _, _, _, _, .prt (n := n) hx => by simp [stB, oneB, hx.1]
  | _, _, _, _, _, .ret (n := n) hx => by simp [stB, oneB, hx.1]
  | _, _, _, _, _, .call (n := n) ht hf hl hx hv => by
    simp [stB, callB, ht.1, fnm_B hf, hl, wt_B hv]
    exact fun x hm => (hx x hm).1
  | _, _, _, _, _, .whl (n := n) hx hb => by
    have := Bk.B hb
    simp [stB, hx.1, this]
  | _, _, _, _, _, .ite (n := n) hx hb => by
    have := Bk.B hb
    simp [stB, hx.1, this, empB]
  | _, _, _, _, _, .ite2 (n := n) hx hb he => by
    have h1 := Bk.B hb
    have h2 := Bk.B he
    simp [stB, hx.1, h1, h2]
theorem Bk.B : ∀ {n : Nat} {w : Bool} {l c : Nat} {b : List D}, Bk n w l c b → blkB n w (.tup b) = true
  | 0, _, _, _, _, h => (no_Bk h).elim
  | n + 1, _, _, _, _, .one h => by
    have := St.B h
    simp at this
    simp [blkB, this]
  | n + 1, _, _, _, _, .cons h t => by
    have h1 := St.B h
    have h2 := Bk.B t
    simp at h1
    simp [blkB] at h2
    simp [blkB, h1]
    exact h2.2
end
mutual
theorem St.lines : ∀ {n : Nat} {w : Bool} {l c : Nat} {s : D}, St n w l c s → ∀ m, n ≤ m → (linesD m [s]).length = l ∧ ((linesD m [s]).filter isCall).length = c
  | _, _, _, _, _, .brk (n := n), m + 1, _ => by simp [linesD, innerD, isCall]
  | _, _, _, _, _, .set (n := n) ht hx, m + 1, _ => by simp [linesD, innerD, isCall]
  | _, _, _, _, _, .prt (n := n) hx, m + 1, _ => by simp [linesD, innerD, isCall]
  | _, _, _, _, _, .ret (n := n) hx, m + 1, _ => by simp [linesD, innerD, isCall]
  | _, _, _, _, _, .call (n := n) ht hf hl hx hv, m + 1, _ => by simp [linesD, innerD, isCall]
  | _, _, _, _, _, .whl (n := n) hx hb, m + 1, h => by
    have := Bk.lines hb m (by omega)
    simp [linesD, innerD, isCall, tupL]
    simp [this]
  | _, _, _, _, _, .ite (n := n) hx hb, m + 1, h => by
    have := Bk.lines hb m (by omega)
    have e : linesD m [] = [] := by cases m <;> rfl
    simp [linesD, innerD, isCall, tupL, e]
    simp [this]
  | _, _, _, _, _, .ite2 (n := n) hx hb he, m + 1, h => by
    have h1 := Bk.lines hb m (by omega)
    have h2 := Bk.lines he m (by omega)
    simp [linesD, innerD, isCall, tupL]
    simp [h1, h2]
theorem Bk.lines : ∀ {n : Nat} {w : Bool} {l c : Nat} {b : List D}, Bk n w l c b → ∀ m, n ≤ m → (linesD m b).length = l ∧ ((linesD m b).filter isCall).length = c
  | _, _, _, _, _, .one h, m, hm => St.lines h m hm
  | 0, _, _, _, _, .cons h t, _, _ => (no_St h).elim
  | n + 1, _, _, _, _, .cons (s := s) (b := b) h t, m + 1, hm => by
    have h1 := St.lines h (m + 1) hm
    have h2 := Bk.lines t (m + 1) hm
    have e : linesD (m + 1) (s :: b) = linesD (m + 1) [s] ++ linesD (m + 1) b := by
      show List.flatMap _ _ = List.flatMap _ _ ++ List.flatMap _ _
      simp
    rw [e, List.filter_append, List.length_append, List.length_append]
    omega
end
theorem PrOk.gd {nm : Str} {ps : List Str} {b : List D} {l c : Nat} (h : PrOk nm ps b l c) : gdD 50 (prD nm ps b) = true := by
  have h1 := h.bk.gd (by have := h.lc; omega)
  have h2 := h.bk.len
  have h3 := h.lc
  have h4 := h.len
  refine gd_le (n := 20) (gd_tup.mpr ⟨by simp, fun d hd => ?_⟩) (by omega)
  simp at hd
  rcases hd with rfl | rfl | rfl
  · exact fnm_gd h.nm
  · refine gd_tup.mpr ⟨by simp; omega, fun d hd => ?_⟩
    obtain ⟨z, hz, rfl⟩ := List.mem_map.mp hd
    have := own_str (h.own z hz)
    have hn : nameM (.str z) = true := by simp [nameM, ownM, wordD, h.own z hz]
    obtain ⟨z', e, _, ok⟩ := name_str hn
    cases e
    exact gd_str.mpr ⟨by omega, ok⟩
  · exact gd_tup.mpr ⟨by omega, fun d hd => gd_le (h1 d hd) (by omega)⟩
theorem PrOk.B {nm : Str} {ps : List Str} {b : List D} {l c : Nat} (h : PrOk nm ps b l c) : procB (prD nm ps b) = true := by
  have h1 := h.bk.B
  have h2 := h.bk.lines 6 (by omega)
  have h3 := h.lc
  have h4 : (ps.map D.str).all ownM = true := by
    rw [List.all_eq_true]
    intro d hd
    obtain ⟨z, hz, rfl⟩ := List.mem_map.mp hd
    exact h.own z hz
  have h5 : nodB (ps.map D.str) = true := by simp [nodB, strsOf_map, h.nd]
  have h6 : (ps.map D.str).length ≤ 3 := by rw [List.length_map]; exact h.len
  simp only [prD, procB, fnm_B h.nm, h6, h4, h5, h1, tupL, h2.1, h2.2, h3.1, h3.2, decide_true, Bool.and_self]
end Bd
namespace Bd
open PySem L2
/-! ### the law's nests and odd lines -/
abbrev oneD : D := .tup [.str "num", .int 1]
abbrev prtD : D := .tup [.str "print", oneD]
abbrev callW (w : D) : D := .tup [.str "call", .str "x", .str "f", .tup [], w]
def nestD : Nat → D → D
  | 0, b => b
  | k + 1, b => if k % 2 = 0 then .tup [.tup [.str "while", oneD, nestD k b]] else .tup [.tup [.str "if", oneD, nestD k b, .tup []]]
def A_l_nest (ds : List D) (P : D → Prop) : Prop := ∃ (d : Nat) (b : D), ds = [.int d, b] ∧ 1 ≤ d ∧ d ≤ 100 ∧ P (nestD (d - 1) b)
abbrev wtsL : List D := [.tup [.int 2, .int 4], .tup [.int 1, .int 0], .tup [.int 1, .int 13], .tup [.int 100, .int 1], .tup [.int (-1), .int 2], .lst [.int 1, .int 2], .tup [.int 1], .tup [.bl true, .int 1], .tup [.int 1, .bl true], .int 1, .non, .tup [.int 0, .int 2]]
abbrev odd1 : List D := [.tup [.str "break"], .tup [.str "break", .int 1], .tup [.str "set", .str "x"], .tup [.str "set", .str "X1", oneD], .tup [.str "set", .str "if", oneD], .tup [.str "set", .str "abcde", oneD], .tup [.str "sat", .str "x", oneD]]
abbrev odd2 : List D := [.tup [.str "print"], .tup [.str "print", oneD, oneD], .lst [.str "print", oneD], .tup [.str "return", .tup [.str "num", .int (-1)]], .tup [.str "if", oneD, .tup [], .tup []], .tup [.str "if", oneD, .tup [prtD]]]
abbrev odd3 : List D := [.tup [.str "while", oneD, .tup []], .tup [.str "while", oneD, .lst [prtD]], .tup [.str "if", oneD, .tup [prtD], .non], .tup [], .non, .str "break"]
abbrev w12 : D := .tup [.int 1, .int 2]
abbrev odd4 : List D := [.tup [.str "call", .str "x", .str "f", .tup []], .tup [.str "call", .str "x", .str "f", .tup [], w12, .int 1], .tup [.str "call", .str "x", .str "f", .lst [], w12], .tup [.str "call", .str "x", .str "f", .tup [oneD, oneD, oneD, oneD], w12]]
abbrev odd5 : List D := [.tup [.str "call", .str "x", .str "abcdefg", .tup [], w12], .tup [.str "call", .str "x", .str "not", .tup [], w12], .tup [.str "call", .str "1", .str "f", .tup [], w12]]
abbrev oddL : List D := odd1 ++ odd2 ++ odd3 ++ wtsL.map callW ++ odd4 ++ odd5
abbrev brkD : D := .tup [.str "break"]
abbrev lastD : D := .tup [.str "if", oneD, .tup [brkD], .tup []]
def A_l_odd_lines (ds : List D) (P : D → Prop) : Prop := ds = [.hdl 0] ∧ ∀ y ∈ oddL, P (.lst [y, lastD])
def a_l_nest : ATS :=
  aSeq (aAsg (aVar 1) (gmN 2))
  (aSeq (aFor (aRng1 (aCons (aOp wSub (aVar 0) (aC (.int 1))) (aNil))) (gmN 3) (aAsg (aIf (aB (aOp wEq (aOp wMod (aVar 3) (aC (.int 2))) (aC (.int 0)))) (aTup (aCons (aTup (aCons (aC (.str "while")) (aCons (aTup (aCons (aC (.str "num")) (aCons (aC (.int 1)) (aNil)))) (aCons (aVar 2) (aNil))))) (aNil))) (aTup (aCons (aTup (aCons (aC (.str "if")) (aCons (aTup (aCons (aC (.str "num")) (aCons (aC (.int 1)) (aNil)))) (aCons (aVar 2) (aCons (aTup (aNil)) (aNil)))))) (aNil)))) (gmN 2)))
  (aRet (aVar 2)))

def a_l_odd_lines : ATS :=
  aSeq (aAsg (aTup (aCons (aTup (aCons (aC (.str "num")) (aCons (aC (.int 1)) (aNil)))) (aCons (aTup (aCons (aC (.str "call")) (aCons (aC (.str "x")) (aCons (aC (.str "f")) (aCons (aTup (aNil)) (aCons (aTup (aCons (aC (.int 1)) (aCons (aC (.int 2)) (aNil)))) (aNil))))))) (aNil)))) (gmT 2 (gmCons (gmN 1) (gmCons (gmN 2) (gmNil)))))
  (aSeq (aAsg (aNew (aCons (aTup (aCons (aC (.str "break")) (aNil))) (aCons (aTup (aCons (aC (.str "break")) (aCons (aC (.int 1)) (aNil)))) (aCons (aTup (aCons (aC (.str "set")) (aCons (aC (.str "x")) (aNil)))) (aCons (aTup (aCons (aC (.str "set")) (aCons (aC (.str "X1")) (aCons (aVar 1) (aNil))))) (aCons (aTup (aCons (aC (.str "set")) (aCons (aC (.str "if")) (aCons (aVar 1) (aNil))))) (aCons (aTup (aCons (aC (.str "set")) (aCons (aC (.str "abcde")) (aCons (aVar 1) (aNil))))) (aCons (aTup (aCons (aC (.str "sat")) (aCons (aC (.str "x")) (aCons (aVar 1) (aNil))))) (aNil))))))))) (gmN 3))
  (aSeq (aAsg (aCatN (aVar 3) (aLst (aCons (aTup (aCons (aC (.str "print")) (aNil))) (aCons (aTup (aCons (aC (.str "print")) (aCons (aVar 1) (aCons (aVar 1) (aNil))))) (aCons (aLst (aCons (aC (.str "print")) (aCons (aVar 1) (aNil)))) (aCons (aTup (aCons (aC (.str "return")) (aCons (aTup (aCons (aC (.str "num")) (aCons (aUn wNeg (aC (.int 1))) (aNil)))) (aNil)))) (aCons (aTup (aCons (aC (.str "if")) (aCons (aVar 1) (aCons (aTup (aNil)) (aCons (aTup (aNil)) (aNil)))))) (aCons (aTup (aCons (aC (.str "if")) (aCons (aVar 1) (aCons (aTup (aCons (aTup (aCons (aC (.str "print")) (aCons (aVar 1) (aNil)))) (aNil))) (aNil))))) (aNil))))))))) (gmN 3))
  (aSeq (aAsg (aCatN (aVar 3) (aLst (aCons (aTup (aCons (aC (.str "while")) (aCons (aVar 1) (aCons (aTup (aNil)) (aNil))))) (aCons (aTup (aCons (aC (.str "while")) (aCons (aVar 1) (aCons (aLst (aCons (aTup (aCons (aC (.str "print")) (aCons (aVar 1) (aNil)))) (aNil))) (aNil))))) (aCons (aTup (aCons (aC (.str "if")) (aCons (aVar 1) (aCons (aTup (aCons (aTup (aCons (aC (.str "print")) (aCons (aVar 1) (aNil)))) (aNil))) (aCons (aC .non) (aNil)))))) (aCons (aTup (aNil)) (aCons (aC .non) (aCons (aC (.str "break")) (aNil))))))))) (gmN 3))
  (aSeq (aFor (aItems (aLst (aCons (aTup (aCons (aC (.int 2)) (aCons (aC (.int 4)) (aNil)))) (aCons (aTup (aCons (aC (.int 1)) (aCons (aC (.int 0)) (aNil)))) (aCons (aTup (aCons (aC (.int 1)) (aCons (aC (.int 13)) (aNil)))) (aCons (aTup (aCons (aC (.int 100)) (aCons (aC (.int 1)) (aNil)))) (aCons (aTup (aCons (aUn wNeg (aC (.int 1))) (aCons (aC (.int 2)) (aNil)))) (aCons (aLst (aCons (aC (.int 1)) (aCons (aC (.int 2)) (aNil)))) (aCons (aTup (aCons (aC (.int 1)) (aNil))) (aCons (aTup (aCons (aC (.bl true)) (aCons (aC (.int 1)) (aNil)))) (aCons (aTup (aCons (aC (.int 1)) (aCons (aC (.bl true)) (aNil)))) (aCons (aC (.int 1)) (aCons (aC .non) (aCons (aTup (aCons (aC (.int 0)) (aCons (aC (.int 2)) (aNil)))) (aNil))))))))))))))) (gmN 4) (aDrop (aApp (aVar 3) (aOp wAdd (aSl (aVar 2) (aNoPart) (aPart (aC (.int 4)))) (aTup (aCons (aVar 4) (aNil)))))))
  (aSeq (aAsg (aCatN (aVar 3) (aLst (aCons (aSl (aVar 2) (aNoPart) (aPart (aC (.int 4)))) (aCons (aOp wAdd (aVar 2) (aTup (aCons (aC (.int 1)) (aNil)))) (aCons (aOp wAdd (aOp wAdd (aSl (aVar 2) (aNoPart) (aPart (aC (.int 3)))) (aTup (aCons (aLst (aNil)) (aNil)))) (aSl (aVar 2) (aPart (aC (.int 4))) (aNoPart))) (aCons (aOp wAdd (aOp wAdd (aSl (aVar 2) (aNoPart) (aPart (aC (.int 3)))) (aTup (aCons (aOp wMulX (aTup (aCons (aVar 1) (aNil))) (aC (.int 4))) (aNil)))) (aSl (aVar 2) (aPart (aC (.int 4))) (aNoPart))) (aNil))))))) (gmN 3))
  (aSeq (aAsg (aCatN (aVar 3) (aLst (aCons (aOp wAdd (aOp wAdd (aSl (aVar 2) (aNoPart) (aPart (aC (.int 2)))) (aTup (aCons (aC (.str "abcdefg")) (aNil)))) (aSl (aVar 2) (aPart (aC (.int 3))) (aNoPart))) (aCons (aOp wAdd (aOp wAdd (aSl (aVar 2) (aNoPart) (aPart (aC (.int 2)))) (aTup (aCons (aC (.str "not")) (aNil)))) (aSl (aVar 2) (aPart (aC (.int 3))) (aNoPart))) (aCons (aOp wAdd (aOp wAdd (aSl (aVar 2) (aNoPart) (aPart (aC (.int 1)))) (aTup (aCons (aC (.str "1")) (aNil)))) (aSl (aVar 2) (aPart (aC (.int 2))) (aNoPart))) (aNil)))))) (gmN 3))
  (aFrz 3 (aRet (aLst (aCons (aCall A_l_pick [] (aCons (aVar 0) (aCons (aVar 3) (aNil)))) (aCons (aTup (aCons (aC (.str "if")) (aCons (aVar 1) (aCons (aTup (aCons (aTup (aCons (aC (.str "break")) (aNil))) (aNil))) (aCons (aTup (aNil)) (aNil)))))) (aNil))))))))))))
theorem len_l_nest : ∀ ds P, A_l_nest ds P → ds.length = 2 := by rintro ds P ⟨d, b, rfl, _⟩; rfl
theorem len_l_odd_lines : ∀ ds P, A_l_odd_lines ds P → ds.length = 1 := by rintro ds P ⟨rfl, _⟩; rfl
theorem pure_l_nest : ∀ ds P, A_l_nest ds P → a_l_nest { nx := fun _ _ => P .non, rt := fun d _ => P d } (startG 4 ds) [] := by
  rintro ds P ⟨d, b, rfl, hd, hd2, hP⟩
  simp only [a_l_nest, aSeq, aAsg, aVar, gmN, startG_2, List.replicate, List.set_cons_succ, List.set_cons_zero, List.getElem?_cons_zero, List.getElem?_cons_succ, aFor, aRng1, aCons, aOp, aC, aNil, wSub, wInt0]
  refine ⟨⟨by omega, by omega⟩, fun i Γ cs => ∃ g3, Γ = [some (.int d), some b, some (nestD i b), g3], ⟨none, rfl⟩, ?_, ?_⟩
  · rintro i e Γ cs hi ⟨g3, rfl⟩
    have he : e = .int (i : Nat) := by
      rw [List.getElem?_map] at hi
      cases q : (List.range ((d : Int) - 1).toNat)[i]? with
      | none => rw [q] at hi; cases hi
      | some j =>
        rw [q] at hi
        obtain ⟨_, e2⟩ := List.getElem?_eq_some_iff.mp q
        rw [List.getElem_range] at e2
        cases hi
        rw [e2]
    subst he
    simp only [gmN, aAsg, aIf, aB, aOp, aVar, aC, aTup, aCons, aNil, List.set_cons_succ, List.set_cons_zero, List.getElem?_cons_zero, List.getElem?_cons_succ, wMod, wInt, wEq_ii]
    refine ⟨by decide, ?_⟩
    have hf : ((i : Int).fmod 2 = 0) ↔ i % 2 = 0 := by
      rw [Int.fmod_eq_emod_of_nonneg _ (by decide)]
      omega
    by_cases h : i % 2 = 0
    · rw [if_pos (decide_eq_true (hf.mpr h))]
      exact ⟨by simp, by simp, by simp, some (.int (i : Nat)), by simp [nestD, h]⟩
    · rw [if_neg (by rw [decide_eq_true_eq]; exact fun e => h (hf.mp e))]
      exact ⟨by simp, by simp, by simp, by simp, some (.int (i : Nat)), by simp [nestD, h]⟩
  · rintro Γ cs ⟨g3, rfl⟩
    simp only [aRet, aVar, List.getElem?_cons_zero, List.getElem?_cons_succ]
    have : ((List.range ((d : Int) - 1).toNat).map fun (i : Nat) => D.int (i : Int)).length = d - 1 := by
      rw [List.length_map, List.length_range]
      omega
    rw [this]
    exact hP
theorem cutA {a b c d e : D} : cutD [a, b, c, d, e] none (some 4) = [a, b, c, d] := rfl
theorem cutB {a b c d e : D} : cutD [a, b, c, d, e] none (some 3) = [a, b, c] := rfl
theorem cutC {a b c d e : D} : cutD [a, b, c, d, e] none (some 2) = [a, b] := rfl
theorem cutE {a b c d e : D} : cutD [a, b, c, d, e] none (some 1) = [a] := rfl
theorem cutF {a b c d e : D} : cutD [a, b, c, d, e] (some 4) none = [e] := rfl
theorem cutG {a b c d e : D} : cutD [a, b, c, d, e] (some 3) none = [d, e] := rfl
theorem cutH {a b c d e : D} : cutD [a, b, c, d, e] (some 2) none = [c, d, e] := rfl
theorem pure_l_odd_lines : ∀ ds P, A_l_odd_lines ds P → a_l_odd_lines { nx := fun _ _ => P .non, rt := fun d _ => P d } (startG 5 ds) [] := by
  rintro ds P ⟨rfl, hP⟩
  simp only [a_l_odd_lines, aSeq, aAsg, gmT, gmCons, gmN, gmNil, aCons, aTup, aC, aNil, startG_1, List.replicate, List.set_cons_succ, List.set_cons_zero, List.length_cons, List.length_nil]
  repeat (refine ⟨by first | omega | trivial, ?_⟩)
  simp only [aAsg, aNew, aCons, aTup, aC, aVar, aNil, gmN, List.set_cons_succ, List.set_cons_zero, List.getElem?_cons_zero, List.getElem?_cons_succ, List.length_cons, List.length_nil, look_here, cdel_here, cset_here]
  repeat (refine ⟨by first | omega | trivial, ?_⟩)
  intro p0 _
  simp only [aSeq, aAsg, aCatN, aLst, aCons, aTup, aC, aVar, aNil, aUn, wNeg, gmN, List.set_cons_succ, List.set_cons_zero, List.getElem?_cons_zero, List.getElem?_cons_succ, List.length_cons, List.length_nil, look_here, cdel_here, cset_here]
  repeat (refine ⟨by omega, ?_⟩)
  intro p1 _
  simp only [aSeq, aAsg, aCatN, aLst, aCons, aTup, aC, aVar, aNil, gmN, List.cons_append, List.nil_append, List.set_cons_succ, List.set_cons_zero, List.getElem?_cons_zero, List.getElem?_cons_succ, List.length_cons, List.length_nil, look_here, cdel_here, cset_here]
  repeat (refine ⟨by omega, ?_⟩)
  intro p2 _
  simp only [aSeq, aFor, aItems, aLst, aCons, aTup, aC, aVar, aNil, gmN, aUn, wNeg, itemsD, List.cons_append, List.nil_append, List.set_cons_succ, List.set_cons_zero, List.getElem?_cons_zero, List.getElem?_cons_succ, List.length_cons, List.length_nil, look_here, cdel_here, cset_here]
  repeat (refine ⟨by omega, ?_⟩)
  refine ⟨fun i Γ cs => ∃ g4, Γ = [some (.hdl 0), some oneD, some (callW w12), some (.adr p2), g4] ∧ cs = [(p2, .lst (odd1 ++ odd2 ++ odd3 ++ (wtsL.take i).map callW))], ⟨none, rfl, rfl⟩, ?_, ?_⟩
  · rintro i w Γ cs hi ⟨g4, rfl, rfl⟩
    have hi' : wtsL[i]? = some w := hi
    have hil : i < 12 := (List.getElem?_eq_some_iff.mp hi').1
    simp only [gmN, aDrop, aApp, aVar, aOp, aSl, aNoPart, aPart, aC, aTup, aCons, aNil, wSl, wAdd, cutA, List.set_cons_succ, List.set_cons_zero, List.getElem?_cons_zero, List.getElem?_cons_succ, List.length_cons, List.length_nil, look_here, cdel_here, cset_here]
    refine ⟨by omega, by omega, ?_, some w, rfl, ?_⟩
    · simp only [List.length_append, List.length_map, List.length_take, List.length_cons, List.length_nil]; omega
    · rw [List.take_add_one, hi', List.map_append, List.append_assoc]
      rfl
  · rintro Γ cs ⟨g4, rfl, hcs⟩
    have hcs2 : cs = [(p2, .lst (odd1 ++ odd2 ++ odd3 ++ wtsL.map callW))] := hcs
    clear hcs
    subst hcs2
    have hln : (odd1 ++ odd2 ++ odd3 ++ wtsL.map callW).length = 31 := rfl
    have hln2 : (odd1 ++ odd2 ++ odd3 ++ wtsL.map callW ++ odd4).length = 35 := rfl
    generalize hb : odd1 ++ odd2 ++ odd3 ++ wtsL.map callW = base at hln hln2
    have e4 : (4 : Int).toNat = 4 := rfl
    simp only [aSeq, aAsg, aCatN, aLst, aCons, aTup, aC, aVar, aNil, aOp, aSl, aNoPart, aPart, wSl, wAdd, wMulX, cutA, cutB, cutC, cutE, cutF, cutG, cutH, gmN, List.cons_append, List.nil_append, e4, List.set_cons_succ, List.set_cons_zero, List.getElem?_cons_zero, List.getElem?_cons_succ, List.length_cons, List.length_nil, look_here, cdel_here, cset_here, hln]
    repeat (refine ⟨by first | omega | exact ⟨by simp, by omega, by omega, by omega⟩, ?_⟩)
    intro p3 _
    have hrep : (List.replicate 4 [oneD]).flatten = [oneD, oneD, oneD, oneD] := rfl
    rw [hrep]
    simp only [aSeq, aAsg, aCatN, aLst, aCons, aTup, aC, aVar, aNil, aOp, aSl, aNoPart, aPart, wSl, wAdd, cutA, cutB, cutC, cutE, cutF, cutG, cutH, gmN, List.cons_append, List.nil_append, List.set_cons_succ, List.set_cons_zero, List.getElem?_cons_zero, List.getElem?_cons_succ, List.length_cons, List.length_nil, look_here, cdel_here, cset_here, hln2]
    repeat (refine ⟨by omega, ?_⟩)
    intro p4 _
    simp only [aFrz, aRet, aLst, aCons, aTup, aC, aVar, aNil, aCall, gmN, List.append_nil, List.set_cons_succ, List.set_cons_zero, List.getElem?_cons_zero, List.getElem?_cons_succ, List.length_cons, List.length_nil, look_here, cdel_here, cset_here]
    refine A_pick_go (fun e => ?_) ?_ fun y hy => ?_
    · have := congrArg List.length e
      rw [List.length_append, hln2] at this
      cases this
    · rw [List.length_append, hln2]
      decide
    · repeat (refine ⟨by omega, ?_⟩)
      refine hP y ?_
      unfold oddL
      rw [hb]
      exact hy
end Bd
namespace Bd
open PySem L2
/-! ### bent procedures -/
def badD (v : D) : Prop := gdD 50 v = true ∧ (linesD 6 (tupL (thirdD v))).length ≤ 100000 ∧ procB v = false
abbrev whlD (o : D) : D := .tup [.str "while", oneD, .tup [o, o]]
/-- what is to be known of an odd line -/
def oddOk (o : D) : Bool := gdD 20 o && okD o && okD brkD && okD lastD && !stB (blkB 4) false o && decide ((linesD 6 [o]).length ≤ 10) && decide ((linesD 6 [whlD o]).length ≤ 30) && gdD 20 (whlD o) && (eqD o brkD || eqD o lastD || !stB (blkB 4) false (whlD o))
theorem odd_ok : ∀ o ∈ oddL ++ [lastD], oddOk o = true := by decide +kernel
def othL : List D := [.str "", .str "abcdefg", .str "Ab", .str "else", .int 3, .non, .str "a b", .str "a1"]
def fixL (nm : D) (ps b : List D) : List D := [.tup [nm, .tup ps], .tup [nm, .tup ps, .tup b, .int 1], .lst [nm, .tup ps, .tup b], .tup [nm, .lst ps, .tup b], .tup [nm, .tup ps, .lst b],
  .tup [nm, .tup ps, .tup []], .tup [nm, .tup (ps ++ ps ++ [.str "a", .str "a"]), .tup b], .tup [nm, .tup [.str "a", .str "b", .str "c", .str "d"], .tup b],
  .tup [nm, .tup [.str "A"], .tup b], .tup [nm, .str "a", .tup b], .tup [nm, .tup [.str "abcde"], .tup b], .tup [nm, .tup [.str "or"], .tup b], .tup [nm, .tup [.lst [.str "a"]], .tup b], .tup [nm, .tup [.int 3], .tup b], .tup [.lst [.str "f"], .tup ps, .tup b]]
def bentL (nm : D) (ps b : List D) (o : D) (j : Nat) : List D := [.tup [nm, .tup ps, .tup (b.take j ++ [o] ++ b.drop j)], .tup [nm, .tup ps, .tup (b.take j ++ [whlD o] ++ b.drop j)]]
theorem lines_app {m : Nat} {a b : List D} : linesD m (a ++ b) = linesD m a ++ linesD m b := by
  cases m with
  | zero => rfl
  | succ m =>
    show List.flatMap _ _ = List.flatMap _ _ ++ List.flatMap _ _
    rw [List.flatMap_append]
section
variable {nm : Str} {ps : List Str} {b : List D} {l c : Nat}
theorem PrOk.parts (h : PrOk nm ps b l c) : gdD 49 (.str nm) = true ∧ (∀ d ∈ ps.map D.str, gdD 40 d = true) ∧ (ps.map D.str).length ≤ 3 ∧ (∀ d ∈ b, gdD 40 d = true) ∧ b.length ≤ 40 ∧ (linesD 6 b).length ≤ 40 := by
  have h1 := h.bk.gd (by have := h.lc; omega)
  have h2 := h.bk.len
  have h3 := h.lc
  have h4 := h.bk.lines 6 (by omega)
  refine ⟨fnm_gd h.nm, fun d hd => ?_, by rw [List.length_map]; exact h.len, fun d hd => gd_le (h1 d hd) (by omega), by omega, by omega⟩
  obtain ⟨z, hz, rfl⟩ := List.mem_map.mp hd
  have := own_str (h.own z hz)
  have hn : nameM (.str z) = true := by simp [nameM, ownM, wordD, h.own z hz]
  obtain ⟨z', e, _, ok⟩ := name_str hn
  cases e
  exact gd_str.mpr ⟨by omega, ok⟩
theorem gd3 {a p d : D} (h1 : gdD 49 a = true) (h2 : gdD 49 p = true) (h3 : gdD 49 d = true) : gdD 50 (.tup [a, p, d]) = true := gd_tup.mpr ⟨by simp, fun x hx => by
  simp at hx
  rcases hx with rfl | rfl | rfl <;> assumption⟩
theorem fix_bad (h : PrOk nm ps b l c) : ∀ v ∈ fixL (.str nm) (ps.map .str) b ++ othL.map fun o => .tup [o, .tup (ps.map .str), .tup b], badD v := by
  obtain ⟨g1, g2, g3, g4, g5, g6⟩ := h.parts
  have gp : gdD 41 (.tup (ps.map D.str)) = true := gd_tup.mpr ⟨by omega, g2⟩
  have gb : gdD 41 (.tup b) = true := gd_tup.mpr ⟨by omega, g4⟩
  have gpl : gdD 41 (.lst (ps.map D.str)) = true := gd_lst.mpr ⟨by omega, g2⟩
  have gbl : gdD 41 (.lst b) = true := gd_lst.mpr ⟨by omega, g4⟩
  have gp' := gd_le gp (show 41 ≤ 49 by omega)
  have gb' := gd_le gb (show 41 ≤ 49 by omega)
  have gpl' := gd_le gpl (show 41 ≤ 49 by omega)
  have gbl' := gd_le gbl (show 41 ≤ 49 by omega)
  have lb : (linesD 6 (tupL (.tup b))).length ≤ 100000 := by show (linesD 6 b).length ≤ _; omega
  have l0 : (linesD 6 []).length ≤ 100000 := by decide
  intro v hv
  rcases List.mem_append.mp hv with hv | hv
  · simp only [fixL, List.mem_cons, List.not_mem_nil, or_false] at hv
    rcases hv with rfl | rfl | rfl | rfl | rfl | rfl | rfl | rfl | rfl | rfl | rfl | rfl | rfl | rfl | rfl
    · exact ⟨gd_tup.mpr ⟨by simp, fun x hx => by simp at hx; rcases hx with rfl | rfl <;> first | exact g1 | exact gp'⟩, l0, rfl⟩
    · exact ⟨gd_tup.mpr ⟨by simp, fun x hx => by simp at hx; rcases hx with rfl | rfl | rfl | rfl <;> first | exact g1 | exact gp' | exact gb' | exact gd_int⟩, l0, rfl⟩
    · exact ⟨gd_lst.mpr ⟨by simp, fun x hx => by simp at hx; rcases hx with rfl | rfl | rfl <;> first | exact g1 | exact gp' | exact gb'⟩, l0, rfl⟩
    · exact ⟨gd3 g1 gpl' gb', lb, rfl⟩
    · exact ⟨gd3 g1 gp' gbl', l0, by simp [procB, blkB]⟩
    · exact ⟨gd3 g1 gp' (gd_tup.mpr ⟨by simp, fun x hx => by cases hx⟩), l0, by simp [procB, blkB]⟩
    · refine ⟨gd3 g1 (gd_tup.mpr ⟨by simp at g3 ⊢; omega, fun x hx => ?_⟩) gb', lb, ?_⟩
      · have : x ∈ ps.map D.str ∨ x = .str "a" := by
          rcases List.mem_append.mp hx with hx | hx
          · exact .inl ((List.mem_append.mp hx).elim id id)
          · exact .inr (by simpa using hx)
        rcases this with hm | rfl
        · exact gd_le (g2 x hm) (by omega)
        · exact gd_lit (by decide +kernel)
      · have e : ps.map D.str ++ ps.map D.str ++ [D.str "a", D.str "a"] = (ps ++ ps ++ [Str.ofString "a", Str.ofString "a"]).map D.str := by simp
        have n : nodB (ps.map D.str ++ ps.map D.str ++ [D.str "a", D.str "a"]) = false := by
          rw [e]
          unfold nodB
          rw [strsOf_map]
          simp only [decide_eq_false_iff_not]
          intro hn
          have := (List.nodup_append.mp hn).2.1
          simp at this
        simp only [procB, n, Bool.and_false, Bool.false_and]
    · exact ⟨gd3 g1 (by decide +kernel) gb', lb, by simp [procB]⟩
    · have : ownM (.str "A") = false := by decide +kernel
      exact ⟨gd3 g1 (by decide +kernel) gb', lb, by simp [procB, this]⟩
    · exact ⟨gd3 g1 (by decide +kernel) gb', lb, rfl⟩
    · have : ownM (.str "abcde") = false := by decide +kernel
      exact ⟨gd3 g1 (by decide +kernel) gb', lb, by simp [procB, this]⟩
    · have : ownM (.str "or") = false := by decide +kernel
      exact ⟨gd3 g1 (by decide +kernel) gb', lb, by simp [procB, this]⟩
    · exact ⟨gd3 g1 (by decide +kernel) gb', lb, by simp [procB, ownM, wordD]⟩
    · exact ⟨gd3 g1 (by decide +kernel) gb', lb, by simp [procB, ownM, wordD]⟩
    · exact ⟨gd3 (by decide +kernel) gp' gb', lb, by simp [procB, nmB, wordD]⟩
  · obtain ⟨o, ho, rfl⟩ := List.mem_map.mp hv
    have key : ∀ o ∈ othL, gdD 49 o = true ∧ nmB o = false := by decide +kernel
    obtain ⟨k1, k2⟩ := key o ho
    exact ⟨gd3 k1 gp' gb', lb, by simp only [procB, k2, Bool.false_and]⟩
theorem blk_no {n : Nat} {w : Bool} {a d : List D} {o : D} (h : stB (blkB n) w o = false) : blkB (n + 1) w (.tup (a ++ [o] ++ d)) = false := by
  have : (a ++ [o] ++ d).all (stB (blkB n) w) = false := by
    rw [List.all_append, List.all_append, List.all_cons, h]
    simp
  show (!(a ++ [o] ++ d).isEmpty && (a ++ [o] ++ d).all (stB (blkB n) w)) = false
  rw [this, Bool.and_false]
theorem put_bad (h : PrOk nm ps b l c) {o : D} {j : Nat} (h1 : gdD 20 o = true) (h2 : stB (blkB 4) false o = false) (h3 : (linesD 6 [o]).length ≤ 30) : badD (.tup [.str nm, .tup (ps.map .str), .tup (b.take j ++ [o] ++ b.drop j)]) := by
  obtain ⟨g1, g2, g3, g4, g5, g6⟩ := h.parts
  refine ⟨gd3 g1 (gd_tup.mpr ⟨by omega, fun d hd => gd_le (g2 d hd) (by omega)⟩) (gd_tup.mpr ⟨by simp; omega, fun d hd => ?_⟩), ?_, ?_⟩
  · have : d ∈ b ∨ d = o := by
      rcases List.mem_append.mp hd with hd | hd
      · rcases List.mem_append.mp hd with hd | hd
        · exact .inl (List.mem_of_mem_take hd)
        · exact .inr (List.mem_singleton.mp hd)
      · exact .inl (List.mem_of_mem_drop hd)
    rcases this with hd | rfl
    · exact gd_le (g4 d hd) (by omega)
    · exact gd_le h1 (by omega)
  · show (linesD 6 (b.take j ++ [o] ++ b.drop j)).length ≤ 100000
    have e : (linesD 6 b).length = (linesD 6 (b.take j)).length + (linesD 6 (b.drop j)).length := by
      rw [← List.length_append, ← lines_app, List.take_append_drop]
    rw [lines_app, lines_app, List.length_append, List.length_append]
    omega
  · have : blkB 5 false (.tup (b.take j ++ [o] ++ b.drop j)) = false := blk_no h2
    simp only [procB, this, Bool.and_false, Bool.false_and]
theorem bent_bad (h : PrOk nm ps b l c) {o : D} {j : Nat} (ho : oddOk o = true) (hn : eqD o brkD = false ∧ eqD o lastD = false) : ∀ v ∈ bentL (.str nm) (ps.map .str) b o j, badD v := by
  simp only [oddOk, Bool.and_eq_true, Bool.not_eq_true', decide_eq_true_eq, hn.1, hn.2, Bool.false_or] at ho
  obtain ⟨⟨⟨⟨⟨⟨⟨⟨a1, a2⟩, a3⟩, a4⟩, a5⟩, a6⟩, a7⟩, a8⟩, a9⟩ := ho
  intro v hv
  simp only [bentL, List.mem_cons, List.not_mem_nil, or_false] at hv
  rcases hv with rfl | rfl
  · exact put_bad h a1 a5 (by omega)
  · exact put_bad h a8 (by simpa using a9) a7
theorem bent1_bad (h : PrOk nm ps b l c) {o : D} {j : Nat} (ho : oddOk o = true) : badD (.tup [.str nm, .tup (ps.map .str), .tup (b.take j ++ [o] ++ b.drop j)]) := by
  simp only [oddOk, Bool.and_eq_true, Bool.not_eq_true', decide_eq_true_eq] at ho
  obtain ⟨⟨⟨⟨⟨⟨⟨⟨a1, a2⟩, a3⟩, a4⟩, a5⟩, a6⟩, a7⟩, a8⟩, a9⟩ := ho
  exact put_bad h a1 a5 (by omega)
end
theorem proc_go {v : D} {P : D → Prop} (h1 : gdD 50 v = true) (h2 : (linesD 6 (tupL (thirdD v))).length ≤ 100000) (hP : P (.bl (procB v))) : A_is_procedure [v] P := ⟨v, rfl, h1, h2, hP⟩
theorem nest_go {d : Nat} {b : D} {P : D → Prop} (h1 : 1 ≤ d) (h2 : d ≤ 100) (hP : P (nestD (d - 1) b)) : A_l_nest [.int (d : Nat), b] P := ⟨d, b, rfl, h1, h2, hP⟩
end Bd
namespace Bd
open PySem L2
def a_law : ATS :=
  aSeq (aAsg (aTup (aCons (aC (.str "num")) (aCons (aC (.int 1)) (aNil)))) (gmN 2))
  (aSeq (aFor (aItems (aCall A_l_shape [] (aCons (aVar 1) (aCons (aC (.int 3)) (aCons (aC (.int 12)) (aCons (aC (.int 3)) (aCons (aC (.int 1)) (aNil)))))))) (gmN 3) (aSeq (aAsg (aVar 3) (gmT 3 (gmCons (gmN 4) (gmCons (gmN 5) (gmCons (gmN 6) (gmNil))))))
  (aSeq (aIfS (aNot (aB (aCall (A_l_same 4) [] (aCons (aCall A_is_procedure [] (aCons (aVar 3) (aNil))) (aCons (aC (.bl true)) (aNil)))))) (aRet (aC (.bl false))) (aNext))
  (aSeq (aAsg (aCall A_l_pick [] (aCons (aVar 1) (aCons (aCall A_l_odd_lines [] (aCons (aVar 1) (aNil))) (aNil)))) (gmN 7))
  (aSeq (aAsg (aCall A_l_pull [] (aCons (aVar 1) (aCons (aOp wAdd (aCB wLen (aCons (aVar 6) (aNil))) (aC (.int 1))) (aNil)))) (gmN 8))
  (aSeq (aAsg (aNew (aCons (aTup (aCons (aVar 4) (aCons (aVar 5) (aCons (aOp wAdd (aOp wAdd (aSl (aVar 6) (aNoPart) (aPart (aVar 8))) (aTup (aCons (aVar 7) (aNil)))) (aSl (aVar 6) (aPart (aVar 8)) (aNoPart))) (aNil))))) (aCons (aTup (aCons (aVar 4) (aCons (aVar 5) (aCons (aOp wAdd (aOp wAdd (aSl (aVar 6) (aNoPart) (aPart (aVar 8))) (aTup (aCons (aTup (aCons (aC (.str "while")) (aCons (aVar 2) (aCons (aTup (aCons (aVar 7) (aCons (aVar 7) (aNil)))) (aNil))))) (aNil)))) (aSl (aVar 6) (aPart (aVar 8)) (aNoPart))) (aNil))))) (aNil)))) (gmN 9))
  (aSeq (aIfS (aOr (aB (aOp wEq (aVar 7) (aTup (aCons (aC (.str "break")) (aNil))))) (aB (aOp wEq (aVar 7) (aTup (aCons (aC (.str "if")) (aCons (aVar 2) (aCons (aTup (aCons (aTup (aCons (aC (.str "break")) (aNil))) (aNil))) (aCons (aTup (aNil)) (aNil))))))))) (aFrz 9 (aAsg (aSl (aVar 9) (aNoPart) (aPart (aC (.int 1)))) (gmN 9))) (aNext))
  (aSeq (aAsg (aCatN (aVar 9) (aLst (aCons (aTup (aCons (aVar 4) (aCons (aVar 5) (aNil)))) (aCons (aOp wAdd (aVar 3) (aTup (aCons (aC (.int 1)) (aNil)))) (aCons (aCB wList (aCons (aVar 3) (aNil))) (aCons (aTup (aCons (aVar 4) (aCons (aCB wList (aCons (aVar 5) (aNil))) (aCons (aVar 6) (aNil))))) (aCons (aTup (aCons (aVar 4) (aCons (aVar 5) (aCons (aCB wList (aCons (aVar 6) (aNil))) (aNil))))) (aNil)))))))) (gmN 9))
  (aSeq (aAsg (aCatN (aVar 9) (aLst (aCons (aTup (aCons (aVar 4) (aCons (aVar 5) (aCons (aTup (aNil)) (aNil))))) (aCons (aTup (aCons (aVar 4) (aCons (aOp wAdd (aOp wAdd (aVar 5) (aVar 5)) (aTup (aCons (aC (.str "a")) (aCons (aC (.str "a")) (aNil))))) (aCons (aVar 6) (aNil))))) (aCons (aTup (aCons (aVar 4) (aCons (aTup (aCons (aC (.str "a")) (aCons (aC (.str "b")) (aCons (aC (.str "c")) (aCons (aC (.str "d")) (aNil)))))) (aCons (aVar 6) (aNil))))) (aNil)))))) (gmN 9))
  (aSeq (aAsg (aCatN (aVar 9) (aLst (aCons (aTup (aCons (aVar 4) (aCons (aTup (aCons (aC (.str "A")) (aNil))) (aCons (aVar 6) (aNil))))) (aCons (aTup (aCons (aVar 4) (aCons (aC (.str "a")) (aCons (aVar 6) (aNil))))) (aCons (aTup (aCons (aVar 4) (aCons (aTup (aCons (aC (.str "abcde")) (aNil))) (aCons (aVar 6) (aNil))))) (aCons (aTup (aCons (aVar 4) (aCons (aTup (aCons (aC (.str "or")) (aNil))) (aCons (aVar 6) (aNil))))) (aCons (aTup (aCons (aVar 4) (aCons (aTup (aCons (aLst (aCons (aC (.str "a")) (aNil))) (aNil))) (aCons (aVar 6) (aNil))))) (aCons (aTup (aCons (aVar 4) (aCons (aTup (aCons (aC (.int 3)) (aNil))) (aCons (aVar 6) (aNil))))) (aCons (aTup (aCons (aLst (aCons (aC (.str "f")) (aNil))) (aCons (aVar 5) (aCons (aVar 6) (aNil))))) (aNil)))))))))) (gmN 9))
  (aSeq (aFor (aItems (aLst (aCons (aC (.str "")) (aCons (aC (.str "abcdefg")) (aCons (aC (.str "Ab")) (aCons (aC (.str "else")) (aCons (aC (.int 3)) (aCons (aC .non) (aCons (aC (.str "a b")) (aCons (aC (.str "a1")) (aNil))))))))))) (gmN 10) (aDrop (aApp (aVar 9) (aTup (aCons (aVar 10) (aCons (aVar 5) (aCons (aVar 6) (aNil))))))))
  (aFrz 9 (aIfS (aB (aOp wNe (aLc (aItems (aVar 9)) (gmN 17) (aYes) (aCall A_is_procedure [] (aCons (aVar 17) (aNil))) [17]) (aOp wMulX (aLst (aCons (aC (.bl false)) (aNil))) (aCB wLen (aCons (aVar 9) (aNil)))))) (aRet (aC (.bl false))) (aNext))))))))))))))
  (aSeq (aPar 11 12 (aCons (aTup (aCons (aC (.str "print")) (aCons (aVar 2) (aNil)))) (aCons (aTup (aCons (aC (.str "call")) (aCons (aC (.str "x")) (aCons (aC (.str "f")) (aCons (aTup (aNil)) (aCons (aTup (aCons (aC (.int 1)) (aCons (aC (.int 1)) (aNil)))) (aNil))))))) (aNil))))
  (aSeq (aAsg (aLst (aCons (aOp wMulX (aTup (aCons (aVar 11) (aNil))) (aC (.int 40))) (aCons (aOp wMulX (aTup (aCons (aVar 11) (aNil))) (aC (.int 41))) (aCons (aOp wAdd (aOp wMulX (aTup (aCons (aVar 12) (aNil))) (aC (.int 6))) (aTup (aCons (aVar 11) (aNil)))) (aCons (aOp wMulX (aTup (aCons (aVar 12) (aNil))) (aC (.int 7))) (aCons (aCall A_l_nest [] (aCons (aC (.int 5)) (aCons (aTup (aCons (aVar 11) (aNil))) (aNil)))) (aCons (aCall A_l_nest [] (aCons (aC (.int 6)) (aCons (aTup (aCons (aVar 11) (aNil))) (aNil)))) (aNil)))))))) (gmN 13))
  (aSeq (aAsg (aLc (aItems (aVar 13)) (gmN 16) (aYes) (aCall A_is_procedure [] (aCons (aTup (aCons (aC (.str "abcdef")) (aCons (aTup (aCons (aC (.str "a")) (aCons (aC (.str "b")) (aCons (aC (.str "c")) (aNil))))) (aCons (aVar 16) (aNil))))) (aNil))) [16]) (gmN 14))
  (aSeq (aIfS (aNot (aB (aCall (A_l_same 4) [] (aCons (aVar 14) (aCons (aLst (aCons (aC (.bl true)) (aCons (aC (.bl false)) (aCons (aC (.bl true)) (aCons (aC (.bl false)) (aCons (aC (.bl true)) (aCons (aC (.bl false)) (aNil)))))))) (aNil)))))) (aRet (aC (.bl false))) (aNext))
  (aSeq (aAsg (aTup (aCons (aC (.str "while")) (aCons (aVar 2) (aCons (aOp wMulX (aTup (aCons (aVar 11) (aNil))) (aC (.int 38))) (aNil))))) (gmN 15))
  (aRet (aCall (A_l_same 4) [] (aCons (aLst (aCons (aCall A_is_procedure [] (aCons (aTup (aCons (aC (.str "f")) (aCons (aTup (aNil)) (aCons (aTup (aCons (aVar 15) (aCons (aVar 11) (aNil)))) (aNil))))) (aNil))) (aCons (aCall A_is_procedure [] (aCons (aTup (aCons (aC (.str "f")) (aCons (aTup (aNil)) (aCons (aTup (aCons (aVar 15) (aCons (aVar 11) (aCons (aVar 11) (aNil))))) (aNil))))) (aNil))) (aNil)))) (aCons (aLst (aCons (aC (.bl true)) (aCons (aC (.bl false)) (aNil)))) (aNil)))))))))))

theorem cut_to_t {xs : List D} {m : Nat} : cutD xs none (some (m : Int)) = xs.take m := cutD_to
theorem cut_from_t {xs : List D} {m : Nat} : cutD xs (some (m : Int)) none = xs.drop m := by
  unfold cutD
  have h2 : HT.sIx xs.length xs.length none = xs.length := rfl
  rw [HT.sIx_nat, h2]
  by_cases h : m ≤ xs.length
  · rw [Nat.min_eq_left h, List.take_of_length_le (by rw [List.length_drop]; omega)]
  · rw [Nat.min_eq_right (by omega), List.drop_length, List.drop_of_length_le (by omega)]
    simp
theorem cut1_t {x : D} {xs : List D} : cutD (x :: xs) none (some 1) = [x] := by
  have := cutD_to (xs := x :: xs) (m := 1)
  simpa using this
/-- the tests of the bent ones against as many False -/
theorem all_false {A : AE} {Γ : Gs} {c : Cs} {L : List D} (hΓ : Γ.length = 18) (h9 : Γ[9]? = some (some (.lst L))) (hL : ∀ v ∈ L, badD v) (hl : L.length ≤ 1000) (hA : A.nx Γ c) :
    aIfS (aB (aOp wNe (aLc (aItems (aVar 9)) (gmN 17) (aYes) (aCall A_is_procedure [] (aCons (aVar 17) (aNil))) [17]) (aOp wMulX (aLst (aCons (aC (.bl false)) (aNil))) (aCB wLen (aCons (aVar 9) (aNil)))))) (aRet (aC (.bl false))) aNext A Γ c := by
  simp only [aIfS, aB, aOp, aLc, aItems, aVar, h9, itemsD]
  refine ⟨by omega, goA_map (fun _ => .bl false) (fun d hd acc kk hk => ?_) ?_⟩
  · simp only [lcB, gmN, aYes, if_true, aCall, aCons, aVar, aNil, List.append_nil]
    have e : ((wipeG Γ [17]).set 17 (some d))[17]? = some (some d) := by
      rw [List.getElem?_set_self (by rw [wipeG_length]; omega)]
    rw [e]
    obtain ⟨h1, h2, h3⟩ := hL d hd
    exact proc_go h1 h2 (by rw [h3]; exact hk)
  · simp only [List.nil_append, aLst, aCons, aC, aNil, aCB, wLen, List.length_cons, List.length_nil, aVar, h9, wMulX]
    refine ⟨by omega, ⟨by omega, by omega, by omega⟩, ?_⟩
    have e : (L.map fun _ => D.bl false) = (List.replicate ((L.length : Int)).toNat [D.bl false]).flatten := by
      rw [Int.toNat_natCast]
      clear hL hl h9
      induction L with
      | nil => rfl
      | cons x xs ih => rw [List.map_cons, List.length_cons, List.replicate_succ, List.flatten_cons, ih]; rfl
    rw [← e]
    have hok : okD (.lst (L.map fun _ => D.bl false)) = true := okD_of (k := 1) (okN_lst fun d hd => by
      obtain ⟨_, _, rfl⟩ := List.mem_map.mp hd
      exact ⟨rfl, rfl, Nat.zero_le _⟩) (by decide)
    have heq : ∀ K : List D, (∀ d ∈ K, d = .bl false) → eqD (.lst K) (.lst K) = true := by
      intro K hK
      have : ∀ K : List D, (∀ d ∈ K, d = .bl false) → PyData.eqvAll (pyA K) (pyA K) = true := by
        intro K
        induction K with
        | nil => intro _; rfl
        | cons d K ih =>
          intro h
          have := ih fun e he => h e (by simp [he])
          rw [h d (by simp)]
          simp [pyA, pyD, PyData.eqvAll, PyData.eqv, this]
      exact this K hK
    have he := heq (L.map fun _ => D.bl false) fun d hd => by
      obtain ⟨_, _, rfl⟩ := List.mem_map.mp hd
      rfl
    simp only [wNe, hok, he, Bool.and_self, Bool.or_true, true_and, Bool.not_true, Bool.false_eq_true, if_false]
    exact hA
end Bd
namespace Bd
open PySem L2
theorem eqD_odd {o : D} (h : oddOk o = true) : okD o = true ∧ okD brkD = true ∧ okD lastD = true := by
  simp only [oddOk, Bool.and_eq_true] at h
  exact ⟨h.1.1.1.1.1.1.1.2, h.1.1.1.1.1.1.2, h.1.1.1.1.1.2⟩
theorem wEq_ok {x y : D} {P : D → Prop} (hx : okD x = true) (hy : okD y = true) : wEq x y P ↔ P (.bl (eqD x y)) := by simp [wEq, hx, hy]
abbrev GoodL (nm : D) (ps b : List D) : List D := fixL nm ps b ++ othL.map fun o => D.tup [o, .tup ps, .tup b]
/-- what follows the first bent ones -/
theorem tail_bent {A : AE} {nm : Str} {ps : List Str} {b : List D} {l c : Nat} (h : PrOk nm ps b l c) {g7 g8 g10 g11 g12 g13 g14 g15 g16 g17 : Option D} {x : D} {cs : Cs} {L : List D} (hx : (x = .lst L ∧ cs = []) ∨ ∃ p, x = .adr p ∧ cs = [(p, .lst L)]) (hL : ∀ v ∈ L, badD v) (hl : L.length ≤ 2)
    (hA : ∀ g9 g10, A.nx [none, some (.hdl 0), some oneD, some (prD nm ps b), some (.str nm), some (.tup (ps.map .str)), some (.tup b), g7, g8, g9, g10, g11, g12, g13, g14, g15, g16, g17] []) :
  (aSeq (aAsg (aCatN (aVar 9) (aLst (aCons (aTup (aCons (aVar 4) (aCons (aVar 5) (aNil)))) (aCons (aOp wAdd (aVar 3) (aTup (aCons (aC (.int 1)) (aNil)))) (aCons (aCB wList (aCons (aVar 3) (aNil))) (aCons (aTup (aCons (aVar 4) (aCons (aCB wList (aCons (aVar 5) (aNil))) (aCons (aVar 6) (aNil))))) (aCons (aTup (aCons (aVar 4) (aCons (aVar 5) (aCons (aCB wList (aCons (aVar 6) (aNil))) (aNil))))) (aNil)))))))) (gmN 9))
  (aSeq (aAsg (aCatN (aVar 9) (aLst (aCons (aTup (aCons (aVar 4) (aCons (aVar 5) (aCons (aTup (aNil)) (aNil))))) (aCons (aTup (aCons (aVar 4) (aCons (aOp wAdd (aOp wAdd (aVar 5) (aVar 5)) (aTup (aCons (aC (.str "a")) (aCons (aC (.str "a")) (aNil))))) (aCons (aVar 6) (aNil))))) (aCons (aTup (aCons (aVar 4) (aCons (aTup (aCons (aC (.str "a")) (aCons (aC (.str "b")) (aCons (aC (.str "c")) (aCons (aC (.str "d")) (aNil)))))) (aCons (aVar 6) (aNil))))) (aNil)))))) (gmN 9))
  (aSeq (aAsg (aCatN (aVar 9) (aLst (aCons (aTup (aCons (aVar 4) (aCons (aTup (aCons (aC (.str "A")) (aNil))) (aCons (aVar 6) (aNil))))) (aCons (aTup (aCons (aVar 4) (aCons (aC (.str "a")) (aCons (aVar 6) (aNil))))) (aCons (aTup (aCons (aVar 4) (aCons (aTup (aCons (aC (.str "abcde")) (aNil))) (aCons (aVar 6) (aNil))))) (aCons (aTup (aCons (aVar 4) (aCons (aTup (aCons (aC (.str "or")) (aNil))) (aCons (aVar 6) (aNil))))) (aCons (aTup (aCons (aVar 4) (aCons (aTup (aCons (aLst (aCons (aC (.str "a")) (aNil))) (aNil))) (aCons (aVar 6) (aNil))))) (aCons (aTup (aCons (aVar 4) (aCons (aTup (aCons (aC (.int 3)) (aNil))) (aCons (aVar 6) (aNil))))) (aCons (aTup (aCons (aLst (aCons (aC (.str "f")) (aNil))) (aCons (aVar 5) (aCons (aVar 6) (aNil))))) (aNil)))))))))) (gmN 9))
  (aSeq (aFor (aItems (aLst (aCons (aC (.str "")) (aCons (aC (.str "abcdefg")) (aCons (aC (.str "Ab")) (aCons (aC (.str "else")) (aCons (aC (.int 3)) (aCons (aC .non) (aCons (aC (.str "a b")) (aCons (aC (.str "a1")) (aNil))))))))))) (gmN 10) (aDrop (aApp (aVar 9) (aTup (aCons (aVar 10) (aCons (aVar 5) (aCons (aVar 6) (aNil))))))))
  (aFrz 9 (aIfS (aB (aOp wNe (aLc (aItems (aVar 9)) (gmN 17) (aYes) (aCall A_is_procedure [] (aCons (aVar 17) (aNil))) [17]) (aOp wMulX (aLst (aCons (aC (.bl false)) (aNil))) (aCB wLen (aCons (aVar 9) (aNil)))))) (aRet (aC (.bl false))) (aNext)))))))
    A [none, some (.hdl 0), some oneD, some (prD nm ps b), some (.str nm), some (.tup (ps.map .str)), some (.tup b), g7, g8, some x, g10, g11, g12, g13, g14, g15, g16, g17] cs := by
  have hfix := fix_bad h
  have hpl : ps.length ≤ 3 := h.len
  have hbl : b.length ≤ 40 := h.parts.2.2.2.2.1
  rcases hx with ⟨rfl, rfl⟩ | ⟨p, rfl, rfl⟩
  all_goals
    simp only [aSeq, aAsg, aCatN, aLst, aCons, aTup, aC, aVar, aNil, aOp, aCB, wAdd, wList, gmN, prD, List.cons_append, List.nil_append, List.set_cons_succ, List.set_cons_zero, List.getElem?_cons_zero, List.getElem?_cons_succ, List.length_cons, List.length_nil, look_here, cdel_here, cset_here, List.append_nil]
    repeat (refine ⟨by omega, ?_⟩)
    intro q _
    try simp only [aSeq, aAsg, aCatN, aLst, aCons, aTup, aC, aVar, aNil, aOp, wAdd, gmN, List.cons_append, List.nil_append, List.length_append, List.length_map, List.set_cons_succ, List.set_cons_zero, List.getElem?_cons_zero, List.getElem?_cons_succ, List.length_cons, List.length_nil, look_here, cdel_here, cset_here, List.append_nil]
    repeat (refine ⟨by omega, ?_⟩)
    intro q2 _
    try simp only [aSeq, aAsg, aCatN, aLst, aCons, aTup, aC, aVar, aNil, gmN, List.cons_append, List.nil_append, List.length_append, List.length_map, List.set_cons_succ, List.set_cons_zero, List.getElem?_cons_zero, List.getElem?_cons_succ, List.length_cons, List.length_nil, look_here, cdel_here, cset_here, List.append_nil]
    repeat (refine ⟨by omega, ?_⟩)
    intro q3 _
    have e : L ++ fixL (.str nm) (ps.map .str) b = (L ++ [D.tup [D.str nm, .tup (ps.map .str)], .tup [D.str nm, .tup (ps.map .str), .tup b, .int 1], .lst [D.str nm, .tup (ps.map .str), .tup b], .tup [D.str nm, .lst (ps.map .str), .tup b], .tup [D.str nm, .tup (ps.map .str), .lst b]] ++
        [D.tup [D.str nm, .tup (ps.map .str), .tup []], .tup [D.str nm, .tup (ps.map .str ++ ps.map .str ++ [.str "a", .str "a"]), .tup b], .tup [D.str nm, .tup [.str "a", .str "b", .str "c", .str "d"], .tup b]]) ++ [D.tup [D.str nm, .tup [.str "A"], .tup b], .tup [D.str nm, .str "a", .tup b], .tup [D.str nm, .tup [.str "abcde"], .tup b], .tup [D.str nm, .tup [.str "or"], .tup b], .tup [D.str nm, .tup [.lst [.str "a"]], .tup b], .tup [D.str nm, .tup [.int 3], .tup b], .tup [.lst [.str "f"], .tup (ps.map .str), .tup b]] := by
      simp [fixL]
    rw [← e]
    have hfl : (fixL (.str nm) (ps.map .str) b).length = 15 := rfl
    generalize fixL (.str nm) (ps.map .str) b = fx at hfix hfl
    simp only [aFor, aItems, aLst, aCons, aC, aNil, itemsD, gmN, List.set_cons_succ, List.set_cons_zero, List.getElem?_cons_zero, List.getElem?_cons_succ, List.length_cons, List.length_nil, look_here, cdel_here, cset_here, List.append_nil]
    refine ⟨by omega, fun i Γ cs => ∃ g10, Γ = [none, some (.hdl 0), some oneD, some (prD nm ps b), some (.str nm), some (.tup (ps.map .str)), some (.tup b), g7, g8, some (.adr q3), g10, g11, g12, g13, g14, g15, g16, g17] ∧ cs = [(q3, .lst (L ++ fx ++ (othL.take i).map fun o => D.tup [o, .tup (ps.map .str), .tup b]))], ⟨g10, rfl, by simp⟩, ?_, ?_⟩
    · rintro i d Γ cs hi ⟨g10, rfl, rfl⟩
      have hi' : othL[i]? = some d := hi
      have hil : i < 8 := (List.getElem?_eq_some_iff.mp hi').1
      simp only [gmN, aDrop, aApp, aVar, aTup, aCons, aNil, List.set_cons_succ, List.set_cons_zero, List.getElem?_cons_zero, List.getElem?_cons_succ, List.length_cons, List.length_nil, look_here, cdel_here, cset_here, List.append_nil]
      refine ⟨by omega, ?_, some d, rfl, ?_⟩
      · simp only [List.length_append, List.length_map, List.length_take]; omega
      · rw [List.take_add_one, hi', List.map_append, List.append_assoc, List.append_assoc, List.append_assoc]
        rfl
    · rintro Γ cs ⟨g10, rfl, hcs⟩
      have hcs2 : cs = [(q3, .lst (L ++ fx ++ othL.map fun o => D.tup [o, .tup (ps.map .str), .tup b]))] := hcs
      clear hcs
      subst hcs2
      have hol : (othL.map fun o => D.tup [o, .tup (ps.map .str), .tup b]).length = 8 := rfl
      simp only [aFrz, List.getElem?_cons_zero, List.getElem?_cons_succ, look_here, cdel_here, List.set_cons_succ, List.set_cons_zero]
      refine all_false (L := L ++ fx ++ othL.map fun o => D.tup [o, .tup (ps.map .str), .tup b]) rfl rfl (fun v hv => ?_) ?_ (hA _ _)
      · rcases List.mem_append.mp hv with hv | hv
        · rcases List.mem_append.mp hv with hv | hv
          · exact hL v hv
          · exact hfix v (List.mem_append_left _ hv)
        · exact hfix v (List.mem_append_right _ hv)
      · rw [List.length_append, List.length_append, hfl, hol]
        omega
end Bd
namespace Bd
open PySem L2
abbrev call1 : D := .tup [.str "call", .str "x", .str "f", .tup [], .tup [.int 1, .int 1]]
abbrev rep (n : Nat) (d : D) : List D := (List.replicate n [d]).flatten
abbrev mostL : List D := [.tup (rep 40 prtD), .tup (rep 41 prtD), .tup (rep 6 call1 ++ [prtD]), .tup (rep 7 call1), nestD 4 (.tup [prtD]), nestD 5 (.tup [prtD])]
abbrev wrapD (b : D) : D := .tup [.str "abcdef", .tup [.str "a", .str "b", .str "c"], b]
theorem most_ok : ∀ b ∈ mostL, (gdD 50 (wrapD b) && decide ((linesD 6 (tupL (thirdD (wrapD b)))).length ≤ 100000)) = true := by decide +kernel
theorem most_is : mostL.map (fun b => procB (wrapD b)) = [true, false, true, false, true, false] := by decide +kernel
abbrev wideD : D := .tup [.str "while", oneD, .tup (rep 38 prtD)]
abbrev wide1 : D := .tup [.str "f", .tup [], .tup [wideD, prtD]]
abbrev wide2 : D := .tup [.str "f", .tup [], .tup [wideD, prtD, prtD]]
theorem wide_ok : gdD 50 wide1 = true ∧ (linesD 6 (tupL (thirdD wide1))).length ≤ 100000 ∧ procB wide1 = true ∧ gdD 50 wide2 = true ∧ (linesD 6 (tupL (thirdD wide2))).length ≤ 100000 ∧ procB wide2 = false := by decide +kernel
theorem same_bls {bs : List Bool} {P : D → Prop} (h : bs.length ≤ 100) (hP : P (.bl true)) : A_l_same 4 [.lst (bs.map .bl), .lst (bs.map .bl)] P := by
  have t : ∀ bs : List Bool, tydA (bs.map D.bl) = true ∧ dptA (bs.map D.bl) ≤ 1 ∧ sameA (bs.map D.bl) (bs.map D.bl) = true := by
    intro bs
    induction bs with
    | nil => exact ⟨rfl, by simp [dptA], rfl⟩
    | cons b bs ih => exact ⟨by simp [tydA, tyd, ih.1], by simp [dptA, dpt, ih.2.1], by simp [sameA, sameM, ih.2.2]⟩
  obtain ⟨t1, t2, t3⟩ := t bs
  refine same_go ?_ ?_ ?_ ?_
  · simp [tyd, t1]; omega
  · simp [tyd, t1]; omega
  · simp [dpt]; omega
  · simpa [sameM, t3] using hP
theorem shape_go {M L S : Nat} {dr : Int} {P : D → Prop} (h1 : 1 ≤ M) (h2 : M ≤ 8) (h3 : 1 ≤ L) (h4 : L ≤ 40) (h5 : S ≤ 6) (hP : ∀ ps, ShapeOk L S ps → ps.length ≤ M → P (.lst (prsD ps))) : A_l_shape [.hdl 0, .int (M : Nat), .int (L : Nat), .int (S : Nat), .int dr] P := ⟨M, L, S, dr, rfl, h1, h2, h3, h4, h5, hP⟩
theorem pure_law : a_law { nx := fun _ _ => False, rt := fun d _ => d = .bl true } (none :: some (.hdl 0) :: List.replicate 16 none) [] := by
  simp only [a_law, aSeq, aAsg, aTup, aCons, aC, aNil, gmN, List.replicate, aFor, aItems, aCall, aVar, List.set_cons_succ, List.set_cons_zero, List.getElem?_cons_zero, List.getElem?_cons_succ, List.length_cons, List.length_nil, look_here, cdel_here, cset_here, List.append_nil]
  refine ⟨by omega, shape_go (M := 3) (L := 12) (S := 3) (by omega) (by omega) (by omega) (by omega) (by omega) fun ps hps _ => ?_⟩
  simp only [itemsD]
  refine ⟨fun i Γ cs => ∃ g3 g4 g5 g6 g7 g8 g9 g10 g11 g12 g13 g14 g15 g16 g17, Γ = [none, some (.hdl 0), some oneD, g3, g4, g5, g6, g7, g8, g9, g10, g11, g12, g13, g14, g15, g16, g17] ∧ cs = [], ⟨none, none, none, none, none, none, none, none, none, none, none, none, none, none, none, rfl, rfl⟩, ?_, ?_⟩
  · rintro i d Γ cs hi ⟨g3, g4, g5, g6, g7, g8, g9, g10, g11, g12, g13, g14, g15, g16, g17, rfl, rfl⟩
    unfold prsD at hi
    rw [List.getElem?_map] at hi
    cases e : ps[i]? with
    | none => rw [e] at hi; cases hi
    | some p =>
      rw [e] at hi
      cases hi
      obtain ⟨l, c, h1, _, _⟩ := hps.ok p (List.mem_of_getElem? e)
      obtain ⟨nm, qs, b⟩ := p
      simp only at h1 ⊢
      obtain ⟨g1, _, _, _, hbl, hln⟩ := h1.parts
      have hpr : prD nm qs b = .tup [.str nm, .tup (qs.map .str), .tup b] := rfl
      simp only [gmN, gmT, gmCons, gmNil, aVar, aIfS, aNot, aB, aCall, aCons, aNil, aC, aRet, aNext, true_and, hpr, List.set_cons_succ, List.set_cons_zero, List.getElem?_cons_zero, List.getElem?_cons_succ, List.length_cons, List.length_nil, look_here, cdel_here, cset_here, List.append_nil]
      refine proc_go h1.gd (by show (linesD 6 b).length ≤ _; omega) ?_
      rw [show procB (.tup [.str nm, .tup (qs.map .str), .tup b]) = true from h1.B]
      refine same_go rfl rfl (by simp [dpt]) ?_
      simp only [sameM, BEq.rfl, Bool.not_true, Bool.false_eq_true, if_false]
      refine ⟨rfl, fun y hy => ?_⟩
      refine A_pick_go (by simp) (by simp) fun o ho => ?_
      have hoo : oddOk o = true := odd_ok o (by
        simp at ho
        rcases ho with rfl | rfl
        · exact List.mem_append_left _ hy
        · exact List.mem_append_right _ (by simp))
      clear hy ho y
      obtain ⟨k1, k2, k3⟩ := eqD_odd hoo
      simp only [aCall, aSeq, aAsg, aOp, aVar, aCB, aCons, aNil, aC, wLen, wAdd, gmN, List.set_cons_succ, List.set_cons_zero, List.getElem?_cons_zero, List.getElem?_cons_succ, List.length_cons, List.length_nil, look_here, cdel_here, cset_here, List.append_nil]
      refine A_pull_go (by omega) (by omega) fun j j0 j1 => ?_
      obtain ⟨j, rfl⟩ := Int.eq_ofNat_of_zero_le j0
      simp only [aSeq, aAsg, aNew, aTup, aCons, aNil, aOp, aSl, aVar, aC, aNoPart, aPart, wSl, wAdd, cut_to_t, cut_from_t, gmN, Int.ofNat_eq_natCast, List.length_append, List.length_take, List.length_drop, List.set_cons_succ, List.set_cons_zero, List.getElem?_cons_zero, List.getElem?_cons_succ, List.length_cons, List.length_nil, look_here, cdel_here, cset_here, List.append_nil]
      repeat (refine ⟨by omega, ?_⟩)
      intro p0 _
      simp only [aIfS, aOr, aB, aOp, aTup, aCons, aC, aVar, aNil, wEq_ok k1 k2, wEq_ok k1 k3, List.set_cons_succ, List.set_cons_zero, List.getElem?_cons_zero, List.getElem?_cons_succ, List.length_cons, List.length_nil, look_here, cdel_here, cset_here, List.append_nil]
      repeat (refine ⟨by omega, ?_⟩)
      by_cases c1 : eqD o brkD = true
      · simp only [c1, if_true, aFrz, aAsg, aSl, aVar, aNoPart, aPart, aC, wSl, cut1_t, gmN, List.set_cons_succ, List.set_cons_zero, List.getElem?_cons_zero, List.getElem?_cons_succ, List.length_cons, List.length_nil, look_here, cdel_here, cset_here, List.append_nil]
        exact tail_bent h1 (.inl ⟨rfl, rfl⟩) (fun v hv => by rw [List.mem_singleton.mp hv]; exact bent1_bad h1 hoo) (by simp) fun g9 g10 => ⟨_, _, _, _, _, _, _, _, _, _, _, _, _, _, _, rfl, rfl⟩
      · have c1' : eqD o brkD = false := by simpa using c1
        simp only [c1', Bool.false_eq_true, if_false]
        repeat (refine ⟨by omega, ?_⟩)
        by_cases c2 : eqD o lastD = true
        · simp only [c2, if_true, aFrz, aAsg, aSl, aVar, aNoPart, aPart, aC, wSl, cut1_t, gmN, List.set_cons_succ, List.set_cons_zero, List.getElem?_cons_zero, List.getElem?_cons_succ, List.length_cons, List.length_nil, look_here, cdel_here, cset_here, List.append_nil]
          exact tail_bent h1 (.inl ⟨rfl, rfl⟩) (fun v hv => by rw [List.mem_singleton.mp hv]; exact bent1_bad h1 hoo) (by simp) fun g9 g10 => ⟨_, _, _, _, _, _, _, _, _, _, _, _, _, _, _, rfl, rfl⟩
        · have c2' : eqD o lastD = false := by simpa using c2
          simp only [c2', Bool.false_eq_true, if_false, aNext]
          exact tail_bent h1 (.inr ⟨p0, rfl, rfl⟩) (bent_bad h1 hoo ⟨c1', c2'⟩) (by simp) fun g9 g10 => ⟨_, _, _, _, _, _, _, _, _, _, _, _, _, _, _, rfl, rfl⟩
  · rintro Γ cs ⟨g3, g4, g5, g6, g7, g8, g9, g10, g11, g12, g13, g14, g15, g16, g17, rfl, rfl⟩
    simp only [aSeq, aPar, aAsg, aTup, aCons, aC, aVar, aNil, gmN, List.set_cons_succ, List.set_cons_zero, List.getElem?_cons_zero, List.getElem?_cons_succ, List.length_cons, List.length_nil, look_here, cdel_here, cset_here, List.append_nil]
    repeat (refine ⟨by omega, ?_⟩)
    have n5 : (5 : Int) = ((5 : Nat) : Int) := rfl
    have n6 : (6 : Int) = ((6 : Nat) : Int) := rfl
    have f1 : ([prtD] : List D) ≠ [] := by simp
    have f2 : ([call1] : List D) ≠ [] := by simp
    simp only [aSeq, aLst, aCons, aTup, aC, aVar, aNil, aOp, aCall, wMulX, wAdd, gmN, List.set_cons_succ, List.set_cons_zero, List.getElem?_cons_zero, List.getElem?_cons_succ, List.length_cons, List.length_nil, look_here, cdel_here, cset_here, List.append_nil]
    repeat (refine ⟨by first | omega | exact ⟨by simp, by omega, by omega, by omega⟩, ?_⟩)
    refine ⟨by decide, ?_⟩
    repeat (refine ⟨by first | omega | exact ⟨by simp, by omega, by omega, by omega⟩, ?_⟩)
    refine nest_go (d := 5) (by omega) (by omega) ?_
    repeat (refine ⟨by omega, ?_⟩)
    refine nest_go (d := 6) (by omega) (by omega) ?_
    repeat (refine ⟨by omega, ?_⟩)
    simp only [aLc, aItems, aVar, itemsD, List.set_cons_succ, List.set_cons_zero, List.getElem?_cons_zero, List.getElem?_cons_succ, List.length_cons, List.length_nil, look_here, cdel_here, cset_here, List.append_nil]
    refine ⟨by omega, ?_⟩
    show goA _ mostL [] [] _
    refine goA_map (fun b => .bl (procB (wrapD b))) (fun d hd acc kk hk => ?_) ?_
    · have hm : d ∈ mostL := hd
      have := most_ok d hm
      simp only [Bool.and_eq_true, decide_eq_true_eq] at this
      simp only [lcB, gmN, wipeG, aYes, if_true, aCall, aTup, aCons, aC, aVar, aNil, List.set_cons_succ, List.set_cons_zero, List.getElem?_cons_zero, List.getElem?_cons_succ, List.length_cons, List.length_nil, look_here, cdel_here, cset_here, List.append_nil]
      refine ⟨by omega, by omega, ?_⟩
      exact proc_go (P := fun z => kk (acc ++ [z]) []) this.1 this.2 hk
    · rw [List.nil_append]
      have e : mostL.map (fun b => D.bl (procB (wrapD b))) = [true, false, true, false, true, false].map D.bl := by
        rw [← most_is, List.map_map]
        rfl
      rw [e]
      simp only [aSeq, aIfS, aNot, aB, aCall, aLst, aCons, aC, aVar, aNil, aRet, aNext, gmN, List.set_cons_succ, List.set_cons_zero, List.getElem?_cons_zero, List.getElem?_cons_succ, List.length_cons, List.length_nil, look_here, cdel_here, cset_here, List.append_nil]
      repeat (refine ⟨by omega, ?_⟩)
      refine same_bls (bs := [true, false, true, false, true, false]) (by decide) ?_
      simp only [Bool.not_true, Bool.false_eq_true, if_false, aAsg, aTup, aCons, aC, aVar, aNil, aOp, wMulX, gmN, List.set_cons_succ, List.set_cons_zero, List.getElem?_cons_zero, List.getElem?_cons_succ, List.length_cons, List.length_nil, look_here, cdel_here, cset_here, List.append_nil]
      obtain ⟨w1, w2, w3, w4, w5, w6⟩ := wide_ok
      refine ⟨by omega, ⟨by simp, by omega, by omega, by omega⟩, by omega, ?_⟩
      simp only [aRet, aCall, aLst, aTup, aCons, aC, aVar, aNil, List.set_cons_succ, List.set_cons_zero, List.getElem?_cons_zero, List.getElem?_cons_succ, List.length_cons, List.length_nil, look_here, cdel_here, cset_here, List.append_nil]
      refine ⟨by omega, by omega, by omega, ?_⟩
      refine proc_go (v := wide1) w1 w2 ?_
      refine ⟨by omega, by omega, by omega, ?_⟩
      refine proc_go (v := wide2) w4 w5 ?_
      rw [w3, w6]
      refine ⟨by omega, by omega, ?_⟩
      exact same_bls (bs := [true, false]) (by decide) rfl
end Bd
namespace Bd
open PySem L2
def top (i : Nat) : Stmt := PySem.Challenge.pw_pricedcalls_k07_procedures_judged.main.body.getD i (.Pass ⟨0, 0, 0, 0⟩)
abbrev v_KEYWORDS : List Str := ["proc", "if", "else", "while", "break", "return", "print", "and", "or", "not", "mod"]
theorem r_KEYWORDS (K : PySem.W.Frag) (w : Wd) (H : Hp) : RA K w H (v_KEYWORDS.map V.str) c_KEYWORDS := rw_strs v_KEYWORDS
abbrev v_SIGNS : List Str := ["+", "-", "*", "//", "mod", "<", "<=", "==", "and", "or"]
theorem r_SIGNS (K : PySem.W.Frag) (w : Wd) (H : Hp) : RA K w H (v_SIGNS.map V.str) c_SIGNS := rw_strs v_SIGNS
structure Txt (K : PySem.W.Frag) (mg : Str → Option Value) : Prop where
  b_abs : mg "abs" = none
  b_all : mg "all" = none
  b_bool : mg "bool" = none
  b_dict : mg "dict" = none
  b_int : mg "int" = none
  b_isinstance : mg "isinstance" = none
  b_len : mg "len" = none
  b_list : mg "list" = none
  b_range : mg "range" = none
  b_set : mg "set" = none
  b_str : mg "str" = none
  b_tuple : mg "tuple" = none
  b_zip : mg "zip" = none
  g_GREAT : ∃ u, mg "GREAT" = some (.str "ABCDEFGHIJKLMNOPQRSTUVWXYZ" u)
  g_KEYWORDS : mg "KEYWORDS" = some (.ref (He.ga K "KEYWORDS"))
  t_KEYWORDS : ∀ H, SqT K H (He.ga K "KEYWORDS") (v_KEYWORDS.map V.str)
  g_MOST_ARGS : ∃ u, mg "MOST_ARGS" = some (.int 3 u)
  g_MOST_DEPTH : ∃ u, mg "MOST_DEPTH" = some (.int 5 u)
  g_MOST_NESTED : ∃ u, mg "MOST_NESTED" = some (.int 6 u)
  g_MOST_NUMBER : ∃ u, mg "MOST_NUMBER" = some (.int 999999 u)
  g_MOST_SITES : ∃ u, mg "MOST_SITES" = some (.int 6 u)
  g_MOST_STATEMENTS : ∃ u, mg "MOST_STATEMENTS" = some (.int 40 u)
  g_SIGNS : mg "SIGNS" = some (.ref (He.ga K "SIGNS"))
  t_SIGNS : ∀ H, SqT K H (He.ga K "SIGNS") (v_SIGNS.map V.str)
  g_SMALL : ∃ u, mg "SMALL" = some (.str "abcdefghijklmnopqrstuvwxyz" u)
section
variable {P : Program} {w : World} {K : PySem.W.Frag} {mg : Str → Option Value} {base : Heap}
abbrev s_is_number : Stmt := top 1
abbrev n_is_number : List Str := ["value"]
theorem sc_is_number : FnScope n_is_number ["value"] (defScope s_is_number) := ⟨rfl, rfl, rfl, by decide +kernel, rfl, by decide +kernel, by decide +kernel⟩
theorem ok_is_number (T : Txt K mg) (hF : ∃ fd, FnS K "is_number" "is_number" s_is_number [] (He.ga K "is_number") fd) (m : mg "is_number" = some (.ref (He.ga K "is_number")))
    {Ab : List D → (D → Prop) → Prop} (hlen : ∀ ds P, Ab ds P → ds.length = 1) (hA : ∀ ds P, Ab ds P → a_is_number { nx := fun _ _ => P .non, rt := fun d _ => P d } (startG 1 ds) []) :
    Fnc P w K mg base "is_number" (0 + 1) ["value"] (fun _ => True) Ab := by
  delta a_is_number at hA
  refine fnc_mk (st := s_is_number) (N := n_is_number) hF m sc_is_number (fun _ _ _ _ _ _ us hl => match us, hl with | [_], _ => rfl) (fun _ _ _ _ _ _ us hl => match us, hl with | [_], _ => rfl) hlen hA fun Fm fd cdv A' outer s H E hW hr => ?_
  exact ⟨_, jss_one (js_ret (je_and (je_callB call_isi s_isi T.b_isinstance PyProof.Rows.boot_isinstance (ja_cons (je_var 0) (ja_cons (je_ty T.b_int PyProof.Rows.boot_int) (ja_nil)))) (je_one (je_not (je_callB call_isi s_isi T.b_isinstance PyProof.Rows.boot_isinstance (ja_cons (je_var 0) (ja_cons (je_ty T.b_bool PyProof.Rows.boot_bool) (ja_nil))))))))⟩

abbrev s_common_divisor : Stmt := top 2
abbrev n_common_divisor : List Str := ["one", "other"]
theorem sc_common_divisor : FnScope n_common_divisor ["one", "other"] (defScope s_common_divisor) := ⟨rfl, rfl, rfl, by decide +kernel, rfl, by decide +kernel, by decide +kernel⟩
theorem ok_common_divisor (T : Txt K mg) (hF : ∃ fd, FnS K "common_divisor" "common_divisor" s_common_divisor [] (He.ga K "common_divisor") fd) (m : mg "common_divisor" = some (.ref (He.ga K "common_divisor")))
    {Ab : List D → (D → Prop) → Prop} (hlen : ∀ ds P, Ab ds P → ds.length = 2) (hA : ∀ ds P, Ab ds P → a_common_divisor { nx := fun _ _ => P .non, rt := fun d _ => P d } (startG 2 ds) []) :
    Fnc P w K mg base "common_divisor" (0 + 1) ["one", "other"] (fun _ => True) Ab := by
  delta a_common_divisor at hA
  refine fnc_mk (st := s_common_divisor) (N := n_common_divisor) hF m sc_common_divisor (fun _ _ _ _ _ _ us hl => match us, hl with | [_, _], _ => rfl) (fun _ _ _ _ _ _ us hl => match us, hl with | [_, _], _ => rfl) hlen hA fun Fm fd cdv A' outer s H E hW hr => ?_
  exact ⟨_, jss_cons (js_while (jt_cmp jo_gt (je_var 1) (je_int)) (jss_one (js_par 0 1 sc_common_divisor.nd (ja_cons (je_var 1) (ja_cons (je_op jo_mod (je_var 0) (je_var 1)) (ja_nil))))) PassesOwn.never)
      (jss_one (js_ret (je_var 0)))⟩

abbrev s_is_word : Stmt := top 14
abbrev n_is_word : List Str := ["value", "signs", "most", "sign"]
theorem sc_is_word : FnScope n_is_word ["value", "signs", "most"] (defScope s_is_word) := ⟨rfl, rfl, rfl, by decide +kernel, rfl, by decide +kernel, by decide +kernel⟩
theorem ok_is_word (T : Txt K mg) (hF : ∃ fd, FnS K "is_word" "is_word" s_is_word [] (He.ga K "is_word") fd) (m : mg "is_word" = some (.ref (He.ga K "is_word")))
    {Ab : List D → (D → Prop) → Prop} (hlen : ∀ ds P, Ab ds P → ds.length = 3) (hA : ∀ ds P, Ab ds P → a_is_word { nx := fun _ _ => P .non, rt := fun d _ => P d } (startG 4 ds) []) :
    Fnc P w K mg base "is_word" (0 + 1) ["value", "signs", "most"] (fun _ => True) Ab := by
  delta a_is_word at hA
  refine fnc_mk (st := s_is_word) (N := n_is_word) hF m sc_is_word (fun _ _ _ _ _ _ us hl => match us, hl with | [_, _, _], _ => rfl) (fun _ _ _ _ _ _ us hl => match us, hl with | [_, _, _], _ => rfl) hlen hA fun Fm fd cdv A' outer s H E hW hr => ?_
  exact ⟨_, jss_cons (js_if (jt_w (jw_or (jt_not (jt_val (je_callB call_isi s_isi T.b_isinstance PyProof.Rows.boot_isinstance (ja_cons (je_var 0) (ja_cons (je_ty T.b_str PyProof.Rows.boot_str) (ja_nil)))))) (jw_or (jt_not (jt_chain jo_le jo_le (je_int) (je_callB call_len s_len T.b_len PySem.boot_len (ja_cons (je_var 0) (ja_nil))) (je_var 2))) (jw_or1 (jt_cmp (jo_in (hu65 hr)) (je_var 0) (je_gtup T.g_KEYWORDS T.t_KEYWORDS (r_KEYWORDS _))))))) (jss_one (js_ret (je_bl))) (jss_nil))
      (jss_one (js_ret (je_callB (cr_all (by rfl)) s_all T.b_all PyProof.Rows.boot_all (ja_cons (je_lc (own := [("sign", 3)]) rfl sc_is_word.nd (ji_any (je_var 0)) (blkOk_by (N := n_is_word) (sc := defScope s_is_word) (by decide +kernel)) (fun _ _ _ _ _ => jg_name 3 sc_is_word.nd) (by decide) (fun _ _ _ _ _ => jts_nil) (fun _ _ _ _ _ => je_cmp (jo_inK (Kf := K) (by rfl) (hu65 hr)) (je_var 3) (je_var 1))) (ja_nil)))))⟩

abbrev s_is_own : Stmt := top 15
abbrev n_is_own : List Str := ["value"]
theorem sc_is_own : FnScope n_is_own ["value"] (defScope s_is_own) := ⟨rfl, rfl, rfl, by decide +kernel, rfl, by decide +kernel, by decide +kernel⟩
theorem ok_is_own (T : Txt K mg) (h_is_word : Fnc P w K mg base "is_word" 1 ["value", "signs", "most"] (fun _ => True) A_is_word) (hF : ∃ fd, FnS K "is_own" "is_own" s_is_own [] (He.ga K "is_own") fd) (m : mg "is_own" = some (.ref (He.ga K "is_own")))
    {Ab : List D → (D → Prop) → Prop} (hlen : ∀ ds P, Ab ds P → ds.length = 1) (hA : ∀ ds P, Ab ds P → a_is_own { nx := fun _ _ => P .non, rt := fun d _ => P d } (startG 1 ds) []) :
    Fnc P w K mg base "is_own" (1 + 1) ["value"] (fun _ => True) Ab := by
  delta a_is_own at hA
  refine fnc_mk (st := s_is_own) (N := n_is_own) hF m sc_is_own (fun _ _ _ _ _ _ us hl => match us, hl with | [_], _ => rfl) (fun _ _ _ _ _ _ us hl => match us, hl with | [_], _ => rfl) hlen hA fun Fm fd cdv A' outer s H E hW hr => ?_
  exact ⟨_, jss_one (js_ret (je_fnc (h_is_word) hr (by decide) fc_any (ja_cons (je_var 0) (ja_cons (je_gstr T.g_SMALL) (ja_cons (je_int) (ja_nil))))))⟩

abbrev s_is_shared : Stmt := top 16
abbrev n_is_shared : List Str := ["value"]
theorem sc_is_shared : FnScope n_is_shared ["value"] (defScope s_is_shared) := ⟨rfl, rfl, rfl, by decide +kernel, rfl, by decide +kernel, by decide +kernel⟩
theorem ok_is_shared (T : Txt K mg) (h_is_word : Fnc P w K mg base "is_word" 1 ["value", "signs", "most"] (fun _ => True) A_is_word) (hF : ∃ fd, FnS K "is_shared" "is_shared" s_is_shared [] (He.ga K "is_shared") fd) (m : mg "is_shared" = some (.ref (He.ga K "is_shared")))
    {Ab : List D → (D → Prop) → Prop} (hlen : ∀ ds P, Ab ds P → ds.length = 1) (hA : ∀ ds P, Ab ds P → a_is_shared { nx := fun _ _ => P .non, rt := fun d _ => P d } (startG 1 ds) []) :
    Fnc P w K mg base "is_shared" (1 + 1) ["value"] (fun _ => True) Ab := by
  delta a_is_shared at hA
  refine fnc_mk (st := s_is_shared) (N := n_is_shared) hF m sc_is_shared (fun _ _ _ _ _ _ us hl => match us, hl with | [_], _ => rfl) (fun _ _ _ _ _ _ us hl => match us, hl with | [_], _ => rfl) hlen hA fun Fm fd cdv A' outer s H E hW hr => ?_
  exact ⟨_, jss_one (js_ret (je_fnc (h_is_word) hr (by decide) fc_any (ja_cons (je_var 0) (ja_cons (je_gstr T.g_GREAT) (ja_cons (je_int) (ja_nil))))))⟩

abbrev s_is_name : Stmt := top 17
abbrev n_is_name : List Str := ["value"]
theorem sc_is_name : FnScope n_is_name ["value"] (defScope s_is_name) := ⟨rfl, rfl, rfl, by decide +kernel, rfl, by decide +kernel, by decide +kernel⟩
theorem ok_is_name (T : Txt K mg) (h_is_word : Fnc P w K mg base "is_word" 1 ["value", "signs", "most"] (fun _ => True) A_is_word) (hF : ∃ fd, FnS K "is_name" "is_name" s_is_name [] (He.ga K "is_name") fd) (m : mg "is_name" = some (.ref (He.ga K "is_name")))
    {Ab : List D → (D → Prop) → Prop} (hlen : ∀ ds P, Ab ds P → ds.length = 1) (hA : ∀ ds P, Ab ds P → a_is_name { nx := fun _ _ => P .non, rt := fun d _ => P d } (startG 1 ds) []) :
    Fnc P w K mg base "is_name" (1 + 1) ["value"] (fun _ => True) Ab := by
  delta a_is_name at hA
  refine fnc_mk (st := s_is_name) (N := n_is_name) hF m sc_is_name (fun _ _ _ _ _ _ us hl => match us, hl with | [_], _ => rfl) (fun _ _ _ _ _ _ us hl => match us, hl with | [_], _ => rfl) hlen hA fun Fm fd cdv A' outer s H E hW hr => ?_
  exact ⟨_, jss_one (js_ret (je_fnc (h_is_word) hr (by decide) fc_any (ja_cons (je_var 0) (ja_cons (je_gstr T.g_SMALL) (ja_cons (je_int) (ja_nil))))))⟩

abbrev s_is_weight : Stmt := top 18
abbrev n_is_weight : List Str := ["value"]
theorem sc_is_weight : FnScope n_is_weight ["value"] (defScope s_is_weight) := ⟨rfl, rfl, rfl, by decide +kernel, rfl, by decide +kernel, by decide +kernel⟩
theorem ok_is_weight (T : Txt K mg) (h_is_number : Fnc P w K mg base "is_number" 1 ["value"] (fun _ => True) A_is_number) (h_common_divisor : Fnc P w K mg base "common_divisor" 1 ["one", "other"] (fun _ => True) A_common_divisor) (hF : ∃ fd, FnS K "is_weight" "is_weight" s_is_weight [] (He.ga K "is_weight") fd) (m : mg "is_weight" = some (.ref (He.ga K "is_weight")))
    {Ab : List D → (D → Prop) → Prop} (hlen : ∀ ds P, Ab ds P → ds.length = 1) (hA : ∀ ds P, Ab ds P → a_is_weight { nx := fun _ _ => P .non, rt := fun d _ => P d } (startG 1 ds) []) :
    Fnc P w K mg base "is_weight" (1 + 1) ["value"] (fun _ => True) Ab := by
  delta a_is_weight at hA
  refine fnc_mk (st := s_is_weight) (N := n_is_weight) hF m sc_is_weight (fun _ _ _ _ _ _ us hl => match us, hl with | [_], _ => rfl) (fun _ _ _ _ _ _ us hl => match us, hl with | [_], _ => rfl) hlen hA fun Fm fd cdv A' outer s H E hW hr => ?_
  exact ⟨_, jss_cons (js_if (jt_w (jw_or (jt_not (jt_val (je_callB call_isi s_isi T.b_isinstance PyProof.Rows.boot_isinstance (ja_cons (je_var 0) (ja_cons (je_ty T.b_tuple PyProof.Rows.boot_tuple) (ja_nil)))))) (jw_or (jt_cmp (jo_ne (hu65 hr)) (je_callB call_len s_len T.b_len PySem.boot_len (ja_cons (je_var 0) (ja_nil))) (je_int)) (jw_or (jt_not (jt_val (je_fnc (h_is_number) hr (by decide) fc_any (ja_cons (je_ix (je_var 0) (je_int)) (ja_nil))))) (jw_or1 (jt_not (jt_val (je_fnc (h_is_number) hr (by decide) fc_any (ja_cons (je_ix (je_var 0) (je_int)) (ja_nil)))))))))) (jss_one (js_ret (je_bl))) (jss_nil))
      (jss_one (js_ret (je_and (je_chain jo_le jo_le (je_int) (je_ix (je_var 0) (je_int)) (je_int)) (je_and (je_chain jo_le jo_le (je_int) (je_ix (je_var 0) (je_int)) (je_int)) (je_one (je_cmp (jo_eq (hu65 hr)) (je_fnc (h_common_divisor) hr (by decide) fc_any (ja_cons (je_ix (je_var 0) (je_int)) (ja_cons (je_ix (je_var 0) (je_int)) (ja_nil)))) (je_int)))))))⟩

abbrev s_fits : Stmt := top 19
abbrev n_fits : List Str := ["value", "deep", "word"]
theorem sc_fits : FnScope n_fits ["value", "deep"] (defScope s_fits) := ⟨rfl, rfl, rfl, by decide +kernel, rfl, by decide +kernel, by decide +kernel⟩
theorem ok_fits (T : Txt K mg) {A : List D → (D → Prop) → Prop} {lv : Nat} (h_fits : Fnc P w K mg base "fits" lv ["value", "deep"] (fun _ => True) A) (h_is_number : Fnc P w K mg base "is_number" 1 ["value"] (fun _ => True) A_is_number) (h_is_own : Fnc P w K mg base "is_own" 2 ["value"] (fun _ => True) A_is_own) (h_is_shared : Fnc P w K mg base "is_shared" 2 ["value"] (fun _ => True) A_is_shared) (hF : ∃ fd, FnS K "fits" "fits" s_fits [] (He.ga K "fits") fd) (m : mg "fits" = some (.ref (He.ga K "fits")))
    {Ab : List D → (D → Prop) → Prop} (hlen : ∀ ds P, Ab ds P → ds.length = 2) (hA : ∀ ds P, Ab ds P → a_fits A { nx := fun _ _ => P .non, rt := fun d _ => P d } (startG 3 ds) []) (hl_is_number : 1 ≤ lv) (hl_is_own : 2 ≤ lv) (hl_is_shared : 2 ≤ lv) :
    Fnc P w K mg base "fits" (lv + 1) ["value", "deep"] (fun _ => True) Ab := by
  delta a_fits at hA
  refine fnc_mk (st := s_fits) (N := n_fits) hF m sc_fits (fun _ _ _ _ _ _ us hl => match us, hl with | [_, _], _ => rfl) (fun _ _ _ _ _ _ us hl => match us, hl with | [_, _], _ => rfl) hlen hA fun Fm fd cdv A' outer s H E hW hr => ?_
  exact ⟨_, jss_cons (js_if (jt_w (jw_or (jt_cmp jo_lt (je_var 1) (je_int)) (jw_or (jt_not (jt_val (je_callB call_isi s_isi T.b_isinstance PyProof.Rows.boot_isinstance (ja_cons (je_var 0) (ja_cons (je_ty T.b_tuple PyProof.Rows.boot_tuple) (ja_nil)))))) (jw_or (jt_cmp jo_lt (je_callB call_len s_len T.b_len PySem.boot_len (ja_cons (je_var 0) (ja_nil))) (je_int)) (jw_or1 (jt_not (jt_val (je_callB call_isi s_isi T.b_isinstance PyProof.Rows.boot_isinstance (ja_cons (je_ix (je_var 0) (je_int)) (ja_cons (je_ty T.b_str PyProof.Rows.boot_str) (ja_nil))))))))))) (jss_one (js_ret (je_bl))) (jss_nil))
      (jss_cons (js_set 2 sc_fits.nd (je_ix (je_var 0) (je_int)))
      (jss_cons (js_if (jt_cmp (jo_eq (hu65 hr)) (je_var 2) (je_str)) (jss_one (js_ret (je_and (je_cmp (jo_eq (hu65 hr)) (je_callB call_len s_len T.b_len PySem.boot_len (ja_cons (je_var 0) (ja_nil))) (je_int)) (je_and (je_fnc (h_is_number) hr (by omega) fc_any (ja_cons (je_ix (je_var 0) (je_int)) (ja_nil))) (je_one (je_chain jo_le jo_le (je_int) (je_ix (je_var 0) (je_int)) (je_gint T.g_MOST_NUMBER))))))) (jss_nil))
      (jss_cons (js_if (jt_cmp (jo_eq (hu65 hr)) (je_var 2) (je_str)) (jss_one (js_ret (je_and (je_cmp (jo_eq (hu65 hr)) (je_callB call_len s_len T.b_len PySem.boot_len (ja_cons (je_var 0) (ja_nil))) (je_int)) (je_one (je_or (je_fnc (h_is_own) hr (by omega) fc_any (ja_cons (je_ix (je_var 0) (je_int)) (ja_nil))) (je_one (je_fnc (h_is_shared) hr (by omega) fc_any (ja_cons (je_ix (je_var 0) (je_int)) (ja_nil))))))))) (jss_nil))
      (jss_cons (js_if (jt_cmp (jo_eq (hu65 hr)) (je_var 2) (je_str)) (jss_one (js_ret (je_and (je_cmp (jo_eq (hu65 hr)) (je_callB call_len s_len T.b_len PySem.boot_len (ja_cons (je_var 0) (ja_nil))) (je_int)) (je_one (je_fnc (h_fits) hr (by omega) fc_any (ja_cons (je_ix (je_var 0) (je_int)) (ja_cons (je_op jo_sub (je_var 1) (je_int)) (ja_nil)))))))) (jss_nil))
      (jss_cons (js_if (jt_w (jw_or (jt_cmp (jo_ne (hu65 hr)) (je_var 2) (je_str)) (jw_or (jt_cmp (jo_ne (hu65 hr)) (je_callB call_len s_len T.b_len PySem.boot_len (ja_cons (je_var 0) (ja_nil))) (je_int)) (jw_or (jt_not (jt_val (je_callB call_isi s_isi T.b_isinstance PyProof.Rows.boot_isinstance (ja_cons (je_ix (je_var 0) (je_int)) (ja_cons (je_ty T.b_str PyProof.Rows.boot_str) (ja_nil)))))) (jw_or1 (jt_cmp (jo_notIn (hu65 hr)) (je_ix (je_var 0) (je_int)) (je_gtup T.g_SIGNS T.t_SIGNS (r_SIGNS _)))))))) (jss_one (js_ret (je_bl))) (jss_nil))
      (jss_one (js_ret (je_and (je_fnc (h_fits) hr (by omega) fc_any (ja_cons (je_ix (je_var 0) (je_int)) (ja_cons (je_op jo_sub (je_var 1) (je_int)) (ja_nil)))) (je_one (je_fnc (h_fits) hr (by omega) fc_any (ja_cons (je_ix (je_var 0) (je_int)) (ja_cons (je_op jo_sub (je_var 1) (je_int)) (ja_nil)))))))))))))⟩

abbrev s_is_expression : Stmt := top 20
abbrev n_is_expression : List Str := ["value"]
theorem sc_is_expression : FnScope n_is_expression ["value"] (defScope s_is_expression) := ⟨rfl, rfl, rfl, by decide +kernel, rfl, by decide +kernel, by decide +kernel⟩
theorem ok_is_expression (T : Txt K mg) (h_fits : Fnc P w K mg base "fits" 9 ["value", "deep"] (fun _ => True) (A_fits 7)) (hF : ∃ fd, FnS K "is_expression" "is_expression" s_is_expression [] (He.ga K "is_expression") fd) (m : mg "is_expression" = some (.ref (He.ga K "is_expression")))
    {Ab : List D → (D → Prop) → Prop} (hlen : ∀ ds P, Ab ds P → ds.length = 1) (hA : ∀ ds P, Ab ds P → a_is_expression { nx := fun _ _ => P .non, rt := fun d _ => P d } (startG 1 ds) []) :
    Fnc P w K mg base "is_expression" (9 + 1) ["value"] (fun _ => True) Ab := by
  delta a_is_expression at hA
  refine fnc_mk (st := s_is_expression) (N := n_is_expression) hF m sc_is_expression (fun _ _ _ _ _ _ us hl => match us, hl with | [_], _ => rfl) (fun _ _ _ _ _ _ us hl => match us, hl with | [_], _ => rfl) hlen hA fun Fm fd cdv A' outer s H E hW hr => ?_
  exact ⟨_, jss_one (js_ret (je_fnc (h_fits) hr (by decide) fc_any (ja_cons (je_var 0) (ja_cons (je_gint T.g_MOST_NESTED) (ja_nil)))))⟩

abbrev s_is_target : Stmt := top 21
abbrev n_is_target : List Str := ["value"]
theorem sc_is_target : FnScope n_is_target ["value"] (defScope s_is_target) := ⟨rfl, rfl, rfl, by decide +kernel, rfl, by decide +kernel, by decide +kernel⟩
theorem ok_is_target (T : Txt K mg) (h_is_own : Fnc P w K mg base "is_own" 2 ["value"] (fun _ => True) A_is_own) (h_is_shared : Fnc P w K mg base "is_shared" 2 ["value"] (fun _ => True) A_is_shared) (hF : ∃ fd, FnS K "is_target" "is_target" s_is_target [] (He.ga K "is_target") fd) (m : mg "is_target" = some (.ref (He.ga K "is_target")))
    {Ab : List D → (D → Prop) → Prop} (hlen : ∀ ds P, Ab ds P → ds.length = 1) (hA : ∀ ds P, Ab ds P → a_is_target { nx := fun _ _ => P .non, rt := fun d _ => P d } (startG 1 ds) []) :
    Fnc P w K mg base "is_target" (2 + 1) ["value"] (fun _ => True) Ab := by
  delta a_is_target at hA
  refine fnc_mk (st := s_is_target) (N := n_is_target) hF m sc_is_target (fun _ _ _ _ _ _ us hl => match us, hl with | [_], _ => rfl) (fun _ _ _ _ _ _ us hl => match us, hl with | [_], _ => rfl) hlen hA fun Fm fd cdv A' outer s H E hW hr => ?_
  exact ⟨_, jss_one (js_ret (je_or (je_fnc (h_is_own) hr (by decide) fc_any (ja_cons (je_var 0) (ja_nil))) (je_one (je_fnc (h_is_shared) hr (by decide) fc_any (ja_cons (je_var 0) (ja_nil))))))⟩

abbrev s_is_call : Stmt := top 22
abbrev n_is_call : List Str := ["value", "one"]
theorem sc_is_call : FnScope n_is_call ["value"] (defScope s_is_call) := ⟨rfl, rfl, rfl, by decide +kernel, rfl, by decide +kernel, by decide +kernel⟩
theorem ok_is_call (T : Txt K mg) (h_is_target : Fnc P w K mg base "is_target" 3 ["value"] (fun _ => True) A_is_target) (h_is_name : Fnc P w K mg base "is_name" 2 ["value"] (fun _ => True) A_is_name) (h_is_expression : Fnc P w K mg base "is_expression" 10 ["value"] (fun _ => True) A_is_expression) (h_is_weight : Fnc P w K mg base "is_weight" 2 ["value"] (fun _ => True) A_is_weight) (hF : ∃ fd, FnS K "is_call" "is_call" s_is_call [] (He.ga K "is_call") fd) (m : mg "is_call" = some (.ref (He.ga K "is_call")))
    {Ab : List D → (D → Prop) → Prop} (hlen : ∀ ds P, Ab ds P → ds.length = 1) (hA : ∀ ds P, Ab ds P → a_is_call { nx := fun _ _ => P .non, rt := fun d _ => P d } (startG 2 ds) []) :
    Fnc P w K mg base "is_call" (10 + 1) ["value"] (fun _ => True) Ab := by
  delta a_is_call at hA
  refine fnc_mk (st := s_is_call) (N := n_is_call) hF m sc_is_call (fun _ _ _ _ _ _ us hl => match us, hl with | [_], _ => rfl) (fun _ _ _ _ _ _ us hl => match us, hl with | [_], _ => rfl) hlen hA fun Fm fd cdv A' outer s H E hW hr => ?_
  exact ⟨_, jss_cons (js_if (jt_w (jw_or (jt_cmp (jo_ne (hu65 hr)) (je_callB call_len s_len T.b_len PySem.boot_len (ja_cons (je_var 0) (ja_nil))) (je_int)) (jw_or (jt_not (jt_val (je_fnc (h_is_target) hr (by decide) fc_any (ja_cons (je_ix (je_var 0) (je_int)) (ja_nil))))) (jw_or (jt_not (jt_val (je_fnc (h_is_name) hr (by decide) fc_any (ja_cons (je_ix (je_var 0) (je_int)) (ja_nil))))) (jw_or1 (jt_not (jt_val (je_callB call_isi s_isi T.b_isinstance PyProof.Rows.boot_isinstance (ja_cons (je_ix (je_var 0) (je_int)) (ja_cons (je_ty T.b_tuple PyProof.Rows.boot_tuple) (ja_nil))))))))))) (jss_one (js_ret (je_bl))) (jss_nil))
      (jss_one (js_ret (je_and (je_cmp jo_le (je_callB call_len s_len T.b_len PySem.boot_len (ja_cons (je_ix (je_var 0) (je_int)) (ja_nil))) (je_gint T.g_MOST_ARGS)) (je_and (je_callB (cr_all (by rfl)) s_all T.b_all PyProof.Rows.boot_all (ja_cons (je_lc (own := [("one", 1)]) rfl sc_is_call.nd (ji_any (je_ix (je_var 0) (je_int))) (blkOk_by (N := n_is_call) (sc := defScope s_is_call) (by decide +kernel)) (fun _ _ _ _ _ => jg_name 1 sc_is_call.nd) (by decide) (fun _ _ _ _ _ => jts_nil) (fun _ _ _ _ _ => je_fncK (Kf := K) (by rfl) (h_is_expression) hr (by decide) fc_any (ja_cons (je_var 1) (ja_nil)))) (ja_nil))) (je_one (je_fnc (h_is_weight) hr (by decide) fc_any (ja_cons (je_ix (je_var 0) (je_int)) (ja_nil))))))))⟩

abbrev s_is_statement : Stmt := top 23
abbrev n_is_statement : List Str := ["value", "depth", "in_while", "word"]
theorem sc_is_statement : FnScope n_is_statement ["value", "depth", "in_while"] (defScope s_is_statement) := ⟨rfl, rfl, rfl, by decide +kernel, rfl, by decide +kernel, by decide +kernel⟩
theorem ok_is_statement (T : Txt K mg) {A : List D → (D → Prop) → Prop} {lv : Nat} (h_is_block : Fnc P w K mg base "is_block" lv ["value", "depth", "in_while"] (fun _ => True) A) (h_is_target : Fnc P w K mg base "is_target" 3 ["value"] (fun _ => True) A_is_target) (h_is_expression : Fnc P w K mg base "is_expression" 10 ["value"] (fun _ => True) A_is_expression) (h_is_call : Fnc P w K mg base "is_call" 11 ["value"] (fun _ => True) A_is_call) (hF : ∃ fd, FnS K "is_statement" "is_statement" s_is_statement [] (He.ga K "is_statement") fd) (m : mg "is_statement" = some (.ref (He.ga K "is_statement")))
    {Ab : List D → (D → Prop) → Prop} (hlen : ∀ ds P, Ab ds P → ds.length = 3) (hA : ∀ ds P, Ab ds P → a_is_statement A { nx := fun _ _ => P .non, rt := fun d _ => P d } (startG 4 ds) []) (hl_is_target : 3 ≤ lv) (hl_is_expression : 10 ≤ lv) (hl_is_call : 11 ≤ lv) :
    Fnc P w K mg base "is_statement" (lv + 1) ["value", "depth", "in_while"] (fun _ => True) Ab := by
  delta a_is_statement at hA
  refine fnc_mk (st := s_is_statement) (N := n_is_statement) hF m sc_is_statement (fun _ _ _ _ _ _ us hl => match us, hl with | [_, _, _], _ => rfl) (fun _ _ _ _ _ _ us hl => match us, hl with | [_, _, _], _ => rfl) hlen hA fun Fm fd cdv A' outer s H E hW hr => ?_
  exact ⟨_, jss_cons (js_if (jt_w (jw_or (jt_not (jt_val (je_callB call_isi s_isi T.b_isinstance PyProof.Rows.boot_isinstance (ja_cons (je_var 0) (ja_cons (je_ty T.b_tuple PyProof.Rows.boot_tuple) (ja_nil)))))) (jw_or (jt_cmp (jo_eq (hu65 hr)) (je_callB call_len s_len T.b_len PySem.boot_len (ja_cons (je_var 0) (ja_nil))) (je_int)) (jw_or1 (jt_not (jt_val (je_callB call_isi s_isi T.b_isinstance PyProof.Rows.boot_isinstance (ja_cons (je_ix (je_var 0) (je_int)) (ja_cons (je_ty T.b_str PyProof.Rows.boot_str) (ja_nil)))))))))) (jss_one (js_ret (je_bl))) (jss_nil))
      (jss_cons (js_set 3 sc_is_statement.nd (je_ix (je_var 0) (je_int)))
      (jss_cons (js_if (jt_cmp (jo_eq (hu65 hr)) (je_var 3) (je_str)) (jss_one (js_ret (je_and (je_cmp (jo_eq (hu65 hr)) (je_callB call_len s_len T.b_len PySem.boot_len (ja_cons (je_var 0) (ja_nil))) (je_int)) (je_one (je_var 2))))) (jss_nil))
      (jss_cons (js_if (jt_cmp (jo_eq (hu65 hr)) (je_var 3) (je_str)) (jss_one (js_ret (je_and (je_cmp (jo_eq (hu65 hr)) (je_callB call_len s_len T.b_len PySem.boot_len (ja_cons (je_var 0) (ja_nil))) (je_int)) (je_and (je_fnc (h_is_target) hr (by omega) fc_any (ja_cons (je_ix (je_var 0) (je_int)) (ja_nil))) (je_one (je_fnc (h_is_expression) hr (by omega) fc_any (ja_cons (je_ix (je_var 0) (je_int)) (ja_nil)))))))) (jss_nil))
      (jss_cons (js_if (jt_w (jw_or (jt_cmp (jo_eq (hu65 hr)) (je_var 3) (je_str)) (jw_or1 (jt_cmp (jo_eq (hu65 hr)) (je_var 3) (je_str))))) (jss_one (js_ret (je_and (je_cmp (jo_eq (hu65 hr)) (je_callB call_len s_len T.b_len PySem.boot_len (ja_cons (je_var 0) (ja_nil))) (je_int)) (je_one (je_fnc (h_is_expression) hr (by omega) fc_any (ja_cons (je_ix (je_var 0) (je_int)) (ja_nil))))))) (jss_nil))
      (jss_cons (js_if (jt_cmp (jo_eq (hu65 hr)) (je_var 3) (je_str)) (jss_one (js_ret (je_fnc (h_is_call) hr (by omega) fc_any (ja_cons (je_var 0) (ja_nil))))) (jss_nil))
      (jss_cons (js_if (jt_cmp (jo_eq (hu65 hr)) (je_var 3) (je_str)) (jss_cons (js_if (jt_w (jw_or (jt_cmp (jo_ne (hu65 hr)) (je_callB call_len s_len T.b_len PySem.boot_len (ja_cons (je_var 0) (ja_nil))) (je_int)) (jw_or (jt_not (jt_val (je_fnc (h_is_expression) hr (by omega) fc_any (ja_cons (je_ix (je_var 0) (je_int)) (ja_nil))))) (jw_or1 (jt_not (jt_val (je_fnc (h_is_block) hr (by omega) fc_any (ja_cons (je_ix (je_var 0) (je_int)) (ja_cons (je_op jo_add (je_var 1) (je_int)) (ja_cons (je_var 2) (ja_nil))))))))))) (jss_one (js_ret (je_bl))) (jss_nil))
      (jss_one (js_ret (je_or (je_cmp (jo_eq (hu65 hr)) (je_ix (je_var 0) (je_int)) (je_tup (ja_nil))) (je_one (je_fnc (h_is_block) hr (by omega) fc_any (ja_cons (je_ix (je_var 0) (je_int)) (ja_cons (je_op jo_add (je_var 1) (je_int)) (ja_cons (je_var 2) (ja_nil)))))))))) (jss_nil))
      (jss_one (js_ret (je_and (je_cmp (jo_eq (hu65 hr)) (je_var 3) (je_str)) (je_and (je_cmp (jo_eq (hu65 hr)) (je_callB call_len s_len T.b_len PySem.boot_len (ja_cons (je_var 0) (ja_nil))) (je_int)) (je_and (je_fnc (h_is_expression) hr (by omega) fc_any (ja_cons (je_ix (je_var 0) (je_int)) (ja_nil))) (je_one (je_fnc (h_is_block) hr (by omega) fc_any (ja_cons (je_ix (je_var 0) (je_int)) (ja_cons (je_op jo_add (je_var 1) (je_int)) (ja_cons (je_bl) (ja_nil)))))))))))))))))⟩

abbrev s_is_block : Stmt := top 24
abbrev n_is_block : List Str := ["value", "depth", "in_while", "one"]
theorem sc_is_block : FnScope n_is_block ["value", "depth", "in_while"] (defScope s_is_block) := ⟨rfl, rfl, rfl, by decide +kernel, rfl, by decide +kernel, by decide +kernel⟩
theorem ok_is_block (T : Txt K mg) {A : List D → (D → Prop) → Prop} {lv : Nat} (h_is_statement : Fnc P w K mg base "is_statement" lv ["value", "depth", "in_while"] (fun _ => True) A) (hF : ∃ fd, FnS K "is_block" "is_block" s_is_block [] (He.ga K "is_block") fd) (m : mg "is_block" = some (.ref (He.ga K "is_block")))
    {Ab : List D → (D → Prop) → Prop} (hlen : ∀ ds P, Ab ds P → ds.length = 3) (hA : ∀ ds P, Ab ds P → a_is_block A { nx := fun _ _ => P .non, rt := fun d _ => P d } (startG 4 ds) []) :
    Fnc P w K mg base "is_block" (lv + 1) ["value", "depth", "in_while"] (fun _ => True) Ab := by
  delta a_is_block at hA
  refine fnc_mk (st := s_is_block) (N := n_is_block) hF m sc_is_block (fun _ _ _ _ _ _ us hl => match us, hl with | [_, _, _], _ => rfl) (fun _ _ _ _ _ _ us hl => match us, hl with | [_, _, _], _ => rfl) hlen hA fun Fm fd cdv A' outer s H E hW hr => ?_
  exact ⟨_, jss_cons (js_if (jt_w (jw_or (jt_cmp jo_gt (je_var 1) (je_gint T.g_MOST_DEPTH)) (jw_or (jt_not (jt_val (je_callB call_isi s_isi T.b_isinstance PyProof.Rows.boot_isinstance (ja_cons (je_var 0) (ja_cons (je_ty T.b_tuple PyProof.Rows.boot_tuple) (ja_nil)))))) (jw_or1 (jt_cmp (jo_eq (hu65 hr)) (je_callB call_len s_len T.b_len PySem.boot_len (ja_cons (je_var 0) (ja_nil))) (je_int)))))) (jss_one (js_ret (je_bl))) (jss_nil))
      (jss_one (js_ret (je_callB (cr_all (by rfl)) s_all T.b_all PyProof.Rows.boot_all (ja_cons (je_lc (own := [("one", 3)]) rfl sc_is_block.nd (ji_any (je_var 0)) (blkOk_by (N := n_is_block) (sc := defScope s_is_block) (by decide +kernel)) (fun _ _ _ _ _ => jg_name 3 sc_is_block.nd) (by decide) (fun _ _ _ _ _ => jts_nil) (fun _ _ _ _ _ => je_fncK (Kf := K) (by rfl) (h_is_statement) hr (by omega) fc_any (ja_cons (je_var 3) (ja_cons (je_var 1) (ja_cons (je_var 2) (ja_nil)))))) (ja_nil)))))⟩

abbrev s_lines_of : Stmt := top 25
abbrev n_lines_of : List Str := ["block", "found", "statement", "inner"]
theorem sc_lines_of : FnScope n_lines_of ["block"] (defScope s_lines_of) := ⟨rfl, rfl, rfl, by decide +kernel, rfl, by decide +kernel, by decide +kernel⟩
theorem ok_lines_of (T : Txt K mg) {A : List D → (D → Prop) → Prop} {lv : Nat} (h_lines_of : Fnc P w K mg base "lines_of" lv ["block"] (fun _ => True) A) (hF : ∃ fd, FnS K "lines_of" "lines_of" s_lines_of [] (He.ga K "lines_of") fd) (m : mg "lines_of" = some (.ref (He.ga K "lines_of")))
    {Ab : List D → (D → Prop) → Prop} (hlen : ∀ ds P, Ab ds P → ds.length = 1) (hA : ∀ ds P, Ab ds P → a_lines_of A { nx := fun _ _ => P .non, rt := fun d _ => P d } (startG 4 ds) []) :
    Fnc P w K mg base "lines_of" (lv + 1) ["block"] (fun _ => True) Ab := by
  delta a_lines_of at hA
  refine fnc_mk (st := s_lines_of) (N := n_lines_of) hF m sc_lines_of (fun _ _ _ _ _ _ us hl => match us, hl with | [_], _ => rfl) (fun _ _ _ _ _ _ us hl => match us, hl with | [_], _ => rfl) hlen hA fun Fm fd cdv A' outer s H E hW hr => ?_
  exact ⟨_, jss_cons (js_set 1 sc_lines_of.nd (je_new (ja_nil)))
      (jss_cons (js_for rfl (ji_any (je_var 0)) (jg_name 2 sc_lines_of.nd) (jss_cons (js_expr (je_app (je_var 1) (je_var 2)))
      (jss_one (js_if (jt_cmp (jo_in (hu65 hr)) (je_ix (je_var 2) (je_int)) (je_tup (ja_cons (je_str) (ja_cons (je_str) (ja_nil))))) (jss_one (js_for rfl (ji_any (je_sl (je_var 2) (jp_some (je_int)) (jp_none))) (jg_name 3 sc_lines_of.nd) (jss_one (js_expr (je_ext (je_var 1) (je_fnc (h_lines_of) hr (by omega) fc_any (ja_cons (je_var 3) (ja_nil)))))) PassesOwn.never)) (jss_nil)))) PassesOwn.never)
      (jss_frz 1 (jss_one (js_ret (je_var 1)))))⟩

abbrev s_is_procedure : Stmt := top 26
abbrev n_is_procedure : List Str := ["value", "params", "lines", "one"]
theorem sc_is_procedure : FnScope n_is_procedure ["value"] (defScope s_is_procedure) := ⟨rfl, rfl, rfl, by decide +kernel, rfl, by decide +kernel, by decide +kernel⟩
theorem ok_is_procedure (T : Txt K mg) (h_is_name : Fnc P w K mg base "is_name" 2 ["value"] (fun _ => True) A_is_name) (h_is_own : Fnc P w K mg base "is_own" 2 ["value"] (fun _ => True) A_is_own) (h_is_block : Fnc P w K mg base "is_block" 24 ["value", "depth", "in_while"] (fun _ => True) (A_is_block 6)) (h_lines_of : Fnc P w K mg base "lines_of" 6 ["block"] (fun _ => True) (A_lines_of 6)) (hF : ∃ fd, FnS K "is_procedure" "is_procedure" s_is_procedure [] (He.ga K "is_procedure") fd) (m : mg "is_procedure" = some (.ref (He.ga K "is_procedure")))
    {Ab : List D → (D → Prop) → Prop} (hlen : ∀ ds P, Ab ds P → ds.length = 1) (hA : ∀ ds P, Ab ds P → a_is_procedure { nx := fun _ _ => P .non, rt := fun d _ => P d } (startG 4 ds) []) :
    Fnc P w K mg base "is_procedure" (24 + 1) ["value"] (fun _ => True) Ab := by
  delta a_is_procedure at hA
  refine fnc_mk (st := s_is_procedure) (N := n_is_procedure) hF m sc_is_procedure (fun _ _ _ _ _ _ us hl => match us, hl with | [_], _ => rfl) (fun _ _ _ _ _ _ us hl => match us, hl with | [_], _ => rfl) hlen hA fun Fm fd cdv A' outer s H E hW hr => ?_
  exact ⟨_, jss_cons (js_if (jt_w (jw_or (jt_not (jt_val (je_callB call_isi s_isi T.b_isinstance PyProof.Rows.boot_isinstance (ja_cons (je_var 0) (ja_cons (je_ty T.b_tuple PyProof.Rows.boot_tuple) (ja_nil)))))) (jw_or (jt_cmp (jo_ne (hu65 hr)) (je_callB call_len s_len T.b_len PySem.boot_len (ja_cons (je_var 0) (ja_nil))) (je_int)) (jw_or (jt_not (jt_val (je_fnc (h_is_name) hr (by decide) fc_any (ja_cons (je_ix (je_var 0) (je_int)) (ja_nil))))) (jw_or1 (jt_not (jt_val (je_callB call_isi s_isi T.b_isinstance PyProof.Rows.boot_isinstance (ja_cons (je_ix (je_var 0) (je_int)) (ja_cons (je_ty T.b_tuple PyProof.Rows.boot_tuple) (ja_nil))))))))))) (jss_one (js_ret (je_bl))) (jss_nil))
      (jss_cons (js_set 1 sc_is_procedure.nd (je_ix (je_var 0) (je_int)))
      (jss_cons (js_if (jt_w (jw_or (jt_cmp jo_gt (je_callB call_len s_len T.b_len PySem.boot_len (ja_cons (je_var 1) (ja_nil))) (je_gint T.g_MOST_ARGS)) (jw_or (jt_not (jt_val (je_callB (cr_all (by rfl)) s_all T.b_all PyProof.Rows.boot_all (ja_cons (je_lc (own := [("one", 3)]) rfl sc_is_procedure.nd (ji_any (je_var 1)) (blkOk_by (N := n_is_procedure) (sc := defScope s_is_procedure) (by decide +kernel)) (fun _ _ _ _ _ => jg_name 3 sc_is_procedure.nd) (by decide) (fun _ _ _ _ _ => jts_nil) (fun _ _ _ _ _ => je_fncK (Kf := K) (by rfl) (h_is_own) hr (by decide) fc_any (ja_cons (je_var 3) (ja_nil)))) (ja_nil))))) (jw_or1 (jt_cmp (jo_ne (hu65 hr)) (je_lenSet T.b_len T.b_set (je_var 1)) (je_callB call_len s_len T.b_len PySem.boot_len (ja_cons (je_var 1) (ja_nil)))))))) (jss_one (js_ret (je_bl))) (jss_nil))
      (jss_cons (js_if (jt_not (jt_val (je_fnc (h_is_block) hr (by decide) fc_any (ja_cons (je_ix (je_var 0) (je_int)) (ja_cons (je_int) (ja_cons (je_bl) (ja_nil))))))) (jss_one (js_ret (je_bl))) (jss_nil))
      (jss_cons (js_set 2 sc_is_procedure.nd (je_fnc (h_lines_of) hr (by decide) fc_any (ja_cons (je_ix (je_var 0) (je_int)) (ja_nil))))
      (jss_one (js_ret (je_and (je_cmp jo_le (je_callB call_len s_len T.b_len PySem.boot_len (ja_cons (je_var 2) (ja_nil))) (je_gint T.g_MOST_STATEMENTS)) (je_one (je_cmp jo_le (je_callB call_len s_len T.b_len PySem.boot_len (ja_cons (je_lc (own := [("one", 3)]) rfl sc_is_procedure.nd (ji_any (je_var 2)) (blkOk_by (N := n_is_procedure) (sc := defScope s_is_procedure) (by decide +kernel)) (fun _ _ _ _ _ => jg_name 3 sc_is_procedure.nd) (by decide) (fun _ _ _ _ _ => jts_one (jt_cmp (jo_eqK (Kf := K) (by rfl) (hu65 hr)) (je_ixK (Kf := K) (by rfl) (je_var 3) (je_int)) (je_str))) (fun _ _ _ _ _ => je_var 3)) (ja_nil))) (je_gint T.g_MOST_SITES))))))))))⟩

abbrev s_l_pick : Stmt := top 30
abbrev n_l_pick : List Str := ["_law_bag_here", "_law_some"]
theorem sc_l_pick : FnScope n_l_pick ["_law_bag_here", "_law_some"] (defScope s_l_pick) := ⟨rfl, rfl, rfl, by decide +kernel, rfl, by decide +kernel, by decide +kernel⟩
theorem ok_l_pick (T : Txt K mg) (h_l_pull : Fnc P w K mg base "_law_pull" 1 ["_law_bag_here", "_law_many"] BagW A_l_pull) (hF : ∃ fd, FnS K "_law_pick" "_law_pick" s_l_pick [] (He.ga K "_law_pick") fd) (m : mg "_law_pick" = some (.ref (He.ga K "_law_pick")))
    {Ab : List D → (D → Prop) → Prop} (hlen : ∀ ds P, Ab ds P → ds.length = 2) (hA : ∀ ds P, Ab ds P → a_l_pick { nx := fun _ _ => P .non, rt := fun d _ => P d } (startG 2 ds) []) :
    Fnc P w K mg base "_law_pick" (1 + 1) ["_law_bag_here", "_law_some"] BagW Ab := by
  delta a_l_pick at hA
  refine fnc_mk (st := s_l_pick) (N := n_l_pick) hF m sc_l_pick (fun _ _ _ _ _ _ us hl => match us, hl with | [_, _], _ => rfl) (fun _ _ _ _ _ _ us hl => match us, hl with | [_, _], _ => rfl) hlen hA fun Fm fd cdv A' outer s H E hW hr => ?_
  exact ⟨_, jss_one (js_ret (je_ix (je_var 1) (je_fnc (h_l_pull) hr (by decide) (fc_bag hW) (ja_cons (je_var 0) (ja_cons (je_callB call_len s_len T.b_len PySem.boot_len (ja_cons (je_var 1) (ja_nil))) (ja_nil))))))⟩

abbrev s_l_kind : Stmt := top 31
abbrev n_l_kind : List Str := ["_law_value", "_law_found"]
theorem sc_l_kind : FnScope n_l_kind ["_law_value"] (defScope s_l_kind) := ⟨rfl, rfl, rfl, by decide +kernel, rfl, by decide +kernel, by decide +kernel⟩
theorem ok_l_kind (T : Txt K mg) (hF : ∃ fd, FnS K "_law_kind" "_law_kind" s_l_kind [] (He.ga K "_law_kind") fd) (m : mg "_law_kind" = some (.ref (He.ga K "_law_kind")))
    {Ab : List D → (D → Prop) → Prop} (hlen : ∀ ds P, Ab ds P → ds.length = 1) (hA : ∀ ds P, Ab ds P → a_l_kind { nx := fun _ _ => P .non, rt := fun d _ => P d } (startG 2 ds) []) :
    Fnc P w K mg base "_law_kind" (0 + 1) ["_law_value"] (fun _ => True) Ab := by
  delta a_l_kind at hA
  refine fnc_mk (st := s_l_kind) (N := n_l_kind) hF m sc_l_kind (fun _ _ _ _ _ _ us hl => match us, hl with | [_], _ => rfl) (fun _ _ _ _ _ _ us hl => match us, hl with | [_], _ => rfl) hlen hA fun Fm fd cdv A' outer s H E hW hr => ?_
  exact ⟨_, jss_cons (js_set 1 sc_l_kind.nd (je_lst (ja_cons (je_cmp jo_isN (je_var 0) (je_non)) (ja_cons (je_callB call_isi s_isi T.b_isinstance PyProof.Rows.boot_isinstance (ja_cons (je_var 0) (ja_cons (je_ty T.b_bool PyProof.Rows.boot_bool) (ja_nil)))) (ja_cons (je_callB call_isi s_isi T.b_isinstance PyProof.Rows.boot_isinstance (ja_cons (je_var 0) (ja_cons (je_ty T.b_int PyProof.Rows.boot_int) (ja_nil)))) (ja_cons (je_callB call_isi s_isi T.b_isinstance PyProof.Rows.boot_isinstance (ja_cons (je_var 0) (ja_cons (je_ty T.b_str PyProof.Rows.boot_str) (ja_nil)))) (ja_nil)))))))
      (jss_cons (js_set 1 sc_l_kind.nd (je_op jo_add (je_var 1) (je_lst (ja_cons (je_callB call_isi s_isi T.b_isinstance PyProof.Rows.boot_isinstance (ja_cons (je_var 0) (ja_cons (je_ty T.b_list PyProof.Rows.boot_list) (ja_nil)))) (ja_cons (je_callB call_isi s_isi T.b_isinstance PyProof.Rows.boot_isinstance (ja_cons (je_var 0) (ja_cons (je_ty T.b_tuple PyProof.Rows.boot_tuple) (ja_nil)))) (ja_cons (je_callB call_isi s_isi T.b_isinstance PyProof.Rows.boot_isinstance (ja_cons (je_var 0) (ja_cons (je_ty T.b_dict PyProof.Rows.boot_dict) (ja_nil)))) (ja_cons (je_bl) (ja_nil))))))))
      (jss_one (js_ret (je_index (je_var 1) (ja_cons (je_bl) (ja_nil))))))⟩

abbrev s_l_same : Stmt := top 32
abbrev n_l_same : List Str := ["_law_found", "_law_due", "_law_key", "_law_one", "_law_other"]
theorem sc_l_same : FnScope n_l_same ["_law_found", "_law_due"] (defScope s_l_same) := ⟨rfl, rfl, rfl, by decide +kernel, rfl, by decide +kernel, by decide +kernel⟩
theorem ok_l_same (T : Txt K mg) {A : List D → (D → Prop) → Prop} {lv : Nat} (h_l_same : Fnc P w K mg base "_law_same" lv ["_law_found", "_law_due"] (fun _ => True) A) (h_l_kind : Fnc P w K mg base "_law_kind" 1 ["_law_value"] (fun _ => True) A_l_kind) (hF : ∃ fd, FnS K "_law_same" "_law_same" s_l_same [] (He.ga K "_law_same") fd) (m : mg "_law_same" = some (.ref (He.ga K "_law_same")))
    {Ab : List D → (D → Prop) → Prop} (hlen : ∀ ds P, Ab ds P → ds.length = 2) (hA : ∀ ds P, Ab ds P → a_l_same A { nx := fun _ _ => P .non, rt := fun d _ => P d } (startG 5 ds) []) (hl_l_kind : 1 ≤ lv) :
    Fnc P w K mg base "_law_same" (lv + 1) ["_law_found", "_law_due"] (fun _ => True) Ab := by
  delta a_l_same at hA
  refine fnc_mk (st := s_l_same) (N := n_l_same) hF m sc_l_same (fun _ _ _ _ _ _ us hl => match us, hl with | [_, _], _ => rfl) (fun _ _ _ _ _ _ us hl => match us, hl with | [_, _], _ => rfl) hlen hA fun Fm fd cdv A' outer s H E hW hr => ?_
  exact ⟨_, jss_cons (js_if (jt_cmp (jo_ne (hu65 hr)) (je_fnc (h_l_kind) hr (by omega) fc_any (ja_cons (je_var 0) (ja_nil))) (je_fnc (h_l_kind) hr (by omega) fc_any (ja_cons (je_var 1) (ja_nil)))) (jss_one (js_ret (je_bl))) (jss_nil))
      (jss_cons (js_if (jt_cmp (jo_in (hu65 hr)) (je_fnc (h_l_kind) hr (by omega) fc_any (ja_cons (je_var 1) (ja_nil))) (je_tup (ja_cons (je_int) (ja_cons (je_int) (ja_nil))))) (jss_one (js_ret (je_and (je_cmp (jo_eq (hu65 hr)) (je_callB call_len s_len T.b_len PySem.boot_len (ja_cons (je_var 0) (ja_nil))) (je_callB call_len s_len T.b_len PySem.boot_len (ja_cons (je_var 1) (ja_nil)))) (je_one (je_callB (cr_all (by rfl)) s_all T.b_all PyProof.Rows.boot_all (ja_cons (je_lc (own := [("_law_one", 3), ("_law_other", 4)]) rfl sc_l_same.nd (ji_zip T.b_zip (ja_cons (je_var 0) (ja_cons (je_var 1) (ja_nil)))) (blkOk_by (N := n_l_same) (sc := defScope s_l_same) (by decide +kernel)) (fun _ _ _ _ _ => jg_tupK (Kf := K) (by rfl) (by rfl) (jgs_cons (jg_name 3 sc_l_same.nd) (jgs_cons (jg_name 4 sc_l_same.nd) (jgs_nil)))) (by decide) (fun _ _ _ _ _ => jts_nil) (fun _ _ _ _ _ => je_fncK (Kf := K) (by rfl) (h_l_same) hr (by omega) fc_any (ja_cons (je_var 3) (ja_cons (je_var 4) (ja_nil))))) (ja_nil))))))) (jss_nil))
      (jss_cons (js_if (jt_cmp (jo_eq (hu65 hr)) (je_fnc (h_l_kind) hr (by omega) fc_any (ja_cons (je_var 1) (ja_nil))) (je_int)) (jss_never) (jss_nil))
      (jss_one (js_ret (je_cmp (jo_eq (hu65 hr)) (je_var 0) (je_var 1))))))⟩

abbrev s_l_divisor : Stmt := top 33
abbrev n_l_divisor : List Str := ["_law_one", "_law_other"]
theorem sc_l_divisor : FnScope n_l_divisor ["_law_one", "_law_other"] (defScope s_l_divisor) := ⟨rfl, rfl, rfl, by decide +kernel, rfl, by decide +kernel, by decide +kernel⟩
theorem ok_l_divisor (T : Txt K mg) (hF : ∃ fd, FnS K "_law_divisor" "_law_divisor" s_l_divisor [] (He.ga K "_law_divisor") fd) (m : mg "_law_divisor" = some (.ref (He.ga K "_law_divisor")))
    {Ab : List D → (D → Prop) → Prop} (hlen : ∀ ds P, Ab ds P → ds.length = 2) (hA : ∀ ds P, Ab ds P → a_l_divisor { nx := fun _ _ => P .non, rt := fun d _ => P d } (startG 2 ds) []) :
    Fnc P w K mg base "_law_divisor" (0 + 1) ["_law_one", "_law_other"] (fun _ => True) Ab := by
  delta a_l_divisor at hA
  refine fnc_mk (st := s_l_divisor) (N := n_l_divisor) hF m sc_l_divisor (fun _ _ _ _ _ _ us hl => match us, hl with | [_, _], _ => rfl) (fun _ _ _ _ _ _ us hl => match us, hl with | [_, _], _ => rfl) hlen hA fun Fm fd cdv A' outer s H E hW hr => ?_
  exact ⟨_, jss_cons (js_while (jt_cmp jo_gt (je_var 1) (je_int)) (jss_one (js_par 0 1 sc_l_divisor.nd (ja_cons (je_var 1) (ja_cons (je_op jo_mod (je_var 0) (je_var 1)) (ja_nil))))) PassesOwn.never)
      (jss_one (js_ret (je_var 0)))⟩

abbrev s_l_frac : Stmt := top 34
abbrev n_l_frac : List Str := ["_law_top", "_law_bottom", "_law_by"]
theorem sc_l_frac : FnScope n_l_frac ["_law_top", "_law_bottom"] (defScope s_l_frac) := ⟨rfl, rfl, rfl, by decide +kernel, rfl, by decide +kernel, by decide +kernel⟩
theorem ok_l_frac (T : Txt K mg) (h_l_divisor : Fnc P w K mg base "_law_divisor" 1 ["_law_one", "_law_other"] (fun _ => True) A_l_divisor) (hF : ∃ fd, FnS K "_law_frac" "_law_frac" s_l_frac [] (He.ga K "_law_frac") fd) (m : mg "_law_frac" = some (.ref (He.ga K "_law_frac")))
    {Ab : List D → (D → Prop) → Prop} (hlen : ∀ ds P, Ab ds P → ds.length = 2) (hA : ∀ ds P, Ab ds P → a_l_frac { nx := fun _ _ => P .non, rt := fun d _ => P d } (startG 3 ds) []) :
    Fnc P w K mg base "_law_frac" (1 + 1) ["_law_top", "_law_bottom"] (fun _ => True) Ab := by
  delta a_l_frac at hA
  refine fnc_mk (st := s_l_frac) (N := n_l_frac) hF m sc_l_frac (fun _ _ _ _ _ _ us hl => match us, hl with | [_, _], _ => rfl) (fun _ _ _ _ _ _ us hl => match us, hl with | [_, _], _ => rfl) hlen hA fun Fm fd cdv A' outer s H E hW hr => ?_
  exact ⟨_, jss_cons (js_set 2 sc_l_frac.nd (je_fnc (h_l_divisor) hr (by decide) fc_any (ja_cons (je_callB call_abs s_abs T.b_abs PyProof.Rows.boot_abs (ja_cons (je_var 0) (ja_nil))) (ja_cons (je_var 1) (ja_nil)))))
      (jss_one (js_ret (je_tup (ja_cons (je_op jo_div (je_var 0) (je_var 2)) (ja_cons (je_op jo_div (je_var 1) (je_var 2)) (ja_nil))))))⟩

abbrev s_l_keywords : Stmt := top 35
abbrev n_l_keywords : List Str := []
theorem sc_l_keywords : FnScope n_l_keywords [] (defScope s_l_keywords) := ⟨rfl, rfl, rfl, by decide +kernel, rfl, by decide +kernel, by decide +kernel⟩
theorem ok_l_keywords (T : Txt K mg) (hF : ∃ fd, FnS K "_law_keywords" "_law_keywords" s_l_keywords [] (He.ga K "_law_keywords") fd) (m : mg "_law_keywords" = some (.ref (He.ga K "_law_keywords")))
    {Ab : List D → (D → Prop) → Prop} (hlen : ∀ ds P, Ab ds P → ds.length = 0) (hA : ∀ ds P, Ab ds P → a_l_keywords { nx := fun _ _ => P .non, rt := fun d _ => P d } (startG 0 ds) []) :
    Fnc P w K mg base "_law_keywords" (0 + 1) [] (fun _ => True) Ab := by
  delta a_l_keywords at hA
  refine fnc_mk (st := s_l_keywords) (N := n_l_keywords) hF m sc_l_keywords (fun _ _ _ _ _ _ us hl => match us, hl with | [], _ => rfl) (fun _ _ _ _ _ _ us hl => match us, hl with | [], _ => rfl) hlen hA fun Fm fd cdv A' outer s H E hW hr => ?_
  exact ⟨_, jss_one (js_ret (je_lst (ja_cons (je_str) (ja_cons (je_str) (ja_cons (je_str) (ja_cons (je_str) (ja_cons (je_str) (ja_cons (je_str) (ja_cons (je_str) (ja_cons (je_str) (ja_cons (je_str) (ja_cons (je_str) (ja_cons (je_str) (ja_nil))))))))))))))⟩

abbrev s_l_word : Stmt := top 36
abbrev n_l_word : List Str := ["_law_bag_here", "_law_most", "_law_letters", "_law_word_here", "_law_k"]
theorem sc_l_word : FnScope n_l_word ["_law_bag_here", "_law_most"] (defScope s_l_word) := ⟨rfl, rfl, rfl, by decide +kernel, rfl, by decide +kernel, by decide +kernel⟩
theorem ok_l_word (T : Txt K mg) (h_l_pull : Fnc P w K mg base "_law_pull" 1 ["_law_bag_here", "_law_many"] BagW A_l_pull) (h_l_keywords : Fnc P w K mg base "_law_keywords" 1 [] (fun _ => True) A_l_keywords) (hF : ∃ fd, FnS K "_law_word" "_law_word" s_l_word [] (He.ga K "_law_word") fd) (m : mg "_law_word" = some (.ref (He.ga K "_law_word")))
    {Ab : List D → (D → Prop) → Prop} (hlen : ∀ ds P, Ab ds P → ds.length = 2) (hA : ∀ ds P, Ab ds P → a_l_word { nx := fun _ _ => P .non, rt := fun d _ => P d } (startG 5 ds) []) :
    Fnc P w K mg base "_law_word" (1 + 1) ["_law_bag_here", "_law_most"] BagW Ab := by
  delta a_l_word at hA
  refine fnc_mk (st := s_l_word) (N := n_l_word) hF m sc_l_word (fun _ _ _ _ _ _ us hl => match us, hl with | [_, _], _ => rfl) (fun _ _ _ _ _ _ us hl => match us, hl with | [_, _], _ => rfl) hlen hA fun Fm fd cdv A' outer s H E hW hr => ?_
  exact ⟨_, jss_cons (js_set 2 sc_l_word.nd (je_str))
      (jss_cons (js_set 3 sc_l_word.nd (je_join (je_str) (je_lc (own := [("_law_k", 4)]) rfl sc_l_word.nd (ji_rng1 T.b_range (ja_cons (je_op jo_add (je_int) (je_fnc (h_l_pull) hr (by decide) (fc_bag hW) (ja_cons (je_var 0) (ja_cons (je_var 1) (ja_nil))))) (ja_nil))) (blkOk_by (N := n_l_word) (sc := defScope s_l_word) (by decide +kernel)) (fun _ _ _ _ _ => jg_name 4 sc_l_word.nd) (by decide) (fun _ _ _ _ _ => jts_nil) (fun _ _ _ _ _ => je_ixK (Kf := K) (by rfl) (je_var 2) (je_fncK (Kf := K) (by rfl) (h_l_pull) hr (by decide) (fc_bag hW) (ja_cons (je_var 0) (ja_cons (je_int) (ja_nil))))))))
      (jss_one (js_ret (je_if (jt_cmp (jo_in (hu65 hr)) (je_var 3) (je_fnc0 (h_l_keywords) hr (by decide) fc_any)) (je_sl (je_var 3) (jp_none) (jp_some (je_int))) (je_var 3)))))⟩

abbrev s_l_words : Stmt := top 37
abbrev n_l_words : List Str := ["_law_bag_here", "_law_count", "_law_most", "_law_found", "_law_k", "_law_word_here", "_law_letter"]
theorem sc_l_words : FnScope n_l_words ["_law_bag_here", "_law_count", "_law_most"] (defScope s_l_words) := ⟨rfl, rfl, rfl, by decide +kernel, rfl, by decide +kernel, by decide +kernel⟩
theorem ok_l_words (T : Txt K mg) (h_l_word : Fnc P w K mg base "_law_word" 2 ["_law_bag_here", "_law_most"] BagW A_l_word) (h_l_pull : Fnc P w K mg base "_law_pull" 1 ["_law_bag_here", "_law_many"] BagW A_l_pull) (h_l_keywords : Fnc P w K mg base "_law_keywords" 1 [] (fun _ => True) A_l_keywords) (hF : ∃ fd, FnS K "_law_words" "_law_words" s_l_words [] (He.ga K "_law_words") fd) (m : mg "_law_words" = some (.ref (He.ga K "_law_words")))
    {Ab : List D → (D → Prop) → Prop} (hlen : ∀ ds P, Ab ds P → ds.length = 3) (hA : ∀ ds P, Ab ds P → a_l_words { nx := fun _ _ => P .non, rt := fun d _ => P d } (startG 7 ds) []) :
    Fnc P w K mg base "_law_words" (2 + 1) ["_law_bag_here", "_law_count", "_law_most"] BagW Ab := by
  delta a_l_words at hA
  refine fnc_mk (st := s_l_words) (N := n_l_words) hF m sc_l_words (fun _ _ _ _ _ _ us hl => match us, hl with | [_, _, _], _ => rfl) (fun _ _ _ _ _ _ us hl => match us, hl with | [_, _, _], _ => rfl) hlen hA fun Fm fd cdv A' outer s H E hW hr => ?_
  exact ⟨_, jss_cons (js_set 3 sc_l_words.nd (je_new (ja_nil)))
      (jss_cons (js_for rfl (ji_rng1 T.b_range (ja_cons (je_var 1) (ja_nil))) (jg_name 4 sc_l_words.nd) (jss_cons (js_set 5 sc_l_words.nd (je_fnc (h_l_word) hr (by decide) (fc_bag hW) (ja_cons (je_var 0) (ja_cons (je_var 2) (ja_nil)))))
      (jss_cons (js_if (jt_w (jw_and (jt_cmpL (jo_ne (hu65 hr)) (je_var 3) (je_lst (ja_nil))) (jw_and1 (jt_cmp (jo_eq (hu65 hr)) (je_fnc (h_l_pull) hr (by decide) (fc_bag hW) (ja_cons (je_var 0) (ja_cons (je_int) (ja_nil)))) (je_int))))) (jss_one (js_set 5 sc_l_words.nd (je_sl (je_op jo_add (je_ixC (je_var 3) (je_neg (je_int))) (je_var 5)) (jp_none) (jp_some (je_var 2))))) (jss_nil))
      (jss_cons (js_if (jt_w (jw_or (jt_cmpR (jo_in (hu65 hr)) (je_var 5) (je_var 3)) (jw_or1 (jt_cmp (jo_in (hu65 hr)) (je_var 5) (je_fnc0 (h_l_keywords) hr (by decide) fc_any))))) (jss_one (js_set 5 sc_l_words.nd (je_ix (je_lc (own := [("_law_letter", 6)]) rfl sc_l_words.nd (ji_any (je_str)) (blkOk_by (N := n_l_words) (sc := defScope s_l_words) (by decide +kernel)) (fun _ _ _ _ _ => jg_name 6 sc_l_words.nd) (by decide) (fun _ _ _ _ _ => jts_one (jt_cmpR (jo_notInK (Kf := K) (by rfl) (hu65 hr)) (je_var 6) (je_var 3))) (fun _ _ _ _ _ => je_var 6)) (je_int)))) (jss_nil))
      (jss_one (js_expr (je_app (je_var 3) (je_var 5))))))) PassesOwn.never)
      (jss_frz 3 (jss_one (js_ret (je_var 3)))))⟩

abbrev s_l_weight : Stmt := top 38
abbrev n_l_weight : List Str := ["_law_bag_here", "_law_bottom", "_law_top"]
theorem sc_l_weight : FnScope n_l_weight ["_law_bag_here"] (defScope s_l_weight) := ⟨rfl, rfl, rfl, by decide +kernel, rfl, by decide +kernel, by decide +kernel⟩
theorem ok_l_weight (T : Txt K mg) (h_l_pick : Fnc P w K mg base "_law_pick" 2 ["_law_bag_here", "_law_some"] BagW A_l_pick) (h_l_pull : Fnc P w K mg base "_law_pull" 1 ["_law_bag_here", "_law_many"] BagW A_l_pull) (h_l_frac : Fnc P w K mg base "_law_frac" 2 ["_law_top", "_law_bottom"] (fun _ => True) A_l_frac) (hF : ∃ fd, FnS K "_law_weight" "_law_weight" s_l_weight [] (He.ga K "_law_weight") fd) (m : mg "_law_weight" = some (.ref (He.ga K "_law_weight")))
    {Ab : List D → (D → Prop) → Prop} (hlen : ∀ ds P, Ab ds P → ds.length = 1) (hA : ∀ ds P, Ab ds P → a_l_weight { nx := fun _ _ => P .non, rt := fun d _ => P d } (startG 3 ds) []) :
    Fnc P w K mg base "_law_weight" (2 + 1) ["_law_bag_here"] BagW Ab := by
  delta a_l_weight at hA
  refine fnc_mk (st := s_l_weight) (N := n_l_weight) hF m sc_l_weight (fun _ _ _ _ _ _ us hl => match us, hl with | [_], _ => rfl) (fun _ _ _ _ _ _ us hl => match us, hl with | [_], _ => rfl) hlen hA fun Fm fd cdv A' outer s H E hW hr => ?_
  exact ⟨_, jss_cons (js_set 1 sc_l_weight.nd (je_fnc (h_l_pick) hr (by decide) (fc_bag hW) (ja_cons (je_var 0) (ja_cons (je_lst (ja_cons (je_int) (ja_cons (je_int) (ja_cons (je_int) (ja_cons (je_int) (ja_cons (je_op jo_add (je_int) (je_fnc (h_l_pull) hr (by decide) (fc_bag hW) (ja_cons (je_var 0) (ja_cons (je_int) (ja_nil))))) (ja_nil))))))) (ja_nil)))))
      (jss_cons (js_set 2 sc_l_weight.nd (je_fnc (h_l_pick) hr (by decide) (fc_bag hW) (ja_cons (je_var 0) (ja_cons (je_lst (ja_cons (je_int) (ja_cons (je_int) (ja_cons (je_int) (ja_cons (je_int) (ja_cons (je_fnc (h_l_pull) hr (by decide) (fc_bag hW) (ja_cons (je_var 0) (ja_cons (je_int) (ja_nil)))) (ja_cons (je_fnc (h_l_pull) hr (by decide) (fc_bag hW) (ja_cons (je_var 0) (ja_cons (je_int) (ja_nil)))) (ja_nil)))))))) (ja_nil)))))
      (jss_one (js_ret (je_fnc (h_l_frac) hr (by decide) fc_any (ja_cons (je_var 2) (ja_cons (je_var 1) (ja_nil)))))))⟩

abbrev s_l_small_weight : Stmt := top 39
abbrev n_l_small_weight : List Str := ["_law_bag_here", "_law_bottom"]
theorem sc_l_small_weight : FnScope n_l_small_weight ["_law_bag_here"] (defScope s_l_small_weight) := ⟨rfl, rfl, rfl, by decide +kernel, rfl, by decide +kernel, by decide +kernel⟩
theorem ok_l_small_weight (T : Txt K mg) (h_l_pull : Fnc P w K mg base "_law_pull" 1 ["_law_bag_here", "_law_many"] BagW A_l_pull) (h_l_frac : Fnc P w K mg base "_law_frac" 2 ["_law_top", "_law_bottom"] (fun _ => True) A_l_frac) (h_l_pick : Fnc P w K mg base "_law_pick" 2 ["_law_bag_here", "_law_some"] BagW A_l_pick) (hF : ∃ fd, FnS K "_law_small_weight" "_law_small_weight" s_l_small_weight [] (He.ga K "_law_small_weight") fd) (m : mg "_law_small_weight" = some (.ref (He.ga K "_law_small_weight")))
    {Ab : List D → (D → Prop) → Prop} (hlen : ∀ ds P, Ab ds P → ds.length = 1) (hA : ∀ ds P, Ab ds P → a_l_small_weight { nx := fun _ _ => P .non, rt := fun d _ => P d } (startG 2 ds) []) :
    Fnc P w K mg base "_law_small_weight" (2 + 1) ["_law_bag_here"] BagW Ab := by
  delta a_l_small_weight at hA
  refine fnc_mk (st := s_l_small_weight) (N := n_l_small_weight) hF m sc_l_small_weight (fun _ _ _ _ _ _ us hl => match us, hl with | [_], _ => rfl) (fun _ _ _ _ _ _ us hl => match us, hl with | [_], _ => rfl) hlen hA fun Fm fd cdv A' outer s H E hW hr => ?_
  exact ⟨_, jss_cons (js_set 1 sc_l_small_weight.nd (je_op jo_add (je_int) (je_fnc (h_l_pull) hr (by decide) (fc_bag hW) (ja_cons (je_var 0) (ja_cons (je_int) (ja_nil))))))
      (jss_one (js_ret (je_fnc (h_l_frac) hr (by decide) fc_any (ja_cons (je_fnc (h_l_pick) hr (by decide) (fc_bag hW) (ja_cons (je_var 0) (ja_cons (je_lst (ja_cons (je_int) (ja_cons (je_int) (ja_cons (je_int) (ja_cons (je_int) (ja_cons (je_op jo_sub (je_var 1) (je_int)) (ja_cons (je_var 1) (ja_nil)))))))) (ja_nil)))) (ja_cons (je_var 1) (ja_nil))))))⟩

abbrev s_l_signs : Stmt := top 40
abbrev n_l_signs : List Str := []
theorem sc_l_signs : FnScope n_l_signs [] (defScope s_l_signs) := ⟨rfl, rfl, rfl, by decide +kernel, rfl, by decide +kernel, by decide +kernel⟩
theorem ok_l_signs (T : Txt K mg) (hF : ∃ fd, FnS K "_law_signs" "_law_signs" s_l_signs [] (He.ga K "_law_signs") fd) (m : mg "_law_signs" = some (.ref (He.ga K "_law_signs")))
    {Ab : List D → (D → Prop) → Prop} (hlen : ∀ ds P, Ab ds P → ds.length = 0) (hA : ∀ ds P, Ab ds P → a_l_signs { nx := fun _ _ => P .non, rt := fun d _ => P d } (startG 0 ds) []) :
    Fnc P w K mg base "_law_signs" (0 + 1) [] (fun _ => True) Ab := by
  delta a_l_signs at hA
  refine fnc_mk (st := s_l_signs) (N := n_l_signs) hF m sc_l_signs (fun _ _ _ _ _ _ us hl => match us, hl with | [], _ => rfl) (fun _ _ _ _ _ _ us hl => match us, hl with | [], _ => rfl) hlen hA fun Fm fd cdv A' outer s H E hW hr => ?_
  exact ⟨_, jss_one (js_ret (je_lst (ja_cons (je_str) (ja_cons (je_str) (ja_cons (je_str) (ja_cons (je_str) (ja_cons (je_str) (ja_cons (je_str) (ja_cons (je_str) (ja_cons (je_str) (ja_cons (je_str) (ja_cons (je_str) (ja_nil)))))))))))))⟩

abbrev s_l_constant : Stmt := top 41
abbrev n_l_constant : List Str := ["_law_bag_here"]
theorem sc_l_constant : FnScope n_l_constant ["_law_bag_here"] (defScope s_l_constant) := ⟨rfl, rfl, rfl, by decide +kernel, rfl, by decide +kernel, by decide +kernel⟩
theorem ok_l_constant (T : Txt K mg) (h_l_pick : Fnc P w K mg base "_law_pick" 2 ["_law_bag_here", "_law_some"] BagW A_l_pick) (h_l_pull : Fnc P w K mg base "_law_pull" 1 ["_law_bag_here", "_law_many"] BagW A_l_pull) (hF : ∃ fd, FnS K "_law_constant" "_law_constant" s_l_constant [] (He.ga K "_law_constant") fd) (m : mg "_law_constant" = some (.ref (He.ga K "_law_constant")))
    {Ab : List D → (D → Prop) → Prop} (hlen : ∀ ds P, Ab ds P → ds.length = 1) (hA : ∀ ds P, Ab ds P → a_l_constant { nx := fun _ _ => P .non, rt := fun d _ => P d } (startG 1 ds) []) :
    Fnc P w K mg base "_law_constant" (2 + 1) ["_law_bag_here"] BagW Ab := by
  delta a_l_constant at hA
  refine fnc_mk (st := s_l_constant) (N := n_l_constant) hF m sc_l_constant (fun _ _ _ _ _ _ us hl => match us, hl with | [_], _ => rfl) (fun _ _ _ _ _ _ us hl => match us, hl with | [_], _ => rfl) hlen hA fun Fm fd cdv A' outer s H E hW hr => ?_
  exact ⟨_, jss_one (js_ret (je_fnc (h_l_pick) hr (by decide) (fc_bag hW) (ja_cons (je_var 0) (ja_cons (je_lst (ja_cons (je_int) (ja_cons (je_int) (ja_cons (je_int) (ja_cons (je_int) (ja_cons (je_fnc (h_l_pull) hr (by decide) (fc_bag hW) (ja_cons (je_var 0) (ja_cons (je_int) (ja_nil)))) (ja_cons (je_fnc (h_l_pull) hr (by decide) (fc_bag hW) (ja_cons (je_var 0) (ja_cons (je_op jo_pow (je_int) (je_int)) (ja_nil)))) (ja_cons (je_int) (ja_nil))))))))) (ja_nil)))))⟩

abbrev s_l_expr : Stmt := top 42
abbrev n_l_expr : List Str := ["_law_bag_here", "_law_names", "_law_deep", "_law_way", "_law_sign", "_law_one"]
theorem sc_l_expr : FnScope n_l_expr ["_law_bag_here", "_law_names", "_law_deep"] (defScope s_l_expr) := ⟨rfl, rfl, rfl, by decide +kernel, rfl, by decide +kernel, by decide +kernel⟩
theorem ok_l_expr (T : Txt K mg) {A : List D → (D → Prop) → Prop} {lv : Nat} (h_l_expr : Fnc P w K mg base "_law_expr" lv ["_law_bag_here", "_law_names", "_law_deep"] BagW A) (h_l_pull : Fnc P w K mg base "_law_pull" 1 ["_law_bag_here", "_law_many"] BagW A_l_pull) (h_l_pick : Fnc P w K mg base "_law_pick" 2 ["_law_bag_here", "_law_some"] BagW A_l_pick) (h_l_constant : Fnc P w K mg base "_law_constant" 3 ["_law_bag_here"] BagW A_l_constant) (h_l_signs : Fnc P w K mg base "_law_signs" 1 [] (fun _ => True) A_l_signs) (hF : ∃ fd, FnS K "_law_expr" "_law_expr" s_l_expr [] (He.ga K "_law_expr") fd) (m : mg "_law_expr" = some (.ref (He.ga K "_law_expr")))
    {Ab : List D → (D → Prop) → Prop} (hlen : ∀ ds P, Ab ds P → ds.length = 3) (hA : ∀ ds P, Ab ds P → a_l_expr A { nx := fun _ _ => P .non, rt := fun d _ => P d } (startG 6 ds) []) (hl_l_pull : 1 ≤ lv) (hl_l_pick : 2 ≤ lv) (hl_l_constant : 3 ≤ lv) (hl_l_signs : 1 ≤ lv) :
    Fnc P w K mg base "_law_expr" (lv + 1) ["_law_bag_here", "_law_names", "_law_deep"] BagW Ab := by
  delta a_l_expr at hA
  refine fnc_mk (st := s_l_expr) (N := n_l_expr) hF m sc_l_expr (fun _ _ _ _ _ _ us hl => match us, hl with | [_, _, _], _ => rfl) (fun _ _ _ _ _ _ us hl => match us, hl with | [_, _, _], _ => rfl) hlen hA fun Fm fd cdv A' outer s H E hW hr => ?_
  exact ⟨_, jss_cons (js_set 3 sc_l_expr.nd (je_fnc (h_l_pull) hr (by omega) (fc_bag hW) (ja_cons (je_var 0) (ja_cons (je_int) (ja_nil)))))
      (jss_cons (js_if (jt_w (jw_or (jt_cmp jo_lt (je_var 2) (je_int)) (jw_or1 (jt_cmp jo_lt (je_var 3) (je_int))))) (jss_cons (js_if (jt_w (jw_and (jt_cmp (jo_eq (hu65 hr)) (je_op jo_mod (je_var 3) (je_int)) (je_int)) (jw_and1 (jt_cmp (jo_ne (hu65 hr)) (je_var 1) (je_lst (ja_nil)))))) (jss_one (js_ret (je_tup (ja_cons (je_str) (ja_cons (je_fnc (h_l_pick) hr (by omega) (fc_bag hW) (ja_cons (je_var 0) (ja_cons (je_var 1) (ja_nil)))) (ja_nil)))))) (jss_nil))
      (jss_one (js_ret (je_tup (ja_cons (je_str) (ja_cons (je_fnc (h_l_constant) hr (by omega) (fc_bag hW) (ja_cons (je_var 0) (ja_nil))) (ja_nil))))))) (jss_nil))
      (jss_cons (js_if (jt_cmp (jo_eq (hu65 hr)) (je_var 3) (je_int)) (jss_one (js_ret (je_tup (ja_cons (je_str) (ja_cons (je_fnc (h_l_expr) hr (by omega) (fc_bag hW) (ja_cons (je_var 0) (ja_cons (je_var 1) (ja_cons (je_op jo_sub (je_var 2) (je_int)) (ja_nil))))) (ja_nil)))))) (jss_nil))
      (jss_cons (js_set 4 sc_l_expr.nd (je_fnc (h_l_pick) hr (by omega) (fc_bag hW) (ja_cons (je_var 0) (ja_cons (je_fnc0 (h_l_signs) hr (by omega) fc_any) (ja_nil)))))
      (jss_cons (js_set 5 sc_l_expr.nd (je_fnc (h_l_expr) hr (by omega) (fc_bag hW) (ja_cons (je_var 0) (ja_cons (je_var 1) (ja_cons (je_op jo_sub (je_var 2) (je_int)) (ja_nil))))))
      (jss_one (js_ret (je_tup (ja_cons (je_str) (ja_cons (je_var 4) (ja_cons (je_var 5) (ja_cons (je_fnc (h_l_expr) hr (by omega) (fc_bag hW) (ja_cons (je_var 0) (ja_cons (je_var 1) (ja_cons (je_op jo_sub (je_var 2) (je_int)) (ja_nil))))) (ja_nil))))))))))))⟩

abbrev s_l_calls : Stmt := top 43
abbrev n_l_calls : List Str := ["_law_bag_here", "_law_world", "_law_name", "_law_many", "_law_args", "_law_weight_here", "_law_k"]
theorem sc_l_calls : FnScope n_l_calls ["_law_bag_here", "_law_world"] (defScope s_l_calls) := ⟨rfl, rfl, rfl, by decide +kernel, rfl, by decide +kernel, by decide +kernel⟩
theorem ok_l_calls (T : Txt K mg) (h_l_pick : Fnc P w K mg base "_law_pick" 2 ["_law_bag_here", "_law_some"] BagW A_l_pick) (h_l_expr : Fnc P w K mg base "_law_expr" 7 ["_law_bag_here", "_law_names", "_law_deep"] BagW (A_l_expr 4)) (h_l_small_weight : Fnc P w K mg base "_law_small_weight" 3 ["_law_bag_here"] BagW A_l_small_weight) (h_l_weight : Fnc P w K mg base "_law_weight" 3 ["_law_bag_here"] BagW A_l_weight) (hF : ∃ fd, FnS K "_law_calls" "_law_calls" s_l_calls [] (He.ga K "_law_calls") fd) (m : mg "_law_calls" = some (.ref (He.ga K "_law_calls")))
    {Ab : List D → (D → Prop) → Prop} (hlen : ∀ ds P, Ab ds P → ds.length = 2) (hA : ∀ ds P, Ab ds P → a_l_calls { nx := fun _ _ => P .non, rt := fun d _ => P d } (startG 7 ds) []) :
    Fnc P w K mg base "_law_calls" (7 + 1) ["_law_bag_here", "_law_world"] BagW Ab := by
  delta a_l_calls at hA
  refine fnc_mk (st := s_l_calls) (N := n_l_calls) hF m sc_l_calls (fun _ _ _ _ _ _ us hl => match us, hl with | [_, _], _ => rfl) (fun _ _ _ _ _ _ us hl => match us, hl with | [_, _], _ => rfl) hlen hA fun Fm fd cdv A' outer s H E hW hr => ?_
  exact ⟨_, jss_cons (js_asg (je_fnc (h_l_pick) hr (by decide) (fc_bag hW) (ja_cons (je_var 0) (ja_cons (je_ix (je_var 1) (je_int)) (ja_nil)))) (jg_tup (by rfl) (jgs_cons (jg_name 2 sc_l_calls.nd) (jgs_cons (jg_name 3 sc_l_calls.nd) (jgs_nil)))))
      (jss_cons (js_set 4 sc_l_calls.nd (je_callTy call_tuple_of s_tuple T.b_tuple PyProof.Rows.boot_tuple (ja_cons (je_lc (own := [("_law_k", 6)]) rfl sc_l_calls.nd (ji_rng1 T.b_range (ja_cons (je_var 3) (ja_nil))) (blkOk_by (N := n_l_calls) (sc := defScope s_l_calls) (by decide +kernel)) (fun _ _ _ _ _ => jg_name 6 sc_l_calls.nd) (by decide) (fun _ _ _ _ _ => jts_nil) (fun _ _ _ _ _ => je_fncK (Kf := K) (by rfl) (h_l_expr) hr (by decide) (fc_bag hW) (ja_cons (je_var 0) (ja_cons (je_ixK (Kf := K) (by rfl) (je_var 1) (je_int)) (ja_cons (je_int) (ja_nil)))))) (ja_nil))))
      (jss_cons (js_set 5 sc_l_calls.nd (je_if (jt_cmp (jo_eq (hu65 hr)) (je_ix (je_var 1) (je_int)) (je_int)) (je_fnc (h_l_small_weight) hr (by decide) (fc_bag hW) (ja_cons (je_var 0) (ja_nil))) (je_fnc (h_l_weight) hr (by decide) (fc_bag hW) (ja_cons (je_var 0) (ja_nil)))))
      (jss_one (js_ret (je_tup (ja_cons (je_str) (ja_cons (je_fnc (h_l_pick) hr (by decide) (fc_bag hW) (ja_cons (je_var 0) (ja_cons (je_ix (je_var 1) (je_int)) (ja_nil)))) (ja_cons (je_var 2) (ja_cons (je_var 4) (ja_cons (je_var 5) (ja_nil)))))))))))⟩

abbrev s_l_line : Stmt := top 44
abbrev n_l_line : List Str := ["_law_bag_here", "_law_world", "_law_room", "_law_depth", "_law_in_while", "_law_way", "_law_test", "_law_first", "_law_other"]
theorem sc_l_line : FnScope n_l_line ["_law_bag_here", "_law_world", "_law_room", "_law_depth", "_law_in_while"] (defScope s_l_line) := ⟨rfl, rfl, rfl, by decide +kernel, rfl, by decide +kernel, by decide +kernel⟩
theorem ok_l_line (T : Txt K mg) {A : List D → Cs → (D → Cs → Prop) → Prop} {lv : Nat} (h_l_block : FncS P w K mg base "_law_block" lv ["_law_bag_here", "_law_world", "_law_room", "_law_depth", "_law_in_while"] BagW A) (h_l_pull : Fnc P w K mg base "_law_pull" 1 ["_law_bag_here", "_law_many"] BagW A_l_pull) (h_l_calls : Fnc P w K mg base "_law_calls" 8 ["_law_bag_here", "_law_world"] BagW A_l_calls) (h_l_expr : Fnc P w K mg base "_law_expr" 7 ["_law_bag_here", "_law_names", "_law_deep"] BagW (A_l_expr 4)) (h_l_pick : Fnc P w K mg base "_law_pick" 2 ["_law_bag_here", "_law_some"] BagW A_l_pick) (hF : ∃ fd, FnS K "_law_line" "_law_line" s_l_line [] (He.ga K "_law_line") fd) (m : mg "_law_line" = some (.ref (He.ga K "_law_line")))
    {Ab : List D → Cs → (D → Cs → Prop) → Prop} (hlen : ∀ ds c P, Ab ds c P → ds.length = 5) (hA : ∀ ds c P, Ab ds c P → a_l_line A { nx := fun _ c' => ∃ n, P .non (c'.drop n), rt := fun d c' => ∃ n, P d (c'.drop n) } (startG 9 ds) c) (hl_l_pull : 1 ≤ lv) (hl_l_calls : 8 ≤ lv) (hl_l_expr : 7 ≤ lv) (hl_l_pick : 2 ≤ lv) :
    FncS P w K mg base "_law_line" (lv + 1) ["_law_bag_here", "_law_world", "_law_room", "_law_depth", "_law_in_while"] BagW Ab := by
  delta a_l_line at hA
  refine fns_mk (st := s_l_line) (N := n_l_line) hF m sc_l_line (fun _ _ _ _ _ _ us hl => match us, hl with | [_, _, _, _, _], _ => rfl) hlen hA fun Fm fd cdv A' outer s H E hW hr => ?_
  exact ⟨_, jss_cons (js_asg (je_op jo_sub (je_ixC (je_var 2) (je_int)) (je_int)) (jg_sub (je_var 2) (je_int)))
      (jss_cons (js_set 5 sc_l_line.nd (je_fnc (h_l_pull) hr (by omega) (fc_bag hW) (ja_cons (je_var 0) (ja_cons (je_int) (ja_nil)))))
      (jss_cons (js_if (jt_w (jw_and (jt_cmp jo_lt (je_var 5) (je_int)) (jw_and1 (jt_cmp jo_gt (je_ixC (je_var 2) (je_int)) (je_int))))) (jss_cons (js_asg (je_op jo_sub (je_ixC (je_var 2) (je_int)) (je_int)) (jg_sub (je_var 2) (je_int)))
      (jss_one (js_ret (je_fnc (h_l_calls) hr (by omega) (fc_bag hW) (ja_cons (je_var 0) (ja_cons (je_var 1) (ja_nil))))))) (jss_nil))
      (jss_cons (js_if (jt_w (jw_and (jt_cmp (jo_eq (hu65 hr)) (je_var 5) (je_int)) (jw_and (jt_cmp jo_gt (je_ixC (je_var 2) (je_int)) (je_int)) (jw_and1 (jt_cmp jo_lt (je_var 3) (je_int)))))) (jss_cons (js_set 6 sc_l_line.nd (je_fnc (h_l_expr) hr (by omega) (fc_bag hW) (ja_cons (je_var 0) (ja_cons (je_ix (je_var 1) (je_int)) (ja_cons (je_int) (ja_nil))))))
      (jss_cons (js_set 7 sc_l_line.nd (je_fns (h_l_block) hr (by omega) (fp_bag hW) (ja_cons (je_var 0) (ja_cons (je_var 1) (ja_cons (je_var 2) (ja_cons (je_op jo_add (je_var 3) (je_int)) (ja_cons (je_var 4) (ja_nil))))))))
      (jss_cons (js_set 8 sc_l_line.nd (je_tup (ja_nil)))
      (jss_cons (js_if (jt_w (jw_and (jt_cmp jo_gt (je_ixC (je_var 2) (je_int)) (je_int)) (jw_and1 (jt_cmp (jo_eq (hu65 hr)) (je_fnc (h_l_pull) hr (by omega) (fc_bag hW) (ja_cons (je_var 0) (ja_cons (je_int) (ja_nil)))) (je_int))))) (jss_one (js_set 8 sc_l_line.nd (je_fns (h_l_block) hr (by omega) (fp_bag hW) (ja_cons (je_var 0) (ja_cons (je_var 1) (ja_cons (je_var 2) (ja_cons (je_op jo_add (je_var 3) (je_int)) (ja_cons (je_var 4) (ja_nil))))))))) (jss_nil))
      (jss_one (js_ret (je_tup (ja_cons (je_str) (ja_cons (je_var 6) (ja_cons (je_var 7) (ja_cons (je_var 8) (ja_nil)))))))))))) (jss_nil))
      (jss_cons (js_if (jt_w (jw_and (jt_cmp (jo_eq (hu65 hr)) (je_var 5) (je_int)) (jw_and (jt_cmp jo_gt (je_ixC (je_var 2) (je_int)) (je_int)) (jw_and1 (jt_cmp jo_lt (je_var 3) (je_int)))))) (jss_cons (js_set 6 sc_l_line.nd (je_fnc (h_l_expr) hr (by omega) (fc_bag hW) (ja_cons (je_var 0) (ja_cons (je_ix (je_var 1) (je_int)) (ja_cons (je_int) (ja_nil))))))
      (jss_one (js_ret (je_tup (ja_cons (je_str) (ja_cons (je_var 6) (ja_cons (je_fns (h_l_block) hr (by omega) (fp_bag hW) (ja_cons (je_var 0) (ja_cons (je_var 1) (ja_cons (je_var 2) (ja_cons (je_op jo_add (je_var 3) (je_int)) (ja_cons (je_bl) (ja_nil))))))) (ja_nil)))))))) (jss_nil))
      (jss_cons (js_if (jt_w (jw_and (jt_cmp (jo_eq (hu65 hr)) (je_var 5) (je_int)) (jw_and1 (jt_val (je_var 4))))) (jss_one (js_ret (je_tup (ja_cons (je_str) (ja_nil))))) (jss_nil))
      (jss_cons (js_if (jt_cmp (jo_eq (hu65 hr)) (je_var 5) (je_int)) (jss_one (js_ret (je_tup (ja_cons (je_str) (ja_cons (je_fnc (h_l_expr) hr (by omega) (fc_bag hW) (ja_cons (je_var 0) (ja_cons (je_ix (je_var 1) (je_int)) (ja_cons (je_int) (ja_nil))))) (ja_nil)))))) (jss_nil))
      (jss_cons (js_if (jt_w (jw_and (jt_cmp (jo_eq (hu65 hr)) (je_var 5) (je_int)) (jw_and1 (jt_cmp (jo_eq (hu65 hr)) (je_fnc (h_l_pull) hr (by omega) (fc_bag hW) (ja_cons (je_var 0) (ja_cons (je_int) (ja_nil)))) (je_int))))) (jss_one (js_ret (je_tup (ja_cons (je_str) (ja_cons (je_fnc (h_l_expr) hr (by omega) (fc_bag hW) (ja_cons (je_var 0) (ja_cons (je_ix (je_var 1) (je_int)) (ja_cons (je_int) (ja_nil))))) (ja_nil)))))) (jss_nil))
      (jss_one (js_ret (je_tup (ja_cons (je_str) (ja_cons (je_fnc (h_l_pick) hr (by omega) (fc_bag hW) (ja_cons (je_var 0) (ja_cons (je_ix (je_var 1) (je_int)) (ja_nil)))) (ja_cons (je_fnc (h_l_expr) hr (by omega) (fc_bag hW) (ja_cons (je_var 0) (ja_cons (je_ix (je_var 1) (je_int)) (ja_cons (je_int) (ja_nil))))) (ja_nil))))))))))))))⟩

abbrev s_l_block : Stmt := top 45
abbrev n_l_block : List Str := ["_law_bag_here", "_law_world", "_law_room", "_law_depth", "_law_in_while", "_law_found", "_law_k"]
theorem sc_l_block : FnScope n_l_block ["_law_bag_here", "_law_world", "_law_room", "_law_depth", "_law_in_while"] (defScope s_l_block) := ⟨rfl, rfl, rfl, by decide +kernel, rfl, by decide +kernel, by decide +kernel⟩
theorem ok_l_block (T : Txt K mg) {A : List D → Cs → (D → Cs → Prop) → Prop} {lv : Nat} (h_l_line : FncS P w K mg base "_law_line" lv ["_law_bag_here", "_law_world", "_law_room", "_law_depth", "_law_in_while"] BagW A) (h_l_pull : Fnc P w K mg base "_law_pull" 1 ["_law_bag_here", "_law_many"] BagW A_l_pull) (hF : ∃ fd, FnS K "_law_block" "_law_block" s_l_block [] (He.ga K "_law_block") fd) (m : mg "_law_block" = some (.ref (He.ga K "_law_block")))
    {Ab : List D → Cs → (D → Cs → Prop) → Prop} (hlen : ∀ ds c P, Ab ds c P → ds.length = 5) (hA : ∀ ds c P, Ab ds c P → a_l_block A { nx := fun _ c' => ∃ n, P .non (c'.drop n), rt := fun d c' => ∃ n, P d (c'.drop n) } (startG 7 ds) c) (hl_l_pull : 1 ≤ lv) :
    FncS P w K mg base "_law_block" (lv + 1) ["_law_bag_here", "_law_world", "_law_room", "_law_depth", "_law_in_while"] BagW Ab := by
  delta a_l_block at hA
  refine fns_mk (st := s_l_block) (N := n_l_block) hF m sc_l_block (fun _ _ _ _ _ _ us hl => match us, hl with | [_, _, _, _, _], _ => rfl) hlen hA fun Fm fd cdv A' outer s H E hW hr => ?_
  exact ⟨_, jss_cons (js_set 5 sc_l_block.nd (je_new (ja_nil)))
      (jss_cons (js_for rfl (ji_rng1 T.b_range (ja_cons (je_op jo_add (je_int) (je_fnc (h_l_pull) hr (by omega) (fc_bag hW) (ja_cons (je_var 0) (ja_cons (je_int) (ja_nil))))) (ja_nil))) (jg_name 6 sc_l_block.nd) (jss_one (js_if (jt_cmp jo_gt (je_ixC (je_var 2) (je_int)) (je_int)) (jss_one (js_expr (je_app (je_var 5) (je_fns (h_l_line) hr (by omega) (fp_bag hW) (ja_cons (je_var 0) (ja_cons (je_var 1) (ja_cons (je_var 2) (ja_cons (je_var 3) (ja_cons (je_var 4) (ja_nil)))))))))) (jss_nil))) PassesOwn.never)
      (jss_frz 5 (jss_one (js_ret (je_callTy call_tuple_of s_tuple T.b_tuple PyProof.Rows.boot_tuple (ja_cons (je_var 5) (ja_nil)))))))⟩

abbrev s_l_body : Stmt := top 46
abbrev n_l_body : List Str := ["_law_bag_here", "_law_world", "_law_lines", "_law_sites", "_law_room", "_law_found", "_law_k"]
theorem sc_l_body : FnScope n_l_body ["_law_bag_here", "_law_world", "_law_lines", "_law_sites"] (defScope s_l_body) := ⟨rfl, rfl, rfl, by decide +kernel, rfl, by decide +kernel, by decide +kernel⟩
theorem ok_l_body (T : Txt K mg) (h_l_pull : Fnc P w K mg base "_law_pull" 1 ["_law_bag_here", "_law_many"] BagW A_l_pull) (h_l_line : FncS P w K mg base "_law_line" 19 ["_law_bag_here", "_law_world", "_law_room", "_law_depth", "_law_in_while"] BagW (A_l_line 5)) (hF : ∃ fd, FnS K "_law_body" "_law_body" s_l_body [] (He.ga K "_law_body") fd) (m : mg "_law_body" = some (.ref (He.ga K "_law_body")))
    {Ab : List D → (D → Prop) → Prop} (hlen : ∀ ds P, Ab ds P → ds.length = 4) (hA : ∀ ds P, Ab ds P → a_l_body { nx := fun _ _ => P .non, rt := fun d _ => P d } (startG 7 ds) []) :
    Fnc P w K mg base "_law_body" (19 + 1) ["_law_bag_here", "_law_world", "_law_lines", "_law_sites"] BagW Ab := by
  delta a_l_body at hA
  refine fnc_mk (st := s_l_body) (N := n_l_body) hF m sc_l_body (fun _ _ _ _ _ _ us hl => match us, hl with | [_, _, _, _], _ => rfl) (fun _ _ _ _ _ _ us hl => match us, hl with | [_, _, _, _], _ => rfl) hlen hA fun Fm fd cdv A' outer s H E hW hr => ?_
  exact ⟨_, jss_cons (js_par 4 5 sc_l_body.nd (ja_cons (je_new (ja_cons (je_op jo_add (je_int) (je_fnc (h_l_pull) hr (by decide) (fc_bag hW) (ja_cons (je_var 0) (ja_cons (je_var 2) (ja_nil))))) (ja_cons (je_var 3) (ja_nil)))) (ja_cons (je_new (ja_nil)) (ja_nil))))
      (jss_cons (js_for rfl (ji_rng1 T.b_range (ja_cons (je_var 2) (ja_nil))) (jg_name 6 sc_l_body.nd) (jss_one (js_if (jt_cmp jo_gt (je_ixC (je_var 4) (je_int)) (je_int)) (jss_one (js_expr (je_app (je_var 5) (je_fns (h_l_line) hr (by decide) (fp_bag hW) (ja_cons (je_var 0) (ja_cons (je_var 1) (ja_cons (je_var 4) (ja_cons (je_int) (ja_cons (je_bl) (ja_nil)))))))))) (jss_nil))) PassesOwn.never)
      (jss_frz 5 (jss_one (js_ret (je_callTy call_tuple_of s_tuple T.b_tuple PyProof.Rows.boot_tuple (ja_cons (je_var 5) (ja_nil)))))))⟩

abbrev s_l_shape : Stmt := top 47
abbrev n_l_shape : List Str := ["_law_bag_here", "_law_most", "_law_lines", "_law_sites", "_law_draws", "_law_names", "_law_heads", "_law_found", "_law_name", "_law_many", "_law_own", "_law_great", "_law_shared", "_law_world"]
theorem sc_l_shape : FnScope n_l_shape ["_law_bag_here", "_law_most", "_law_lines", "_law_sites", "_law_draws"] (defScope s_l_shape) := ⟨rfl, rfl, rfl, by decide +kernel, rfl, by decide +kernel, by decide +kernel⟩
theorem ok_l_shape (T : Txt K mg) (h_l_words : Fnc P w K mg base "_law_words" 3 ["_law_bag_here", "_law_count", "_law_most"] BagW A_l_words) (h_l_pull : Fnc P w K mg base "_law_pull" 1 ["_law_bag_here", "_law_many"] BagW A_l_pull) (h_l_body : Fnc P w K mg base "_law_body" 20 ["_law_bag_here", "_law_world", "_law_lines", "_law_sites"] BagW A_l_body) (hF : ∃ fd, FnS K "_law_shape" "_law_shape" s_l_shape [] (He.ga K "_law_shape") fd) (m : mg "_law_shape" = some (.ref (He.ga K "_law_shape")))
    {Ab : List D → (D → Prop) → Prop} (hlen : ∀ ds P, Ab ds P → ds.length = 5) (hA : ∀ ds P, Ab ds P → a_l_shape { nx := fun _ _ => P .non, rt := fun d _ => P d } (startG 14 ds) []) :
    Fnc P w K mg base "_law_shape" (20 + 1) ["_law_bag_here", "_law_most", "_law_lines", "_law_sites", "_law_draws"] BagW Ab := by
  delta a_l_shape at hA
  refine fnc_mk (st := s_l_shape) (N := n_l_shape) hF m sc_l_shape (fun _ _ _ _ _ _ us hl => match us, hl with | [_, _, _, _, _], _ => rfl) (fun _ _ _ _ _ _ us hl => match us, hl with | [_, _, _, _, _], _ => rfl) hlen hA fun Fm fd cdv A' outer s H E hW hr => ?_
  exact ⟨_, jss_cons (js_set 5 sc_l_shape.nd (je_fnc (h_l_words) hr (by decide) (fc_bag hW) (ja_cons (je_var 0) (ja_cons (je_op jo_add (je_int) (je_fnc (h_l_pull) hr (by decide) (fc_bag hW) (ja_cons (je_var 0) (ja_cons (je_var 1) (ja_nil))))) (ja_cons (je_int) (ja_nil))))))
      (jss_cons (js_setLc 6 (own := [("_law_name", 8)]) rfl sc_l_shape.nd rfl rfl (sw_true rfl rfl rfl (by decide +kernel)) (ji_any (je_var 5)) (blkOk_by (N := n_l_shape) (sc := defScope s_l_shape) (by decide +kernel)) (fun _ _ _ _ _ => jg_name 8 sc_l_shape.nd) (by decide) (fun _ _ _ _ _ => jts_nil) (fun _ _ _ _ _ => je_tup (ja_cons (je_var 8) (ja_cons (je_fncK (Kf := K) (by rfl) (h_l_pull) hr (by decide) (fc_bag hW) (ja_cons (je_var 0) (ja_cons (je_int) (ja_nil)))) (ja_nil)))))
      (jss_cons (js_set 7 sc_l_shape.nd (je_new (ja_nil)))
      (jss_cons (js_for rfl (ji_any (je_var 6)) (jg_tup (by rfl) (jgs_cons (jg_name 8 sc_l_shape.nd) (jgs_cons (jg_name 9 sc_l_shape.nd) (jgs_nil)))) (jss_cons (js_set 10 sc_l_shape.nd (je_fnc (h_l_words) hr (by decide) (fc_bag hW) (ja_cons (je_var 0) (ja_cons (je_op jo_add (je_var 9) (je_int)) (ja_cons (je_int) (ja_nil))))))
      (jss_cons (js_set 11 sc_l_shape.nd (je_str))
      (jss_cons (js_set 12 sc_l_shape.nd (je_lst (ja_cons (je_op jo_add (je_ix (je_var 11) (je_fnc (h_l_pull) hr (by decide) (fc_bag hW) (ja_cons (je_var 0) (ja_cons (je_int) (ja_nil))))) (je_op jo_mulX (je_ix (je_var 11) (je_fnc (h_l_pull) hr (by decide) (fc_bag hW) (ja_cons (je_var 0) (ja_cons (je_int) (ja_nil))))) (je_fnc (h_l_pull) hr (by decide) (fc_bag hW) (ja_cons (je_var 0) (ja_cons (je_int) (ja_nil)))))) (ja_nil))))
      (jss_cons (js_set 13 sc_l_shape.nd (je_tup (ja_cons (je_op jo_add (je_op jo_add (je_var 10) (je_var 10)) (je_var 12)) (ja_cons (je_var 6) (ja_cons (je_var 4) (ja_nil))))))
      (jss_one (js_expr (je_app (je_var 7) (je_tup (ja_cons (je_var 8) (ja_cons (je_callTy call_tuple_of s_tuple T.b_tuple PyProof.Rows.boot_tuple (ja_cons (je_sl (je_var 10) (jp_none) (jp_some (je_var 9))) (ja_nil))) (ja_cons (je_fnc (h_l_body) hr (by decide) (fc_bag hW) (ja_cons (je_var 0) (ja_cons (je_var 13) (ja_cons (je_var 2) (ja_cons (je_var 3) (ja_nil)))))) (ja_nil)))))))))))) PassesOwn.never)
      (jss_frz 7 (jss_one (js_ret (je_var 7)))))))⟩

abbrev s_l_nest : Stmt := top 48
abbrev n_l_nest : List Str := ["_law_depth", "_law_inner", "_law_found", "_law_k"]
theorem sc_l_nest : FnScope n_l_nest ["_law_depth", "_law_inner"] (defScope s_l_nest) := ⟨rfl, rfl, rfl, by decide +kernel, rfl, by decide +kernel, by decide +kernel⟩
theorem ok_l_nest (T : Txt K mg) (hF : ∃ fd, FnS K "_law_nest" "_law_nest" s_l_nest [] (He.ga K "_law_nest") fd) (m : mg "_law_nest" = some (.ref (He.ga K "_law_nest")))
    {Ab : List D → (D → Prop) → Prop} (hlen : ∀ ds P, Ab ds P → ds.length = 2) (hA : ∀ ds P, Ab ds P → a_l_nest { nx := fun _ _ => P .non, rt := fun d _ => P d } (startG 4 ds) []) :
    Fnc P w K mg base "_law_nest" (0 + 1) ["_law_depth", "_law_inner"] (fun _ => True) Ab := by
  delta a_l_nest at hA
  refine fnc_mk (st := s_l_nest) (N := n_l_nest) hF m sc_l_nest (fun _ _ _ _ _ _ us hl => match us, hl with | [_, _], _ => rfl) (fun _ _ _ _ _ _ us hl => match us, hl with | [_, _], _ => rfl) hlen hA fun Fm fd cdv A' outer s H E hW hr => ?_
  exact ⟨_, jss_cons (js_set 2 sc_l_nest.nd (je_var 1))
      (jss_cons (js_for rfl (ji_rng1 T.b_range (ja_cons (je_op jo_sub (je_var 0) (je_int)) (ja_nil))) (jg_name 3 sc_l_nest.nd) (jss_one (js_set 2 sc_l_nest.nd (je_if (jt_cmp (jo_eq (hu65 hr)) (je_op jo_mod (je_var 3) (je_int)) (je_int)) (je_tup (ja_cons (je_tup (ja_cons (je_str) (ja_cons (je_tup (ja_cons (je_str) (ja_cons (je_int) (ja_nil)))) (ja_cons (je_var 2) (ja_nil))))) (ja_nil))) (je_tup (ja_cons (je_tup (ja_cons (je_str) (ja_cons (je_tup (ja_cons (je_str) (ja_cons (je_int) (ja_nil)))) (ja_cons (je_var 2) (ja_cons (je_tup (ja_nil)) (ja_nil)))))) (ja_nil)))))) PassesOwn.never)
      (jss_one (js_ret (je_var 2))))⟩

abbrev s_l_odd_lines : Stmt := top 49
abbrev n_l_odd_lines : List Str := ["_law_bag_here", "_law_one", "_law_call", "_law_found", "_law_weight_here"]
theorem sc_l_odd_lines : FnScope n_l_odd_lines ["_law_bag_here"] (defScope s_l_odd_lines) := ⟨rfl, rfl, rfl, by decide +kernel, rfl, by decide +kernel, by decide +kernel⟩
theorem ok_l_odd_lines (T : Txt K mg) (h_l_pick : Fnc P w K mg base "_law_pick" 2 ["_law_bag_here", "_law_some"] BagW A_l_pick) (hF : ∃ fd, FnS K "_law_odd_lines" "_law_odd_lines" s_l_odd_lines [] (He.ga K "_law_odd_lines") fd) (m : mg "_law_odd_lines" = some (.ref (He.ga K "_law_odd_lines")))
    {Ab : List D → (D → Prop) → Prop} (hlen : ∀ ds P, Ab ds P → ds.length = 1) (hA : ∀ ds P, Ab ds P → a_l_odd_lines { nx := fun _ _ => P .non, rt := fun d _ => P d } (startG 5 ds) []) :
    Fnc P w K mg base "_law_odd_lines" (2 + 1) ["_law_bag_here"] BagW Ab := by
  delta a_l_odd_lines at hA
  refine fnc_mk (st := s_l_odd_lines) (N := n_l_odd_lines) hF m sc_l_odd_lines (fun _ _ _ _ _ _ us hl => match us, hl with | [_], _ => rfl) (fun _ _ _ _ _ _ us hl => match us, hl with | [_], _ => rfl) hlen hA fun Fm fd cdv A' outer s H E hW hr => ?_
  exact ⟨_, jss_cons (js_asg (je_tup (ja_cons (je_tup (ja_cons (je_str) (ja_cons (je_int) (ja_nil)))) (ja_cons (je_tup (ja_cons (je_str) (ja_cons (je_str) (ja_cons (je_str) (ja_cons (je_tup (ja_nil)) (ja_cons (je_tup (ja_cons (je_int) (ja_cons (je_int) (ja_nil)))) (ja_nil))))))) (ja_nil)))) (jg_tup (by rfl) (jgs_cons (jg_name 1 sc_l_odd_lines.nd) (jgs_cons (jg_name 2 sc_l_odd_lines.nd) (jgs_nil)))))
      (jss_cons (js_set 3 sc_l_odd_lines.nd (je_new (ja_cons (je_tup (ja_cons (je_str) (ja_nil))) (ja_cons (je_tup (ja_cons (je_str) (ja_cons (je_int) (ja_nil)))) (ja_cons (je_tup (ja_cons (je_str) (ja_cons (je_str) (ja_nil)))) (ja_cons (je_tup (ja_cons (je_str) (ja_cons (je_str) (ja_cons (je_var 1) (ja_nil))))) (ja_cons (je_tup (ja_cons (je_str) (ja_cons (je_str) (ja_cons (je_var 1) (ja_nil))))) (ja_cons (je_tup (ja_cons (je_str) (ja_cons (je_str) (ja_cons (je_var 1) (ja_nil))))) (ja_cons (je_tup (ja_cons (je_str) (ja_cons (je_str) (ja_cons (je_var 1) (ja_nil))))) (ja_nil))))))))))
      (jss_cons (js_set 3 sc_l_odd_lines.nd (je_catN (je_var 3) (je_lst (ja_cons (je_tup (ja_cons (je_str) (ja_nil))) (ja_cons (je_tup (ja_cons (je_str) (ja_cons (je_var 1) (ja_cons (je_var 1) (ja_nil))))) (ja_cons (je_lst (ja_cons (je_str) (ja_cons (je_var 1) (ja_nil)))) (ja_cons (je_tup (ja_cons (je_str) (ja_cons (je_tup (ja_cons (je_str) (ja_cons (je_neg (je_int)) (ja_nil)))) (ja_nil)))) (ja_cons (je_tup (ja_cons (je_str) (ja_cons (je_var 1) (ja_cons (je_tup (ja_nil)) (ja_cons (je_tup (ja_nil)) (ja_nil)))))) (ja_cons (je_tup (ja_cons (je_str) (ja_cons (je_var 1) (ja_cons (je_tup (ja_cons (je_tup (ja_cons (je_str) (ja_cons (je_var 1) (ja_nil)))) (ja_nil))) (ja_nil))))) (ja_nil))))))))))
      (jss_cons (js_set 3 sc_l_odd_lines.nd (je_catN (je_var 3) (je_lst (ja_cons (je_tup (ja_cons (je_str) (ja_cons (je_var 1) (ja_cons (je_tup (ja_nil)) (ja_nil))))) (ja_cons (je_tup (ja_cons (je_str) (ja_cons (je_var 1) (ja_cons (je_lst (ja_cons (je_tup (ja_cons (je_str) (ja_cons (je_var 1) (ja_nil)))) (ja_nil))) (ja_nil))))) (ja_cons (je_tup (ja_cons (je_str) (ja_cons (je_var 1) (ja_cons (je_tup (ja_cons (je_tup (ja_cons (je_str) (ja_cons (je_var 1) (ja_nil)))) (ja_nil))) (ja_cons (je_non) (ja_nil)))))) (ja_cons (je_tup (ja_nil)) (ja_cons (je_non) (ja_cons (je_str) (ja_nil))))))))))
      (jss_cons (js_for rfl (ji_any (je_lst (ja_cons (je_tup (ja_cons (je_int) (ja_cons (je_int) (ja_nil)))) (ja_cons (je_tup (ja_cons (je_int) (ja_cons (je_int) (ja_nil)))) (ja_cons (je_tup (ja_cons (je_int) (ja_cons (je_int) (ja_nil)))) (ja_cons (je_tup (ja_cons (je_int) (ja_cons (je_int) (ja_nil)))) (ja_cons (je_tup (ja_cons (je_neg (je_int)) (ja_cons (je_int) (ja_nil)))) (ja_cons (je_lst (ja_cons (je_int) (ja_cons (je_int) (ja_nil)))) (ja_cons (je_tup (ja_cons (je_int) (ja_nil))) (ja_cons (je_tup (ja_cons (je_bl) (ja_cons (je_int) (ja_nil)))) (ja_cons (je_tup (ja_cons (je_int) (ja_cons (je_bl) (ja_nil)))) (ja_cons (je_int) (ja_cons (je_non) (ja_cons (je_tup (ja_cons (je_int) (ja_cons (je_int) (ja_nil)))) (ja_nil))))))))))))))) (jg_name 4 sc_l_odd_lines.nd) (jss_one (js_expr (je_app (je_var 3) (je_op jo_add (je_sl (je_var 2) (jp_none) (jp_some (je_int))) (je_tup (ja_cons (je_var 4) (ja_nil))))))) PassesOwn.never)
      (jss_cons (js_set 3 sc_l_odd_lines.nd (je_catN (je_var 3) (je_lst (ja_cons (je_sl (je_var 2) (jp_none) (jp_some (je_int))) (ja_cons (je_op jo_add (je_var 2) (je_tup (ja_cons (je_int) (ja_nil)))) (ja_cons (je_op jo_add (je_op jo_add (je_sl (je_var 2) (jp_none) (jp_some (je_int))) (je_tup (ja_cons (je_lst (ja_nil)) (ja_nil)))) (je_sl (je_var 2) (jp_some (je_int)) (jp_none))) (ja_cons (je_op jo_add (je_op jo_add (je_sl (je_var 2) (jp_none) (jp_some (je_int))) (je_tup (ja_cons (je_op jo_mulX (je_tup (ja_cons (je_var 1) (ja_nil))) (je_int)) (ja_nil)))) (je_sl (je_var 2) (jp_some (je_int)) (jp_none))) (ja_nil))))))))
      (jss_cons (js_set 3 sc_l_odd_lines.nd (je_catN (je_var 3) (je_lst (ja_cons (je_op jo_add (je_op jo_add (je_sl (je_var 2) (jp_none) (jp_some (je_int))) (je_tup (ja_cons (je_str) (ja_nil)))) (je_sl (je_var 2) (jp_some (je_int)) (jp_none))) (ja_cons (je_op jo_add (je_op jo_add (je_sl (je_var 2) (jp_none) (jp_some (je_int))) (je_tup (ja_cons (je_str) (ja_nil)))) (je_sl (je_var 2) (jp_some (je_int)) (jp_none))) (ja_cons (je_op jo_add (je_op jo_add (je_sl (je_var 2) (jp_none) (jp_some (je_int))) (je_tup (ja_cons (je_str) (ja_nil)))) (je_sl (je_var 2) (jp_some (je_int)) (jp_none))) (ja_nil)))))))
      (jss_frz 3 (jss_one (js_ret (je_lst (ja_cons (je_fnc (h_l_pick) hr (by decide) (fc_bag hW) (ja_cons (je_var 0) (ja_cons (je_var 3) (ja_nil)))) (ja_cons (je_tup (ja_cons (je_str) (ja_cons (je_var 1) (ja_cons (je_tup (ja_cons (je_tup (ja_cons (je_str) (ja_nil))) (ja_nil))) (ja_cons (je_tup (ja_nil)) (ja_nil)))))) (ja_nil)))))))))))))⟩

abbrev s__law_bag : Stmt := top 28
theorem sc__law_bag : FnScope ["_law_script"] ["_law_script"] (defScope s__law_bag) := ⟨rfl, rfl, rfl, by decide +kernel, rfl, by decide +kernel, by decide +kernel⟩
theorem ok__law_bag (T : Txt K mg) {f : Addr} {fd : FuncData} (F : FnS K "_law_bag" "_law_bag" s__law_bag [] f fd) : FnOk P w K mg base CX0 1 f fd ["_law_script"] (spBag K) := by
  refine FunD.ok F sc__law_bag (fun vs H Q E h => ?_) (fun cdv A outer s H vs Q E hr h => ⟨t_bag K, PSs.nox ?_, bag_all vs H Q E h⟩)
  · obtain ⟨a, ns, rfl, _⟩ := h
    rfl
  · exact pss_one (ps_ret (pe_lst (pa_cons (pe_callTy call_list_of rfl T.b_list PyProof.Rows.boot_list (pa_cons (pe_slice sl_list (pv 0) po_none (po_some pe_int)) pa_nil)) (pa_cons pe_int (pa_cons pe_int (pa_cons (pe_op op_add pe_int (pe_callB call_len_seq rfl T.b_len PySem.boot_len (pa_cons (pv 0) pa_nil))) pa_nil))))))
abbrev s_l_pull : Stmt := top 29
abbrev n_l_pull : List Str := ["_law_bag_here", "_law_many", "_law_cell", "_law_digit"]
theorem sc_l_pull : FnScope n_l_pull ["_law_bag_here", "_law_many"] (defScope s_l_pull) := ⟨rfl, rfl, rfl, by decide +kernel, rfl, by decide +kernel, by decide +kernel⟩
theorem ok_l_pull (T : Txt K mg) (hF : ∃ fd, FnS K "_law_pull" "_law_pull" s_l_pull [] (He.ga K "_law_pull") fd) (m : mg "_law_pull" = some (.ref (He.ga K "_law_pull"))) : Fnc P w K mg base "_law_pull" (0 + 1) ["_law_bag_here", "_law_many"] BagW A_l_pull := by
  refine fnc_pull (st := s_l_pull) (N := n_l_pull) hF m sc_l_pull rfl rfl (fun _ _ _ _ _ _ us hl => match us, hl with | [_, _], _ => rfl) (fun _ _ _ _ _ _ us hl => match us, hl with | [_, _], _ => rfl) fun fd cdv A outer s H E hr => ?_
  have hn := sc_l_pull.nd
  have ix : ∀ {X : Cx} {i : Int} {j : Nat} {p p2 p3 : Pos} {x : Str}, X.N[0]? = some x → Vis X.env.scope x → (x == ("__debug__" : Str)) = false → (x == ("__classdict__" : Str)) = false → PE X (.Subscript (.Name x p) (.Constant (.int i) j p2) p3) (pIx X.K i) := fun h1 h2 h3 h4 => pe_ix ix_list (pe_var h1 h2 h3 h4) pe_int (fun _ _ => rfl)
  exact pss_cons (ps_if (PW.pt (pw_and (pt_cmpR op_eq (ix rfl (.inl rfl) (by decide) (by decide)) pe_int (nomark _)) (pw_and1 (pt_cmpR op_lt (ix rfl (.inl rfl) (by decide) (by decide)) (pe_callB call_len_seq rfl T.b_len PySem.boot_len (pa_cons (ix rfl (.inl rfl) (by decide) (by decide)) pa_nil)) (nomark _)))))
      (pss_cons (ps_set (i := 2) hn rfl (Or.inl rfl) (pe_ix ix_list (ix rfl (.inl rfl) (by decide) (by decide)) (ix rfl (.inl rfl) (by decide) (by decide)) (fun _ _ => rfl)))
      (pss_cons (ps_asg (pe_op op_add (ix rfl (.inl rfl) (by decide) (by decide)) pe_int) (pg_sub (pv 0) pe_int set_list))
      (pss_one (ps_if (pt_cmpR op_ge (pv 2) (pe_op op_pow pe_int pe_int) (nomark _))
        (pss_one (ps_asg (pv 2) (pg_sub (pv 0) pe_int set_list)))
        (pss_one (ps_asg (pe_op op_modN (pe_callTy call_int1 rfl T.b_int PyProof.Rows.boot_int (pa_cons (pe_op op_add (pe_op op_add (pe_op op_mul (ix rfl (.inl rfl) (by decide) (by decide)) pe_int)
          (pe_op op_mul (pe_op op_modN (pe_callTy call_int1 rfl T.b_int PyProof.Rows.boot_int (pa_cons (pv 2) pa_nil)) pe_int) pe_int)) pe_int) pa_nil)) pe_int) (pg_sub (pv 0) pe_int set_list))))))) pss_nil)
    (pss_cons (ps_if (pt_cmpR op_gt (ix rfl (.inl rfl) (by decide) (by decide)) pe_int (nomark _))
      (pss_cons (ps_set (i := 3) hn rfl (Or.inl rfl) (pe_op op_modN (pe_callTy call_int1 rfl T.b_int PyProof.Rows.boot_int (pa_cons (ix rfl (.inl rfl) (by decide) (by decide)) pa_nil)) (pv 1)))
      (pss_cons (ps_asg (pe_op (op_fdivN.or op_fdivW) (ix rfl (.inl rfl) (by decide) (by decide)) (pv 1)) (pg_sub (pv 0) pe_int set_list))
      (pss_one (ps_ret (pv 3))))) pss_nil)
    (pss_cons (ps_asg (pe_op op_modN (pe_callTy call_int1 rfl T.b_int PyProof.Rows.boot_int (pa_cons (pe_op op_add (pe_op op_add (pe_op op_mul (ix rfl (.inl rfl) (by decide) (by decide)) (ix rfl (.inl rfl) (by decide) (by decide)))
        (pe_op op_mul (ix rfl (.inl rfl) (by decide) (by decide)) pe_int)) pe_int) pa_nil)) pe_int) (pg_sub (pv 0) pe_int set_list))
    (pss_one (ps_ret (pe_op op_modN (pe_callTy call_int1 rfl T.b_int PyProof.Rows.boot_int (pa_cons (pe_op op_add (pe_op op_fdivN (ix rfl (.inl rfl) (by decide) (by decide)) pe_int)
        (pe_op op_mul (pe_op op_modN (pe_callTy call_int1 rfl T.b_int PyProof.Rows.boot_int (pa_cons (ix rfl (.inl rfl) (by decide) (by decide)) pa_nil)) pe_int) pe_int)) pa_nil)) (pv 1))))))
abbrev s_law : Stmt := top 50
abbrev n_law : List Str := ["_law_script", "_law_bag_here", "_law_one", "_law_procedure", "_law_name", "_law_params", "_law_body_here", "_law_odd", "_law_at", "_law_bent", "_law_other", "_law_line_here", "_law_call", "_law_most", "_law_found", "_law_wide", "_law_block_here", "_law_value"]
theorem sc_law : FnScope n_law ["_law_script"] (defScope s_law) := ⟨rfl, rfl, rfl, by decide +kernel, rfl, by decide +kernel, by decide +kernel⟩
theorem ok_law (T : Txt K mg) (h_l_shape : Fnc P w K mg base "_law_shape" 21 ["_law_bag_here", "_law_most", "_law_lines", "_law_sites", "_law_draws"] BagW A_l_shape) (h_l_same : Fnc P w K mg base "_law_same" 5 ["_law_found", "_law_due"] (fun _ => True) (A_l_same 4)) (h_is_procedure : Fnc P w K mg base "is_procedure" 25 ["value"] (fun _ => True) A_is_procedure) (h_l_pick : Fnc P w K mg base "_law_pick" 2 ["_law_bag_here", "_law_some"] BagW A_l_pick) (h_l_odd_lines : Fnc P w K mg base "_law_odd_lines" 3 ["_law_bag_here"] BagW A_l_odd_lines) (h_l_pull : Fnc P w K mg base "_law_pull" 1 ["_law_bag_here", "_law_many"] BagW A_l_pull) (h_l_nest : Fnc P w K mg base "_law_nest" 1 ["_law_depth", "_law_inner"] (fun _ => True) A_l_nest) {fB : Addr} {fdB : FuncData} (FB : FnS K "_law_bag" "_law_bag" s__law_bag [] fB fdB) (mB : mg "_law_bag" = some (.ref fB)) {f : Addr} {fd : FuncData} (F : FnS K "law" "law" s_law [] f fd) :
    FnOk P w K mg base CX0 (26 + 1) f fd ["_law_script"] (spLaw K) := by
  have GB : FnOk P w K mg base CX0 1 fB fdB ["_law_script"] (spBag K) := ok__law_bag T FB
  have bB : Binds K fdB ["_law_script"] [] := FB.bindsN fun _ _ _ _ _ _ us hl => match us, hl with | [_], _ => rfl
  have hA := pure_law
  unfold a_law at hA
  refine law_mk (z := "_law_bag_here") F sc_law rfl rfl (fun Fm cdv A outer s H E hW hr => ⟨ps_set (i := 1) sc_law.nd rfl (by first | exact Or.inl rfl | exact Or.inr rfl) (pe_call GB (hr.mono (by decide)) rfl mB FB.kp bB .nil pass0 (pa_cons (pv 0) pa_nil)), ?_⟩) hA
  exact ⟨_, jss_cons (js_set 2 sc_law.nd (je_tup (ja_cons (je_str) (ja_cons (je_int) (ja_nil)))))
      (jss_cons (js_for rfl (ji_any (je_fnc (h_l_shape) hr (by decide) (fc_bag hW) (ja_cons (je_var 1) (ja_cons (je_int) (ja_cons (je_int) (ja_cons (je_int) (ja_cons (je_int) (ja_nil)))))))) (jg_name 3 sc_law.nd) (jss_cons (js_asg (je_var 3) (jg_tup (by rfl) (jgs_cons (jg_name 4 sc_law.nd) (jgs_cons (jg_name 5 sc_law.nd) (jgs_cons (jg_name 6 sc_law.nd) (jgs_nil))))))
      (jss_cons (js_if (jt_not (jt_val (je_fnc (h_l_same) hr (by decide) fc_any (ja_cons (je_fnc (h_is_procedure) hr (by decide) fc_any (ja_cons (je_var 3) (ja_nil))) (ja_cons (je_bl) (ja_nil)))))) (jss_one (js_ret (je_bl))) (jss_nil))
      (jss_cons (js_set 7 sc_law.nd (je_fnc (h_l_pick) hr (by decide) (fc_bag hW) (ja_cons (je_var 1) (ja_cons (je_fnc (h_l_odd_lines) hr (by decide) (fc_bag hW) (ja_cons (je_var 1) (ja_nil))) (ja_nil)))))
      (jss_cons (js_set 8 sc_law.nd (je_fnc (h_l_pull) hr (by decide) (fc_bag hW) (ja_cons (je_var 1) (ja_cons (je_op jo_add (je_callB call_len s_len T.b_len PySem.boot_len (ja_cons (je_var 6) (ja_nil))) (je_int)) (ja_nil)))))
      (jss_cons (js_set 9 sc_law.nd (je_new (ja_cons (je_tup (ja_cons (je_var 4) (ja_cons (je_var 5) (ja_cons (je_op jo_add (je_op jo_add (je_sl (je_var 6) (jp_none) (jp_some (je_var 8))) (je_tup (ja_cons (je_var 7) (ja_nil)))) (je_sl (je_var 6) (jp_some (je_var 8)) (jp_none))) (ja_nil))))) (ja_cons (je_tup (ja_cons (je_var 4) (ja_cons (je_var 5) (ja_cons (je_op jo_add (je_op jo_add (je_sl (je_var 6) (jp_none) (jp_some (je_var 8))) (je_tup (ja_cons (je_tup (ja_cons (je_str) (ja_cons (je_var 2) (ja_cons (je_tup (ja_cons (je_var 7) (ja_cons (je_var 7) (ja_nil)))) (ja_nil))))) (ja_nil)))) (je_sl (je_var 6) (jp_some (je_var 8)) (jp_none))) (ja_nil))))) (ja_nil)))))
      (jss_cons (js_if (jt_w (jw_or (jt_cmp (jo_eq (hu65 hr)) (je_var 7) (je_tup (ja_cons (je_str) (ja_nil)))) (jw_or1 (jt_cmp (jo_eq (hu65 hr)) (je_var 7) (je_tup (ja_cons (je_str) (ja_cons (je_var 2) (ja_cons (je_tup (ja_cons (je_tup (ja_cons (je_str) (ja_nil))) (ja_nil))) (ja_cons (je_tup (ja_nil)) (ja_nil)))))))))) (jss_frz 9 (jss_one (js_set 9 sc_law.nd (je_sl (je_var 9) (jp_none) (jp_some (je_int)))))) (jss_nil))
      (jss_cons (js_set 9 sc_law.nd (je_catN (je_var 9) (je_lst (ja_cons (je_tup (ja_cons (je_var 4) (ja_cons (je_var 5) (ja_nil)))) (ja_cons (je_op jo_add (je_var 3) (je_tup (ja_cons (je_int) (ja_nil)))) (ja_cons (je_callTy call_list_of s_list T.b_list PyProof.Rows.boot_list (ja_cons (je_var 3) (ja_nil))) (ja_cons (je_tup (ja_cons (je_var 4) (ja_cons (je_callTy call_list_of s_list T.b_list PyProof.Rows.boot_list (ja_cons (je_var 5) (ja_nil))) (ja_cons (je_var 6) (ja_nil))))) (ja_cons (je_tup (ja_cons (je_var 4) (ja_cons (je_var 5) (ja_cons (je_callTy call_list_of s_list T.b_list PyProof.Rows.boot_list (ja_cons (je_var 6) (ja_nil))) (ja_nil))))) (ja_nil)))))))))
      (jss_cons (js_set 9 sc_law.nd (je_catN (je_var 9) (je_lst (ja_cons (je_tup (ja_cons (je_var 4) (ja_cons (je_var 5) (ja_cons (je_tup (ja_nil)) (ja_nil))))) (ja_cons (je_tup (ja_cons (je_var 4) (ja_cons (je_op jo_add (je_op jo_add (je_var 5) (je_var 5)) (je_tup (ja_cons (je_str) (ja_cons (je_str) (ja_nil))))) (ja_cons (je_var 6) (ja_nil))))) (ja_cons (je_tup (ja_cons (je_var 4) (ja_cons (je_tup (ja_cons (je_str) (ja_cons (je_str) (ja_cons (je_str) (ja_cons (je_str) (ja_nil)))))) (ja_cons (je_var 6) (ja_nil))))) (ja_nil)))))))
      (jss_cons (js_set 9 sc_law.nd (je_catN (je_var 9) (je_lst (ja_cons (je_tup (ja_cons (je_var 4) (ja_cons (je_tup (ja_cons (je_str) (ja_nil))) (ja_cons (je_var 6) (ja_nil))))) (ja_cons (je_tup (ja_cons (je_var 4) (ja_cons (je_str) (ja_cons (je_var 6) (ja_nil))))) (ja_cons (je_tup (ja_cons (je_var 4) (ja_cons (je_tup (ja_cons (je_str) (ja_nil))) (ja_cons (je_var 6) (ja_nil))))) (ja_cons (je_tup (ja_cons (je_var 4) (ja_cons (je_tup (ja_cons (je_str) (ja_nil))) (ja_cons (je_var 6) (ja_nil))))) (ja_cons (je_tup (ja_cons (je_var 4) (ja_cons (je_tup (ja_cons (je_lst (ja_cons (je_str) (ja_nil))) (ja_nil))) (ja_cons (je_var 6) (ja_nil))))) (ja_cons (je_tup (ja_cons (je_var 4) (ja_cons (je_tup (ja_cons (je_int) (ja_nil))) (ja_cons (je_var 6) (ja_nil))))) (ja_cons (je_tup (ja_cons (je_lst (ja_cons (je_str) (ja_nil))) (ja_cons (je_var 5) (ja_cons (je_var 6) (ja_nil))))) (ja_nil)))))))))))
      (jss_cons (js_for rfl (ji_any (je_lst (ja_cons (je_str) (ja_cons (je_str) (ja_cons (je_str) (ja_cons (je_str) (ja_cons (je_int) (ja_cons (je_non) (ja_cons (je_str) (ja_cons (je_str) (ja_nil))))))))))) (jg_name 10 sc_law.nd) (jss_one (js_expr (je_app (je_var 9) (je_tup (ja_cons (je_var 10) (ja_cons (je_var 5) (ja_cons (je_var 6) (ja_nil)))))))) PassesOwn.never)
      (jss_frz 9 (jss_one (js_if (jt_cmp (jo_ne (hu65 hr)) (je_lc (own := [("_law_value", 17)]) rfl sc_law.nd (ji_any (je_var 9)) (blkOk_by (N := n_law) (sc := defScope s_law) (by decide +kernel)) (fun _ _ _ _ _ => jg_name 17 sc_law.nd) (by decide) (fun _ _ _ _ _ => jts_nil) (fun _ _ _ _ _ => je_fncK (Kf := K) (by rfl) (h_is_procedure) hr (by decide) fc_any (ja_cons (je_var 17) (ja_nil)))) (je_op jo_mulX (je_lst (ja_cons (je_bl) (ja_nil))) (je_callB call_len s_len T.b_len PySem.boot_len (ja_cons (je_var 9) (ja_nil))))) (jss_one (js_ret (je_bl))) (jss_nil)))))))))))))) PassesOwn.never)
      (jss_cons (js_par 11 12 sc_law.nd (ja_cons (je_tup (ja_cons (je_str) (ja_cons (je_var 2) (ja_nil)))) (ja_cons (je_tup (ja_cons (je_str) (ja_cons (je_str) (ja_cons (je_str) (ja_cons (je_tup (ja_nil)) (ja_cons (je_tup (ja_cons (je_int) (ja_cons (je_int) (ja_nil)))) (ja_nil))))))) (ja_nil))))
      (jss_cons (js_set 13 sc_law.nd (je_lst (ja_cons (je_op jo_mulX (je_tup (ja_cons (je_var 11) (ja_nil))) (je_int)) (ja_cons (je_op jo_mulX (je_tup (ja_cons (je_var 11) (ja_nil))) (je_int)) (ja_cons (je_op jo_add (je_op jo_mulX (je_tup (ja_cons (je_var 12) (ja_nil))) (je_int)) (je_tup (ja_cons (je_var 11) (ja_nil)))) (ja_cons (je_op jo_mulX (je_tup (ja_cons (je_var 12) (ja_nil))) (je_int)) (ja_cons (je_fnc (h_l_nest) hr (by decide) fc_any (ja_cons (je_int) (ja_cons (je_tup (ja_cons (je_var 11) (ja_nil))) (ja_nil)))) (ja_cons (je_fnc (h_l_nest) hr (by decide) fc_any (ja_cons (je_int) (ja_cons (je_tup (ja_cons (je_var 11) (ja_nil))) (ja_nil)))) (ja_nil)))))))))
      (jss_cons (js_setLc 14 (own := [("_law_block_here", 16)]) rfl sc_law.nd rfl rfl (sw_true rfl rfl rfl (by decide +kernel)) (ji_any (je_var 13)) (blkOk_by (N := n_law) (sc := defScope s_law) (by decide +kernel)) (fun _ _ _ _ _ => jg_name 16 sc_law.nd) (by decide) (fun _ _ _ _ _ => jts_nil) (fun _ _ _ _ _ => je_fncK (Kf := K) (by rfl) (h_is_procedure) hr (by decide) fc_any (ja_cons (je_tup (ja_cons (je_str) (ja_cons (je_tup (ja_cons (je_str) (ja_cons (je_str) (ja_cons (je_str) (ja_nil))))) (ja_cons (je_var 16) (ja_nil))))) (ja_nil))))
      (jss_cons (js_if (jt_not (jt_val (je_fnc (h_l_same) hr (by decide) fc_any (ja_cons (je_var 14) (ja_cons (je_lst (ja_cons (je_bl) (ja_cons (je_bl) (ja_cons (je_bl) (ja_cons (je_bl) (ja_cons (je_bl) (ja_cons (je_bl) (ja_nil)))))))) (ja_nil)))))) (jss_one (js_ret (je_bl))) (jss_nil))
      (jss_cons (js_set 15 sc_law.nd (je_tup (ja_cons (je_str) (ja_cons (je_var 2) (ja_cons (je_op jo_mulX (je_tup (ja_cons (je_var 11) (ja_nil))) (je_int)) (ja_nil))))))
      (jss_one (js_ret (je_fnc (h_l_same) hr (by decide) fc_any (ja_cons (je_lst (ja_cons (je_fnc (h_is_procedure) hr (by decide) fc_any (ja_cons (je_tup (ja_cons (je_str) (ja_cons (je_tup (ja_nil)) (ja_cons (je_tup (ja_cons (je_var 15) (ja_cons (je_var 11) (ja_nil)))) (ja_nil))))) (ja_nil))) (ja_cons (je_fnc (h_is_procedure) hr (by decide) fc_any (ja_cons (je_tup (ja_cons (je_str) (ja_cons (je_tup (ja_nil)) (ja_cons (je_tup (ja_cons (je_var 15) (ja_cons (je_var 11) (ja_cons (je_var 11) (ja_nil))))) (ja_nil))))) (ja_nil))) (ja_nil)))) (ja_cons (je_lst (ja_cons (je_bl) (ja_cons (je_bl) (ja_nil)))) (ja_nil))))))))))))⟩
end

end Bd
set_option maxHeartbeats 0
namespace Bd
open PySem PySem.Spec PyProof.Rows L2
theorem tup_strs {K : PySem.W.Frag} {x : Str} {zs : List Str} (h : He.tupB K x (zs.map He.Dv.str) = true) (H : Hp) : SqT K H (He.ga K x) (zs.map V.str) := by
  have e := He.tupB_ok h H
  rw [List.map_map] at e
  exact e
def fn_ : List He.DefD := [⟨("_law_bag", none), "_law_bag", "_law_bag", defArgs s__law_bag, defBody s__law_bag, defScope s__law_bag, [], []⟩, ⟨("_law_pull", none), "_law_pull", "_law_pull", defArgs s_l_pull, defBody s_l_pull, defScope s_l_pull, [], []⟩, ⟨("is_number", none), "is_number", "is_number", defArgs s_is_number, defBody s_is_number, defScope s_is_number, [], []⟩, ⟨("common_divisor", none), "common_divisor", "common_divisor", defArgs s_common_divisor, defBody s_common_divisor, defScope s_common_divisor, [], []⟩, ⟨("is_word", none), "is_word", "is_word", defArgs s_is_word, defBody s_is_word, defScope s_is_word, [], []⟩, ⟨("is_own", none), "is_own", "is_own", defArgs s_is_own, defBody s_is_own, defScope s_is_own, [], []⟩, ⟨("is_shared", none), "is_shared", "is_shared", defArgs s_is_shared, defBody s_is_shared, defScope s_is_shared, [], []⟩, ⟨("is_name", none), "is_name", "is_name", defArgs s_is_name, defBody s_is_name, defScope s_is_name, [], []⟩, ⟨("is_weight", none), "is_weight", "is_weight", defArgs s_is_weight, defBody s_is_weight, defScope s_is_weight, [], []⟩, ⟨("fits", none), "fits", "fits", defArgs s_fits, defBody s_fits, defScope s_fits, [], []⟩, ⟨("is_expression", none), "is_expression", "is_expression", defArgs s_is_expression, defBody s_is_expression, defScope s_is_expression, [], []⟩, ⟨("is_target", none), "is_target", "is_target", defArgs s_is_target, defBody s_is_target, defScope s_is_target, [], []⟩, ⟨("is_call", none), "is_call", "is_call", defArgs s_is_call, defBody s_is_call, defScope s_is_call, [], []⟩, ⟨("is_statement", none), "is_statement", "is_statement", defArgs s_is_statement, defBody s_is_statement, defScope s_is_statement, [], []⟩, ⟨("is_block", none), "is_block", "is_block", defArgs s_is_block, defBody s_is_block, defScope s_is_block, [], []⟩, ⟨("lines_of", none), "lines_of", "lines_of", defArgs s_lines_of, defBody s_lines_of, defScope s_lines_of, [], []⟩, ⟨("is_procedure", none), "is_procedure", "is_procedure", defArgs s_is_procedure, defBody s_is_procedure, defScope s_is_procedure, [], []⟩, ⟨("_law_pick", none), "_law_pick", "_law_pick", defArgs s_l_pick, defBody s_l_pick, defScope s_l_pick, [], []⟩, ⟨("_law_kind", none), "_law_kind", "_law_kind", defArgs s_l_kind, defBody s_l_kind, defScope s_l_kind, [], []⟩, ⟨("_law_same", none), "_law_same", "_law_same", defArgs s_l_same, defBody s_l_same, defScope s_l_same, [], []⟩, ⟨("_law_divisor", none), "_law_divisor", "_law_divisor", defArgs s_l_divisor, defBody s_l_divisor, defScope s_l_divisor, [], []⟩, ⟨("_law_frac", none), "_law_frac", "_law_frac", defArgs s_l_frac, defBody s_l_frac, defScope s_l_frac, [], []⟩, ⟨("_law_keywords", none), "_law_keywords", "_law_keywords", defArgs s_l_keywords, defBody s_l_keywords, defScope s_l_keywords, [], []⟩, ⟨("_law_word", none), "_law_word", "_law_word", defArgs s_l_word, defBody s_l_word, defScope s_l_word, [], []⟩, ⟨("_law_words", none), "_law_words", "_law_words", defArgs s_l_words, defBody s_l_words, defScope s_l_words, [], []⟩, ⟨("_law_weight", none), "_law_weight", "_law_weight", defArgs s_l_weight, defBody s_l_weight, defScope s_l_weight, [], []⟩, ⟨("_law_small_weight", none), "_law_small_weight", "_law_small_weight", defArgs s_l_small_weight, defBody s_l_small_weight, defScope s_l_small_weight, [], []⟩, ⟨("_law_signs", none), "_law_signs", "_law_signs", defArgs s_l_signs, defBody s_l_signs, defScope s_l_signs, [], []⟩, ⟨("_law_constant", none), "_law_constant", "_law_constant", defArgs s_l_constant, defBody s_l_constant, defScope s_l_constant, [], []⟩, ⟨("_law_expr", none), "_law_expr", "_law_expr", defArgs s_l_expr, defBody s_l_expr, defScope s_l_expr, [], []⟩, ⟨("_law_calls", none), "_law_calls", "_law_calls", defArgs s_l_calls, defBody s_l_calls, defScope s_l_calls, [], []⟩, ⟨("_law_line", none), "_law_line", "_law_line", defArgs s_l_line, defBody s_l_line, defScope s_l_line, [], []⟩, ⟨("_law_block", none), "_law_block", "_law_block", defArgs s_l_block, defBody s_l_block, defScope s_l_block, [], []⟩, ⟨("_law_body", none), "_law_body", "_law_body", defArgs s_l_body, defBody s_l_body, defScope s_l_body, [], []⟩, ⟨("_law_shape", none), "_law_shape", "_law_shape", defArgs s_l_shape, defBody s_l_shape, defScope s_l_shape, [], []⟩, ⟨("_law_nest", none), "_law_nest", "_law_nest", defArgs s_l_nest, defBody s_l_nest, defScope s_l_nest, [], []⟩, ⟨("_law_odd_lines", none), "_law_odd_lines", "_law_odd_lines", defArgs s_l_odd_lines, defBody s_l_odd_lines, defScope s_l_odd_lines, [], []⟩, ⟨("law", none), "law", "law", defArgs s_law, defBody s_law, defScope s_law, [], []⟩]
def fa_ : List He.Fa := [.glo "_law_bag", .glo "_law_pull", .glo "is_number", .glo "common_divisor", .glo "is_word", .glo "is_own", .glo "is_shared", .glo "is_name", .glo "is_weight", .glo "fits", .glo "is_expression", .glo "is_target", .glo "is_call", .glo "is_statement", .glo "is_block", .glo "lines_of", .glo "is_procedure", .glo "_law_pick", .glo "_law_kind", .glo "_law_same", .glo "_law_divisor", .glo "_law_frac", .glo "_law_keywords", .glo "_law_word", .glo "_law_words", .glo "_law_weight", .glo "_law_small_weight", .glo "_law_signs", .glo "_law_constant", .glo "_law_expr", .glo "_law_calls", .glo "_law_line", .glo "_law_block", .glo "_law_body", .glo "_law_shape", .glo "_law_nest", .glo "_law_odd_lines", .glo "law", .free "abs", .free "all", .free "bool", .free "dict", .free "int", .free "isinstance", .free "len", .free "list", .free "range", .free "set", .free "str", .free "tuple", .free "zip", .str "GREAT" "ABCDEFGHIJKLMNOPQRSTUVWXYZ", .glo "KEYWORDS", .int "MOST_ARGS" 3, .int "MOST_DEPTH" 5, .int "MOST_NESTED" 6, .int "MOST_NUMBER" 999999, .int "MOST_SITES" 6, .int "MOST_STATEMENTS" 40, .glo "SIGNS", .str "SMALL" "abcdefghijklmnopqrstuvwxyz"]
def ex_ (K : PySem.W.Frag) : Bool := He.tupB K "KEYWORDS" (v_KEYWORDS.map He.Dv.str) && (He.tupB K "SIGNS" (v_SIGNS.map He.Dv.str))
abbrev Rr : PySem.W.OpenRow := PySem.W.OpenLaw.row PySem.Challenge.rw_pricedcalls_k07_procedures_judged
abbrev hk : PySem.W.Hook := He.hookX 4 fa_ fn_ [] [] ex_
def ob (s : PySem.W.SharedT) : He.AlX := He.obsX 4 fa_ fn_ [] [] ex_ (HandSHeadRun.getT s)
theorem ob_eq (s : PySem.W.SharedT) : ob s = hk.obs s.abs := He.obsX_eq (HandSHeadRun.getT_eq s)
abbrev loose_ : List Str := [("is_number" : Str), ("common_divisor" : Str), ("KEYWORDS" : Str), ("SMALL" : Str), ("GREAT" : Str), ("SIGNS" : Str), ("MOST_NUMBER" : Str), ("MOST_NESTED" : Str), ("MOST_DEPTH" : Str), ("MOST_ARGS" : Str), ("MOST_STATEMENTS" : Str), ("MOST_SITES" : Str), ("is_word" : Str), ("is_own" : Str), ("is_shared" : Str), ("is_name" : Str), ("is_weight" : Str), ("fits" : Str), ("is_expression" : Str), ("is_target" : Str), ("is_call" : Str), ("is_statement" : Str), ("is_block" : Str), ("lines_of" : Str), ("is_procedure" : Str), ("_law_bag" : Str), ("_law_pull" : Str), ("_law_pick" : Str), ("_law_kind" : Str), ("_law_same" : Str), ("_law_divisor" : Str), ("_law_frac" : Str), ("_law_keywords" : Str), ("_law_word" : Str), ("_law_words" : Str), ("_law_weight" : Str), ("_law_small_weight" : Str), ("_law_signs" : Str), ("_law_constant" : Str), ("_law_expr" : Str), ("_law_calls" : Str), ("_law_line" : Str), ("_law_block" : Str), ("_law_body" : Str), ("_law_shape" : Str), ("_law_nest" : Str), ("_law_odd_lines" : Str)]
theorem run (w : World) : HandSHeadRun.RunEq Rr (PySem.W.view Rr.prog [50]) hk ob 4000 loose_ w := by
  intro os
  kernel_rfl
theorem facts {P : Program} {w : World} {K : PySem.W.Frag} {h : Heap} {mg : Str → Option Value} {f : Addr} (X : K.In h) (G : h.Ns mainGlobals mg) (hfa : mg ("law" : Str) = some (.ref f)) (c : He.SaysD fa_ fn_ K) (ex_ok : ex_ K = true) :
    ∃ fd : FuncData, (∀ (s : Shared) (v : Value), BindsTo s fd ⟨[v], []⟩ [("_law_script", v)]) ∧ ∀ base : Heap, K.In base → base.Ns mainGlobals mg → FnOk P w K mg base CX0 (26 + 1) f fd ["_law_script"] (spLaw K) := by
  have T : Txt K mg := ⟨He.free_ok X G (c.fact 38 (f := .free "abs") rfl), He.free_ok X G (c.fact 39 (f := .free "all") rfl), He.free_ok X G (c.fact 40 (f := .free "bool") rfl), He.free_ok X G (c.fact 41 (f := .free "dict") rfl), He.free_ok X G (c.fact 42 (f := .free "int") rfl), He.free_ok X G (c.fact 43 (f := .free "isinstance") rfl), He.free_ok X G (c.fact 44 (f := .free "len") rfl), He.free_ok X G (c.fact 45 (f := .free "list") rfl), He.free_ok X G (c.fact 46 (f := .free "range") rfl), He.free_ok X G (c.fact 47 (f := .free "set") rfl), He.free_ok X G (c.fact 48 (f := .free "str") rfl), He.free_ok X G (c.fact 49 (f := .free "tuple") rfl), He.free_ok X G (c.fact 50 (f := .free "zip") rfl), He.str_ok X G (c.fact 51 (f := .str "GREAT" "ABCDEFGHIJKLMNOPQRSTUVWXYZ") rfl), He.glo_ok X G (c.fact 52 (f := .glo "KEYWORDS") rfl), tup_strs ((He.ba ex_ok).1), He.int_ok X G (c.fact 53 (f := .int "MOST_ARGS" 3) rfl), He.int_ok X G (c.fact 54 (f := .int "MOST_DEPTH" 5) rfl), He.int_ok X G (c.fact 55 (f := .int "MOST_NESTED" 6) rfl), He.int_ok X G (c.fact 56 (f := .int "MOST_NUMBER" 999999) rfl), He.int_ok X G (c.fact 57 (f := .int "MOST_SITES" 6) rfl), He.int_ok X G (c.fact 58 (f := .int "MOST_STATEMENTS" 40) rfl), He.glo_ok X G (c.fact 59 (f := .glo "SIGNS") rfl), tup_strs ((He.ba ex_ok).2), He.str_ok X G (c.fact 60 (f := .str "SMALL" "abcdefghijklmnopqrstuvwxyz") rfl)⟩
  have D0 := c.def_ 0 (d := fn_[0]) rfl
  have D1 := c.def_ 1 (d := fn_[1]) rfl
  have D2 := c.def_ 2 (d := fn_[2]) rfl
  have D3 := c.def_ 3 (d := fn_[3]) rfl
  have D4 := c.def_ 4 (d := fn_[4]) rfl
  have D5 := c.def_ 5 (d := fn_[5]) rfl
  have D6 := c.def_ 6 (d := fn_[6]) rfl
  have D7 := c.def_ 7 (d := fn_[7]) rfl
  have D8 := c.def_ 8 (d := fn_[8]) rfl
  have D9 := c.def_ 9 (d := fn_[9]) rfl
  have D10 := c.def_ 10 (d := fn_[10]) rfl
  have D11 := c.def_ 11 (d := fn_[11]) rfl
  have D12 := c.def_ 12 (d := fn_[12]) rfl
  have D13 := c.def_ 13 (d := fn_[13]) rfl
  have D14 := c.def_ 14 (d := fn_[14]) rfl
  have D15 := c.def_ 15 (d := fn_[15]) rfl
  have D16 := c.def_ 16 (d := fn_[16]) rfl
  have D17 := c.def_ 17 (d := fn_[17]) rfl
  have D18 := c.def_ 18 (d := fn_[18]) rfl
  have D19 := c.def_ 19 (d := fn_[19]) rfl
  have D20 := c.def_ 20 (d := fn_[20]) rfl
  have D21 := c.def_ 21 (d := fn_[21]) rfl
  have D22 := c.def_ 22 (d := fn_[22]) rfl
  have D23 := c.def_ 23 (d := fn_[23]) rfl
  have D24 := c.def_ 24 (d := fn_[24]) rfl
  have D25 := c.def_ 25 (d := fn_[25]) rfl
  have D26 := c.def_ 26 (d := fn_[26]) rfl
  have D27 := c.def_ 27 (d := fn_[27]) rfl
  have D28 := c.def_ 28 (d := fn_[28]) rfl
  have D29 := c.def_ 29 (d := fn_[29]) rfl
  have D30 := c.def_ 30 (d := fn_[30]) rfl
  have D31 := c.def_ 31 (d := fn_[31]) rfl
  have D32 := c.def_ 32 (d := fn_[32]) rfl
  have D33 := c.def_ 33 (d := fn_[33]) rfl
  have D34 := c.def_ 34 (d := fn_[34]) rfl
  have D35 := c.def_ 35 (d := fn_[35]) rfl
  have D36 := c.def_ 36 (d := fn_[36]) rfl
  have D37 := c.def_ 37 (d := fn_[37]) rfl
  obtain ⟨fdB, FB⟩ := (D0 : ∃ fd, FnS K "_law_bag" "_law_bag" s__law_bag [] (He.ga K "_law_bag") fd)
  obtain ⟨fd, F⟩ := (D37 : ∃ fd, FnS K "law" "law" s_law [] (He.ga K "law") fd)
  have e := hfa.symm.trans (He.glo_ok X G (c.fact 37 (f := .glo "law") rfl))
  cases e
  have b := FunD.bindsA (ps := ["_law_script"]) F fun _ _ _ _ _ _ us hl => match us, hl with | [_], _ => rfl
  refine ⟨fd, fun s v => b s [v] rfl, fun base _ _ => ?_⟩
  have h_l_pull := ok_l_pull (P := P) (w := w) (base := base) T (D1 : ∃ fd, FnS K "_law_pull" "_law_pull" s_l_pull [] (He.ga K "_law_pull") fd) (He.glo_ok X G (c.fact 1 (f := .glo "_law_pull") rfl))
  have h_is_number := ok_is_number (P := P) (w := w) (base := base) T (D2 : ∃ fd, FnS K "is_number" "is_number" s_is_number [] (He.ga K "is_number") fd) (He.glo_ok X G (c.fact 2 (f := .glo "is_number") rfl)) len_is_number pure_is_number
  have h_common_divisor := ok_common_divisor (P := P) (w := w) (base := base) T (D3 : ∃ fd, FnS K "common_divisor" "common_divisor" s_common_divisor [] (He.ga K "common_divisor") fd) (He.glo_ok X G (c.fact 3 (f := .glo "common_divisor") rfl)) len_common_divisor pure_common_divisor
  have h_is_word := ok_is_word (P := P) (w := w) (base := base) T (D4 : ∃ fd, FnS K "is_word" "is_word" s_is_word [] (He.ga K "is_word") fd) (He.glo_ok X G (c.fact 4 (f := .glo "is_word") rfl)) len_is_word pure_is_word
  have h_is_own := ok_is_own (P := P) (w := w) (base := base) T h_is_word (D5 : ∃ fd, FnS K "is_own" "is_own" s_is_own [] (He.ga K "is_own") fd) (He.glo_ok X G (c.fact 5 (f := .glo "is_own") rfl)) len_is_own pure_is_own
  have h_is_shared := ok_is_shared (P := P) (w := w) (base := base) T h_is_word (D6 : ∃ fd, FnS K "is_shared" "is_shared" s_is_shared [] (He.ga K "is_shared") fd) (He.glo_ok X G (c.fact 6 (f := .glo "is_shared") rfl)) len_is_shared pure_is_shared
  have h_is_name := ok_is_name (P := P) (w := w) (base := base) T h_is_word (D7 : ∃ fd, FnS K "is_name" "is_name" s_is_name [] (He.ga K "is_name") fd) (He.glo_ok X G (c.fact 7 (f := .glo "is_name") rfl)) len_is_name pure_is_name
  have h_is_weight := ok_is_weight (P := P) (w := w) (base := base) T h_is_number h_common_divisor (D8 : ∃ fd, FnS K "is_weight" "is_weight" s_is_weight [] (He.ga K "is_weight") fd) (He.glo_ok X G (c.fact 8 (f := .glo "is_weight") rfl)) len_is_weight pure_is_weight
  have hh_fits : ∀ n, Fnc P w K mg base "fits" (2 + n) ["value", "deep"] (fun _ => True) (A_fits n) := by
    intro n
    induction n with
    | zero => exact fnc_false (st := s_fits) (D9 : ∃ fd, FnS K "fits" "fits" s_fits [] (He.ga K "fits") fd) (He.glo_ok X G (c.fact 9 (f := .glo "fits") rfl)) (fun _ _ _ _ _ _ us hl => match us, hl with | [_, _], _ => rfl) (fun _ _ _ _ _ _ us hl => match us, hl with | [_, _], _ => rfl) zero_fits
    | succ n ih => exact ok_fits T ih h_is_number h_is_own h_is_shared (D9 : ∃ fd, FnS K "fits" "fits" s_fits [] (He.ga K "fits") fd) (He.glo_ok X G (c.fact 9 (f := .glo "fits") rfl)) (len_fits (n + 1)) (pure_fits n) (by omega) (by omega) (by omega)
  have h_fits := hh_fits 7
  have h_is_expression := ok_is_expression (P := P) (w := w) (base := base) T h_fits (D10 : ∃ fd, FnS K "is_expression" "is_expression" s_is_expression [] (He.ga K "is_expression") fd) (He.glo_ok X G (c.fact 10 (f := .glo "is_expression") rfl)) len_is_expression pure_is_expression
  have h_is_target := ok_is_target (P := P) (w := w) (base := base) T h_is_own h_is_shared (D11 : ∃ fd, FnS K "is_target" "is_target" s_is_target [] (He.ga K "is_target") fd) (He.glo_ok X G (c.fact 11 (f := .glo "is_target") rfl)) len_is_target pure_is_target
  have h_is_call := ok_is_call (P := P) (w := w) (base := base) T h_is_target h_is_name h_is_expression h_is_weight (D12 : ∃ fd, FnS K "is_call" "is_call" s_is_call [] (He.ga K "is_call") fd) (He.glo_ok X G (c.fact 12 (f := .glo "is_call") rfl)) len_is_call pure_is_call
  -- is_statement: with is_block
  have hh_is_block : ∀ n, Fnc P w K mg base "is_block" (12 + 2 * n) ["value", "depth", "in_while"] (fun _ => True) (A_is_block n) ∧ (0 < n → Fnc P w K mg base "is_statement" (12 + 2 * n - 1) ["value", "depth", "in_while"] (fun _ => True) (A_is_statement n)) := by
    intro n
    induction n with
    | zero => exact ⟨fnc_false (st := s_is_block) (D14 : ∃ fd, FnS K "is_block" "is_block" s_is_block [] (He.ga K "is_block") fd) (He.glo_ok X G (c.fact 14 (f := .glo "is_block") rfl)) (fun _ _ _ _ _ _ us hl => match us, hl with | [_, _, _], _ => rfl) (fun _ _ _ _ _ _ us hl => match us, hl with | [_, _, _], _ => rfl) zero_is_block, fun h => absurd h (by omega)⟩
    | succ n ih =>
      have la := ok_is_statement T ih.1 h_is_target h_is_expression h_is_call (D13 : ∃ fd, FnS K "is_statement" "is_statement" s_is_statement [] (He.ga K "is_statement") fd) (He.glo_ok X G (c.fact 13 (f := .glo "is_statement") rfl)) (len_is_statement (n + 1)) (pure_is_statement n) (by omega) (by omega) (by omega)
      have lb := ok_is_block T la  (D14 : ∃ fd, FnS K "is_block" "is_block" s_is_block [] (He.ga K "is_block") fd) (He.glo_ok X G (c.fact 14 (f := .glo "is_block") rfl)) (len_is_block (n + 1)) (pure_is_block n) 
      exact ⟨lb, fun _ => la⟩
  have h_is_block := (hh_is_block 6).1
  have h_is_statement := (hh_is_block 6).2 (by decide)
  have hh_lines_of : ∀ n, Fnc P w K mg base "lines_of" (0 + n) ["block"] (fun _ => True) (A_lines_of n) := by
    intro n
    induction n with
    | zero => exact fnc_false (st := s_lines_of) (D15 : ∃ fd, FnS K "lines_of" "lines_of" s_lines_of [] (He.ga K "lines_of") fd) (He.glo_ok X G (c.fact 15 (f := .glo "lines_of") rfl)) (fun _ _ _ _ _ _ us hl => match us, hl with | [_], _ => rfl) (fun _ _ _ _ _ _ us hl => match us, hl with | [_], _ => rfl) zero_lines_of
    | succ n ih => exact ok_lines_of T ih  (D15 : ∃ fd, FnS K "lines_of" "lines_of" s_lines_of [] (He.ga K "lines_of") fd) (He.glo_ok X G (c.fact 15 (f := .glo "lines_of") rfl)) (len_lines_of (n + 1)) (pure_lines_of n) 
  have h_lines_of := hh_lines_of 6
  have h_is_procedure := ok_is_procedure (P := P) (w := w) (base := base) T h_is_name h_is_own h_is_block h_lines_of (D16 : ∃ fd, FnS K "is_procedure" "is_procedure" s_is_procedure [] (He.ga K "is_procedure") fd) (He.glo_ok X G (c.fact 16 (f := .glo "is_procedure") rfl)) len_is_procedure pure_is_procedure
  have h_l_pick := ok_l_pick (P := P) (w := w) (base := base) T h_l_pull (D17 : ∃ fd, FnS K "_law_pick" "_law_pick" s_l_pick [] (He.ga K "_law_pick") fd) (He.glo_ok X G (c.fact 17 (f := .glo "_law_pick") rfl)) len_l_pick pure_l_pick
  have h_l_kind := ok_l_kind (P := P) (w := w) (base := base) T (D18 : ∃ fd, FnS K "_law_kind" "_law_kind" s_l_kind [] (He.ga K "_law_kind") fd) (He.glo_ok X G (c.fact 18 (f := .glo "_law_kind") rfl)) len_l_kind pure_l_kind
  have hh_l_same : ∀ n, Fnc P w K mg base "_law_same" (1 + n) ["_law_found", "_law_due"] (fun _ => True) (A_l_same n) := by
    intro n
    induction n with
    | zero => exact fnc_false (st := s_l_same) (D19 : ∃ fd, FnS K "_law_same" "_law_same" s_l_same [] (He.ga K "_law_same") fd) (He.glo_ok X G (c.fact 19 (f := .glo "_law_same") rfl)) (fun _ _ _ _ _ _ us hl => match us, hl with | [_, _], _ => rfl) (fun _ _ _ _ _ _ us hl => match us, hl with | [_, _], _ => rfl) zero_l_same
    | succ n ih => exact ok_l_same T ih h_l_kind (D19 : ∃ fd, FnS K "_law_same" "_law_same" s_l_same [] (He.ga K "_law_same") fd) (He.glo_ok X G (c.fact 19 (f := .glo "_law_same") rfl)) (len_l_same (n + 1)) (pure_l_same n) (by omega)
  have h_l_same := hh_l_same 4
  have h_l_divisor := ok_l_divisor (P := P) (w := w) (base := base) T (D20 : ∃ fd, FnS K "_law_divisor" "_law_divisor" s_l_divisor [] (He.ga K "_law_divisor") fd) (He.glo_ok X G (c.fact 20 (f := .glo "_law_divisor") rfl)) len_l_divisor pure_l_divisor
  have h_l_frac := ok_l_frac (P := P) (w := w) (base := base) T h_l_divisor (D21 : ∃ fd, FnS K "_law_frac" "_law_frac" s_l_frac [] (He.ga K "_law_frac") fd) (He.glo_ok X G (c.fact 21 (f := .glo "_law_frac") rfl)) len_l_frac pure_l_frac
  have h_l_keywords := ok_l_keywords (P := P) (w := w) (base := base) T (D22 : ∃ fd, FnS K "_law_keywords" "_law_keywords" s_l_keywords [] (He.ga K "_law_keywords") fd) (He.glo_ok X G (c.fact 22 (f := .glo "_law_keywords") rfl)) len_l_keywords pure_l_keywords
  have h_l_word := ok_l_word (P := P) (w := w) (base := base) T h_l_pull h_l_keywords (D23 : ∃ fd, FnS K "_law_word" "_law_word" s_l_word [] (He.ga K "_law_word") fd) (He.glo_ok X G (c.fact 23 (f := .glo "_law_word") rfl)) len_l_word pure_l_word
  have h_l_words := ok_l_words (P := P) (w := w) (base := base) T h_l_word h_l_pull h_l_keywords (D24 : ∃ fd, FnS K "_law_words" "_law_words" s_l_words [] (He.ga K "_law_words") fd) (He.glo_ok X G (c.fact 24 (f := .glo "_law_words") rfl)) len_l_words pure_l_words
  have h_l_weight := ok_l_weight (P := P) (w := w) (base := base) T h_l_pick h_l_pull h_l_frac (D25 : ∃ fd, FnS K "_law_weight" "_law_weight" s_l_weight [] (He.ga K "_law_weight") fd) (He.glo_ok X G (c.fact 25 (f := .glo "_law_weight") rfl)) len_l_weight pure_l_weight
  have h_l_small_weight := ok_l_small_weight (P := P) (w := w) (base := base) T h_l_pull h_l_frac h_l_pick (D26 : ∃ fd, FnS K "_law_small_weight" "_law_small_weight" s_l_small_weight [] (He.ga K "_law_small_weight") fd) (He.glo_ok X G (c.fact 26 (f := .glo "_law_small_weight") rfl)) len_l_small_weight pure_l_small_weight
  have h_l_signs := ok_l_signs (P := P) (w := w) (base := base) T (D27 : ∃ fd, FnS K "_law_signs" "_law_signs" s_l_signs [] (He.ga K "_law_signs") fd) (He.glo_ok X G (c.fact 27 (f := .glo "_law_signs") rfl)) len_l_signs pure_l_signs
  have h_l_constant := ok_l_constant (P := P) (w := w) (base := base) T h_l_pick h_l_pull (D28 : ∃ fd, FnS K "_law_constant" "_law_constant" s_l_constant [] (He.ga K "_law_constant") fd) (He.glo_ok X G (c.fact 28 (f := .glo "_law_constant") rfl)) len_l_constant pure_l_constant
  have hh_l_expr : ∀ n, Fnc P w K mg base "_law_expr" (3 + n) ["_law_bag_here", "_law_names", "_law_deep"] BagW (A_l_expr n) := by
    intro n
    induction n with
    | zero => exact fnc_false (st := s_l_expr) (D29 : ∃ fd, FnS K "_law_expr" "_law_expr" s_l_expr [] (He.ga K "_law_expr") fd) (He.glo_ok X G (c.fact 29 (f := .glo "_law_expr") rfl)) (fun _ _ _ _ _ _ us hl => match us, hl with | [_, _, _], _ => rfl) (fun _ _ _ _ _ _ us hl => match us, hl with | [_, _, _], _ => rfl) zero_l_expr
    | succ n ih => exact ok_l_expr T ih h_l_pull h_l_pick h_l_constant h_l_signs (D29 : ∃ fd, FnS K "_law_expr" "_law_expr" s_l_expr [] (He.ga K "_law_expr") fd) (He.glo_ok X G (c.fact 29 (f := .glo "_law_expr") rfl)) (len_l_expr (n + 1)) (pure_l_expr n) (by omega) (by omega) (by omega) (by omega)
  have h_l_expr := hh_l_expr 4
  have h_l_calls := ok_l_calls (P := P) (w := w) (base := base) T h_l_pick h_l_expr h_l_small_weight h_l_weight (D30 : ∃ fd, FnS K "_law_calls" "_law_calls" s_l_calls [] (He.ga K "_law_calls") fd) (He.glo_ok X G (c.fact 30 (f := .glo "_law_calls") rfl)) len_l_calls pure_l_calls
  -- _law_line: with _law_block
  have hh_l_block : ∀ n, FncS P w K mg base "_law_block" (10 + 2 * n) ["_law_bag_here", "_law_world", "_law_room", "_law_depth", "_law_in_while"] BagW (A_l_block n) ∧ (0 < n → FncS P w K mg base "_law_line" (10 + 2 * n - 1) ["_law_bag_here", "_law_world", "_law_room", "_law_depth", "_law_in_while"] BagW (A_l_line n)) := by
    intro n
    induction n with
    | zero => exact ⟨fns_false (st := s_l_block) (D32 : ∃ fd, FnS K "_law_block" "_law_block" s_l_block [] (He.ga K "_law_block") fd) (He.glo_ok X G (c.fact 32 (f := .glo "_law_block") rfl)) (fun _ _ _ _ _ _ us hl => match us, hl with | [_, _, _, _, _], _ => rfl) zero_l_block, fun h => absurd h (by omega)⟩
    | succ n ih =>
      have la := ok_l_line T ih.1 h_l_pull h_l_calls h_l_expr h_l_pick (D31 : ∃ fd, FnS K "_law_line" "_law_line" s_l_line [] (He.ga K "_law_line") fd) (He.glo_ok X G (c.fact 31 (f := .glo "_law_line") rfl)) (len_l_line (n + 1)) (pure_l_line n) (by omega) (by omega) (by omega) (by omega)
      have lb := ok_l_block T la h_l_pull (D32 : ∃ fd, FnS K "_law_block" "_law_block" s_l_block [] (He.ga K "_law_block") fd) (He.glo_ok X G (c.fact 32 (f := .glo "_law_block") rfl)) (len_l_block (n + 1)) (pure_l_block n) (by omega)
      exact ⟨lb, fun _ => la⟩
  have h_l_block := (hh_l_block 5).1
  have h_l_line := (hh_l_block 5).2 (by decide)
  have h_l_body := ok_l_body (P := P) (w := w) (base := base) T h_l_pull h_l_line (D33 : ∃ fd, FnS K "_law_body" "_law_body" s_l_body [] (He.ga K "_law_body") fd) (He.glo_ok X G (c.fact 33 (f := .glo "_law_body") rfl)) len_l_body pure_l_body
  have h_l_shape := ok_l_shape (P := P) (w := w) (base := base) T h_l_words h_l_pull h_l_body (D34 : ∃ fd, FnS K "_law_shape" "_law_shape" s_l_shape [] (He.ga K "_law_shape") fd) (He.glo_ok X G (c.fact 34 (f := .glo "_law_shape") rfl)) len_l_shape pure_l_shape
  have h_l_nest := ok_l_nest (P := P) (w := w) (base := base) T (D35 : ∃ fd, FnS K "_law_nest" "_law_nest" s_l_nest [] (He.ga K "_law_nest") fd) (He.glo_ok X G (c.fact 35 (f := .glo "_law_nest") rfl)) len_l_nest pure_l_nest
  have h_l_odd_lines := ok_l_odd_lines (P := P) (w := w) (base := base) T h_l_pick (D36 : ∃ fd, FnS K "_law_odd_lines" "_law_odd_lines" s_l_odd_lines [] (He.ga K "_law_odd_lines") fd) (He.glo_ok X G (c.fact 36 (f := .glo "_law_odd_lines") rfl)) len_l_odd_lines pure_l_odd_lines
  exact ok_law T h_l_shape h_l_same h_is_procedure h_l_pick h_l_odd_lines h_l_pull h_l_nest FB (He.glo_ok X G (c.fact 0 (f := .glo "_law_bag") rfl)) F

end Bd
open PySem PySem.W PySem.Calls PyProof.Rows
set_option maxRecDepth 100000 in
set_option maxHeartbeats 0 in
theorem PySem.Challenge.cw_pricedcalls_k07_procedures_judged_holds : PySem.Challenge.rw_pricedcalls_k07_procedures_judged.Holds := by
  w_on; o_law
  refine HandSHeadRun.head_any (r := OpenLaw.row PySem.Challenge.rw_pricedcalls_k07_procedures_judged) (q := view (OpenLaw.row PySem.Challenge.rw_pricedcalls_k07_procedures_judged).prog [50]) (H := Bd.hk) (ob := Bd.ob) (M := 4000) (loose := Bd.loose_) (d := HandSHeadRun.topDef (OpenLaw.row PySem.Challenge.rw_pricedcalls_k07_procedures_judged).prog 50) (kwd := []) Bd.ob_eq
    (by kernel_rfl) (fun s => by kernel_rfl) Bd.run (by kernel_rfl) (by kernel_rfl) (by kernel_rfl) (by rfl) (by first | assumption | decide +kernel) (by decide +kernel) ⟨rfl, rfl, rfl, rfl, rfl, by decide +kernel⟩ ?hw ?hc
  case hw => w_witness2
  case hc =>
    refine L2.walk_ofE (l := PySem.Challenge.rw_pricedcalls_k07_procedures_judged) (n := 63) (k := 26 + 1) (x := "_law_script") (CX := L2.CX0) rfl (by decide) (by kernel_rfl) ⟨rfl, by decide, by decide⟩ ?F (fun _ _ _ _ z => z)
    intro w mg fa h Y G hmg0
    obtain ⟨K, KX, c⟩ := Y
    have hmg : mg ("law" : PySem.Str) = some (.ref fa) := by
      have e : (HandSHeadRun.topDef (OpenLaw.row PySem.Challenge.rw_pricedcalls_k07_procedures_judged).prog 50).name = ("law" : PySem.Str) := by kernel_rfl
      rw [← e]
      exact hmg0
    obtain ⟨fd, hb, hF⟩ := Bd.facts (P := (PySem.Challenge.rw_pricedcalls_k07_procedures_judged).prog) (w := w) KX G hmg c.t.d c.more
    exact ⟨K, fd, Bd.spLaw K, KX, hb, fun H a ns hl _ hS => ⟨a, ns, rfl, hS, hl, fun _ => rfl⟩, hF⟩
