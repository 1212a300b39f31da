import PyProof.Rows.All
import Wide.All
import OpenK.AllK
import Wide.FinOn
import HandS.ForMost
import HandS.IsInst
import HandS.Walk
import HandS.Deep
import HandS.FStr
import HandS.Wide
import HandS.TupAny
import HandS.Zip
import HandS.HeadHook4
import HandS.HeadWalk
import HandS.Defaults
import HandS.ExcInit
import HandS.TupMul
import HandS.Strs
import HandS.Property
import HandS.MakeKw
import KE.KOpsOwn
import KE.KCallOwn
import KE.KFmtOwn
import PyProof.InstNe
import HandS.OwnEq
import KE.KExcInit
import KE.KExcSuper
import KE.KSuper
import PyProof.ExcBaseAll.ValueError
import PyProof.ExcBaseAll.LookupError
import PyProof.ExcBaseAll.IndexError
import HandS.HotCalls
import HandS.ExcField
import HandS.TryMany
import HandS.Lambda
import HandS.NestedK
import HandS.EndTab
import PyProof.Conv_bool
import HandS.DictComp
import HandS.Iter
import KE.GoesMore
import KE.GoesEnum
import HandS.ClsMeth
import HandS.Style
import HandS.SetKeys
import PyProof.DictMoreH
import HandS.StrMore
import HandS.Star
import KE.KIntText
import HandS.Text
import PyProof.Rows.StrOr
import PyProof.CallStr
import KE.IntTextLaws
import HandS.Codes
import KE.IntTextText
import HandS.Head0
import HandS.Head1
import HandS.Head2
import HandS.HeadEnd
import HandS.HeadHook1
import HandS.HeadHook2
import HandS.HeadHook3
import KE.KStateDown
import Lean
import PySem.Challenge.RW_pricedcalls_k03_texts_of_ratios
set_option Elab.async false
set_option linter.all false
set_option maxRecDepth 100000
/-! Bd1: data without a heap, worlds, what stands for what. -/
namespace Bd
open PySem L2
/-- data, seen without the heap -/
inductive D where
  | non | bl (b : Bool) | int (i : Int) | str (s : Str) | ty (n : String)
  | lst (ds : List D) | tup (ds : List D) | obj (c : Str) (ns : List Str) (fs : List D) | hdl (n : Nat) | cls (c : Str) | adr (a : Addr)
  | dic (o : Obj) (ks : List Key) (ds : List D) | dit (o : Obj) (ks : List (List Key)) (ds : List D)
  | dcl (ks : List Key) (ds : List D) | dct (ks : List (List Key)) (ds : List D)
  | ktu (ds : List D) | exc (c : Str) (ns : List Str) (fs : List D)
instance : Inhabited D := ⟨.non⟩

abbrev Ext (H H' : Hp) : Prop := ∀ a o, H a = some o → H' a = some o
theorem Ext.rfl' (H : Hp) : Ext H H := fun _ _ h => h
theorem Ext.tr {H H1 H2 : Hp} (a : Ext H H1) (b : Ext H1 H2) : Ext H H2 := fun x o h => b x o (a x o h)

mutual
inductive Rw (K : PySem.W.Frag) (hd : Nat → Option Addr) (H : Hp) : V → D → Prop
  | non : Rw K hd H .non .non
  | bl (b : Bool) : Rw K hd H (.bl b) (.bl b)
  | int (i : Int) : Rw K hd H (.int i) (.int i)
  | str (x : Str) : Rw K hd H (.str x) (.str x)
  | ty (n : String) : Rw K hd H (.ty n) (.ty n)
  | lst {a : Addr} {xs : List V} {ds : List D} : H a = some (.lst xs) → RwA K hd H xs ds → Rw K hd H (.ref a) (.lst ds)
  | tup {a : Addr} {xs : List V} {ds : List D} : H a = some (.tup xs) → RwA K hd H xs ds → Rw K hd H (.ref a) (.tup ds)
  | obj {a dx : Addr} {c : Str} {ns : List Str} {xs : List V} {ds : List D} : H a = some (.ins (He.ga K c) dx (ns.zip xs)) → ns.length = xs.length → RwA K hd H xs ds → Rw K hd H (.ref a) (.obj c ns ds)
  | hdl {a : Addr} {n : Nat} : hd n = some a → Rw K hd H (.ref a) (.hdl n)
  | cls (c : Str) : Rw K hd H (.ref (He.ga K c)) (.cls c)
  | adr (a : Addr) : Rw K hd H (.ref a) (.adr a)
  | dic {a : Addr} {o : Obj} {ks : List Key} {xs : List V} {ds : List D} : H a = some (.frz o (.dK (ks.zip xs))) → ks.length = xs.length → RwA K hd H xs ds → Rw K hd H (.ref a) (.dic o ks ds)
  | dit {a : Addr} {o : Obj} {ks : List (List Key)} {xs : List V} {ds : List D} : H a = some (.frz o (.dT (ks.zip xs))) → ks.length = xs.length → RwA K hd H xs ds → Rw K hd H (.ref a) (.dit o ks ds)
  | dcl {a : Addr} {ks : List Key} {xs : List V} {ds : List D} : H a = some (.dK (ks.zip xs)) → ks.length = xs.length → RwA K hd H xs ds → Rw K hd H (.ref a) (.dcl ks ds)
  | dct {a : Addr} {ks : List (List Key)} {xs : List V} {ds : List D} : H a = some (.dT (ks.zip xs)) → ks.length = xs.length → RwA K hd H xs ds → Rw K hd H (.ref a) (.dct ks ds)
  | ktu {a : Addr} {xs : List V} {ds : List D} : (∀ G : Hp, SqT K G a xs) → RwA K hd H xs ds → Rw K hd H (.ref a) (.ktu ds)
  | exc {a dd : Addr} {c : Str} {ns : List Str} {xs : List V} {ds : List D} : H a = some (exo a (He.ga K c) (some dd)) → H dd = some (exd dd (ns.zip xs)) → ns.length = xs.length → RwA K hd H xs ds → Rw K hd H (.ref a) (.exc c ns ds)
inductive RwA (K : PySem.W.Frag) (hd : Nat → Option Addr) (H : Hp) : List V → List D → Prop
  | nil : RwA K hd H [] []
  | cons {v : V} {vs : List V} {d : D} {ds : List D} : Rw K hd H v d → RwA K hd H vs ds → RwA K hd H (v :: vs) (d :: ds)
end
theorem sqL_mono {K : PySem.W.Frag} {H H' : Hp} {a : Addr} {xs : List V} (e : Ext H H') : SqL K H a xs → SqL K H' a xs
  | .inl (.inl h) => .inl (.inl (e _ _ h))
  | .inl (.inr ⟨o, h⟩) => .inl (.inr ⟨o, e _ _ h⟩)
  | .inr h => .inr h
theorem sqT_mono {K : PySem.W.Frag} {H H' : Hp} {a : Addr} {xs : List V} (e : Ext H H') : SqT K H a xs → SqT K H' a xs
  | .inl (.inl h) => .inl (.inl (e _ _ h))
  | .inl (.inr ⟨o, h⟩) => .inl (.inr ⟨o, e _ _ h⟩)
  | .inr h => .inr h
section
variable {K : PySem.W.Frag} {hd : Nat → Option Addr} {H H' : Hp}
mutual
theorem Rw.mono (e : Ext H H') : ∀ {v : V} {d : D}, Rw K hd H v d → Rw K hd H' v d
  | _, _, .non => .non
  | _, _, .bl b => .bl b
  | _, _, .int b => .int b
  | _, _, .str b => .str b
  | _, _, .ty b => .ty b
  | _, _, .lst h r => .lst (e _ _ h) (RwA.mono e r)
  | _, _, .tup h r => .tup (e _ _ h) (RwA.mono e r)
  | _, _, .obj h l r => .obj (e _ _ h) l (RwA.mono e r)
  | _, _, .hdl h => .hdl h
  | _, _, .cls c => .cls c
  | _, _, .adr a => .adr a
  | _, _, .dic h l r => .dic (e _ _ h) l (RwA.mono e r)
  | _, _, .dit h l r => .dit (e _ _ h) l (RwA.mono e r)
  | _, _, .dcl h l r => .dcl (e _ _ h) l (RwA.mono e r)
  | _, _, .dct h l r => .dct (e _ _ h) l (RwA.mono e r)
  | _, _, .ktu h r => .ktu h (RwA.mono e r)
  | _, _, .exc h h2 l r => .exc (e _ _ h) (e _ _ h2) l (RwA.mono e r)
theorem RwA.mono (e : Ext H H') : ∀ {vs : List V} {ds : List D}, RwA K hd H vs ds → RwA K hd H' vs ds
  | _, _, .nil => .nil
  | _, _, .cons h t => .cons (Rw.mono e h) (RwA.mono e t)
end
theorem RwA.length : ∀ {vs : List V} {ds : List D}, RwA K hd H vs ds → vs.length = ds.length
  | _, _, .nil => rfl
  | _, _, .cons _ t => congrArg Nat.succ (RwA.length t)
theorem RwA.get : ∀ {vs : List V} {ds : List D} {i : Nat} {v : V}, RwA K hd H vs ds → vs[i]? = some v → ∃ d, ds[i]? = some d ∧ Rw K hd H v d
  | _, _, _, _, .nil, e => by simp at e
  | _, _, 0, _, .cons r _, e => by simp at e; subst e; exact ⟨_, rfl, r⟩
  | _, _, i + 1, v, .cons _ t, e => by
    obtain ⟨u, h1, h2⟩ := RwA.get (i := i) (v := v) t (by simpa using e)
    exact ⟨u, by simpa using h1, h2⟩
theorem RwA.getD : ∀ {vs : List V} {ds : List D} {i : Nat} {d : D}, RwA K hd H vs ds → ds[i]? = some d → ∃ v, vs[i]? = some v ∧ Rw K hd H v d
  | _, _, _, _, .nil, e => by simp at e
  | _, _, 0, _, .cons r _, e => by simp at e; subst e; exact ⟨_, rfl, r⟩
  | _, _, i + 1, d, .cons _ t, e => by
    obtain ⟨u, h1, h2⟩ := RwA.getD (i := i) (d := d) t (by simpa using e)
    exact ⟨u, by simpa using h1, h2⟩
theorem RwA.append : ∀ {vs us : List V} {ds es : List D}, RwA K hd H vs ds → RwA K hd H us es → RwA K hd H (vs ++ us) (ds ++ es)
  | _, _, _, _, .nil, s => s
  | _, _, _, _, .cons r t, s => .cons r (RwA.append t s)
theorem RwA.take : ∀ {vs : List V} {ds : List D} (n : Nat), RwA K hd H vs ds → RwA K hd H (vs.take n) (ds.take n)
  | _, _, 0, _ => .nil
  | _, _, _ + 1, .nil => .nil
  | _, _, n + 1, .cons r t => .cons r (RwA.take n t)
theorem RwA.drop : ∀ {vs : List V} {ds : List D} (n : Nat), RwA K hd H vs ds → RwA K hd H (vs.drop n) (ds.drop n)
  | _, _, 0, r => r
  | _, _, _ + 1, .nil => .nil
  | _, _, n + 1, .cons _ t => RwA.drop n t
theorem RwA.set {v : V} {d : D} (r : Rw K hd H v d) : ∀ {vs : List V} {ds : List D} (i : Nat), RwA K hd H vs ds → RwA K hd H (vs.set i v) (ds.set i d)
  | _, _, _, .nil => .nil
  | _, _, 0, .cons _ t => .cons r t
  | _, _, i + 1, .cons q t => .cons q (RwA.set r i t)
theorem RwA.dropLast : ∀ {vs : List V} {ds : List D}, RwA K hd H vs ds → RwA K hd H vs.dropLast ds.dropLast := fun {vs ds} r => by
  rw [List.dropLast_eq_take, List.dropLast_eq_take, r.length]
  exact r.take _
end

/-! ### worlds -/
/-- tables of code objects: they may change at any time and are never data -/
def isT : HO → Bool
  | .tbl _ => true
  | _ => false
def isE : HO → Bool
  | .ext _ => true
  | _ => false
def visO : Option HO → Option HO
  | some o => if isT o = true then none else some o
  | none => none
def vis (ms : List Addr) (H : Hp) : Hp := fun a => if a ∈ ms then none else visO (H a)
/-- what is told of a code object, an exception stays -/
def KeepE (H H' : Hp) : Prop := ∀ a o, H a = some o → isE o = true → H' a = some o
/-- ms: what is hidden from data; hd: the handles; I: what stands of the hidden -/
structure Wd where
  ms : List Addr
  hd : Nat → Option Addr
  I : Hp → Prop
  loc : ∀ H H' : Hp, (∀ a, a ∈ ms → H' a = H a) → KeepE H H' → I H → I H'
  live : ∀ H : Hp, I H → ∀ a, a ∈ ms → ∃ o, H a = some o
theorem vis_in {ms : List Addr} {H : Hp} {a : Addr} (h : a ∈ ms) : vis ms H a = none := if_pos h
theorem vis_all {ms : List Addr} {H : Hp} {a : Addr} {o : HO} (h : vis ms H a = some o) : a ∉ ms ∧ H a = some o ∧ isT o = false := by
  by_cases m : a ∈ ms
  · rw [vis_in m] at h; cases h
  · have h2 : visO (H a) = some o := by
      have h3 : (if a ∈ ms then none else visO (H a)) = some o := h
      rw [if_neg m] at h3
      exact h3
    refine ⟨m, ?_⟩
    cases q : H a with
    | none => rw [q] at h2; cases h2
    | some u =>
      rw [q] at h2
      have h4 : (if isT u = true then none else some u) = some o := h2
      cases t : isT u with
      | true => rw [t] at h4; simp at h4
      | false =>
        rw [t] at h4
        simp at h4
        subst h4
        exact ⟨rfl, t⟩
theorem vis_some {ms : List Addr} {H : Hp} {a : Addr} {o : HO} (h : vis ms H a = some o) : a ∉ ms ∧ H a = some o := ⟨(vis_all h).1, (vis_all h).2.1⟩
theorem vis_nt {ms : List Addr} {H : Hp} {a : Addr} {o : HO} (h : vis ms H a = some o) : isT o = false := (vis_all h).2.2
theorem vis_ext {ms : List Addr} {H : Hp} : Ext (vis ms H) H := fun _ _ h => (vis_some h).2
theorem vis_of {ms : List Addr} {H : Hp} {a : Addr} {o : HO} (m : a ∉ ms) (h : H a = some o) (t : isT o = false := by rfl) : vis ms H a = some o := by
  show (if a ∈ ms then none else visO (H a)) = some o
  rw [if_neg m, h]
  show (if isT o = true then none else some o) = some o
  rw [t]
  rfl
theorem tup_sq {K : PySem.W.Frag} {ms : List Addr} {H : Hp} {a : Addr} {xs : List V} (h : vis ms H a = some (.tup xs)) : SqT K H a xs := SqT.of (vis_some h).2
abbrev Wd.v (w : Wd) (H : Hp) : Hp := vis w.ms H
/-- the owned lists hidden too -/
def Wd.plus (w : Wd) (os : List (Addr × HO)) : Wd where
  ms := os.map (·.1) ++ w.ms
  hd := w.hd
  I := fun H => w.I H ∧ ∀ p, p ∈ os → H p.1 = some p.2
  loc := fun H H' k ex h => ⟨w.loc H H' (fun a ha => k a (List.mem_append_right _ ha)) ex h.1, fun p hp => (k p.1 (List.mem_append_left _ (List.mem_map_of_mem hp))).trans (h.2 p hp)⟩
  live := fun H h a ha => by
    rcases List.mem_append.mp ha with ha | ha
    · obtain ⟨p, hp, rfl⟩ := List.mem_map.mp ha
      exact ⟨_, h.2 p hp⟩
    · exact w.live H h.1 a ha
abbrev R (K : PySem.W.Frag) (w : Wd) (H : Hp) : V → D → Prop := Rw K w.hd (w.v H)
abbrev RA (K : PySem.W.Frag) (w : Wd) (H : Hp) : List V → List D → Prop := RwA K w.hd (w.v H)
structure Step (w : Wd) (H H' : Hp) : Prop where
  ext : Ext (w.v H) (w.v H')
  inv : w.I H'
section
variable {K : PySem.W.Frag} {w : Wd} {H H1 H2 H' : Hp} {os : List (Addr × HO)}
theorem Step.refl (h : w.I H) : Step w H H := ⟨Ext.rfl' _, h⟩
theorem Step.trans (a : Step w H H1) (b : Step w H1 H2) : Step w H H2 := ⟨a.ext.tr b.ext, b.inv⟩
theorem Step.r (s : Step w H H') {v : V} {d : D} (h : R K w H v d) : R K w H' v d := h.mono s.ext
theorem Step.ra (s : Step w H H') {v : List V} {d : List D} (h : RA K w H v d) : RA K w H' v d := h.mono s.ext
theorem fresh_out (hI : w.I H) {p : Addr} (hp : H p = none) : p ∉ w.ms := fun m => by
  obtain ⟨o, e⟩ := w.live H hI p m
  rw [hp] at e; cases e
/-- a new object -/
theorem Step.new (hI : w.I H) {p : Addr} {o : HO} (hp : H p = none) : Step w H (upd H p o) := by
  have hm := fresh_out hI hp
  have e : Ext (w.v H) (w.v (upd H p o)) := fun a u e => by
    obtain ⟨h1, h2, h3⟩ := vis_all e
    exact vis_of h1 (by rw [upd_ne (ne_of_none h2 hp)]; exact h2) h3
  exact ⟨e, w.loc H _ (fun a ha => upd_ne fun z => hm (z ▸ ha)) (fun a u q _ => by rw [upd_ne (ne_of_none q hp)]; exact q) hI⟩
theorem v_new (hI : w.I H) {p : Addr} {o : HO} (hp : H p = none) (t : isT o = false := by rfl) : w.v (upd H p o) p = some o := vis_of (fresh_out hI hp) upd_same t
theorem plus_ext : Ext ((w.plus os).v H) (w.v H) := fun a o h => by
  obtain ⟨h1, h2, h3⟩ := vis_all h
  exact vis_of (fun m => h1 (List.mem_append_right _ m)) h2 h3
theorem R.un {v : V} {d : D} (h : R K (w.plus os) H v d) : R K w H v d := Rw.mono (plus_ext) h
theorem RA.un {v : List V} {d : List D} (h : RA K (w.plus os) H v d) : RA K w H v d := RwA.mono (plus_ext) h
theorem Step.un (hm : ∀ p, p ∈ os → (w.v H) p.1 = none ∨ H' p.1 = H p.1) (s : Step (w.plus os) H H') : Step w H H' := by
  refine ⟨fun a o e => ?_, s.inv.1⟩
  obtain ⟨h1, h2, h3⟩ := vis_all e
  by_cases m : a ∈ os.map (·.1)
  · obtain ⟨p, hp, rfl⟩ := List.mem_map.mp m
    rcases hm p hp with z | z
    · rw [e] at z; cases z
    · exact vis_of h1 (z.trans h2) h3
  · obtain ⟨_, h4⟩ := vis_some (s.ext a o (vis_of (fun z => (List.mem_append.mp z).elim m h1) h2 h3))
    exact vis_of h1 h4 h3
end
/-! ### cells and slots -/
abbrev Os := List (Addr × HO)
abbrev Cs := List (Addr × D)
abbrev Gs := List (Option D)
/-- what a cell holds, as data -/
def RH (K : PySem.W.Frag) (w : Wd) (H : Hp) : HO → D → Prop
  | .lst xs, .lst ds => RA K w H xs ds
  | .ins c _ fs, .obj cn ns ds => c = He.ga K cn ∧ ∃ xs, fs = ns.zip xs ∧ ns.length = xs.length ∧ RA K w H xs ds
  | .dK kvs, .dcl ks ds => ∃ xs, kvs = ks.zip xs ∧ ks.length = xs.length ∧ RA K w H xs ds
  | .dT kvs, .dct ks ds => ∃ xs, kvs = ks.zip xs ∧ ks.length = xs.length ∧ RA K w H xs ds
  | _, _ => False
inductive Cells (K : PySem.W.Frag) (w : Wd) (H : Hp) : Os → Cs → Prop
  | nil : Cells K w H [] []
  | cons {a : Addr} {o : HO} {d : D} {os : Os} {cs : Cs} : RH K w H o d → Cells K w H os cs → Cells K w H ((a, o) :: os) ((a, d) :: cs)
/-- a frame: its world, the cells and the heap at its start -/
structure Fr where
  w : Wd
  os0 : Os
  H0 : Hp
abbrev Fr.at (F : Fr) (pv os : Os) : Wd := (F.w.plus pv).plus os
/-- pv: private cells, which keep what they hold; os: cells that the frame's text may change -/
structure Stt (K : PySem.W.Frag) (F : Fr) (pv os : Os) (cs : Cs) (H : Hp) : Prop where
  ext : Ext ((F.w.plus F.os0).v F.H0) ((F.at pv os).v H)
  inv : (F.at pv os).I H
  fr : ∀ p, p ∈ pv ++ os → p.1 ∉ F.w.ms ∧ (F.w.plus F.os0).v F.H0 p.1 = none
  nd : ((pv ++ os).map (·.1)).Nodup
  cel : Cells K (F.at pv os) H os cs
  pk : ∀ p, p ∈ pv → isT p.2 = false
structure Rel (K : PySem.W.Frag) (F : Fr) (gs : List (V × D)) (pv os : Os) (cs : Cs) (σ : St) (H : Hp) (Γ : Gs) : Prop where
  st : Stt K F pv os cs H
  len : σ.length = Γ.length
  at_ : ∀ (i : Nat) (d : D), Γ[i]? = some (some d) → ∃ v, σ[i]? = some (some v) ∧ R K (F.at pv os) H v d
  gh : ∀ p, p ∈ gs → R K (F.at pv os) H p.1 p.2
/-- closed under hiding -/
def Cl (C : Wd → Prop) : Prop := ∀ (w : Wd) (os : Os), C w → (∀ p, p ∈ os → p.1 ∉ w.ms) → C (Wd.plus w os)
section
variable {K : PySem.W.Frag} {F : Fr} {gs gs' : List (V × D)} {pv pv' os os' : Os} {cs cs' : Cs} {σ : St} {H H' : Hp} {Γ : Gs} {w w' : Wd}
theorem RH.mono (hd : w'.hd = w.hd) (e : Ext (w.v H) (w'.v H')) : ∀ {o : HO} {d : D}, RH K w H o d → RH K w' H' o d := by
  intro o d h
  unfold RH at h ⊢
  split at h
  · unfold RA at h ⊢; rw [hd]; exact RwA.mono e h
  · obtain ⟨a, xs, b, c, r⟩ := h
    exact ⟨a, xs, b, c, by unfold RA at r ⊢; rw [hd]; exact RwA.mono e r⟩
  · obtain ⟨xs, b, c, r⟩ := h
    exact ⟨xs, b, c, by unfold RA at r ⊢; rw [hd]; exact RwA.mono e r⟩
  · obtain ⟨xs, b, c, r⟩ := h
    exact ⟨xs, b, c, by unfold RA at r ⊢; rw [hd]; exact RwA.mono e r⟩
  · exact h.elim
theorem Cells.mono (hd : w'.hd = w.hd) (e : Ext (w.v H) (w'.v H')) : ∀ {os : Os} {cs : Cs}, Cells K w H os cs → Cells K w' H' os cs
  | _, _, .nil => .nil
  | _, _, .cons r t => .cons (RH.mono hd e r) (Cells.mono hd e t)
theorem Cells.keys : ∀ {os : Os} {cs : Cs}, Cells K w H os cs → os.map (·.1) = cs.map (·.1)
  | _, _, .nil => rfl
  | _, _, .cons _ t => congrArg _ (Cells.keys t)
theorem Cells.get : ∀ {os : Os} {cs : Cs} {a : Addr} {d : D}, Cells K w H os cs → cs.lookup a = some d → ∃ o, (a, o) ∈ os ∧ RH K w H o d
  | _, _, _, _, .nil, e => by cases e
  | _, _, a, d, .cons (a := b) (o := o) r t, e => by
    rw [List.lookup_cons] at e
    by_cases h : a = b
    · subst h
      simp only [BEq.rfl] at e
      cases e
      exact ⟨o, List.mem_cons_self, r⟩
    · have hb : (a == b) = false := by simp [h]
      rw [hb] at e
      obtain ⟨o', h1, h2⟩ := Cells.get t e
      exact ⟨o', List.mem_cons_of_mem _ h1, h2⟩
/-- within the world, nothing of the cells touched -/
theorem Stt.step (r : Stt K F pv os cs H) (s : Step (F.at pv os) H H') : Stt K F pv os cs H' :=
  ⟨r.ext.tr s.ext, s.inv, r.fr, r.nd, r.cel.mono rfl s.ext, r.pk⟩
theorem Rel.step (r : Rel K F gs pv os cs σ H Γ) (s : Step (F.at pv os) H H') : Rel K F gs pv os cs σ H' Γ :=
  ⟨r.st.step s, r.len, fun i d e => by
    obtain ⟨v, h1, h2⟩ := r.at_ i d e
    exact ⟨v, h1, s.r h2⟩, fun p hp => s.r (r.gh p hp)⟩
theorem Rel.gcons (r : Rel K F gs pv os cs σ H Γ) {v : V} {d : D} (h : R K (F.at pv os) H v d) : Rel K F ((v, d) :: gs) pv os cs σ H Γ :=
  ⟨r.st, r.len, r.at_, fun p hp => by
    rcases List.mem_cons.mp hp with e | hp
    · rw [e]; exact h
    · exact r.gh p hp⟩
theorem Rel.weak (r : Rel K F gs pv os cs σ H Γ) (h : ∀ p, p ∈ gs' → p ∈ gs) : Rel K F gs' pv os cs σ H Γ := ⟨r.st, r.len, r.at_, fun p hp => r.gh p (h p hp)⟩
theorem Rel.tail {p : V × D} (r : Rel K F (p :: gs) pv os cs σ H Γ) : Rel K F gs pv os cs σ H Γ := r.weak fun _ h => List.mem_cons_of_mem _ h
theorem Rel.head {v : V} {d : D} (r : Rel K F ((v, d) :: gs) pv os cs σ H Γ) : R K (F.at pv os) H v d := r.gh (v, d) List.mem_cons_self
/-- to other cells and another heap that show as much -/
theorem Rel.mv (r : Rel K F gs pv os cs σ H Γ) (s : Stt K F pv' os' cs' H') (e : Ext ((F.at pv os).v H) ((F.at pv' os').v H')) : Rel K F gs pv' os' cs' σ H' Γ :=
  ⟨s, r.len, fun i d q => by
    obtain ⟨v, h1, h2⟩ := r.at_ i d q
    exact ⟨v, h1, Rw.mono e h2⟩, fun p hp => Rw.mono e (r.gh p hp)⟩
theorem Stt.cl {C : Wd → Prop} (r : Stt K F pv os cs H) (hC : Cl C) (h : C F.w) : C (F.at pv os) := by
  refine hC _ _ (hC _ _ h fun p hp => (r.fr p (List.mem_append_left _ hp)).1) fun p hp m => ?_
  rcases List.mem_append.mp m with m | m
  · have nd := r.nd
    rw [List.map_append] at nd
    exact (List.nodup_append.mp nd).2.2 _ m _ (List.mem_map_of_mem hp) rfl
  · exact (r.fr p (List.mem_append_right _ hp)).1 m
end
end Bd
/-! Bd2: what an operation by values asks of data. -/
namespace Bd
open PySem L2
abbrev WC := Wd → Prop
abbrev Any : WC := fun _ => True
section
variable (K : PySem.W.Frag) (C : WC)
def SndR2 (r : R2) (f : D → D → (D → Prop) → Prop) : Prop := ∀ (w : Wd) (H : Hp) (x y : V) (dx dy : D) (P : D → Prop) (Q : VK), C w → w.I H → R K w H x dx → R K w H y dy → f dx dy P →
  (∀ v H' d, Step w H H' → R K w H' v d → P d → Q v H') → r x y H Q
def SndR1 (r : V → Hp → VK → Prop) (f : D → (D → Prop) → Prop) : Prop := ∀ (w : Wd) (H : Hp) (x : V) (dx : D) (P : D → Prop) (Q : VK), C w → w.I H → R K w H x dx → f dx P →
  (∀ v H' d, Step w H H' → R K w H' v d → P d → Q v H') → r x H Q
def SndRs (r : List V → Hp → VK → Prop) (f : List D → (D → Prop) → Prop) : Prop := ∀ (w : Wd) (H : Hp) (xs : List V) (ds : List D) (P : D → Prop) (Q : VK), C w → w.I H → RA K w H xs ds → f ds P →
  (∀ v H' d, Step w H H' → R K w H' v d → P d → Q v H') → r xs H Q
def SndM (r : V → List V → Hp → VK → Prop) (f : D → List D → (D → Prop) → Prop) : Prop := ∀ (w : Wd) (H : Hp) (x : V) (dx : D) (xs : List V) (ds : List D) (P : D → Prop) (Q : VK), C w → w.I H → R K w H x dx → RA K w H xs ds → f dx ds P →
  (∀ v H' d, Step w H H' → R K w H' v d → P d → Q v H') → r x xs H Q
end
structure JO (X : Cx) (f : Value → Value → Sem Value) (r : R2) (g : D → D → (D → Prop) → Prop) : Prop where
  p : OpR X f r
  s : SndR2 X.K Any r g
theorem size_ok {n : Nat} (h : n ≤ 100000) : n ≤ sizeLine := Nat.le_trans h (by decide)
section
variable {K : PySem.W.Frag}
theorem new_tup {w : Wd} {H : Hp} {p : Addr} {xs : List V} {ds : List D} (hI : w.I H) (hp : H p = none) (r : RA K w H xs ds) : Step w H (upd H p (.tup xs)) ∧ R K w (upd H p (.tup xs)) (.ref p) (.tup ds) := by
  have s := Step.new (o := .tup xs) hI hp
  exact ⟨s, .tup (v_new hI hp) (s.ra r)⟩
theorem new_lst {w : Wd} {H : Hp} {p : Addr} {xs : List V} {ds : List D} (hI : w.I H) (hp : H p = none) (r : RA K w H xs ds) : Step w H (upd H p (.lst xs)) ∧ R K w (upd H p (.lst xs)) (.ref p) (.lst ds) := by
  have s := Step.new (o := .lst xs) hI hp
  exact ⟨s, .lst (v_new hI hp) (s.ra r)⟩
theorem r_bl {w : Wd} {H : Hp} {v : V} {b : Bool} (r : R K w H v (.bl b)) : v = .bl b := by cases r; rfl
theorem r_int {w : Wd} {H : Hp} {v : V} {b : Int} (r : R K w H v (.int b)) : v = .int b := by cases r; rfl
theorem r_str {w : Wd} {H : Hp} {v : V} {b : Str} (r : R K w H v (.str b)) : v = .str b := by cases r; rfl
theorem r_adr {w : Wd} {H : Hp} {v : V} {a : Addr} (r : R K w H v (.adr a)) : v = .ref a := by cases r; rfl
end
end Bd
/-! Bd3: operators and built-in calls, by data. -/
namespace Bd
open PySem L2
/-! ### data that == takes apart -/
mutual
def pyD : D → PyData
  | .bl b => .bool b
  | .int i => .int i
  | .str s => .str s
  | .lst ds => .list (pyA ds)
  | .tup ds => .tuple (pyA ds)
  | _ => .none
def pyA : List D → List PyData
  | [] => []
  | d :: ds => pyD d :: pyA ds
end
mutual
def pureD : D → Bool
  | .non => true | .bl _ => true | .int _ => true | .str _ => true
  | .lst ds => pureA ds
  | .tup ds => pureA ds
  | _ => false
def pureA : List D → Bool
  | [] => true
  | d :: ds => pureD d && pureA ds
end
def eqD (x y : D) : Bool := PyData.eqv (pyD x) (pyD y)
def okD (d : D) : Bool := pureD d && SeqAt.shaped (pyD d)
def flD : D → Bool
  | .non => true | .bl _ => true | .int _ => true | .str _ => true
  | _ => false
def sclD : D → D → Bool
  | .non, .non => true | .non, .int _ => true | .int _, .non => true | .non, .bl _ => true | .bl _, .non => true | .non, .str _ => true | .str _, .non => true
  | .int _, .int _ => true | .bl _, .bl _ => true | .str _, .str _ => true
  | .int _, .str _ => true | .str _, .int _ => true | .bl _, .str _ => true | .str _, .bl _ => true
  | _, _ => false
theorem pyA_map : ∀ ds : List D, pyA ds = ds.map pyD
  | [] => rfl
  | d :: ds => by rw [pyA, pyA_map ds]; rfl
/-! ### operators -/
@[simp] def wAdd (x y : D) (P : D → Prop) : Prop := match x, y with
  | .int i, .int j => P (.int (i + j))
  | .str a, .str b => a.length + b.length ≤ 16000000 ∧ P (.str (a ++ b))
  | .lst a, .lst b => a.length + b.length ≤ 16000000 ∧ P (.lst (a ++ b))
  | .tup a, .tup b => a.length + b.length ≤ 16000000 ∧ P (.tup (a ++ b))
  | _, _ => False
@[simp] def wInt (c : Int → Int → Prop) (f : Int → Int → D) (x y : D) (P : D → Prop) : Prop := match x, y with
  | .int i, .int j => c i j ∧ P (f i j)
  | _, _ => False
@[simp] def wInt0 (f : Int → Int → D) (x y : D) (P : D → Prop) : Prop := match x, y with
  | .int i, .int j => P (f i j)
  | _, _ => False
@[simp] def wSub : D → D → (D → Prop) → Prop := wInt0 fun i j => .int (i - j)
def CMulA (i j : Int) : Prop := CMul i j ∨ CMulW i j
@[simp] def wMul : D → D → (D → Prop) → Prop := wInt CMulA fun i j => .int (i * j)
@[simp] def wMod : D → D → (D → Prop) → Prop := wInt (fun _ j => j ≠ 0) fun i j => .int (i.fmod j)
def CDivA (i j : Int) : Prop := CDivN i j ∨ CDivW i j
@[simp] def wDiv : D → D → (D → Prop) → Prop := wInt CDivA fun i j => .int (i.fdiv j)
@[simp] def wPow : D → D → (D → Prop) → Prop := wInt CPow fun i j => .int (i ^ j.toNat)
@[simp] def wLt : D → D → (D → Prop) → Prop := wInt0 fun i j => .bl (decide (i < j))
@[simp] def wLe : D → D → (D → Prop) → Prop := wInt0 fun i j => .bl (decide (i ≤ j))
@[simp] def wGt : D → D → (D → Prop) → Prop := wInt0 fun i j => .bl (decide (j < i))
@[simp] def wGe : D → D → (D → Prop) → Prop := wInt0 fun i j => .bl (decide (j ≤ i))
def wEq (x y : D) (P : D → Prop) : Prop := (sclD x y || (okD x && okD y)) = true ∧ P (.bl (eqD x y))
def wNe (x y : D) (P : D → Prop) : Prop := (sclD x y || (okD x && okD y)) = true ∧ P (.bl (!eqD x y))
def isNon : D → Bool
  | .non => true
  | _ => false
@[simp] def wIsN (x y : D) (P : D → Prop) : Prop := match y with
  | .non => P (.bl (isNon x))
  | _ => False
@[simp] def wNotN (x y : D) (P : D → Prop) : Prop := match y with
  | .non => P (.bl (!isNon x))
  | _ => False
def subS (a s : Str) : Bool := !(Builtin.Str.occurrences s a 0 s.length 1).isEmpty
@[simp] def memD (x y : D) (P : Bool → Prop) : Prop := match y with
  | .lst ds => ((flD x && ds.all flD) || (okD x && okD (.lst ds))) = true ∧ P (ds.any fun z => eqD z x)
  | .tup ds => (flD x && ds.all flD) = true ∧ P (ds.any fun z => eqD z x)
  | .ktu ds => (flD x && ds.all flD) = true ∧ P (ds.any fun z => eqD z x)
  | .str s => match x with
    | .str a => P (subS a s)
    | _ => False
  | _ => False
@[simp] def wIn (x y : D) (P : D → Prop) : Prop := memD x y fun b => P (.bl b)
@[simp] def wNotIn (x y : D) (P : D → Prop) : Prop := memD x y fun b => P (.bl (!b))
@[simp] def wNeg (x : D) (P : D → Prop) : Prop := match x with
  | .int i => P (.int (-i))
  | _ => False
@[simp] def wIx (x y : D) (P : D → Prop) : Prop := match y with
  | .int i => match x with
    | .lst ds => match atI ds i with
      | some d => P d
      | none => False
    | .tup ds => match atI ds i with
      | some d => P d
      | none => False
    | .str z => z.length ≤ 16000000 ∧ match atI z.cps.toList i with
      | some c => P (.str ⟨#[c]⟩)
      | none => False
    | _ => False
  | _ => False

def rAddG (K : PySem.W.Frag) : R2 := fun x y H Q => (∃ i j, x = .int i ∧ y = .int j ∧ Q (.int (i + j)) H) ∨ (∃ i j, x = .str i ∧ y = .str j ∧ i.length + j.length ≤ sizeLine ∧ Q (.str (i ++ j)) H) ∨ rCat x y H Q ∨ rCatA K x y H Q
def rMulG : R2 := fun x y H Q => rI CMul (fun i j => .int (i * j)) x y H Q ∨ rI CMulW (fun i j => .int (i * j)) x y H Q
def rDivG : R2 := fun x y H Q => rI CDivN (fun i j => .int (i.fdiv j)) x y H Q ∨ rI CDivW (fun i j => .int (i / j)) x y H Q
def rEqG (K : PySem.W.Frag) : R2 := fun x y H Q => rEq x y H Q ∨ rEqD K x y H Q
def rNeG (K : PySem.W.Frag) : R2 := fun x y H Q => rNe x y H Q ∨ rNeD K x y H Q
def rInG (K : PySem.W.Frag) : R2 := fun x y H Q => rIn K false x y H Q ∨ rInD K x y H Q ∨ ∃ i j, x = .str i ∧ y = .str j ∧ Q (.bl (!(Builtin.Str.occurrences j i 0 j.length 1).isEmpty)) H
def rNotInG (K : PySem.W.Frag) : R2 := fun x y H Q => rIn K true x y H Q ∨ rNotInD K x y H Q ∨ ∃ i j, x = .str i ∧ y = .str j ∧ Q (.bl (!(!(Builtin.Str.occurrences j i 0 j.length 1).isEmpty))) H
section
variable {K : PySem.W.Frag} {C : WC}
theorem wI0 {f : Int → Int → D} {g : Int → Int → V} (h : ∀ (w : Wd) H i j, R K w H (g i j) (f i j)) : SndR2 K C (rI0 g) (wInt0 f) := by
  intro w H x y dx dy P Q _ hI rx ry hf hq
  cases dx with
  | int i =>
    cases dy with
    | int j => cases rx; cases ry; exact ⟨i, j, rfl, rfl, hq _ H _ (Step.refl hI) (h w H i j) hf⟩
    | _ => exact False.elim hf
  | _ => exact False.elim hf
theorem wI1 {c c' : Int → Int → Prop} {f : Int → Int → D} {g : Int → Int → V} (hc : ∀ i j, c i j → c' i j) (h : ∀ (w : Wd) H i j, c i j → R K w H (g i j) (f i j)) : SndR2 K C (rI c' g) (wInt c f) := by
  intro w H x y dx dy P Q _ hI rx ry hf hq
  cases dx with
  | int i =>
    cases dy with
    | int j => cases rx; cases ry; exact ⟨i, j, rfl, rfl, hc _ _ hf.1, hq _ H _ (Step.refl hI) (h w H i j hf.1) hf.2⟩
    | _ => exact False.elim hf
  | _ => exact False.elim hf
theorem s_sub : SndR2 K C (rI0 fun i j => .int (i - j)) wSub := wI0 fun _ _ _ _ => .int _
theorem s_lt : SndR2 K C (rI0 fun i j => .bl (decide (i < j))) wLt := wI0 fun _ _ _ _ => .bl _
theorem s_le : SndR2 K C (rI0 fun i j => .bl (decide (i ≤ j))) wLe := wI0 fun _ _ _ _ => .bl _
theorem s_gt : SndR2 K C (rI0 fun i j => .bl (decide (j < i))) wGt := wI0 fun _ _ _ _ => .bl _
theorem s_ge : SndR2 K C (rI0 fun i j => .bl (decide (j ≤ i))) wGe := wI0 fun _ _ _ _ => .bl _
theorem s_mod : SndR2 K C (rI (fun _ j => j ≠ 0) fun i j => .int (i.fmod j)) wMod := wI1 (fun _ _ h => h) fun _ _ _ _ _ => .int _
theorem s_pow : SndR2 K C (rI CPow fun i j => .int (i ^ j.toNat)) wPow := wI1 (fun _ _ h => h) fun _ _ _ _ _ => .int _
theorem wI2 {c1 c2 : Int → Int → Prop} {f : Int → Int → D} {g g2 : Int → Int → V} (h : ∀ (w : Wd) H i j, R K w H (g i j) (f i j)) (h2 : ∀ (w : Wd) H i j, c2 i j → R K w H (g2 i j) (f i j)) :
    SndR2 K C (fun x y H Q => rI c1 g x y H Q ∨ rI c2 g2 x y H Q) (wInt (fun i j => c1 i j ∨ c2 i j) f) := by
  intro w H x y dx dy P Q _ hI rx ry hf hq
  cases dx with
  | int i =>
    cases dy with
    | int j =>
      cases rx; cases ry
      obtain ⟨h1 | h1, p⟩ := hf
      · exact .inl ⟨i, j, rfl, rfl, h1, hq _ H _ (Step.refl hI) (h w H i j) p⟩
      · exact .inr ⟨i, j, rfl, rfl, h1, hq _ H _ (Step.refl hI) (h2 w H i j h1) p⟩
    | _ => exact False.elim hf
  | _ => exact False.elim hf
theorem s_mul : SndR2 K C rMulG wMul := wI2 (fun _ _ _ _ => .int _) fun _ _ _ _ _ => .int _
theorem s_div : SndR2 K C rDivG wDiv := wI2 (fun _ _ _ _ => .int _) fun _ _ i j h => by
  have e : i / j = i.fdiv j := (Int.fdiv_eq_ediv_of_nonneg i (Int.le_of_lt h.1)).symm
  rw [e]
  exact .int _
theorem size_ok2 {n : Nat} (h : n ≤ 16000000) : n ≤ sizeLine := Nat.le_trans h (by decide)
theorem s_add : SndR2 K C (rAddG K) wAdd := by
  intro w H x y dx dy P Q _ hI rx ry hf hq
  cases dx with
  | int i =>
    cases dy with
    | int j => cases rx; cases ry; exact .inl ⟨i, j, rfl, rfl, hq _ H _ (Step.refl hI) (.int _) hf⟩
    | _ => exact False.elim hf
  | str i =>
    cases dy with
    | str j => cases rx; cases ry; exact .inr (.inl ⟨i, j, rfl, rfl, size_ok2 hf.1, hq _ H _ (Step.refl hI) (.str _) hf.2⟩)
    | _ => exact False.elim hf
  | lst i =>
    cases dy with
    | lst j =>
      cases rx with
      | lst hx rx =>
        cases ry with
        | lst hy ry =>
          refine .inr (.inr (.inl ⟨_, _, _, _, rfl, rfl, (vis_some hx).2, (vis_some hy).2, size_ok2 (by rw [rx.length, ry.length]; exact hf.1), fun p hp => ?_⟩))
          obtain ⟨s, r⟩ := new_lst hI hp (rx.append ry)
          exact hq _ _ _ s r hf.2
    | _ => exact False.elim hf
  | tup i =>
    cases dy with
    | tup j =>
      cases rx with
      | tup hx rx =>
        cases ry with
        | tup hy ry =>
          refine .inr (.inr (.inr ⟨_, _, _, _, rfl, rfl, tup_sq hx, tup_sq hy, size_ok2 (by rw [rx.length, ry.length]; exact hf.1), fun e => ?_, fun e1 e2 => ?_, fun _ _ p hp => ?_⟩))
          · subst e
            cases rx
            exact hq _ _ _ (Step.refl hI) (.tup hy ry) hf.2
          · subst e2
            cases ry
            have h2 := hf.2
            rw [List.append_nil] at h2
            exact hq _ _ _ (Step.refl hI) (.tup hx rx) h2
          · obtain ⟨s, r⟩ := new_tup hI hp (rx.append ry)
            exact hq _ _ _ s r hf.2
    | _ => exact False.elim hf
  | _ => exact False.elim hf
mutual
theorem dp_of {hd : Nat → Option Addr} {H : Hp} : ∀ (d : D) (v : V), Rw K hd H v d → pureD d = true → Dp K H v (pyD d)
  | .non, _, r, _ => by cases r; exact .non
  | .bl _, _, r, _ => by cases r; exact .bl _
  | .int _, _, r, _ => by cases r; exact .int _
  | .str _, _, r, _ => by cases r; exact .str _
  | .lst ds, _, r, h => by
    cases r with
    | lst hx r => exact .lst (SqL.of hx) (dpA_of ds _ r (by simpa [pureD] using h))
  | .tup ds, _, r, h => by
    cases r with
    | tup hx r => exact .tup (SqT.of hx) (dpA_of ds _ r (by simpa [pureD] using h))
  | .ty _, _, _, h => by simp [pureD] at h
  | .obj _ _ _, _, _, h => by simp [pureD] at h
  | .hdl _, _, _, h => by simp [pureD] at h
  | .cls _, _, _, h => by simp [pureD] at h
  | .adr _, _, _, h => by simp [pureD] at h
  | .dic _ _ _, _, _, h => by simp [pureD] at h
  | .dit _ _ _, _, _, h => by simp [pureD] at h
  | .dcl _ _, _, _, h => by simp [pureD] at h
  | .dct _ _, _, _, h => by simp [pureD] at h
  | .ktu _, _, _, h => by simp [pureD] at h
  | .exc _ _ _, _, _, h => by simp [pureD] at h
theorem dpA_of {hd : Nat → Option Addr} {H : Hp} : ∀ (ds : List D) (vs : List V), RwA K hd H vs ds → pureA ds = true → DpAll K H vs (pyA ds)
  | [], _, r, _ => by cases r; exact .nil
  | d :: ds, _, r, h => by
    cases r with
    | cons r1 r2 =>
      have h' : pureD d = true ∧ pureA ds = true := by simpa [pureA] using h
      exact .cons (dp_of d _ r1 h'.1) (dpA_of ds _ r2 h'.2)
end
mutual
theorem dp_mono {H H' : Hp} (e : Ext H H') : ∀ {v : V} {d : PyData}, Dp K H v d → Dp K H' v d
  | _, _, .non => .non
  | _, _, .bl b => .bl b
  | _, _, .int b => .int b
  | _, _, .str b => .str b
  | _, _, .lst h r => .lst (sqL_mono e h) (dpA_mono e r)
  | _, _, .tup h r => .tup (sqT_mono e h) (dpA_mono e r)
theorem dpA_mono {H H' : Hp} (e : Ext H H') : ∀ {v : List V} {d : List PyData}, DpAll K H v d → DpAll K H' v d
  | _, _, .nil => .nil
  | _, _, .cons h r => .cons (dp_mono e h) (dpA_mono e r)
end
theorem dp_at {w : Wd} {H : Hp} {v : V} {d : D} (r : R K w H v d) (h : okD d = true) : Dp K H v (pyD d) ∧ SeqAt.shaped (pyD d) = true := by
  have h' : pureD d = true ∧ SeqAt.shaped (pyD d) = true := by simpa [okD] using h
  exact ⟨dp_mono vis_ext (dp_of d v r h'.1), h'.2⟩
theorem scl_of {w : Wd} {H : Hp} {x y : V} {dx dy : D} (rx : R K w H x dx) (ry : R K w H y dy) (h : sclD dx dy = true) : scal x y = true ∧ decide (x = y) = eqD dx dy := by
  cases dx <;> cases dy <;> first
    | (cases rx; cases ry; refine ⟨rfl, ?_⟩; rw [Bool.eq_iff_iff]; simp [eqD, pyD, PyData.eqv]; done)
    | (exact absurd (show false = true from h) Bool.false_ne_true)
theorem s_eq : SndR2 K C (rEqG K) wEq := by
  intro w H x y dx dy P Q _ hI rx ry hf hq
  obtain ⟨h1, h2⟩ := hf
  rcases Bool.or_eq_true_iff.mp h1 with h | h
  · obtain ⟨a, b⟩ := scl_of rx ry h
    refine .inl ⟨a, ?_⟩
    rw [b]
    exact hq _ H _ (Step.refl hI) (.bl _) h2
  · obtain ⟨a, b⟩ := Bool.and_eq_true_iff.mp h
    obtain ⟨p1, p2⟩ := dp_at rx a
    obtain ⟨q1, q2⟩ := dp_at ry b
    exact .inr ⟨_, _, p1, q1, p2, q2, hq _ H _ (Step.refl hI) (.bl _) h2⟩
theorem s_ne : SndR2 K C (rNeG K) wNe := by
  intro w H x y dx dy P Q _ hI rx ry hf hq
  obtain ⟨h1, h2⟩ := hf
  rcases Bool.or_eq_true_iff.mp h1 with h | h
  · obtain ⟨a, b⟩ := scl_of rx ry h
    refine .inl ⟨a, ?_⟩
    rw [b]
    exact hq _ H _ (Step.refl hI) (.bl _) h2
  · obtain ⟨a, b⟩ := Bool.and_eq_true_iff.mp h
    obtain ⟨p1, p2⟩ := dp_at rx a
    obtain ⟨q1, q2⟩ := dp_at ry b
    exact .inr ⟨_, _, p1, q1, p2, q2, hq _ H _ (Step.refl hI) (.bl _) h2⟩
theorem non_of {w : Wd} {H : Hp} {x : V} {dx : D} (rx : R K w H x dx) : decide (x = .non) = isNon dx := by
  cases rx <;> rfl
theorem s_isN : SndR2 K C (fun x y H Q => y = .non ∧ Q (.bl (decide (x = .non))) H) wIsN := by
  intro w H x y dx dy P Q _ hI rx ry hf hq
  cases dy with
  | non => cases ry; refine ⟨rfl, ?_⟩; rw [non_of rx]; exact hq _ H _ (Step.refl hI) (.bl _) hf
  | _ => exact False.elim hf
theorem s_notN : SndR2 K C (fun x y H Q => y = .non ∧ Q (.bl (!decide (x = .non))) H) wNotN := by
  intro w H x y dx dy P Q _ hI rx ry hf hq
  cases dy with
  | non => cases ry; refine ⟨rfl, ?_⟩; rw [non_of rx]; exact hq _ H _ (Step.refl hI) (.bl _) hf
  | _ => exact False.elim hf
theorem fl_of {w : Wd} {H : Hp} {x : V} {dx : D} (rx : R K w H x dx) (h : flD dx = true) : flatV x = true := by
  cases rx <;> first | rfl | exact absurd (show false = true from h) Bool.false_ne_true
theorem flA_of {w : Wd} {H : Hp} : ∀ {xs : List V} {ds : List D}, RA K w H xs ds → ds.all flD = true → xs.all flatV = true
  | _, _, .nil, _ => rfl
  | _, _, .cons r t, h => by
    rw [List.all_cons, Bool.and_eq_true] at h
    rw [List.all_cons, fl_of (w := w) r h.1, flA_of (w := w) t h.2]
    rfl
theorem eqv_fl {w : Wd} {H : Hp} {x y : V} {dx dy : D} (rx : R K w H x dx) (ry : R K w H y dy) (h1 : flD dx = true) (h2 : flD dy = true) : eqV x y = eqD dx dy := by
  cases rx <;> first
    | (cases ry <;> first | (simp [eqD, pyD, PyData.eqv, eqV]; done) | exact absurd (show false = true from h2) Bool.false_ne_true)
    | exact absurd (show false = true from h1) Bool.false_ne_true
theorem in_fl {w : Wd} {H : Hp} {x : V} {dx : D} (rx : R K w H x dx) (h1 : flD dx = true) : ∀ {xs : List V} {ds : List D}, RA K w H xs ds → ds.all flD = true → inV x xs = ds.any fun z => eqD z dx
  | _, _, .nil, _ => rfl
  | _, _, .cons r t, h => by
    rw [List.all_cons, Bool.and_eq_true] at h
    have := in_fl rx h1 t h.2
    unfold inV at this ⊢
    rw [List.any_cons, List.any_cons, eqv_fl r rx h.1 h1, this]
theorem any_py {d : D} (ds : List D) : ((pyA ds).any fun z => PyData.eqv z (pyD d)) = ds.any fun z => eqD z d := by
  rw [pyA_map, List.any_map]
  rfl
theorem s_mem {r : R2} {g : Bool → Bool} (h1 : ∀ x y H Q, (∃ p xs, y = .ref p ∧ (SqL K H p xs ∨ SqT K H p xs) ∧ flatV x = true ∧ xs.all flatV = true ∧ Q (.bl (g (inV x xs))) H) → r x y H Q)
    (h2 : ∀ x y H Q, (∃ d ds, Dp K H x d ∧ Dp K H y (.list ds) ∧ SeqAt.shaped d = true ∧ SeqAt.shaped (.list ds) = true ∧ Q (.bl (g (ds.any fun z => PyData.eqv z d))) H) → r x y H Q)
    (h3 : ∀ x y H Q, (∃ i j, x = .str i ∧ y = .str j ∧ Q (.bl (g (!(Builtin.Str.occurrences j i 0 j.length 1).isEmpty))) H) → r x y H Q) : SndR2 K C r (fun x y P => memD x y fun b => P (.bl (g b))) := by
  intro w H x y dx dy P Q _ hI rx ry hf hq
  cases dy with
  | lst ds =>
    obtain ⟨c, p⟩ := hf
    rcases Bool.or_eq_true_iff.mp c with c | c
    · obtain ⟨c1, c2⟩ := Bool.and_eq_true_iff.mp c
      cases ry with
      | lst hy ry =>
        refine h1 _ _ _ _ ⟨_, _, rfl, .inl (SqL.of (vis_some hy).2), fl_of rx c1, flA_of (w := w) ry c2, ?_⟩
        rw [in_fl rx c1 ry c2]
        exact hq _ H _ (Step.refl hI) (.bl _) p
    · obtain ⟨c1, c2⟩ := Bool.and_eq_true_iff.mp c
      obtain ⟨p1, p2⟩ := dp_at rx c1
      obtain ⟨q1, q2⟩ := dp_at ry c2
      refine h2 _ _ _ _ ⟨pyD dx, pyA ds, p1, by simpa [pyD] using q1, p2, by simpa [pyD] using q2, ?_⟩
      rw [any_py]
      exact hq _ H _ (Step.refl hI) (.bl _) p
  | tup ds =>
    obtain ⟨c, p⟩ := hf
    obtain ⟨c1, c2⟩ := Bool.and_eq_true_iff.mp c
    cases ry with
    | tup hy ry =>
      refine h1 _ _ _ _ ⟨_, _, rfl, .inr (tup_sq hy), fl_of rx c1, flA_of (w := w) ry c2, ?_⟩
      rw [in_fl rx c1 ry c2]
      exact hq _ H _ (Step.refl hI) (.bl _) p
  | ktu ds =>
    obtain ⟨c, p⟩ := hf
    obtain ⟨c1, c2⟩ := Bool.and_eq_true_iff.mp c
    cases ry with
    | ktu hy ry =>
      refine h1 _ _ _ _ ⟨_, _, rfl, .inr (hy H), fl_of rx c1, flA_of (w := w) ry c2, ?_⟩
      rw [in_fl rx c1 ry c2]
      exact hq _ H _ (Step.refl hI) (.bl _) p
  | str s =>
    cases dx with
    | str a => cases rx; cases ry; exact h3 _ _ _ _ ⟨a, s, rfl, rfl, hq _ H _ (Step.refl hI) (.bl _) hf⟩
    | _ => exact False.elim hf
  | _ => exact False.elim hf
theorem s_in : SndR2 K C (rInG K) wIn := s_mem (g := fun b => b) (fun _ _ _ _ ⟨p, xs, a, b, c, d, e⟩ => .inl ⟨p, xs, a, b, c, d, e⟩) (fun _ _ _ _ h => .inr (.inl h)) fun _ _ _ _ h => .inr (.inr h)
theorem s_notIn : SndR2 K C (rNotInG K) wNotIn := s_mem (g := fun b => !b) (fun _ _ _ _ ⟨p, xs, a, b, c, d, e⟩ => .inl ⟨p, xs, a, b, c, d, e⟩) (fun _ _ _ _ h => .inr (.inl h)) fun _ _ _ _ h => .inr (.inr h)
theorem s_neg : SndR1 K C (rU fun i => .int (-i)) wNeg := by
  intro w H x dx P Q _ hI rx hf hq
  cases dx with
  | int i => cases rx; exact ⟨i, rfl, hq _ H _ (Step.refl hI) (.int _) hf⟩
  | _ => exact False.elim hf
theorem at_rw {w : Wd} {H : Hp} {xs : List V} {ds : List D} {i : Int} {d : D} (r : RA K w H xs ds) (h : atI ds i = some d) : ∃ v, atI xs i = some v ∧ R K w H v d := by
  unfold atI at h ⊢
  rw [r.length]
  cases e : ixN ds.length i with
  | none => rw [e] at h; cases h
  | some j =>
    rw [e] at h
    exact r.getD h
theorem s_ix : SndR2 K C (rIx K) wIx := by
  intro w H x y dx dy P Q _ hI rx ry hf hq
  cases dy with
  | int i =>
    cases ry
    cases dx with
    | lst ds =>
      have hf : (match atI ds i with | some d => P d | none => False) := hf
      cases e : atI ds i with
      | none => rw [e] at hf; exact hf.elim
      | some d =>
        rw [e] at hf
        cases rx with
        | lst hx rx =>
          obtain ⟨v, a, b⟩ := at_rw (w := w) rx e
          exact .inl ⟨_, _, i, v, rfl, rfl, SqL.of (vis_some hx).2, a, hq _ H _ (Step.refl hI) b hf⟩
    | tup ds =>
      have hf : (match atI ds i with | some d => P d | none => False) := hf
      cases e : atI ds i with
      | none => rw [e] at hf; exact hf.elim
      | some d =>
        rw [e] at hf
        cases rx with
        | tup hx rx =>
          obtain ⟨v, a, b⟩ := at_rw (w := w) rx e
          exact .inr (.inl ⟨_, _, i, v, rfl, rfl, tup_sq hx, a, hq _ H _ (Step.refl hI) b hf⟩)
    | str z =>
      have hf : z.length ≤ 16000000 ∧ (match atI z.cps.toList i with | some c => P (.str ⟨#[c]⟩) | none => False) := hf
      cases e : atI z.cps.toList i with
      | none => rw [e] at hf; exact hf.2.elim
      | some d =>
        rw [e] at hf
        cases rx
        exact .inr (.inr ⟨_, i, d, rfl, rfl, size_ok2 hf.1, e, hq _ H _ (Step.refl hI) (.str _) hf.2⟩)
    | _ => exact False.elim hf
  | _ => exact False.elim hf
end
section
variable {X : Cx} {C : WC}
theorem jo_add : JO X (binaryOp .Add) (rAddG X.K) wAdd := ⟨op_add.or (op_add_str.or (op_cat.or op_catA)), s_add⟩
theorem jo_sub : JO X (binaryOp .Sub) (rI0 fun i j => .int (i - j)) wSub := ⟨op_sub, s_sub⟩
theorem jo_mul : JO X (binaryOp .Mult) rMulG wMul := ⟨op_mul.or op_mulW, s_mul⟩
theorem jo_mod : JO X (binaryOp .Mod) (rI (fun _ j => j ≠ 0) fun i j => .int (i.fmod j)) wMod := ⟨op_modN, s_mod⟩
theorem jo_div : JO X (binaryOp .FloorDiv) rDivG wDiv := ⟨op_fdivN.or op_fdivW, s_div⟩
theorem jo_pow : JO X (binaryOp .Pow) (rI CPow fun i j => .int (i ^ j.toNat)) wPow := ⟨op_pow, s_pow⟩
theorem jo_lt : JO X (compareOp .Lt) (rI0 fun i j => .bl (decide (i < j))) wLt := ⟨op_lt, s_lt⟩
theorem jo_le : JO X (compareOp .LtE) (rI0 fun i j => .bl (decide (i ≤ j))) wLe := ⟨op_le, s_le⟩
theorem jo_gt : JO X (compareOp .Gt) (rI0 fun i j => .bl (decide (j < i))) wGt := ⟨op_gt, s_gt⟩
theorem jo_ge : JO X (compareOp .GtE) (rI0 fun i j => .bl (decide (j ≤ i))) wGe := ⟨op_ge, s_ge⟩
theorem jo_eq (hu : X.A.units + 65 < cLine) : JO X (compareOp .Eq) (rEqG X.K) wEq := ⟨op_eq.or (op_eqD (by omega)), s_eq⟩
theorem jo_ne (hu : X.A.units + 65 < cLine) : JO X (compareOp .NotEq) (rNeG X.K) wNe := ⟨op_ne.or (op_neD (by omega)), s_ne⟩
theorem jo_isN : JO X (compareOp .Is) (fun x y H Q => y = .non ∧ Q (.bl (decide (x = .non))) H) wIsN := ⟨op_isN, s_isN⟩
theorem jo_notN : JO X (compareOp .IsNot) (fun x y H Q => y = .non ∧ Q (.bl (!decide (x = .non))) H) wNotN := ⟨op_notN, s_notN⟩
theorem jo_in (hu : X.A.units + 65 < cLine) : JO X (compareOp .In) (rInG X.K) wIn := ⟨op_in_seq.or ((op_inD hu).or op_in_str), s_in⟩
theorem jo_notIn (hu : X.A.units + 65 < cLine) : JO X (compareOp .NotIn) (rNotInG X.K) wNotIn := ⟨op_notIn_seq.or ((op_notInD hu).or op_notin_str), s_notIn⟩
end
end Bd
/-! Bd4: slices, built-in calls, methods of texts, f-strings, walks, comprehensions, calls of the text's own defs. -/
namespace Bd
open PySem L2
/-! ### slices -/
def cutD (xs : List D) (lo hi : Option Int) : List D := (xs.drop (HT.sIx xs.length 0 lo)).take (HT.sIx xs.length xs.length hi - HT.sIx xs.length 0 lo)
@[simp] def wSl (x : D) (lo hi : Option Int) (P : D → Prop) : Prop := match x with
  | .lst ds => P (.lst (cutD ds lo hi))
  | .tup ds => P (.tup (cutD ds lo hi))
  | .str z => z.length ≤ 16000000 ∧ P (.str (cutS z lo hi))
  | _ => False
def rSlG (K : PySem.W.Frag) : V → Option Int → Option Int → Hp → VK → Prop := fun x lo hi H Q => rSlL K x lo hi H Q ∨ rSlA K x lo hi H Q ∨ rSlS x lo hi H Q
section
variable {K : PySem.W.Frag} {C : WC}
theorem cut_rw {w : Wd} {H : Hp} {xs : List V} {ds : List D} (r : RA K w H xs ds) (lo hi : Option Int) : RA K w H (cutV xs lo hi) (cutD ds lo hi) := by
  unfold cutV cutD
  rw [r.length]
  exact (r.drop _).take _
theorem s_sl {w : Wd} {H : Hp} {x : V} {d : D} {lo hi : Option Int} {P : D → Prop} {Q : VK} (hI : w.I H) (r3 : R K w H x d) (p3 : wSl d lo hi P) (hq : ∀ v H' d', Step w H H' → R K w H' v d' → P d' → Q v H') : rSlG K x lo hi H Q := by
  cases d with
  | lst ds =>
    cases r3 with
    | lst hx rx =>
      refine .inl ⟨_, _, rfl, SqL.of (vis_some hx).2, fun p hp => ?_⟩
      obtain ⟨s, r⟩ := new_lst hI hp (cut_rw (w := w) rx lo hi)
      exact hq _ _ _ s r p3
  | tup ds =>
    cases r3 with
    | tup hx rx =>
      refine .inr (.inl ⟨_, _, rfl, tup_sq hx, fun e => ?_, fun _ p hp => ?_⟩)
      · have e2 : cutD ds lo hi = ds := by
          unfold cutD
          rw [← rx.length, e.1, e.2]
          simp [rx.length]
        have p3 : P (.tup (cutD ds lo hi)) := p3
        rw [e2] at p3
        exact hq _ _ _ (Step.refl hI) (.tup hx rx) p3
      · obtain ⟨s, r⟩ := new_tup hI hp (cut_rw (w := w) rx lo hi)
        exact hq _ _ _ s r p3
  | str z =>
    cases r3
    exact .inr (.inr ⟨_, rfl, size_ok2 p3.1, hq _ _ _ (Step.refl hI) (.str _) p3.2⟩)
  | _ => exact False.elim p3
end
theorem sl_gen {X : Cx} : SlR X (rSlG X.K) := sl_list.or (sl_tupA.or sl_str)

/-! ### built-in calls -/
def tyN : D → Option String
  | .non => some "NoneType" | .bl _ => some "bool" | .int _ => some "int" | .str _ => some "str" | .lst _ => some "list" | .tup _ => some "tuple"
  | _ => none
def isD (n : String) (x : D) : Bool := match x with
  | .bl _ => n == "bool" || n == "int"
  | .int _ => n == "int"
  | .str _ => n == "str"
  | .lst _ => n == "list"
  | .tup _ => n == "tuple"
  | _ => false
def okTy (n : String) : Bool := n == "bool" || n == "int" || n == "str" || n == "list" || n == "tuple" || n == "dict"
theorem kitB_is {n a : String} {x : D} (h : okTy n = true) (hx : tyN x = some a) : kitB a n = some (isD n x) := by
  have hn : n = "bool" ∨ n = "int" ∨ n = "str" ∨ n = "list" ∨ n = "tuple" ∨ n = "dict" := by simpa [okTy, or_assoc] using h
  have table : ∀ m ∈ ["bool", "int", "str", "list", "tuple", "dict"], kitB "NoneType" m = some false ∧ kitB "bool" m = some (m == "bool" || m == "int") ∧ kitB "int" m = some (m == "int") ∧ kitB "str" m = some (m == "str") ∧ kitB "list" m = some (m == "list") ∧ kitB "tuple" m = some (m == "tuple") := by decide +kernel
  have hm := table n (by rcases hn with e | e | e | e | e | e <;> rw [e] <;> simp)
  obtain ⟨t0, t1, t2, t3, t4, t5⟩ := hm
  cases x <;> first
    | (cases hx; assumption)
    | cases hx
@[simp] def wIsi (xs : List D) (P : D → Prop) : Prop := match xs with
  | [x, .ty n] => (okTy n && (tyN x).isSome) = true ∧ P (.bl (isD n x))
  | _ => False
@[simp] def wLen (xs : List D) (P : D → Prop) : Prop := match xs with
  | [.lst ds] => P (.int ds.length)
  | [.tup ds] => P (.int ds.length)
  | [.str z] => z.length ≤ 16000000 ∧ P (.int z.length)
  | [.ktu ds] => P (.int ds.length)
  | _ => False
@[simp] def wToInt (xs : List D) (P : D → Prop) : Prop := match xs with
  | [.int i] => P (.int i)
  | [.bl k] => P (.int (if k then 1 else 0))
  | _ => False
def blsOf : List D → Option (List Bool)
  | [] => some []
  | .bl b :: r => (blsOf r).map (b :: ·)
  | _ :: _ => none
@[simp] def wAll (xs : List D) (P : D → Prop) : Prop := match xs with
  | [.lst ds] => match blsOf ds with
    | some bs => P (.bl (bs.all id))
    | none => False
  | _ => False
@[simp] def wStrI (xs : List D) (P : D → Prop) : Prop := match xs with
  | [.int i] => i.natAbs.log2 < 1920 ∧ P (.str (toString i))
  | _ => False
@[simp] def wList (xs : List D) (P : D → Prop) : Prop := match xs with
  | [.lst ds] => P (.lst ds)
  | [.tup ds] => P (.lst ds)
  | _ => False
@[simp] def wAbs (xs : List D) (P : D → Prop) : Prop := match xs with
  | [.int i] => P (.int (if i < 0 then -i else i))
  | _ => False
@[simp] def wMax2 (xs : List D) (P : D → Prop) : Prop := match xs with
  | [.int i, .int j] => P (.int (if j > i then j else i))
  | _ => False
@[simp] def wMin2 (xs : List D) (P : D → Prop) : Prop := match xs with
  | [.int i, .int j] => P (.int (if j < i then j else i))
  | _ => False
/-- list.index of something that is there -/
@[simp] def wIndex (ds : List D) (xs : List D) (P : D → Prop) : Prop := match xs with
  | [y] => (flD y && ds.all flD) = true ∧ match ds.findIdx? (fun z => eqD z y) with
    | some j => P (.int j)
    | none => False
  | _ => False
section
variable {K : PySem.W.Frag} {C : WC}
theorem ty_rw {w : Wd} {H : Hp} {x : V} {dx : D} {a : String} (r : R K w H x dx) (h : tyN dx = some a) : TyX K H x (.type a) := by
  cases r with
  | non => cases h; exact .base .non
  | bl b => cases h; exact .base (.bl b)
  | int i => cases h; exact .base (.int i)
  | str z => cases h; exact .base (.str z)
  | lst hx _ => cases h; exact .base (.lst (vis_some hx).2)
  | tup hx _ =>
    cases h
    rcases tup_sq hx with (hx | ⟨o, hx⟩) | ⟨o, its, n, hk, hc, _⟩
    · exact .base (.tup hx)
    · exact .fTuple hx
    · exact .kTuple hk hc
  | _ => cases h
theorem s_isi : SndRs K C (rIsi K) wIsi := by
  intro w H xs ds P Q _ hI r hf hq
  unfold wIsi at hf
  split at hf
  · rename_i x n
    cases r with
    | cons r1 r2 =>
      cases r2 with
      | cons r2 r3 =>
        cases r3
        cases r2
        obtain ⟨h, p⟩ := hf
        obtain ⟨h1, h2⟩ := Bool.and_eq_true_iff.mp h
        obtain ⟨a, ha⟩ := Option.isSome_iff_exists.mp h2
        exact ⟨_, _, _, _, _, rfl, .ty n, ty_rw r1 ha, kit_ty (kitB_is h1 ha), hq _ H _ (Step.refl hI) (.bl _) p⟩
  · exact hf.elim
theorem s_len : SndRs K C (fun xs H Q => ∃ x n, xs = [x] ∧ LenV K x H n ∧ Q (.int n) H) wLen := by
  intro w H xs ds P Q _ hI r hf hq
  unfold wLen at hf
  split at hf
  · cases r with
    | cons r1 r2 =>
      cases r2
      cases r1 with
      | lst hx rx => exact ⟨_, _, rfl, .inl ⟨_, SqL.of (vis_some hx).2, rfl⟩, hq _ H _ (Step.refl hI) (.int _) (by rw [rx.length]; exact hf)⟩
  · cases r with
    | cons r1 r2 =>
      cases r2
      cases r1 with
      | tup hx rx => exact ⟨_, _, rfl, .inr ⟨_, tup_sq hx, rfl⟩, hq _ H _ (Step.refl hI) (.int _) (by rw [rx.length]; exact hf)⟩
  · cases r with
    | cons r1 r2 =>
      cases r2
      cases r1
      exact ⟨_, _, rfl, ⟨size_ok2 hf.1, rfl⟩, hq _ H _ (Step.refl hI) (.int _) hf.2⟩
  · cases r with
    | cons r1 r2 =>
      cases r2
      cases r1 with
      | ktu hx rx => exact ⟨_, _, rfl, .inr ⟨_, hx H, rfl⟩, hq _ H _ (Step.refl hI) (.int _) (by rw [rx.length]; exact hf)⟩
  · exact hf.elim
theorem s_int : SndRs K C (fun xs H Q => (∃ i, xs = [.int i] ∧ Q (.int i) H) ∨ ∃ k, xs = [.bl k] ∧ Q (.int (if k then 1 else 0)) H) wToInt := by
  intro w H xs ds P Q _ hI r hf hq
  unfold wToInt at hf
  split at hf
  · cases r with
    | cons r1 r2 => cases r2; cases r1; exact .inl ⟨_, rfl, hq _ H _ (Step.refl hI) (.int _) hf⟩
  · cases r with
    | cons r1 r2 => cases r2; cases r1; exact .inr ⟨_, rfl, hq _ H _ (Step.refl hI) (.int _) hf⟩
  · exact hf.elim
theorem bls_rw {w : Wd} {H : Hp} : ∀ {xs : List V} {ds : List D} {bs : List Bool}, RA K w H xs ds → blsOf ds = some bs → xs = bs.map V.bl
  | _, _, _, .nil, e => by cases e; rfl
  | _, d :: ds, bs, .cons r t, e => by
    cases d with
    | bl b =>
      unfold blsOf at e
      cases q : blsOf ds with
      | none => rw [q] at e; cases e
      | some cs =>
        rw [q] at e
        have e2 : b :: cs = bs := Option.some.inj e
        subst e2
        rw [bls_rw t q, r_bl r]
        rfl
    | _ => cases e
theorem s_all : SndRs K C (rAll K) wAll := by
  intro w H xs ds P Q _ hI r hf hq
  unfold wAll at hf
  split at hf
  · rename_i ds
    cases r with
    | cons r1 r2 =>
      cases r2
      cases r1 with
      | lst hx rx =>
        cases e : blsOf ds with
        | none => rw [e] at hf; exact hf.elim
        | some bs =>
          rw [e] at hf
          have e2 := bls_rw (w := w) rx e
          subst e2
          exact ⟨_, bs, rfl, SqL.of (vis_some hx).2, hq _ H _ (Step.refl hI) (.bl _) hf⟩
  · exact hf.elim
theorem s_strI : SndRs K C (fun xs H Q => ∃ i, xs = [.int i] ∧ i.natAbs.log2 < 1920 ∧ Q (.str (toString i)) H) wStrI := by
  intro w H xs ds P Q _ hI r hf hq
  unfold wStrI at hf
  split at hf
  · cases r with
    | cons r1 r2 => cases r2; cases r1; exact ⟨_, rfl, hf.1, hq _ H _ (Step.refl hI) (.str _) hf.2⟩
  · exact hf.elim
theorem s_list : SndRs K C (fun xs H Q => ∃ p ys, xs = [.ref p] ∧ (SqL K H p ys ∨ SqT K H p ys) ∧ ∀ l, H l = none → Q (.ref l) (upd H l (.lst ys))) wList := by
  intro w H xs ds P Q _ hI r hf hq
  unfold wList at hf
  split at hf
  · cases r with
    | cons r1 r2 =>
      cases r2
      cases r1 with
      | lst hx rx =>
        refine ⟨_, _, rfl, .inl (SqL.of (vis_some hx).2), fun l hl => ?_⟩
        obtain ⟨s, r⟩ := new_lst (w := w) hI hl rx
        exact hq _ _ _ s r hf
  · cases r with
    | cons r1 r2 =>
      cases r2
      cases r1 with
      | tup hx rx =>
        refine ⟨_, _, rfl, .inr (tup_sq hx), fun l hl => ?_⟩
        obtain ⟨s, r⟩ := new_lst (w := w) hI hl rx
        exact hq _ _ _ s r hf
  · exact hf.elim
theorem s_abs : SndRs K C (fun xs H Q => ∃ i, xs = [.int i] ∧ Q (.int (if i < 0 then -i else i)) H) wAbs := by
  intro w H xs ds P Q _ hI r hf hq
  unfold wAbs at hf
  split at hf
  · cases r with
    | cons r1 r2 => cases r2; cases r1; exact ⟨_, rfl, hq _ H _ (Step.refl hI) (.int _) hf⟩
  · exact hf.elim
theorem s_max2 : SndRs K C (fun xs H Q => ∃ i j, xs = [.int i, .int j] ∧ Q (.int (if j > i then j else i)) H) wMax2 := by
  intro w H xs ds P Q _ hI r hf hq
  unfold wMax2 at hf
  split at hf
  · cases r with
    | cons r1 r2 => cases r2 with
      | cons r2 r3 => cases r3; cases r1; cases r2; exact ⟨_, _, rfl, hq _ H _ (Step.refl hI) (.int _) hf⟩
  · exact hf.elim
theorem s_min2 : SndRs K C (fun xs H Q => ∃ i j, xs = [.int i, .int j] ∧ Q (.int (if j < i then j else i)) H) wMin2 := by
  intro w H xs ds P Q _ hI r hf hq
  unfold wMin2 at hf
  split at hf
  · cases r with
    | cons r1 r2 => cases r2 with
      | cons r2 r3 => cases r3; cases r1; cases r2; exact ⟨_, _, rfl, hq _ H _ (Step.refl hI) (.int _) hf⟩
  · exact hf.elim
theorem s_index : SndM K C (rIndex K) (fun x xs P => match x with | .lst ds => wIndex ds xs P | _ => False) := by
  intro w H x dx xs es P Q _ hI rx r hf hq
  cases dx with
  | lst ds =>
    have hf : wIndex ds es P := hf
    cases es with
    | nil => exact False.elim hf
    | cons y es2 =>
      cases es2 with
      | cons _ _ => exact False.elim hf
      | nil =>
        have hf : (flD y && ds.all flD) = true ∧ (match ds.findIdx? (fun z => eqD z y) with | some j => P (.int j) | none => False) := hf
        obtain ⟨hfl, hf⟩ := hf
        obtain ⟨f1, f2⟩ := Bool.and_eq_true_iff.mp hfl
        cases r with
        | cons ry r2 =>
          cases r2
          cases rx with
          | lst hx rx =>
            cases e : ds.findIdx? (fun z => eqD z y) with
            | none => rw [e] at hf; exact hf.elim
            | some j =>
              rw [e] at hf
              obtain ⟨hj, h1, h2⟩ := List.findIdx?_eq_some_iff_getElem.mp e
              have hjd : ds[j]? = some ds[j] := by simp [hj]
              obtain ⟨v, hv, rv⟩ := rx.getD hjd
              have fd : flD ds[j] = true := List.all_eq_true.mp f2 _ (List.getElem_mem hj)
              refine ⟨_, _, _, j, v, rfl, rfl, SqL.of (vis_some hx).2, fl_of ry f1, flA_of (w := w) rx f2, hv, ?_, fun m z' hm hz => ?_, hq _ H _ (Step.refl hI) (.int _) hf⟩
              · rw [eqv_fl (w := w) rv ry fd f1]; exact h1
              · obtain ⟨d', hd', rd'⟩ := rx.get hz
                obtain ⟨hml, he⟩ := List.getElem?_eq_some_iff.mp hd'
                subst he
                rw [eqv_fl (w := w) rd' ry (List.all_eq_true.mp f2 _ (List.getElem_mem hml)) f1]
                simpa using h2 m hm
  | _ => exact False.elim hf
end
/-! ### methods of texts, f-strings -/
@[simp] def wUpper (z : Str) (xs : List D) (P : D → Prop) : Prop := match xs with
  | [] => z.length ≤ 5000000 ∧ P (.str (Txt.upper z))
  | _ => False
def strsOf : List D → Option (List Str)
  | [] => some []
  | .str b :: r => (strsOf r).map (b :: ·)
  | _ :: _ => none
@[simp] def wJoin (z : Str) (xs : List D) (P : D → Prop) : Prop := match xs with
  | [.lst ds] => match strsOf ds with
    | some ys => (ys.map (·.length)).sum + ys.length * z.length ≤ 16000000 ∧ P (.str (Txt.join z ys))
    | none => False
  | [.tup ds] => match strsOf ds with
    | some ys => (ys.map (·.length)).sum + ys.length * z.length ≤ 16000000 ∧ P (.str (Txt.join z ys))
    | none => False
  | _ => False
@[simp] def wSplit (z : Str) (xs : List D) (P : D → Prop) : Prop := match xs with
  | [.str y] => ((y.length == 0) = false ∧ z.length ≤ 16000000) ∧ P (.lst ((Txt.split z y).map .str))
  | _ => False
@[simp] def wFmt (x : D) (P : Str → Prop) : Prop := match x with
  | .str z => z.length ≤ 16000000 ∧ P z
  | .int i => i.natAbs.log2 < 1920 ∧ P (toString i)
  | _ => False
section
variable {K : PySem.W.Frag} {C : WC}
theorem s_upper (z : Str) : SndRs K C ((fun x xs H Q => ∃ a, x = .str a ∧ xs = [] ∧ a.length ≤ 5592405 ∧ Q (.str (Txt.upper a)) H) (V.str z)) (wUpper z) := by
  intro w H xs ds P Q _ hI r hf hq
  unfold wUpper at hf
  split at hf
  · cases r
    exact ⟨z, rfl, rfl, by omega, hq _ H _ (Step.refl hI) (.str _) hf.2⟩
  · exact hf.elim
theorem strs_rw {w : Wd} {H : Hp} : ∀ {xs : List V} {ds : List D} {bs : List Str}, RA K w H xs ds → strsOf ds = some bs → xs = bs.map V.str
  | _, _, _, .nil, e => by cases e; rfl
  | _, d :: ds, bs, .cons r t, e => by
    cases d with
    | str b =>
      unfold strsOf at e
      cases q : strsOf ds with
      | none => rw [q] at e; cases e
      | some cs =>
        rw [q] at e
        have e2 : b :: cs = bs := Option.some.inj e
        subst e2
        rw [strs_rw t q, r_str r]
        rfl
    | _ => cases e
theorem s_join (z : Str) : SndRs K C ((fun x xs H Q => ∃ a p, ∃ ys : List Str, x = .str a ∧ xs = [.ref p] ∧ (SqL K H p (ys.map V.str) ∨ SqT K H p (ys.map V.str)) ∧
    (ys.map (·.length)).sum + ys.length * a.length ≤ 16777216 ∧ Q (.str (Txt.join a ys)) H) (V.str z)) (wJoin z) := by
  intro w H xs ds P Q _ hI r hf hq
  unfold wJoin at hf
  split at hf
  · rename_i ds
    cases r with
    | cons r1 r2 =>
      cases r2
      cases r1 with
      | lst hx rx =>
        cases e : strsOf ds with
        | none => rw [e] at hf; exact hf.elim
        | some bs =>
          rw [e] at hf
          have e2 := strs_rw (w := w) rx e
          subst e2
          exact ⟨z, _, bs, rfl, rfl, .inl (SqL.of (vis_some hx).2), by omega, hq _ H _ (Step.refl hI) (.str _) hf.2⟩
  · rename_i ds
    cases r with
    | cons r1 r2 =>
      cases r2
      cases r1 with
      | tup hx rx =>
        cases e : strsOf ds with
        | none => rw [e] at hf; exact hf.elim
        | some bs =>
          rw [e] at hf
          have e2 := strs_rw (w := w) rx e
          subst e2
          exact ⟨z, _, bs, rfl, rfl, .inr (tup_sq hx), by omega, hq _ H _ (Step.refl hI) (.str _) hf.2⟩
  · exact hf.elim
theorem rw_strs {w : Wd} {H : Hp} : ∀ ys : List Str, RA K w H (ys.map V.str) (ys.map D.str)
  | [] => .nil
  | y :: ys => .cons (.str y) (rw_strs ys)
theorem s_split (z : Str) : SndRs K C ((fun x xs H Q => ∃ a b, x = .str a ∧ xs = [.str b] ∧ (b.length == 0) = false ∧ a.length + 2 ≤ sizeLine ∧ rNewStrs (Txt.split a b) H Q) (V.str z)) (wSplit z) := by
  intro w H xs ds P Q _ hI r hf hq
  unfold wSplit at hf
  split at hf
  · cases r with
    | cons r1 r2 =>
      cases r2
      cases r1
      refine ⟨z, _, rfl, rfl, hf.1.1, Nat.le_trans (Nat.add_le_add_right hf.1.2 2) (by decide), fun p hp => ?_⟩
      obtain ⟨s, r⟩ := new_lst (w := w) hI hp (rw_strs _)
      exact hq _ _ _ s r hf.2
  · exact hf.elim
end
end Bd
/-! Bd5: what an expression asks of data and cells, and why that is enough. -/
namespace Bd
open PySem L2
abbrev ATE := Gs → Cs → (D → Cs → Prop) → Prop
abbrev ATT := Gs → Cs → (Bool → Cs → Prop) → Prop
abbrev ATA := Gs → Cs → (List D → Cs → Prop) → Prop
abbrev ATO := Gs → Cs → (Option Int → Cs → Prop) → Prop
section
variable (K : PySem.W.Frag) (F : Fr)
def SndE (t : TE) (a : ATE) : Prop := ∀ (gs : List (V × D)) (pv os : Os) (cs : Cs) (σ : St) (H : Hp) (Γ : Gs) (P : D → Cs → Prop) (Q : VK), Rel K F gs pv os cs σ H Γ → a Γ cs P →
  (∀ v H' d os' cs', Rel K F ((v, d) :: gs) pv os' cs' σ H' Γ → P d cs' → Q v H') → t σ H Q
def SndT (t : TT) (a : ATT) : Prop := ∀ (gs : List (V × D)) (pv os : Os) (cs : Cs) (σ : St) (H : Hp) (Γ : Gs) (P : Bool → Cs → Prop) (Q : Bool → Hp → Prop), Rel K F gs pv os cs σ H Γ → a Γ cs P →
  (∀ b H' os' cs', Rel K F gs pv os' cs' σ H' Γ → P b cs' → Q b H') → t σ H Q
def SndA (t : TA) (a : ATA) : Prop := ∀ (gs : List (V × D)) (pv os : Os) (cs : Cs) (σ : St) (H : Hp) (Γ : Gs) (P : List D → Cs → Prop) (Q : List V → Hp → Prop), Rel K F gs pv os cs σ H Γ → a Γ cs P →
  (∀ vs H' ds os' cs', Rel K F gs pv os' cs' σ H' Γ → RA K (F.at pv os') H' vs ds → P ds cs' → Q vs H') → t σ H Q
def SndO (t : TO) (a : ATO) : Prop := ∀ (gs : List (V × D)) (pv os : Os) (cs : Cs) (σ : St) (H : Hp) (Γ : Gs) (P : Option Int → Cs → Prop) (Q : Option Int → Hp → Prop), Rel K F gs pv os cs σ H Γ → a Γ cs P →
  (∀ o H' os' cs', Rel K F gs pv os' cs' σ H' Γ → P o cs' → Q o H') → t σ H Q
end
structure JE (X : Cx) (F : Fr) (e : Expr) (t : TE) (a : ATE) : Prop where
  p : PE X e t
  s : SndE X.K F t a
structure JT (X : Cx) (F : Fr) (e : Expr) (t : TT) (a : ATT) : Prop where
  p : PT X e t
  s : SndT X.K F t a
structure JW (X : Cx) (F : Fr) (e : Expr) (t : TT) (a : ATT) : Prop where
  p : PW X e t
  s : SndT X.K F t a
structure JA (X : Cx) (F : Fr) (es : List Expr) (t : TA) (a : ATA) : Prop where
  p : PA X es t
  s : SndA X.K F t a
structure JP (X : Cx) (F : Fr) (e : Option Expr) (t : TO) (a : ATO) : Prop where
  p : PO X e t
  s : SndO X.K F t a
/-! ### abstract readings -/
@[simp] abbrev aVar (i : Nat) : ATE := fun Γ c P => match Γ[i]? with
  | some (some d) => P d c
  | _ => False
@[simp] abbrev aC (d : D) : ATE := fun _ c P => P d c
@[simp] abbrev aOp (f : D → D → (D → Prop) → Prop) (a b : ATE) : ATE := fun Γ c P => a Γ c fun x c1 => b Γ c1 fun y c2 => f x y fun z => P z c2
@[simp] abbrev aUn (f : D → (D → Prop) → Prop) (a : ATE) : ATE := fun Γ c P => a Γ c fun x c1 => f x fun z => P z c1
@[simp] abbrev aNil : ATA := fun _ c P => P [] c
@[simp] abbrev aCons (a : ATE) (b : ATA) : ATA := fun Γ c P => a Γ c fun x c1 => b Γ c1 fun xs c2 => P (x :: xs) c2
@[simp] abbrev aTup (a : ATA) : ATE := fun Γ c P => a Γ c fun xs c1 => xs.length ≤ 100000 ∧ P (.tup xs) c1
/-- a new list, as data -/
@[simp] abbrev aLst (a : ATA) : ATE := fun Γ c P => a Γ c fun xs c1 => xs.length ≤ 100000 ∧ P (.lst xs) c1
/-- a new list, as a cell -/
@[simp] abbrev aNew (a : ATA) : ATE := fun Γ c P => a Γ c fun xs c1 => xs.length ≤ 100000 ∧ ∀ p : Addr, c1.lookup p = none → P (.adr p) ((p, .lst xs) :: c1)
@[simp] abbrev aB (a : ATE) : ATT := fun Γ c P => a Γ c fun x c1 => match x with
  | .bl b => P b c1
  | _ => False
@[simp] abbrev aAnd (a b : ATT) : ATT := fun Γ c P => a Γ c fun k c1 => if k = true then b Γ c1 P else P false c1
@[simp] abbrev aOr (a b : ATT) : ATT := fun Γ c P => a Γ c fun k c1 => if k = true then P true c1 else b Γ c1 P
@[simp] abbrev aNot (a : ATT) : ATT := fun Γ c P => a Γ c fun k c1 => P (!k) c1
@[simp] abbrev aV (a : ATT) : ATE := fun Γ c P => a Γ c fun k c1 => P (.bl k) c1
@[simp] abbrev aIf (t : ATT) (a b : ATE) : ATE := fun Γ c P => t Γ c fun k c1 => if k = true then a Γ c1 P else b Γ c1 P
@[simp] abbrev aAndV (a b : ATE) : ATE := fun Γ c P => a Γ c fun x c1 => match x with
  | .bl k => if k = true then b Γ c1 P else P (.bl false) c1
  | _ => False
@[simp] abbrev aOrV (a b : ATE) : ATE := fun Γ c P => a Γ c fun x c1 => match x with
  | .bl k => if k = true then P (.bl true) c1 else b Γ c1 P
  | _ => False
@[simp] abbrev aChain (f g : D → D → (D → Prop) → Prop) (a b e : ATE) : ATE := fun Γ c P => a Γ c fun x c1 => b Γ c1 fun y c2 => f x y fun z => match z with
  | .bl k => if k = true then e Γ c2 fun u c3 => g y u fun z => P z c3 else P (.bl false) c2
  | _ => False
@[simp] abbrev aCB (f : List D → (D → Prop) → Prop) (a : ATA) : ATE := fun Γ c P => a Γ c fun xs c1 => f xs fun z => P z c1
@[simp] abbrev aMs (f : Str → List D → (D → Prop) → Prop) (o : ATE) (a : ATA) : ATE := fun Γ c P => o Γ c fun x c1 => match x with
  | .str z => a Γ c1 fun xs c2 => f z xs fun z => P z c2
  | _ => False
@[simp] abbrev aMl (f : List D → List D → (D → Prop) → Prop) (o : ATE) (a : ATA) : ATE := fun Γ c P => o Γ c fun x c1 => match x with
  | .lst ds => a Γ c1 fun xs c2 => f ds xs fun z => P z c2
  | _ => False
@[simp] abbrev aNoPart : ATO := fun _ c P => P none c
@[simp] abbrev aPart (a : ATE) : ATO := fun Γ c P => a Γ c fun x c1 => match x with
  | .int i => P (some i) c1
  | _ => False
@[simp] abbrev aSl (a : ATE) (l h : ATO) : ATE := fun Γ c P => a Γ c fun x c1 => l Γ c1 fun lo c2 => h Γ c2 fun hi c3 => wSl x lo hi fun z => P z c3
@[simp] abbrev aFmt (a : ATE) : ATE := fun Γ c P => a Γ c fun x c1 => wFmt x fun z => P (.str z) c1
def aJs : List ATE → Str → Gs → Cs → (Str → Cs → Prop) → Prop
  | [], acc, _, c, P => P acc c
  | a :: as, acc, Γ, c, P => a Γ c fun x c1 => match x with
    | .str y => acc.length + y.length ≤ 16000000 ∧ aJs as (acc ++ y) Γ c1 P
    | _ => False
def aJoined (as : List ATE) : ATE := fun Γ c P => aJs as Str.empty Γ c fun z c1 => P (.str z) c1
/-! ### soundness, construct by construct -/
section
variable {K : PySem.W.Frag} {F : Fr}
theorem snd_var {i : Nat} : SndE K F (tVar i) (aVar i) := by
  intro gs pv os cs σ H Γ P Q r ha hq
  unfold aVar at ha
  split at ha
  · rename_i d e
    obtain ⟨v, h1, h2⟩ := r.at_ i d e
    exact ⟨v, h1, hq v H d os cs (r.gcons h2) ha⟩
  · exact ha.elim
theorem snd_c {v : V} {d : D} (h : ∀ (w : Wd) H, R K w H v d) : SndE K F (tC v) (aC d) := fun gs pv os cs σ H Γ P Q r ha hq => hq v H d os cs (r.gcons (h _ H)) ha
theorem snd_op {r : R2} {f : D → D → (D → Prop) → Prop} {ta tb : TE} {a b : ATE} (hf : SndR2 K Any r f) (h1 : SndE K F ta a) (h2 : SndE K F tb b) : SndE K F (tOp r ta tb) (aOp f a b) := by
  intro gs pv os cs σ H Γ P Q r ha hq
  refine h1 gs pv os cs σ H Γ _ _ r ha fun v H1 d os1 c1 r1 ha1 => ?_
  refine h2 _ pv os1 c1 σ H1 Γ _ _ r1 ha1 fun u H2 e os2 c2 r2 ha2 => ?_
  refine hf (F.at pv os2) H2 v u d e _ Q trivial r2.st.inv r2.tail.head r2.head ha2 fun z H3 dz s3 r3 p3 => hq z H3 dz os2 c2 ((r2.tail.tail.step s3).gcons r3) p3
theorem snd_un {r : V → Hp → VK → Prop} {f : D → (D → Prop) → Prop} {ta : TE} {a : ATE} (hf : SndR1 K Any r f) (h1 : SndE K F ta a) : SndE K F (tUn r ta) (aUn f a) := by
  intro gs pv os cs σ H Γ P Q r ha hq
  refine h1 gs pv os cs σ H Γ _ _ r ha fun v H1 d os1 c1 r1 ha1 => ?_
  exact hf (F.at pv os1) H1 v d _ Q trivial r1.st.inv r1.head ha1 fun z H3 dz s3 r3 p3 => hq z H3 dz os1 c1 ((r1.tail.step s3).gcons r3) p3
theorem snd_nil : SndA K F tNil aNil := fun gs pv os cs σ H Γ P Q r ha hq => hq [] H [] os cs r .nil ha
theorem snd_cons {ta : TE} {tr : TA} {a : ATE} {b : ATA} (h1 : SndE K F ta a) (h2 : SndA K F tr b) : SndA K F (tCons ta tr) (aCons a b) := by
  intro gs pv os cs σ H Γ P Q r ha hq
  refine h1 gs pv os cs σ H Γ _ _ r ha fun v H1 d os1 c1 r1 ha1 => ?_
  refine h2 _ pv os1 c1 σ H1 Γ _ _ r1 ha1 fun us H2 es os2 c2 r2 ra ha2 => ?_
  exact hq (v :: us) H2 (d :: es) os2 c2 r2.tail (.cons r2.head ra) ha2
theorem snd_tup {ta : TA} {a : ATA} (h : SndA K F ta a) : SndE K F (tTup ta) (aTup a) := by
  intro gs pv os cs σ H Γ P Q r ha hq
  refine h gs pv os cs σ H Γ _ _ r ha fun vs H1 ds os1 c1 r1 ra ⟨hz, p1⟩ => ⟨by rw [ra.length]; exact size_ok hz, fun p hp => ?_⟩
  obtain ⟨s2, r2⟩ := new_tup r1.st.inv hp ra
  exact hq _ _ _ os1 c1 ((r1.step s2).gcons r2) p1
theorem snd_lst {ta : TA} {a : ATA} (h : SndA K F ta a) : SndE K F (tLst ta) (aLst a) := by
  intro gs pv os cs σ H Γ P Q r ha hq
  refine h gs pv os cs σ H Γ _ _ r ha fun vs H1 ds os1 c1 r1 ra ⟨hz, p1⟩ => ⟨by rw [ra.length]; exact size_ok hz, fun p hp => ?_⟩
  obtain ⟨s2, r2⟩ := new_lst r1.st.inv hp ra
  exact hq _ _ _ os1 c1 ((r1.step s2).gcons r2) p1
/-- a fresh address becomes a cell -/
theorem Rel.alloc {gs : List (V × D)} {pv os : Os} {cs : Cs} {σ : St} {H : Hp} {Γ : Gs} (r : Rel K F gs pv os cs σ H Γ) {p : Addr} {o : HO} {d : D} (hp : H p = none) (h : RH K (F.at pv os) H o d) :
    cs.lookup p = none ∧ Rel K F gs pv ((p, o) :: os) ((p, d) :: cs) σ (upd H p o) Γ := by
  have hm : p ∉ (F.at pv os).ms := fresh_out r.st.inv hp
  have hpo : ∀ q, q ∈ pv ++ os → q.1 ≠ p := fun q hq z => by
    rcases List.mem_append.mp hq with m | m
    · exact hm (List.mem_append_right _ (List.mem_append_left _ (by rw [← z]; exact List.mem_map_of_mem m)))
    · exact hm (List.mem_append_left _ (by rw [← z]; exact List.mem_map_of_mem m))
  have hw : p ∉ F.w.ms := fun m => hm (List.mem_append_right _ (List.mem_append_right _ m))
  have e : Ext ((F.at pv os).v H) ((F.at pv ((p, o) :: os)).v (upd H p o)) := fun a u q => by
    obtain ⟨h1, h2, h3⟩ := vis_all q
    have ne : a ≠ p := ne_of_none h2 hp
    refine vis_of (fun z => ?_) (by rw [upd_ne ne]; exact h2) h3
    rcases List.mem_cons.mp z with z | z
    · exact ne z
    · exact h1 z
  have hv0 : (F.w.plus F.os0).v F.H0 p = none := by
    cases q : (F.w.plus F.os0).v F.H0 p with
    | none => rfl
    | some u =>
      have := (vis_some (r.st.ext p u q)).2
      rw [hp] at this; cases this
  have ks := r.st.cel.keys
  refine ⟨?_, r.mv ⟨r.st.ext.tr e, ⟨(Step.new (o := o) (w := F.w.plus pv) r.st.inv.1 hp).inv, fun q hq => ?_⟩, fun q hq => ?_, ?_, .cons (RH.mono (w := F.at pv os) (w' := F.at pv ((p, o) :: os)) rfl e h) (r.st.cel.mono (w := F.at pv os) (w' := F.at pv ((p, o) :: os)) rfl e), r.st.pk⟩ e⟩
  · cases q : cs.lookup p with
    | none => rfl
    | some d' =>
      obtain ⟨o', h1, _⟩ := r.st.cel.get q
      exact absurd rfl (hpo (p, o') (List.mem_append_right _ h1))
  · rcases List.mem_cons.mp hq with z | z
    · rw [z]; exact upd_same
    · rw [upd_ne (hpo q (List.mem_append_right _ z))]; exact r.st.inv.2 q z
  · rcases List.mem_append.mp hq with m | m
    · exact r.st.fr q (List.mem_append_left _ m)
    · rcases List.mem_cons.mp m with z | m
      · rw [z]; exact ⟨hw, hv0⟩
      · exact r.st.fr q (List.mem_append_right _ m)
  · have nd := r.st.nd
    rw [List.map_append, List.nodup_append] at nd ⊢
    obtain ⟨n1, n2, n3⟩ := nd
    refine ⟨n1, List.nodup_cons.mpr ⟨fun z => ?_, n2⟩, fun a ha b hb z => ?_⟩
    · obtain ⟨q, hq, e⟩ := List.mem_map.mp z
      exact hpo q (List.mem_append_right _ hq) e
    · rcases List.mem_cons.mp hb with y | hb
      · obtain ⟨q, hq, e⟩ := List.mem_map.mp ha
        exact hpo q (List.mem_append_left _ hq) (e.trans (z.trans y))
      · exact n3 a ha b hb z
theorem snd_new {ta : TA} {a : ATA} (h : SndA K F ta a) : SndE K F (tLst ta) (aNew a) := by
  intro gs pv os cs σ H Γ P Q r ha hq
  refine h gs pv os cs σ H Γ _ _ r ha fun vs H1 ds os1 c1 r1 ra ⟨hz, p1⟩ => ⟨by rw [ra.length]; exact size_ok hz, fun p hp => ?_⟩
  obtain ⟨k, r2⟩ := r1.alloc (o := .lst vs) (d := .lst ds) hp ra
  exact hq _ _ _ _ _ (r2.gcons (.adr p)) (p1 p k)
theorem snd_B {t : TE} {a : ATE} (h : SndE K F t a) : SndT K F (tB t) (aB a) := by
  intro gs pv os cs σ H Γ P Q r ha hq
  refine h gs pv os cs σ H Γ _ _ r ha fun v H1 d os1 c1 r1 p1 => ?_
  cases d with
  | bl b => exact ⟨b, r_bl r1.head, hq b H1 os1 c1 r1.tail p1⟩
  | _ => exact False.elim p1
theorem snd_test {t : TE} {a : ATE} (h : SndE K F t a) : SndT K F (tTest t) (aB a) := snd_B h
theorem snd_and {t u : TT} {a b : ATT} (h1 : SndT K F t a) (h2 : SndT K F u b) : SndT K F (tAnd t u) (aAnd a b) := by
  intro gs pv os cs σ H Γ P Q r ha hq
  refine h1 gs pv os cs σ H Γ _ _ r ha fun k H1 os1 c1 r1 p1 => ?_
  cases k with
  | true => exact h2 gs pv os1 c1 σ H1 Γ _ _ r1 p1 hq
  | false => exact hq false H1 os1 c1 r1 p1
theorem snd_or {t u : TT} {a b : ATT} (h1 : SndT K F t a) (h2 : SndT K F u b) : SndT K F (tOr t u) (aOr a b) := by
  intro gs pv os cs σ H Γ P Q r ha hq
  refine h1 gs pv os cs σ H Γ _ _ r ha fun k H1 os1 c1 r1 p1 => ?_
  cases k with
  | false => exact h2 gs pv os1 c1 σ H1 Γ _ _ r1 p1 hq
  | true => exact hq true H1 os1 c1 r1 p1
theorem snd_not {t : TT} {a : ATT} (h1 : SndT K F t a) : SndT K F (tNot t) (aNot a) := fun gs pv os cs σ H Γ P Q r ha hq => h1 gs pv os cs σ H Γ _ _ r ha fun k H1 os1 c1 r1 p1 => hq (!k) H1 os1 c1 r1 p1
theorem snd_notV {t : TE} {a : ATE} (h1 : SndE K F t a) : SndE K F (tNotV t) (aV (aNot (aB a))) := by
  intro gs pv os cs σ H Γ P Q r ha hq
  refine h1 gs pv os cs σ H Γ _ _ r ha fun v H1 d os1 c1 r1 p1 => ?_
  cases d with
  | bl b => exact ⟨b, r_bl r1.head, hq _ H1 _ os1 c1 (r1.tail.gcons (.bl _)) p1⟩
  | _ => exact False.elim p1
theorem snd_if {tt : TT} {ta tb : TE} {c : ATT} {a b : ATE} (h : SndT K F tt c) (h1 : SndE K F ta a) (h2 : SndE K F tb b) : SndE K F (tIf tt ta tb) (aIf c a b) := by
  intro gs pv os cs σ H Γ P Q r ha hq
  refine h gs pv os cs σ H Γ _ _ r ha fun k H1 os1 c1 r1 p1 => ?_
  cases k with
  | true => exact h1 gs pv os1 c1 σ H1 Γ _ _ r1 p1 hq
  | false => exact h2 gs pv os1 c1 σ H1 Γ _ _ r1 p1 hq
theorem snd_andV {ta tb : TE} {a b : ATE} (h1 : SndE K F ta a) (h2 : SndE K F tb b) : SndE K F (tAndV ta tb) (aAndV a b) := by
  intro gs pv os cs σ H Γ P Q r ha hq
  refine h1 gs pv os cs σ H Γ _ _ r ha fun v H1 d os1 c1 r1 p1 => ?_
  cases d with
  | bl k =>
    refine ⟨k, r_bl r1.head, ?_⟩
    cases k with
    | true => exact h2 gs pv os1 c1 σ H1 Γ _ _ r1.tail p1 hq
    | false => exact hq _ H1 _ os1 c1 (r1.tail.gcons (.bl false)) p1
  | _ => exact False.elim p1
theorem snd_orV {ta tb : TE} {a b : ATE} (h1 : SndE K F ta a) (h2 : SndE K F tb b) : SndE K F (tOrV ta tb) (aOrV a b) := by
  intro gs pv os cs σ H Γ P Q r ha hq
  refine h1 gs pv os cs σ H Γ _ _ r ha fun v H1 d os1 c1 r1 p1 => ?_
  cases d with
  | bl k =>
    refine ⟨k, r_bl r1.head, ?_⟩
    cases k with
    | false => exact h2 gs pv os1 c1 σ H1 Γ _ _ r1.tail p1 hq
    | true => exact hq _ H1 _ os1 c1 (r1.tail.gcons (.bl true)) p1
  | _ => exact False.elim p1
theorem snd_chain {r r' : R2} {f g : D → D → (D → Prop) → Prop} {ta tb tc : TE} {a b c : ATE} (hf : SndR2 K Any r f) (hg : SndR2 K Any r' g) (h1 : SndE K F ta a) (h2 : SndE K F tb b) (h3 : SndE K F tc c) :
    SndE K F (tChain r r' ta tb tc) (aChain f g a b c) := by
  intro gs pv os cs σ H Γ P Q r ha hq
  refine h1 gs pv os cs σ H Γ _ _ r ha fun v H1 d os1 c1 r1 ha1 => ?_
  refine h2 _ pv os1 c1 σ H1 Γ _ _ r1 ha1 fun u H2 e os2 c2 r2 ha2 => ?_
  refine hf (F.at pv os2) H2 v u d e _ _ trivial r2.st.inv r2.tail.head r2.head ha2 fun z H3 dz s3 r3 p3 => ?_
  cases dz with
  | bl k =>
    refine ⟨k, r_bl r3, ?_⟩
    have q3 := r2.step s3
    cases k with
    | true =>
      refine h3 _ pv os2 c2 σ H3 Γ _ _ q3 p3 fun y H4 dy os4 c4 r4 p4 => ?_
      exact hg (F.at pv os4) H4 u y e dy _ Q trivial r4.st.inv r4.tail.head r4.head p4 fun z H5 dz s5 r5 p5 => hq z H5 dz os4 c4 ((r4.tail.tail.tail.step s5).gcons r5) p5
    | false => exact hq _ H3 _ os2 c2 (q3.tail.tail.gcons (.bl false)) p3
  | _ => exact False.elim p3
theorem snd_CB {r : List V → Hp → VK → Prop} {f : List D → (D → Prop) → Prop} {ta : TA} {a : ATA} (hf : SndRs K Any r f) (h : SndA K F ta a) : SndE K F (tCB r ta) (aCB f a) := by
  intro gs pv os cs σ H Γ P Q rl ha hq
  refine h gs pv os cs σ H Γ _ _ rl ha fun vs H1 ds os1 c1 r1 ra p1 => ?_
  exact hf (F.at pv os1) H1 vs ds _ Q trivial r1.st.inv ra p1 fun v H2 d s2 r2 p2 => hq v H2 d os1 c1 ((r1.step s2).gcons r2) p2
theorem snd_M1 {r : V → List V → Hp → VK → Prop} {f : Str → List D → (D → Prop) → Prop} {to te : TE} {o a : ATE} (hf : ∀ z, SndRs K Any (r (.str z)) (f z)) (h1 : SndE K F to o) (h2 : SndE K F te a) : SndE K F (tM1 r to te) (aMs f o (aCons a aNil)) := by
  intro gs pv os cs σ H Γ P Q rl ha hq
  refine h1 gs pv os cs σ H Γ _ _ rl ha fun v H1 d os1 c1 r1 ha1 => ?_
  cases d with
  | str z =>
    cases r_str r1.head
    refine ⟨⟨z, rfl⟩, ?_⟩
    refine h2 gs pv os1 c1 σ H1 Γ _ _ r1.tail ha1 fun u H2 e os2 c2 r2 ha2 => ?_
    exact hf z (F.at pv os2) H2 [u] [e] _ Q trivial r2.st.inv (.cons r2.head .nil) ha2 fun v H3 d s3 r3 p3 => hq v H3 d os2 c2 ((r2.tail.step s3).gcons r3) p3
  | _ => exact False.elim ha1
theorem snd_M0 {r : V → List V → Hp → VK → Prop} {f : Str → List D → (D → Prop) → Prop} {to : TE} {o : ATE} (hf : ∀ z, SndRs K Any (r (.str z)) (f z)) (h1 : SndE K F to o) : SndE K F (tM0 r to) (aMs f o aNil) := by
  intro gs pv os cs σ H Γ P Q rl ha hq
  refine h1 gs pv os cs σ H Γ _ _ rl ha fun v H1 d os1 c1 r1 ha1 => ?_
  cases d with
  | str z =>
    cases r_str r1.head
    exact ⟨⟨z, rfl⟩, hf z (F.at pv os1) H1 [] [] _ Q trivial r1.st.inv .nil ha1 fun v H3 d s3 r3 p3 => hq v H3 d os1 c1 ((r1.tail.step s3).gcons r3) p3⟩
  | _ => exact False.elim ha1
/-- a method of a list that is data -/
theorem snd_Ml {r : V → List V → Hp → VK → Prop} {f : List D → List D → (D → Prop) → Prop} {to : TE} {ta : TA} {o : ATE} {a : ATA} (hf : SndM K Any r (fun x xs P => match x with | .lst ds => f ds xs P | _ => False)) (h1 : SndE K F to o) (h2 : SndA K F ta a) : SndE K F (tBM K "list" r to ta) (aMl f o a) := by
  intro gs pv os cs σ H Γ P Q rl ha hq
  refine h1 gs pv os cs σ H Γ _ _ rl ha fun v H1 d os1 c1 r1 ha1 => ?_
  cases d with
  | lst ds =>
    have rr := r1.head
    cases rr with
    | lst hx _ =>
      refine ⟨.inl ⟨rfl, _, SqL.of (vis_some hx).2⟩, ?_⟩
      refine h2 _ pv os1 c1 σ H1 Γ _ _ r1 ha1 fun us H2 es os2 c2 r2 ra ha2 => ?_
      exact hf (F.at pv os2) H2 _ (.lst ds) us es _ Q trivial r2.st.inv r2.head ra ha2 fun v H3 d s3 r3 p3 => hq v H3 d os2 c2 ((r2.tail.step s3).gcons r3) p3
  | _ => exact False.elim ha1
theorem snd_noPart : SndO K F tNoPart aNoPart := fun gs pv os cs σ H Γ P Q r ha hq => hq none H os cs r ha
theorem snd_part {t : TE} {a : ATE} (h : SndE K F t a) : SndO K F (tPart t) (aPart a) := by
  intro gs pv os cs σ H Γ P Q r ha hq
  refine h gs pv os cs σ H Γ _ _ r ha fun v H1 d os1 c1 r1 p1 => ?_
  cases d with
  | int i => exact ⟨i, r_int r1.head, hq _ H1 os1 c1 r1.tail p1⟩
  | _ => exact False.elim p1
theorem snd_sl {te : TE} {tl th : TO} {a : ATE} {l h : ATO} (h1 : SndE K F te a) (h2 : SndO K F tl l) (h3 : SndO K F th h) : SndE K F (tSl (rSlG K) te tl th) (aSl a l h) := by
  intro gs pv os cs σ H Γ P Q r ha hq
  refine h1 gs pv os cs σ H Γ _ _ r ha fun v H1 d os1 c1 r1 p1 => ?_
  refine h2 _ pv os1 c1 σ H1 Γ _ _ r1 p1 fun lo H2 os2 c2 r2 p2 => ?_
  refine h3 _ pv os2 c2 σ H2 Γ _ _ r2 p2 fun hi H3 os3 c3 r3 p3 => ?_
  exact s_sl r3.st.inv r3.head p3 fun v H4 d s4 r4 p4 => hq v H4 d os3 c3 ((r3.tail.step s4).gcons r4) p4
theorem snd_fmt {t : TE} {a : ATE} (h : SndE K F t a) : SndE K F (tFmt t) (aFmt a) := by
  intro gs pv os cs σ H Γ P Q r ha hq
  refine h gs pv os cs σ H Γ _ _ r ha fun v H1 d os1 c1 r1 p1 => ?_
  cases d with
  | str z => cases r_str r1.head; exact .inl ⟨z, rfl, size_ok2 p1.1, hq _ H1 _ os1 c1 (r1.tail.gcons (.str _)) p1.2⟩
  | int i => cases r_int r1.head; exact .inr ⟨i, rfl, p1.1, hq _ H1 _ os1 c1 (r1.tail.gcons (.str _)) p1.2⟩
  | _ => exact False.elim p1
inductive SndJ (K : PySem.W.Frag) (F : Fr) : List TE → List ATE → Prop where
  | nil : SndJ K F [] []
  | cons {t : TE} {a : ATE} {ts : List TE} {as : List ATE} (h : SndE K F t a) (r : SndJ K F ts as) : SndJ K F (t :: ts) (a :: as)
theorem snd_js {ts : List TE} {as : List ATE} (h : SndJ K F ts as) : ∀ (acc : Str) (gs : List (V × D)) (pv os : Os) (cs : Cs) (σ : St) (H : Hp) (Γ : Gs) (P : Str → Cs → Prop) (Q : Str → Hp → Prop), Rel K F gs pv os cs σ H Γ → aJs as acc Γ cs P →
    (∀ z H' os' cs', Rel K F gs pv os' cs' σ H' Γ → P z cs' → Q z H') → tJs ts acc σ H Q := by
  induction h with
  | nil => intro acc gs pv os cs σ H Γ P Q r ha hq; exact hq acc H os cs r ha
  | @cons t a ts as h _ ih =>
    intro acc gs pv os cs σ H Γ P Q r ha hq
    refine h gs pv os cs σ H Γ _ _ r ha fun v H1 d os1 c1 r1 p1 => ?_
    cases d with
    | str y =>
      cases r_str r1.head
      refine ⟨y, rfl, ?_, ih (acc ++ y) gs pv os1 c1 σ H1 Γ P Q r1.tail p1.2 hq⟩
      have e : (acc ++ y).length = acc.length + y.length := by
        show (acc.cps ++ y.cps).size = acc.cps.size + y.cps.size
        exact Array.size_append
      rw [e]
      exact size_ok2 p1.1
    | _ => exact False.elim p1
theorem snd_joined {ts : List TE} {as : List ATE} (h : SndJ K F ts as) : SndE K F (fun σ H Q => tJs ts Str.empty σ H fun out H1 => Q (.str out) H1) (aJoined as) := by
  intro gs pv os cs σ H Γ P Q r ha hq
  exact snd_js h Str.empty gs pv os cs σ H Γ _ _ r ha fun z H' os' c' r' p => hq _ H' _ os' c' (r'.gcons (.str z)) p
end
end Bd
/-! Bd6: cells that change, private cells, targets, walks, comprehensions. -/
namespace Bd
open PySem L2
section
variable {K : PySem.W.Frag} {F : Fr} {gs gs2 : List (V × D)} {pv pv' os os' : Os} {cs cs' : Cs} {σ : St} {H H' : Hp} {Γ : Gs}
theorem at_ms {a : Addr} : a ∈ (F.at pv os).ms ↔ a ∈ (pv ++ os).map (·.1) ∨ a ∈ F.w.ms := by
  show a ∈ os.map (·.1) ++ (pv.map (·.1) ++ F.w.ms) ↔ _
  rw [List.map_append, List.mem_append, List.mem_append, List.mem_append]
  constructor
  · rintro (h | h | h)
    · exact .inl (.inr h)
    · exact .inl (.inl h)
    · exact .inr h
  · rintro ((h | h) | h)
    · exact .inr (.inl h)
    · exact .inl h
    · exact .inr (.inr h)
theorem at_inv : (F.at pv os).I H ↔ F.w.I H ∧ ∀ p, p ∈ pv ++ os → H p.1 = some p.2 := by
  constructor
  · rintro ⟨⟨h1, h2⟩, h3⟩
    exact ⟨h1, fun p hp => (List.mem_append.mp hp).elim (h2 p) (h3 p)⟩
  · rintro ⟨h1, h2⟩
    exact ⟨⟨h1, fun p hp => h2 p (List.mem_append_left _ hp)⟩, fun p hp => h2 p (List.mem_append_right _ hp)⟩
/-- another heap, in which only what was hidden changed; what is hidden now was hidden or is new -/
theorem ext_of (h : ∀ a, a ∈ (pv' ++ os').map (·.1) → a ∈ (pv ++ os).map (·.1) ∨ H a = none) (k : ∀ a o, a ∉ (F.at pv os).ms → H a = some o → H' a = some o) : Ext ((F.at pv os).v H) ((F.at pv' os').v H') := fun a o q => by
  obtain ⟨h1, h2, h3⟩ := vis_all q
  refine vis_of (fun m => ?_) (k a o h1 h2) h3
  rcases at_ms.mp m with m | m
  · rcases h a m with z | z
    · exact h1 (at_ms.mpr (.inl z))
    · rw [h2] at z; cases z
  · exact h1 (at_ms.mpr (.inr m))
/-- the general way from state to state -/
theorem Stt.to (r : Stt K F pv os cs H) (e : Ext ((F.at pv os).v H) ((F.at pv' os').v H')) (iw : F.w.I H') (iv : ∀ p, p ∈ pv' ++ os' → H' p.1 = some p.2) (hk : ∀ p, p ∈ pv' ++ os' → p.1 ∈ (pv ++ os).map (·.1) ∨ H p.1 = none) (nd : ((pv' ++ os').map (·.1)).Nodup) (c : Cells K (F.at pv' os') H' os' cs')
    (hpk : ∀ p, p ∈ pv' → p ∈ pv ∨ isT p.2 = false := by first | exact fun _ h => .inl h | exact fun _ h => .inl (List.mem_cons_of_mem _ h) | exact (fun p h => by cases h) | exact (fun p h => (List.mem_cons.mp h).elim (fun h => .inr (by rw [h]; rfl)) .inl)) :
    Stt K F pv' os' cs' H' := by
  refine ⟨r.ext.tr e, at_inv.mpr ⟨iw, iv⟩, fun p hp => ?_, nd, c, fun p hp => (hpk p hp).elim (r.pk p) id⟩
  rcases hk p hp with m | m
  · obtain ⟨q, hq, z⟩ := List.mem_map.mp m
    rw [← z]
    exact r.fr q hq
  · have hm : p.1 ∉ (F.at pv os).ms := fresh_out r.inv m
    refine ⟨fun z => hm (at_ms.mpr (.inr z)), ?_⟩
    cases q : (F.w.plus F.os0).v F.H0 p.1 with
    | none => rfl
    | some u =>
      have := (vis_some (r.ext p.1 u q)).2
      rw [m] at this; cases this
def oset : Os → Addr → HO → Os
  | [], _, _ => []
  | (q, e) :: os, p, o => if q = p then (q, o) :: os else (q, e) :: oset os p o
def cset : Cs → Addr → D → Cs
  | [], _, _ => []
  | (q, e) :: cs, p, d => if q = p then (q, d) :: cs else (q, e) :: cset cs p d
theorem oset_keys {p : Addr} {o : HO} : ∀ os : Os, (oset os p o).map (·.1) = os.map (·.1)
  | [] => rfl
  | (q, e) :: os => by
    unfold oset
    split
    · rfl
    · show q :: (oset os p o).map (·.1) = _
      rw [oset_keys os]; rfl
theorem oset_mem {p : Addr} {o : HO} : ∀ {os : Os} {q : Addr × HO}, (os.map (·.1)).Nodup → q ∈ oset os p o → q = (p, o) ∨ (q ∈ os ∧ q.1 ≠ p)
  | [], _, _, h => by cases h
  | (b, e) :: os, q, nd, h => by
    obtain ⟨n1, n2⟩ := List.nodup_cons.mp nd
    unfold oset at h
    split at h
    · rename_i z
      rcases List.mem_cons.mp h with y | y
      · rw [y, z]; exact .inl rfl
      · refine .inr ⟨List.mem_cons_of_mem _ y, fun x => n1 ?_⟩
        show b ∈ _
        rw [z, ← x]
        exact List.mem_map_of_mem y
    · rename_i z
      rcases List.mem_cons.mp h with y | y
      · rw [y]; exact .inr ⟨List.mem_cons_self, z⟩
      · rcases oset_mem n2 y with x | ⟨x1, x2⟩
        · exact .inl x
        · exact .inr ⟨List.mem_cons_of_mem _ x1, x2⟩
theorem Cells.set {w : Wd} {p : Addr} {o : HO} {d d0 : D} (h : RH K w H o d) : ∀ {os : Os} {cs : Cs}, Cells K w H os cs → cs.lookup p = some d0 → Cells K w H (oset os p o) (cset cs p d)
  | _, _, .nil, e => by cases e
  | _, _, .cons (a := b) (o := o') (d := d') (os := os) (cs := cs) r t, e => by
    unfold oset cset
    by_cases z : b = p
    · rw [if_pos z, if_pos z]
      exact .cons h t
    · rw [if_neg z, if_neg z]
      rw [List.lookup_cons] at e
      have hb : (p == b) = false := by simp; exact fun y => z y.symm
      rw [hb] at e
      exact .cons r (Cells.set h t e)
theorem rh_kind {w : Wd} {H : Hp} {o : HO} {d : D} (h : RH K w H o d) : isT o = false ∧ isE o = false := by
  cases o <;> first | exact ⟨rfl, rfl⟩ | exact h.elim
theorem keepE_upd {H : Hp} {p : Addr} {o0 o : HO} (h : H p = some o0) (t : isE o0 = false) : KeepE H (upd H p o) := fun a u q k => by
  by_cases z : a = p
  · rw [z, h] at q
    cases q
    rw [t] at k
    cases k
  · rw [upd_ne z]; exact q
/-- the cell at p holds something else now -/
theorem Rel.put (r : Rel K F gs pv os cs σ H Γ) {p : Addr} {o : HO} {d d0 : D} (hp : cs.lookup p = some d0) (h : RH K (F.at pv os) H o d) : Rel K F gs pv (oset os p o) (cset cs p d) σ (upd H p o) Γ := by
  obtain ⟨o0, hm, hrh⟩ := r.st.cel.get hp
  have hp0 : H p = some o0 := (at_inv.mp r.st.inv).2 (p, o0) (List.mem_append_right _ hm)
  have hms : p ∈ (F.at pv os).ms := at_ms.mpr (.inl (List.mem_map_of_mem (f := (·.1)) (List.mem_append_right _ hm)))
  have nd := r.st.nd
  have ks : (pv ++ oset os p o).map (·.1) = (pv ++ os).map (·.1) := by rw [List.map_append, List.map_append, oset_keys]
  have e : Ext ((F.at pv os).v H) ((F.at pv (oset os p o)).v (upd H p o)) := ext_of (fun a m => .inl (ks ▸ m)) fun a u m q => by
    have ne : a ≠ p := fun z => m (by rw [z]; exact hms)
    rw [upd_ne ne]; exact q
  have nd2 := nd
  rw [List.map_append, List.nodup_append] at nd2
  have npv : ∀ q, q ∈ pv → q.1 ≠ p := fun q hq z => nd2.2.2 q.1 (List.mem_map_of_mem hq) p (List.mem_map_of_mem (f := (·.1)) hm) z
  refine r.mv (r.st.to e (F.w.loc H _ (fun a ha => upd_ne fun z => ?_) (keepE_upd hp0 (rh_kind hrh).2) (at_inv.mp r.st.inv).1) (fun q hq => ?_) (fun q hq => .inl ?_) (ks ▸ nd) ((r.st.cel.mono (w := F.at pv os) (w' := F.at pv (oset os p o)) rfl e).set (RH.mono (w := F.at pv os) (w' := F.at pv (oset os p o)) rfl e h) hp)) e
  · exact (r.st.fr (p, o0) (List.mem_append_right _ hm)).1 (by rw [z] at ha; exact ha)
  · rcases List.mem_append.mp hq with m | m
    · rw [upd_ne (npv q m)]
      exact (at_inv.mp r.st.inv).2 q (List.mem_append_left _ m)
    · rcases oset_mem nd2.2.1 m with z | ⟨z1, z2⟩
      · rw [z]; exact upd_same
      · rw [upd_ne z2]
        exact (at_inv.mp r.st.inv).2 q (List.mem_append_right _ z1)
  · rw [← ks]
    exact List.mem_map_of_mem hq
/-- a private cell, new -/
theorem Rel.allocP (r : Rel K F gs pv os cs σ H Γ) {p : Addr} {o : HO} (hp : H p = none) (tt : isT o = false := by rfl) : Rel K F gs ((p, o) :: pv) os cs σ (upd H p o) Γ := by
  have hm : p ∉ (F.at pv os).ms := fresh_out r.st.inv hp
  have hk : ∀ q, q ∈ pv ++ os → q.1 ≠ p := fun q hq z => hm (at_ms.mpr (.inl (z ▸ List.mem_map_of_mem hq)))
  have e : Ext ((F.at pv os).v H) ((F.at ((p, o) :: pv) os).v (upd H p o)) := ext_of (fun a m => by
    rcases List.mem_cons.mp m with z | z
    · exact .inr (z ▸ hp)
    · exact .inl z) fun a u _ q => by rw [upd_ne (ne_of_none q hp)]; exact q
  refine r.mv (r.st.to e (Step.new (o := o) (at_inv.mp r.st.inv).1 hp).inv (fun q hq => ?_) (fun q hq => ?_) (List.nodup_cons.mpr ⟨fun z => ?_, r.st.nd⟩) (r.st.cel.mono (w := F.at pv os) (w' := F.at ((p, o) :: pv) os) rfl e) (fun q h => (List.mem_cons.mp h).elim (fun h => .inr (by rw [h]; exact tt)) .inl)) e
  · rcases List.mem_cons.mp hq with z | z
    · rw [z]; exact upd_same
    · rw [upd_ne (hk q z)]; exact (at_inv.mp r.st.inv).2 q z
  · rcases List.mem_cons.mp hq with z | z
    · rw [z]; exact .inr hp
    · exact .inl (List.mem_map_of_mem z)
  · obtain ⟨q, hq, z⟩ := List.mem_map.mp z
    exact hk q hq z
/-- the private cell changes -/
theorem Rel.putP {p : Addr} {o o' : HO} (r : Rel K F gs ((p, o) :: pv) os cs σ H Γ) (t : isE o = false := by rfl) (tt : isT o' = false := by rfl) : Ext ((F.at ((p, o) :: pv) os).v H) ((F.at ((p, o') :: pv) os).v (upd H p o')) ∧ Rel K F gs ((p, o') :: pv) os cs σ (upd H p o') Γ := by
  have hms : p ∈ (F.at ((p, o) :: pv) os).ms := at_ms.mpr (.inl List.mem_cons_self)
  obtain ⟨n1, n2⟩ := List.nodup_cons.mp r.st.nd
  have hk : ∀ q, q ∈ pv ++ os → q.1 ≠ p := fun q hq z => n1 (by
    have := List.mem_map_of_mem (f := fun x : Addr × HO => x.1) hq
    rw [← z]; exact this)
  have e : Ext ((F.at ((p, o) :: pv) os).v H) ((F.at ((p, o') :: pv) os).v (upd H p o')) := ext_of (fun a m => .inl m) fun a u m q => (upd_ne (fun z => m (by rw [z]; exact hms))).trans q
  refine ⟨e, r.mv (r.st.to e (F.w.loc H _ (fun a ha => upd_ne fun z => ?_) (keepE_upd ((at_inv.mp r.st.inv).2 (p, o) List.mem_cons_self) t) (at_inv.mp r.st.inv).1) (fun q hq => ?_) (fun q hq => .inl (List.mem_map_of_mem (f := (·.1)) hq)) r.st.nd (r.st.cel.mono (w := F.at ((p, o) :: pv) os) (w' := F.at ((p, o') :: pv) os) rfl e) (fun q h => (List.mem_cons.mp h).elim (fun h => .inr (by rw [h]; exact tt)) fun h => .inl (List.mem_cons_of_mem _ h))) e⟩
  · exact (r.st.fr (p, o) List.mem_cons_self).1 (by rw [z] at ha; exact ha)
  · rcases List.mem_cons.mp hq with z | z
    · rw [z]; exact upd_same
    · rw [upd_ne (hk q z)]; exact (at_inv.mp r.st.inv).2 q (List.mem_cons_of_mem _ z)
/-- the private cell is data from here on -/
theorem Rel.dropP {p : Addr} {o : HO} (r : Rel K F gs ((p, o) :: pv) os cs σ H Γ) (t : isT o = false := by rfl) : Ext ((F.at ((p, o) :: pv) os).v H) ((F.at pv os).v H) ∧ (F.at pv os).v H p = some o ∧ Rel K F gs pv os cs σ H Γ := by
  obtain ⟨n1, n2⟩ := List.nodup_cons.mp r.st.nd
  have e : Ext ((F.at ((p, o) :: pv) os).v H) ((F.at pv os).v H) := ext_of (fun a m => .inl (List.mem_cons_of_mem _ m)) fun a u _ q => q
  refine ⟨e, vis_of (fun m => ?_) ((at_inv.mp r.st.inv).2 (p, o) List.mem_cons_self) t, r.mv (r.st.to e (at_inv.mp r.st.inv).1 (fun q hq => (at_inv.mp r.st.inv).2 q (List.mem_cons_of_mem _ hq)) (fun q hq => .inl (List.mem_cons_of_mem _ (List.mem_map_of_mem (f := (·.1)) hq))) n2 (r.st.cel.mono (w := F.at ((p, o) :: pv) os) (w' := F.at pv os) rfl e)) e⟩
  rcases at_ms.mp m with z | z
  · exact n1 z
  · exact (r.st.fr (p, o) List.mem_cons_self).1 z
def odel : Os → Addr → Os
  | [], _ => []
  | (q, e) :: os, p => if q = p then os else (q, e) :: odel os p
def cdel : Cs → Addr → Cs
  | [], _ => []
  | (q, e) :: cs, p => if q = p then cs else (q, e) :: cdel cs p
theorem odel_sub {p : Addr} : ∀ {os : Os}, (odel os p).Sublist os
  | [] => .slnil
  | (q, e) :: os => by
    unfold odel
    split
    · exact List.sublist_cons_self _ _
    · exact .cons₂ _ odel_sub
theorem odel_out {p : Addr} : ∀ {os : Os}, (os.map (·.1)).Nodup → p ∉ (odel os p).map (·.1)
  | [], _ => by simp [odel]
  | (q, e) :: os, nd => by
    obtain ⟨n1, n2⟩ := List.nodup_cons.mp nd
    unfold odel
    split
    · rename_i z; rw [← z]; exact n1
    · rename_i z
      intro m
      rcases List.mem_cons.mp m with y | y
      · exact z y.symm
      · exact odel_out n2 y
theorem Cells.del {w : Wd} {p : Addr} : ∀ {os : Os} {cs : Cs}, Cells K w H os cs → Cells K w H (odel os p) (cdel cs p)
  | _, _, .nil => .nil
  | _, _, .cons (a := b) r t => by
    unfold odel cdel
    split
    · exact t
    · exact .cons r (Cells.del t)
/-- the cell at p is data from here on -/
theorem Rel.free (r : Rel K F gs pv os cs σ H Γ) {p : Addr} {d : D} (hp : cs.lookup p = some d) : ∃ o, RH K (F.at pv (odel os p)) H o d ∧ (F.at pv (odel os p)).v H p = some o ∧ Rel K F gs pv (odel os p) (cdel cs p) σ H Γ := by
  obtain ⟨o, hm, h⟩ := r.st.cel.get hp
  have nd := r.st.nd
  rw [List.map_append, List.nodup_append] at nd
  have sub : ∀ q, q ∈ pv ++ odel os p → q ∈ pv ++ os := fun q hq => by
    rcases List.mem_append.mp hq with m | m
    · exact List.mem_append_left _ m
    · exact List.mem_append_right _ (odel_sub.subset m)
  have e : Ext ((F.at pv os).v H) ((F.at pv (odel os p)).v H) := ext_of (fun a m => .inl (by
    obtain ⟨q, hq, z⟩ := List.mem_map.mp m
    exact z ▸ List.mem_map_of_mem (sub q hq))) fun a u _ q => q
  refine ⟨o, RH.mono (w := F.at pv os) (w' := F.at pv (odel os p)) rfl e h, vis_of (fun m => ?_) ((at_inv.mp r.st.inv).2 (p, o) (List.mem_append_right _ hm)) (rh_kind h).1, r.mv (r.st.to e (at_inv.mp r.st.inv).1 (fun q hq => (at_inv.mp r.st.inv).2 q (sub q hq)) (fun q hq => .inl (List.mem_map_of_mem (sub q hq))) ?_ ((r.st.cel.mono (w := F.at pv os) (w' := F.at pv (odel os p)) rfl e).del)) e⟩
  · rcases at_ms.mp m with z | z
    · rw [List.map_append] at z
      rcases List.mem_append.mp z with z | z
      · exact nd.2.2 p z p (List.mem_map_of_mem (f := (·.1)) hm) rfl
      · exact odel_out nd.2.1 z
    · exact (r.st.fr (p, o) (List.mem_append_right _ hm)).1 z
  · rw [List.map_append]
    refine List.nodup_append.mpr ⟨nd.1, (odel_sub.map _).nodup nd.2.1, fun a ha b hb => nd.2.2 a ha b ?_⟩
    exact (odel_sub.map _).subset hb
end
end Bd
/-! Bd7: targets, walks, comprehensions. -/
namespace Bd
open PySem L2
/-! ### targets -/
abbrev ATG := D → Gs → Cs → (Gs → Cs → Prop) → Prop
abbrev ATGs := List D → Gs → Cs → (Gs → Cs → Prop) → Prop
@[simp] abbrev gmN (i : Nat) : ATG := fun d Γ c P => P (Γ.set i (some d)) c
@[simp] abbrev gmNil : ATGs := fun ds Γ c P => match ds with
  | [] => P Γ c
  | _ => False
@[simp] abbrev gmCons (a : ATG) (b : ATGs) : ATGs := fun ds Γ c P => match ds with
  | d :: r => a d Γ c fun Γ' c' => b r Γ' c' P
  | [] => False
@[simp] abbrev gmT (n : Nat) (a : ATGs) : ATG := fun d Γ c P => match d with
  | .tup ds => ds.length = n ∧ a ds Γ c P
  | _ => False
/-- x[i] = .., where x is a cell that holds a list -/
@[simp] abbrev gmSub (o i : ATE) : ATG := fun d Γ c P => o Γ c fun x c1 => i Γ c1 fun y c2 => match x, y with
  | .adr p, .int k => match c2.lookup p with
    | some (.lst ds) => match ixN ds.length k with
      | some j => P Γ (cset c2 p (.lst (ds.set j d)))
      | none => False
    | _ => False
  | _, _ => False
def Kept (js : List Nat) (σ σ' : St) : Prop := ∀ vs : List Nat, (∀ j ∈ js, j ∈ vs) → wipe σ' vs = wipe σ vs
def SndG (K : PySem.W.Frag) (F : Fr) (js : List Nat) (g : TG) (a : ATG) : Prop := ∀ (gs : List (V × D)) (pv os : Os) (cs : Cs) (σ : St) (H : Hp) (Γ : Gs) (v : V) (d : D) (P : Gs → Cs → Prop) (Q : St → Hp → Prop), Rel K F ((v, d) :: gs) pv os cs σ H Γ → a d Γ cs P →
  (∀ σ' H' os' cs' Γ', Rel K F gs pv os' cs' σ' H' Γ' → Kept js σ σ' → P Γ' cs' → Q σ' H') → g v σ H Q
def SndGs (K : PySem.W.Frag) (F : Fr) (js : List Nat) (g : TGs) (a : ATGs) : Prop := ∀ (gs : List (V × D)) (pv os : Os) (cs : Cs) (σ : St) (H : Hp) (Γ : Gs) (vs : List V) (ds : List D) (P : Gs → Cs → Prop) (Q : St → Hp → Prop), vs.length = ds.length → Rel K F (vs.zip ds ++ gs) pv os cs σ H Γ → a ds Γ cs P →
  (∀ σ' H' os' cs' Γ', Rel K F gs pv os' cs' σ' H' Γ' → Kept js σ σ' → P Γ' cs' → Q σ' H') → g vs σ H Q
theorem wipe_get {σ : St} : ∀ {vs : List Nat} (i : Nat), (wipe σ vs)[i]? = if i ∈ vs ∧ i < σ.length then some none else σ[i]?
  | [], i => by simp [wipe]
  | v :: vs, i => by
    unfold wipe
    by_cases h : v = i
    · subst h
      by_cases hl : v < σ.length
      · rw [List.getElem?_set_self (by rw [wipe_length]; exact hl), if_pos ⟨List.mem_cons_self, hl⟩]
      · rw [if_neg (fun z => hl z.2), List.getElem?_eq_none (by rw [List.length_set, wipe_length]; omega), List.getElem?_eq_none (by omega)]
    · rw [List.getElem?_set_ne h, wipe_get i]
      have e : (i ∈ v :: vs) ↔ i ∈ vs := by
        rw [List.mem_cons]
        exact ⟨fun z => z.elim (fun q => absurd q.symm h) (fun q => q), .inr⟩
      simp only [e]
theorem wipe_set {σ : St} {vs : List Nat} {j : Nat} {x : Option V} (h : j ∈ vs) : wipe (σ.set j x) vs = wipe σ vs := by
  apply List.ext_getElem?
  intro i
  rw [wipe_get, wipe_get, List.length_set]
  by_cases e : i ∈ vs ∧ i < σ.length
  · rw [if_pos e, if_pos e]
  · rw [if_neg e, if_neg e]
    by_cases q : j = i
    · subst q
      have hl : ¬ j < σ.length := fun z => e ⟨h, z⟩
      rw [List.getElem?_eq_none (by rw [List.length_set]; omega), List.getElem?_eq_none (by omega)]
    · rw [List.getElem?_set_ne q]
theorem wipe_idem {σ : St} {vs : List Nat} : wipe (wipe σ vs) vs = wipe σ vs := by
  apply List.ext_getElem?
  intro i
  rw [wipe_get, wipe_get, wipe_length]
  by_cases e : i ∈ vs ∧ i < σ.length
  · rw [if_pos e, if_pos e]
  · rw [if_neg e]
def wipeG (Γ : Gs) : List Nat → Gs
  | [] => Γ
  | v :: vs => (wipeG Γ vs).set v none
theorem wipeG_length {Γ : Gs} : ∀ vs : List Nat, (wipeG Γ vs).length = Γ.length
  | [] => rfl
  | v :: vs => by unfold wipeG; rw [List.length_set, wipeG_length vs]
theorem wipeG_get {Γ : Gs} : ∀ {vs : List Nat} (i : Nat), (wipeG Γ vs)[i]? = if i ∈ vs ∧ i < Γ.length then some none else Γ[i]?
  | [], i => by simp [wipeG]
  | v :: vs, i => by
    unfold wipeG
    by_cases h : v = i
    · subst h
      by_cases hl : v < Γ.length
      · rw [List.getElem?_set_self (by rw [wipeG_length]; exact hl), if_pos ⟨List.mem_cons_self, hl⟩]
      · rw [if_neg (fun z => hl z.2), List.getElem?_eq_none (by rw [List.length_set, wipeG_length]; omega), List.getElem?_eq_none (by omega)]
    · rw [List.getElem?_set_ne h, wipeG_get i]
      have e : (i ∈ v :: vs) ↔ i ∈ vs := by
        rw [List.mem_cons]
        exact ⟨fun z => z.elim (fun q => absurd q.symm h) (fun q => q), .inr⟩
      simp only [e]
section
variable {K : PySem.W.Frag} {F : Fr} {gs gs2 : List (V × D)} {pv pv' os os' : Os} {cs cs' : Cs} {σ σ1 σ2 : St} {H H' : Hp} {Γ : Gs}
theorem Rel.set (r : Rel K F gs pv os cs σ H Γ) {i : Nat} {v : V} {d : D} (h : R K (F.at pv os) H v d) : Rel K F gs pv os cs (σ.set i (some v)) H (Γ.set i (some d)) := by
  refine ⟨r.st, by rw [List.length_set, List.length_set, r.len], fun j g e => ?_, r.gh⟩
  by_cases q : i = j
  · subst q
    have hl : i < Γ.length := by
      by_cases z : i < Γ.length
      · exact z
      · rw [List.getElem?_eq_none (by rw [List.length_set]; omega)] at e; cases e
    rw [List.getElem?_set_self hl] at e
    cases e
    exact ⟨v, by rw [List.getElem?_set_self (by rw [r.len]; exact hl)], h⟩
  · rw [List.getElem?_set_ne q] at e ⊢
    exact r.at_ j g e
theorem Rel.wipe (r : Rel K F gs pv os cs σ H Γ) (vs : List Nat) : Rel K F gs pv os cs (wipe σ vs) H (wipeG Γ vs) := by
  refine ⟨r.st, by rw [wipe_length, wipeG_length, r.len], fun j g e => ?_, r.gh⟩
  rw [wipeG_get] at e
  rw [wipe_get]
  by_cases q : j ∈ vs ∧ j < Γ.length
  · rw [if_pos q] at e
    cases e
  · rw [if_neg q] at e
    rw [if_neg (by rw [r.len]; exact q)]
    exact r.at_ j g e
def slotsOf (σ : St) (Γ : Gs) : List (V × D) := (σ.zip Γ).filterMap fun q => match q with
  | (some v, some d) => some (v, d)
  | _ => none
theorem mem_slots {σ : St} {Γ : Gs} {i : Nat} {v : V} {d : D} (h1 : σ[i]? = some (some v)) (h2 : Γ[i]? = some (some d)) : (v, d) ∈ slotsOf σ Γ := by
  refine List.mem_filterMap.mpr ⟨(some v, some d), ?_, rfl⟩
  refine List.mem_iff_getElem?.mpr ⟨i, ?_⟩
  rw [List.getElem?_zip_eq_some]
  exact ⟨h1, h2⟩
theorem of_slots : ∀ {σ : St} {Γ : Gs} {p : V × D}, p ∈ slotsOf σ Γ → ∃ i : Nat, σ[i]? = some (some p.1) ∧ Γ[i]? = some (some p.2) := by
  intro σ Γ p hp
  obtain ⟨q, h1, h2⟩ := List.mem_filterMap.mp hp
  obtain ⟨i, h3⟩ := List.mem_iff_getElem?.mp h1
  rw [List.getElem?_zip_eq_some] at h3
  obtain ⟨a, b⟩ := q
  cases a <;> cases b <;> cases h2
  exact ⟨i, h3⟩
/-- the slots' data among the ghosts -/
theorem Rel.ghost (r : Rel K F gs pv os cs σ H Γ) : Rel K F (slotsOf σ Γ ++ gs) pv os cs σ H Γ := ⟨r.st, r.len, r.at_, fun p hp => by
  rcases List.mem_append.mp hp with m | m
  · obtain ⟨i, h1, h2⟩ := of_slots m
    obtain ⟨v, h3, h4⟩ := r.at_ i _ h2
    rw [h1] at h3
    cases h3
    exact h4
  · exact r.gh p m⟩
/-- the slots again, as their data are ghosts -/
theorem Rel.back (r : Rel K F gs pv os cs σ H Γ) {σ2 : St} {Γ2 : Gs} (r2 : Rel K F (slotsOf σ Γ ++ gs) pv' os' cs' σ2 H' Γ2) : Rel K F gs pv' os' cs' σ H' Γ :=
  ⟨r2.st, r.len, fun i d e => by
    obtain ⟨v, h1, _⟩ := r.at_ i d e
    exact ⟨v, h1, r2.gh (v, d) (List.mem_append_left _ (mem_slots h1 e))⟩, fun p hp => r2.gh p (List.mem_append_right _ hp)⟩
theorem kept_refl : Kept [] σ σ := fun _ _ => rfl
theorem Kept.trans {js ks : List Nat} (a : Kept js σ σ1) (b : Kept ks σ1 σ2) : Kept (js ++ ks) σ σ2 :=
  fun vs h => (b vs fun j hj => h j (List.mem_append_right _ hj)).trans (a vs fun j hj => h j (List.mem_append_left _ hj))
theorem snd_gName (i : Nat) : SndG K F [i] (gName i) (gmN i) := fun gs pv os cs σ H Γ v d P Q r ha hq => hq _ H os cs _ (r.tail.set r.head) (fun vs h => wipe_set (h i (by simp))) ha
theorem snd_gNil : SndGs K F [] gNil gmNil := by
  intro gs pv os cs σ H Γ vs ds P Q hl r ha hq
  cases ds with
  | nil =>
    have : vs = [] := List.length_eq_zero_iff.mp hl
    subst this
    exact ⟨rfl, hq σ H os cs Γ r kept_refl ha⟩
  | cons _ _ => exact False.elim ha
theorem snd_gCons {js ks : List Nat} {g : TG} {gs' : TGs} {a : ATG} {b : ATGs} (h1 : SndG K F js g a) (h2 : SndGs K F ks gs' b) : SndGs K F (js ++ ks) (gCons g gs') (gmCons a b) := by
  intro gs pv os cs σ H Γ vs ds P Q hl r ha hq
  cases ds with
  | nil => exact False.elim ha
  | cons d rd =>
    cases vs with
    | nil => cases hl
    | cons v rv =>
      refine ⟨v, rv, rfl, ?_⟩
      refine h1 (rv.zip rd ++ gs) pv os cs σ H Γ v d _ _ r ha fun σ1 H1 os1 c1 Γ1 r1 k1 p1 => ?_
      exact h2 gs pv os1 c1 σ1 H1 Γ1 rv rd P Q (by simpa using hl) r1 p1 fun σ2 H2 os2 c2 Γ2 r2 k2 p2 => hq σ2 H2 os2 c2 Γ2 r2 (k1.trans k2) p2
theorem ra_ghost {w : Wd} : ∀ {vs : List V} {ds : List D}, RA K w H vs ds → ∀ p, p ∈ vs.zip ds → R K w H p.1 p.2
  | _, _, .nil, p, hp => by cases hp
  | _, _, .cons r t, p, hp => by
    rcases List.mem_cons.mp hp with e | hp
    · rw [e]; exact r
    · exact ra_ghost t p hp
theorem Rel.gapp (r : Rel K F gs pv os cs σ H Γ) {vs : List V} {ds : List D} (h : RA K (F.at pv os) H vs ds) : Rel K F (vs.zip ds ++ gs) pv os cs σ H Γ := ⟨r.st, r.len, r.at_, fun p hp => (List.mem_append.mp hp).elim (ra_ghost h p) (r.gh p)⟩
theorem snd_gTup {js : List Nat} {n : Nat} {gs' : TGs} {a : ATGs} (h : SndGs K F js gs' a) : SndG K F js (gTup K n gs') (gmT n a) := by
  intro gs pv os cs σ H Γ v d P Q r ha hq
  cases d with
  | tup ds =>
    have rh := r.head
    cases rh with
    | tup hx rx => exact ⟨_, _, rfl, tup_sq hx, by rw [rx.length]; exact ha.1, h gs pv os cs σ H Γ _ _ P Q rx.length (r.tail.gapp rx) ha.2 hq⟩
  | _ => exact False.elim ha
theorem snd_gSub {to ti : TE} {o i : ATE} (h1 : SndE K F to o) (h2 : SndE K F ti i) : SndG K F [] (gSub to ti rSetL) (gmSub o i) := by
  intro gs pv os cs σ H Γ v d P Q r ha hq
  refine h1 _ pv os cs σ H Γ _ _ r ha fun x H1 dx os1 c1 r1 p1 => ?_
  refine h2 _ pv os1 c1 σ H1 Γ _ _ r1 p1 fun y H2 dy os2 c2 r2 p2 => ?_
  split at p2
  · rename_i p k
    split at p2
    · rename_i ds e
      split at p2
      · rename_i j ej
        cases r_adr r2.tail.head
        cases r_int r2.head
        obtain ⟨o0, hm, ho⟩ := r2.st.cel.get e
        cases o0 with
        | lst xs =>
          have ho : RA K (F.at pv os2) H2 xs ds := ho
          refine ⟨p, xs, k, j, rfl, rfl, (at_inv.mp r2.st.inv).2 (p, .lst xs) (List.mem_append_right _ hm), by rw [ho.length]; exact ej, ?_⟩
          have rv := r2.tail.tail.head
          exact hq σ _ _ _ Γ (r2.tail.tail.tail.put (o := .lst (xs.set j v)) (d := .lst (ds.set j d)) e (RwA.set rv j ho)) kept_refl p2
        | _ => exact ho.elim
      · exact p2.elim
    · exact p2.elim
  · exact p2.elim
end
/-! ### what is walked -/
def WalkA (K : PySem.W.Frag) (J : It) (gs : List (V × D)) (ds : List D) : Prop := ∀ (w : Wd) (H : Hp), w.I H → (∀ p ∈ gs, R K w H p.1 p.2) →
  (∀ i, i < ds.length → J.go i H) ∧ J.stop ds.length H ∧ ∀ i x H', i < ds.length → J.yld i H x H' → Step w H H' ∧ ∃ d, ds[i]? = some d ∧ R K w H' x d
/-- the items of a list, a tuple, a text -/
def itemsD : D → Option (List D)
  | .lst ds => some ds
  | .tup ds => some ds
  | .str z => some (z.cps.toList.map fun c => .str ⟨#[c]⟩)
  | .ktu ds => some ds
  | _ => none
def zipD (xs ys : List D) : List D := List.zipWith (fun x y => .tup [x, y]) xs ys
def iAny (K : PySem.W.Frag) (te : TE) : TI := fun σ H R => te σ H fun x H1 => (∃ a, x = .ref a ∧ (∃ xs, SqL K H1 a xs) ∧ R (Itl K a) H1) ∨ (∃ a, x = .ref a ∧ (∃ xs, SqT K H1 a xs) ∧ R (Itt K a) H1) ∨ ∃ z, x = .str z ∧ R (Its z) H1
theorem pi_any {X : Cx} {tg l : Expr} {tl : TE} (hl : PE X l tl) : PI X tg l (iAny X.K tl) := by
  refine ⟨fun pins s σ H R I h => ?_⟩
  refine thn (hl.run pins s σ H _ I h) fun v s1 ⟨x, H1, I1, r1, q1⟩ => ?_
  rcases q1 with ⟨a, rfl, ⟨xs, hq⟩, q⟩ | ⟨a, rfl, ⟨xs, hq⟩, q⟩ | ⟨z, rfl, q⟩
  · cases r1
    obtain ⟨its, rv, p, hz⟩ := I1.list hq
    refine wpAny_pyIter_list p.isList ?_
    refine ⟨s1.heap.objs.size, [s1.heap.objs.size], _, _, H1, rfl, I1.kept (t' := s1.toks) fun b o e => Heap.get?_push_of_some _ e, turn_list a _, ⟨_, Heap.get?_push_size _ rfl, rfl, rfl⟩, fun b hb => ?_, q⟩
    have e : b = s1.heap.objs.size := by simpa using hb
    subst e
    exact I1.fpOk (Nat.le_refl _) (I1.hok.fresh (Nat.le_refl _))
  · cases r1
    obtain ⟨its, rv, p, hz⟩ := I1.tuple hq
    refine wpAny_pyIter_tuple (show s1.heap.IsTuple a its.toArray from p) ?_
    refine ⟨s1.heap.objs.size, [s1.heap.objs.size], _, _, H1, rfl, I1.kept (t' := s1.toks) fun b o e => Heap.get?_push_of_some _ e, turn_tuple a _, ⟨_, Heap.get?_push_size _ rfl, rfl, rfl⟩, fun b hb => ?_, q⟩
    have e : b = s1.heap.objs.size := by simpa using hb
    subst e
    exact I1.fpOk (Nat.le_refl _) (I1.hok.fresh (Nat.le_refl _))
  · obtain ⟨t, rfl⟩ := r1
    cases ha : z.cps.all (· < 128)
    · exact wpAny_pyIter_wide ha (pi_one (tk := s1.toks) I1 _ (turn_str _ z t "str_iterator" (.inr rfl)) ⟨_, Heap.get?_push_size _ rfl, rfl, rfl⟩ q)
    · exact wpAny_pyIter_ascii ha (pi_one (tk := s1.toks) I1 _ (turn_str _ z t "str_ascii_iterator" (.inl rfl)) ⟨_, Heap.get?_push_size _ rfl, rfl, rfl⟩ q)
theorem rd_inj {K : PySem.W.Frag} {w : Wd} {H : Hp} {a : Addr} {ds : List D} (h : R K w H (.ref a) (.lst ds)) : ∃ xs, H a = some (.lst xs) ∧ RA K w H xs ds := by
  cases h with
  | lst hx rx => exact ⟨_, (vis_some hx).2, rx⟩
theorem rt_inj {K : PySem.W.Frag} {w : Wd} {H : Hp} {a : Addr} {ds : List D} (h : R K w H (.ref a) (.tup ds)) : ∃ xs, SqT K H a xs ∧ RA K w H xs ds := by
  cases h with
  | tup hx rx => exact ⟨_, tup_sq hx, rx⟩
section
variable {K : PySem.W.Frag}
theorem walkA_list {a : Addr} {ds : List D} : WalkA K (Itl K a) [(.ref a, .lst ds)] ds := by
  intro w H hI hg
  obtain ⟨xs, hx, rx⟩ := rd_inj (hg (V.ref a, D.lst ds) (by simp))
  have hl := rx.length
  refine ⟨fun i hi => ⟨xs, xs[i]'(by omega), SqL.of hx, by simp [hl, hi]⟩, ⟨xs, SqL.of hx, by omega⟩, fun i x H' hi y => ?_⟩
  obtain ⟨rfl, y⟩ := y
  obtain ⟨d, h1, h2⟩ := rx.get (y xs (SqL.of hx))
  exact ⟨Step.refl hI, d, h1, h2⟩
theorem walkA_tup {a : Addr} {ds : List D} : WalkA K (Itt K a) [(.ref a, .tup ds)] ds := by
  intro w H hI hg
  obtain ⟨xs, hx, rx⟩ := rt_inj (hg (V.ref a, D.tup ds) (by simp))
  have hl := rx.length
  refine ⟨fun i hi => ⟨xs, xs[i]'(by omega), hx, by simp [hl, hi]⟩, ⟨xs, hx, by omega⟩, fun i x H' hi y => ?_⟩
  obtain ⟨rfl, y⟩ := y
  obtain ⟨d, h1, h2⟩ := rx.get (y xs hx)
  exact ⟨Step.refl hI, d, h1, h2⟩
theorem walkA_ktu {a : Addr} {ds : List D} : WalkA K (Itt K a) [(.ref a, .ktu ds)] ds := by
  intro w H hI hg
  have rr := hg (V.ref a, D.ktu ds) (by simp)
  cases rr with
  | @ktu _ xs _ hk rx =>
    have hx := hk H
    have hl := rx.length
    refine ⟨fun i hi => ⟨xs, xs[i]'(by omega), hx, by simp [hl, hi]⟩, ⟨xs, hx, by omega⟩, fun i x H' hi y => ?_⟩
    obtain ⟨rfl, y⟩ := y
    obtain ⟨d, h1, h2⟩ := rx.get (y xs hx)
    exact ⟨Step.refl hI, d, h1, h2⟩
theorem walkA_str {z : Str} : WalkA K (Its z) [] (z.cps.toList.map fun c => .str ⟨#[c]⟩) := by
  intro w H hI _
  have hl : (z.cps.toList.map fun c => D.str ⟨#[c]⟩).length = z.cps.size := by simp
  refine ⟨fun i hi => by rw [hl] at hi; exact hi, by rw [hl]; exact Nat.le_refl z.cps.size, fun i x H' hi y => ?_⟩
  obtain ⟨rfl, c, hc, rfl⟩ := y
  refine ⟨Step.refl hI, .str ⟨#[c]⟩, ?_, .str _⟩
  rw [List.getElem?_map, Array.getElem?_toList, hc]
  rfl
theorem walkA_rng {lo : Int} {n : Nat} : WalkA K (Itr lo n) [] ((List.range n).map fun (i : Nat) => .int (lo + (i : Int))) := by
  intro w H hI _
  have hl : ((List.range n).map fun (i : Nat) => D.int (lo + (i : Int))).length = n := by simp
  refine ⟨fun i hi => by rw [hl] at hi; exact hi, by rw [hl]; exact Nat.le_refl n, fun i x H' hi y => ?_⟩
  obtain ⟨rfl, rfl⟩ := y
  rw [hl] at hi
  refine ⟨Step.refl hI, .int (lo + (i : Int)), ?_, .int _⟩
  rw [List.getElem?_map, List.getElem?_range hi]
  rfl
theorem zip_get {xs ys : List D} {i : Nat} {x y : D} (h1 : xs[i]? = some x) (h2 : ys[i]? = some y) : (zipD xs ys)[i]? = some (.tup [x, y]) := by
  unfold zipD
  rw [List.getElem?_zipWith, h1, h2]
theorem zip_len (xs ys : List D) : (zipD xs ys).length = min xs.length ys.length := by unfold zipD; rw [List.length_zipWith]
theorem pair_new {w : Wd} {H : Hp} {T : Addr} {x y : V} {dx dy : D} (hI : w.I H) (hT : H T = none) (rx : R K w H x dx) (ry : R K w H y dy) : Step w H (upd H T (.tup [x, y])) ∧ R K w (upd H T (.tup [x, y])) (.ref T) (.tup [dx, dy]) :=
  new_tup hI hT (.cons rx (.cons ry .nil))
theorem walkA_zipL {a b : Addr} {ds es : List D} : WalkA K (Itz K a b) [(.ref a, .lst ds), (.ref b, .lst es)] (zipD ds es) := by
  intro w H hI hg
  obtain ⟨xs, hx, rx⟩ := rd_inj (hg (V.ref a, D.lst ds) (by simp))
  obtain ⟨ys, hy, ry⟩ := rd_inj (hg (V.ref b, D.lst es) (by simp))
  have hl := rx.length
  have hl2 := ry.length
  rw [zip_len]
  refine ⟨fun i hi => ⟨xs, ys, xs[i]'(by omega), ys[i]'(by omega), SqL.of hx, SqL.of hy, by simp [show i < xs.length by omega], by simp [show i < ys.length by omega]⟩, ⟨xs, ys, SqL.of hx, SqL.of hy, by omega⟩, fun i x H' hi y => ?_⟩
  obtain ⟨T, u, v, rfl, hT, rfl, h1, h2⟩ := y
  obtain ⟨d, a1, a2⟩ := rx.get (h1 xs (SqL.of hx))
  obtain ⟨e, b1, b2⟩ := ry.get (h2 ys (SqL.of hy))
  obtain ⟨s, r⟩ := pair_new (K := K) (w := w) hI hT a2 b2
  exact ⟨s, _, zip_get a1 b1, r⟩
theorem walkA_zipT {a b : Addr} {ds es : List D} : WalkA K (RZ.ItzT K a b) [(.ref a, .tup ds), (.ref b, .tup es)] (zipD ds es) := by
  intro w H hI hg
  obtain ⟨xs, hx, rx⟩ := rt_inj (hg (V.ref a, D.tup ds) (by simp))
  obtain ⟨ys, hy, ry⟩ := rt_inj (hg (V.ref b, D.tup es) (by simp))
  have hl := rx.length
  have hl2 := ry.length
  rw [zip_len]
  refine ⟨fun i hi => ⟨xs, ys, xs[i]'(by omega), ys[i]'(by omega), hx, hy, by simp [show i < xs.length by omega], by simp [show i < ys.length by omega]⟩, ⟨xs, ys, hx, hy, by omega⟩, fun i x H' hi y => ?_⟩
  obtain ⟨T, u, v, rfl, hT, rfl, h1, h2⟩ := y
  obtain ⟨d, a1, a2⟩ := rx.get (h1 xs hx)
  obtain ⟨e, b1, b2⟩ := ry.get (h2 ys hy)
  obtain ⟨s, r⟩ := pair_new (K := K) (w := w) hI hT a2 b2
  exact ⟨s, _, zip_get a1 b1, r⟩
end
def SndI (K : PySem.W.Frag) (F : Fr) (t : TI) (a : ATA) : Prop := ∀ (gs : List (V × D)) (pv os : Os) (cs : Cs) (σ : St) (H : Hp) (Γ : Gs) (P : List D → Cs → Prop) (Q : It → Hp → Prop), Rel K F gs pv os cs σ H Γ → a Γ cs P →
  (∀ J H' gs2 ds os' cs', Rel K F (gs2 ++ gs) pv os' cs' σ H' Γ → WalkA K J gs2 ds → P ds cs' → Q J H') → t σ H Q
structure JI (X : Cx) (F : Fr) (tg e : Expr) (t : TI) (a : ATA) : Prop where
  p : PI X tg e t
  s : SndI X.K F t a
def aItems (a : ATE) : ATA := fun Γ c P => a Γ c fun x c1 => match itemsD x with
  | some ds => P ds c1
  | none => False
def aRng1 (a : ATA) : ATA := fun Γ c P => a Γ c fun xs c1 => match xs with
  | [.int n] => (-1000000 ≤ n ∧ n ≤ 1000000) ∧ P ((List.range n.toNat).map fun (i : Nat) => .int (i : Int)) c1
  | _ => False
def aRng2 (a : ATA) : ATA := fun Γ c P => a Γ c fun xs c1 => match xs with
  | [.int m, .int n] => (-1000000 ≤ m ∧ m ≤ 1000000 ∧ -1000000 ≤ n ∧ n ≤ 1000000) ∧ P ((List.range (n - m).toNat).map fun (i : Nat) => .int (m + (i : Int))) c1
  | _ => False
def aZip (a : ATA) : ATA := fun Γ c P => a Γ c fun xs c1 => match xs with
  | [.lst ds, .lst es] => P (zipD ds es) c1
  | [.tup ds, .tup es] => P (zipD ds es) c1
  | _ => False
section
variable {K : PySem.W.Frag} {F : Fr}
theorem snd_any {t : TE} {a : ATE} (h : SndE K F t a) : SndI K F (iAny K t) (aItems a) := by
  intro gs pv os cs σ H Γ P Q r ha hq
  refine h gs pv os cs σ H Γ _ _ r ha fun v H1 d os1 c1 r1 p1 => ?_
  have rh := r1.head
  cases d with
  | lst ds =>
    cases rh with
    | lst hx rx => exact .inl ⟨_, rfl, ⟨_, SqL.of (vis_some hx).2⟩, hq _ H1 [_] _ os1 c1 r1 walkA_list p1⟩
  | tup ds =>
    cases rh with
    | tup hx rx => exact .inr (.inl ⟨_, rfl, ⟨_, tup_sq hx⟩, hq _ H1 [_] _ os1 c1 r1 walkA_tup p1⟩)
  | ktu ds =>
    cases rh with
    | ktu hx rx => exact .inr (.inl ⟨_, rfl, ⟨_, hx H1⟩, hq _ H1 [_] _ os1 c1 r1 walkA_ktu p1⟩)
  | str z =>
    cases rh
    exact .inr (.inr ⟨z, rfl, hq _ H1 [] _ os1 c1 r1.tail walkA_str p1⟩)
  | _ => exact False.elim p1
theorem snd_rng1 {t : TA} {a : ATA} (h : SndA K F t a) : SndI K F (iRng1 t) (aRng1 a) := by
  intro gs pv os cs σ H Γ P Q r ha hq
  refine h gs pv os cs σ H Γ _ _ r ha fun vs H1 ds os1 c1 rr r1 p1 => ?_
  split at p1
  · rename_i n
    cases r1 with
    | cons r1 r2 =>
      cases r2
      cases r1
      obtain ⟨hb, p1⟩ := p1
      refine ⟨n, rfl, by omega, by omega, hq _ H1 [] _ os1 c1 rr walkA_rng ?_⟩
      have e : (fun (i : Nat) => D.int (0 + (i : Int))) = fun (i : Nat) => D.int (i : Int) := by funext i; rw [Int.zero_add]
      rw [e]
      exact p1
  · exact p1.elim
theorem snd_rng2 {t : TA} {a : ATA} (h : SndA K F t a) : SndI K F (iRng2 t) (aRng2 a) := by
  intro gs pv os cs σ H Γ P Q r ha hq
  refine h gs pv os cs σ H Γ _ _ r ha fun vs H1 ds os1 c1 rr r1 p1 => ?_
  split at p1
  · rename_i m n
    cases r1 with
    | cons r1 r2 =>
      cases r2 with
      | cons r2 r3 =>
        cases r3
        cases r1
        cases r2
        obtain ⟨hb, p1⟩ := p1
        exact ⟨m, n, rfl, by omega, hq _ H1 [] _ os1 c1 rr walkA_rng p1⟩
  · exact p1.elim
theorem snd_zip {t : TA} {a : ATA} (h : SndA K F t a) : SndI K F (RZ.iZipA K t) (aZip a) := by
  intro gs pv os cs σ H Γ P Q r ha hq
  refine h gs pv os cs σ H Γ _ _ r ha fun vs H1 ds os1 c1 rr r1 p1 => ?_
  split at p1
  · cases r1 with
    | cons r1 r2 =>
      cases r2 with
      | cons r2 r3 =>
        cases r3
        cases id r1 with
        | lst hx rx =>
          cases id r2 with
          | lst hy ry => exact ⟨_, _, _, _, rfl, .inl ⟨SqL.of (vis_some hx).2, SqL.of (vis_some hy).2, hq _ H1 [_, _] _ os1 c1 ((rr.gcons r2).gcons r1) walkA_zipL p1⟩⟩
  · cases r1 with
    | cons r1 r2 =>
      cases r2 with
      | cons r2 r3 =>
        cases r3
        cases id r1 with
        | tup hx rx =>
          cases id r2 with
          | tup hy ry => exact ⟨_, _, _, _, rfl, .inr ⟨tup_sq hx, tup_sq hy, hq _ H1 [_, _] _ os1 c1 ((rr.gcons r2).gcons r1) walkA_zipT p1⟩⟩
  · exact p1.elim
/-! ### comprehensions -/
def goA (body : D → List D → Cs → (List D → Cs → Prop) → Prop) : List D → List D → Cs → (List D → Cs → Prop) → Prop
  | [], acc, c, P => P acc c
  | d :: ds, acc, c, P => body d acc c fun acc' c' => goA body ds acc' c' P
abbrev lcB (g : ATG) (tt : ATT) (te : ATE) (Γ : Gs) : D → List D → Cs → (List D → Cs → Prop) → Prop := fun d acc c k => g d Γ c fun Γ2 c1 => tt Γ2 c1 fun b c2 => if b = true then te Γ2 c2 fun y c3 => k (acc ++ [y]) c3 else k acc c2
/-- the list of a comprehension, as data -/
def aLc (ai : ATA) (g : ATG) (tt : ATT) (te : ATE) (vs : List Nat) : ATE := fun Γ c P => ai Γ c fun ds c1 => ds.length ≤ 1000000 ∧ goA (lcB g tt te (wipeG Γ vs)) ds [] c1 fun acc c2 => P (.lst acc) c2
@[simp] abbrev aYes : ATT := fun _ c P => P true c
theorem snd_yes : SndT K F tYes aYes := fun gs pv os cs σ H Γ P Q r ha hq => hq true H os cs r ha
theorem snd_lc {js vs : List Nat} {wi : TI} {ai : ATA} {g : TG} {ag : ATG} {tt : TT} {at' : ATT} {te : TE} {ae : ATE} (hi : SndI K F wi ai) (hg : SndG K F js g ag) (hjs : ∀ j ∈ js, j ∈ vs) (ht : SndT K F tt at') (he : SndE K F te ae) :
    SndE K F (tLc wi g tt te vs) (aLc ai ag at' ae vs) := by
  intro gs pv os cs σ H Γ P Q r ha hq
  refine hi gs pv os cs σ H Γ _ _ r ha fun J H1 gs2 ds os1 c1 r1 wk ⟨hz, p1⟩ => fun Dl hD => ?_
  have r0 := r1.allocP (o := .lst []) hD
  refine ⟨fun i m Hc => m = ds.length - i ∧ i ≤ ds.length ∧ ∃ (xs : List V) (acc : List D) (os' : Os) (c' : Cs), acc.length ≤ i ∧ Rel K F (gs2 ++ gs) ((Dl, .lst xs) :: pv) os' c' σ Hc Γ ∧ RA K (F.at ((Dl, .lst xs) :: pv) os') Hc xs acc ∧
    goA (lcB ag at' ae (wipeG Γ vs)) (ds.drop i) acc c' fun acc c2 => P (.lst acc) c2, ⟨_, rfl, Nat.zero_le _, [], [], os1, c1, Nat.le_refl _, r0, .nil, by rw [List.drop_zero]; exact p1⟩, ?_⟩
  rintro i m Hc ⟨rfl, hil, xs, acc, os', c', hl, rc, ra, go⟩
  obtain ⟨g1, g2, g3⟩ := wk (F.at ((Dl, .lst xs) :: pv) os') Hc rc.st.inv fun p hp => rc.gh p (List.mem_append_left _ hp)
  by_cases hlt : i < ds.length
  · refine .inr ⟨g1 i hlt, fun Hn => ∃ (xs : List V) (acc : List D) (os' : Os) (c' : Cs), acc.length ≤ i + 1 ∧ Rel K F (gs2 ++ gs) ((Dl, .lst xs) :: pv) os' c' σ Hn Γ ∧ RA K (F.at ((Dl, .lst xs) :: pv) os') Hn xs acc ∧
      goA (lcB ag at' ae (wipeG Γ vs)) (ds.drop (i + 1)) acc c' fun acc c2 => P (.lst acc) c2, fun Hn h => ⟨ds.length - (i + 1), by omega, rfl, hlt, h⟩, fun x H2 y => ?_⟩
    obtain ⟨s2, d, hd, rx⟩ := g3 i x H2 hlt y
    have ed : ds.drop i = d :: ds.drop (i + 1) := by
      rw [List.drop_eq_getElem_cons hlt]
      obtain ⟨_, e⟩ := List.getElem?_eq_some_iff.mp hd
      rw [e]
    rw [ed] at go
    have r2 := ((rc.step s2).gapp (s2.ra ra)).ghost
    -- the ghosts: the slots, the list's items, those of the walk
    refine hg _ _ os' c' (wipe σ vs) H2 (wipeG Γ vs) x d _ _ ((r2.wipe vs).gcons rx) go fun σ2 H3 os3 c3 Γ2 r3 k3 p3 => ⟨(k3 vs hjs).trans wipe_idem, ?_⟩
    refine ht _ _ os3 c3 σ2 H3 Γ2 _ _ r3 p3 fun b H4 os4 c4 r4 p4 => ?_
    have fin : ∀ {H5 : Hp} {os5 : Os} {c5 : Cs} {σ5 : St} {Γ5 : Gs}, Rel K F (slotsOf σ Γ ++ (xs.zip acc ++ (gs2 ++ gs))) ((Dl, .lst xs) :: pv) os5 c5 σ5 H5 Γ5 → Rel K F (gs2 ++ gs) ((Dl, .lst xs) :: pv) os5 c5 σ H5 Γ ∧ RA K (F.at ((Dl, .lst xs) :: pv) os5) H5 xs acc := fun {H5 os5 c5 σ5 Γ5} r5 => by
      have q := ((rc.step s2).gapp (s2.ra ra)).back r5
      refine ⟨q.weak fun p hp => List.mem_append_right _ hp, ?_⟩
      have : ∀ {us : List V} {es : List D}, us.length = es.length → (∀ p, p ∈ us.zip es → R K (F.at ((Dl, .lst xs) :: pv) os5) H5 p.1 p.2) → RA K (F.at ((Dl, .lst xs) :: pv) os5) H5 us es := by
        intro us
        induction us with
        | nil => intro es e _; cases es with
          | nil => exact .nil
          | cons _ _ => cases e
        | cons u us ih => intro es e h; cases es with
          | nil => cases e
          | cons z es => exact .cons (h (u, z) List.mem_cons_self) (ih (by simpa using e) fun p hp => h p (List.mem_cons_of_mem _ hp))
      exact this ra.length fun p hp => q.gh p (List.mem_append_left _ hp)
    cases b with
    | true =>
      refine he _ _ os4 c4 σ2 H4 Γ2 _ _ r4 p4 fun v H5 z os5 c5 r5 p5 => ?_
      obtain ⟨q1, q2⟩ := fin r5.tail
      have hx := ra.length
      refine ⟨xs, (at_inv.mp r5.st.inv).2 (Dl, .lst xs) List.mem_cons_self, Nat.lt_of_le_of_lt (by omega : xs.length ≤ 1000000) (by decide), xs ++ [v], acc ++ [z], os5, c5, ?_, ?_⟩
      · rw [List.length_append, List.length_singleton]
        omega
      · obtain ⟨e, q3⟩ := q1.putP (o' := .lst (xs ++ [v]))
        exact ⟨q3, RwA.append (q2.mono e) (.cons (Rw.mono e r5.head) .nil), p5⟩
    | false =>
      obtain ⟨q1, q2⟩ := fin r4
      exact ⟨xs, acc, os4, c4, by omega, q1, q2, p4⟩
  · have ei : i = ds.length := by omega
    subst ei
    rw [List.drop_length] at go
    obtain ⟨e, hv, q⟩ := rc.dropP
    exact .inl ⟨g2, hq _ Hc _ os' c' ((q.weak fun p hp => List.mem_append_right _ hp).gcons (.lst hv (RwA.mono e ra))) go⟩
end
end Bd
/-! Bd8: cells in expressions, calls, statements, a def's rule. -/
namespace Bd
open PySem L2
section
variable {K : PySem.W.Frag} {F : Fr} {gs : List (V × D)} {pv os : Os} {cs : Cs} {σ : St} {H H' : Hp} {Γ : Gs}
theorem rh_r {w : Wd} {p : Addr} {o : HO} {d : D} (h : RH K w H o d) (v : w.v H p = some o) : R K w H (.ref p) d := by
  unfold RH at h
  split at h
  · exact .lst v h
  · obtain ⟨rfl, xs, rfl, e, r⟩ := h
    exact .obj v e r
  · obtain ⟨xs, rfl, e, r⟩ := h
    exact .dcl v e r
  · obtain ⟨xs, rfl, e, r⟩ := h
    exact .dct v e r
  · exact h.elim
/-- what is done while the cell at p is looked at as data -/
theorem Rel.view (r : Rel K F gs pv os cs σ H Γ) {p : Addr} {d : D} (hp : cs.lookup p = some d) : R K (F.at pv (odel os p)) H (.ref p) d ∧ (F.at pv (odel os p)).I H ∧ Ext ((F.at pv os).v H) ((F.at pv (odel os p)).v H) ∧
    ∀ H', Step (F.at pv (odel os p)) H H' → Rel K F gs pv os cs σ H' Γ := by
  obtain ⟨o, h, hv, rf⟩ := r.free hp
  have sub : ∀ q, q ∈ pv ++ odel os p → q ∈ pv ++ os := fun q hq => by
    rcases List.mem_append.mp hq with m | m
    · exact List.mem_append_left _ m
    · exact List.mem_append_right _ (odel_sub.subset m)
  have e : Ext ((F.at pv os).v H) ((F.at pv (odel os p)).v H) := ext_of (fun a m => .inl (by
    obtain ⟨q, hq, z⟩ := List.mem_map.mp m
    exact z ▸ List.mem_map_of_mem (sub q hq))) fun a u _ q => q
  refine ⟨rh_r h hv, rf.st.inv, e, fun H' s => r.step ⟨fun a u q => ?_, ?_⟩⟩
  · obtain ⟨h1, _⟩ := vis_some q
    exact vis_of h1 (vis_some (s.ext a u (e a u q))).2 (vis_nt q)
  · refine at_inv.mpr ⟨(at_inv.mp s.inv).1, fun q hq => ?_⟩
    by_cases z : q.1 = p
    · have q1 := (at_inv.mp r.st.inv).2 q hq
      have q2 := (vis_some hv).2
      rw [z, q2] at q1
      have q3 := (vis_some (s.ext p o hv)).2
      rw [z, q3]
      exact q1
    · refine (at_inv.mp s.inv).2 q ?_
      rcases List.mem_append.mp hq with m | m
      · exact List.mem_append_left _ m
      · refine List.mem_append_right _ ?_
        have : ∀ {os : Os}, q ∈ os → q ∈ odel os p := by
          intro os
          induction os with
          | nil => intro h; exact h
          | cons b os ih =>
            intro h
            obtain ⟨b1, b2⟩ := b
            unfold odel
            rcases List.mem_cons.mp h with y | y
            · rw [if_neg (fun x => z (by rw [y]; exact x)), y]
              exact List.mem_cons_self
            · split
              · exact y
              · exact List.mem_cons_of_mem _ (ih y)
        exact this m
end
theorem fl_R {K : PySem.W.Frag} {w w' : Wd} {H H' : Hp} {v : V} {d : D} (h : flD d = true) (r : R K w H v d) : R K w' H' v d := by
  cases d <;> first
    | (cases h; done)
    | (cases r; constructor)
/-- an operation whose left side is a cell; what comes of it is flat -/
@[simp] abbrev aOpL (f : D → D → (D → Prop) → Prop) (a b : ATE) : ATE := fun Γ c P => a Γ c fun x c1 => b Γ c1 fun y c2 => match x with
  | .adr p => match c2.lookup p with
    | some d => f d y fun z => flD z = true ∧ P z c2
    | none => False
  | _ => False
@[simp] abbrev aOpR (f : D → D → (D → Prop) → Prop) (a b : ATE) : ATE := fun Γ c P => a Γ c fun x c1 => b Γ c1 fun y c2 => match y with
  | .adr p => match c2.lookup p with
    | some d => f x d fun z => flD z = true ∧ P z c2
    | none => False
  | _ => False
/-- len(cell) and the like -/
@[simp] abbrev aCBc (f : List D → (D → Prop) → Prop) (a : ATE) : ATE := fun Γ c P => a Γ c fun x c1 => match x with
  | .adr p => match c1.lookup p with
    | some d => f [d] fun z => flD z = true ∧ P z c1
    | none => False
  | _ => False
/-- cell[i] -/
@[simp] abbrev aIxC (a b : ATE) : ATE := fun Γ c P => a Γ c fun x c1 => b Γ c1 fun y c2 => match x, y with
  | .adr p, .int k => match c2.lookup p with
    | some (.lst ds) => match atI ds k with
      | some d => P d c2
      | none => False
    | _ => False
  | _, _ => False
@[simp] abbrev aApp (o e : ATE) : ATE := fun Γ c P => o Γ c fun x c1 => match x with
  | .adr p => match c1.lookup p with
    | some (.lst _) => e Γ c1 fun y c2 => match c2.lookup p with
      | some (.lst ds) => ds.length ≤ 1000000 ∧ P .non (cset c2 p (.lst (ds ++ [y])))
      | _ => False
    | _ => False
  | _ => False
/-- cell.extend(a list that is data) -/
@[simp] abbrev aExt (o e : ATE) : ATE := fun Γ c P => o Γ c fun x c1 => match x with
  | .adr p => match c1.lookup p with
    | some (.lst _) => e Γ c1 fun y c2 => match y, c2.lookup p with
      | .lst es, some (.lst ds) => ds.length + es.length ≤ 1000000 ∧ P .non (cset c2 p (.lst (ds ++ es)))
      | _, _ => False
    | _ => False
  | _ => False
section
variable {K : PySem.W.Frag} {F : Fr}
theorem snd_opL {r : R2} {f : D → D → (D → Prop) → Prop} {ta tb : TE} {a b : ATE} (hf : SndR2 K Any r f) (h1 : SndE K F ta a) (h2 : SndE K F tb b) : SndE K F (tOp r ta tb) (aOpL f a b) := by
  intro gs pv os cs σ H Γ P Q r0 ha hq
  refine h1 gs pv os cs σ H Γ _ _ r0 ha fun v H1 d os1 c1 r1 ha1 => ?_
  refine h2 _ pv os1 c1 σ H1 Γ _ _ r1 ha1 fun u H2 e os2 c2 r2 ha2 => ?_
  split at ha2
  · rename_i p
    split at ha2
    · rename_i dd el
      cases r_adr r2.tail.head
      obtain ⟨g1, g2, g3, g4⟩ := r2.view el
      exact hf _ H2 _ u dd e _ Q trivial g2 g1 (Rw.mono g3 r2.head) ha2 fun z H3 dz s3 rz p3 => hq z H3 dz os2 c2 ((g4 H3 s3).tail.tail.gcons (fl_R p3.1 rz)) p3.2
    · exact ha2.elim
  · exact ha2.elim
theorem snd_opR {r : R2} {f : D → D → (D → Prop) → Prop} {ta tb : TE} {a b : ATE} (hf : SndR2 K Any r f) (h1 : SndE K F ta a) (h2 : SndE K F tb b) : SndE K F (tOp r ta tb) (aOpR f a b) := by
  intro gs pv os cs σ H Γ P Q r0 ha hq
  refine h1 gs pv os cs σ H Γ _ _ r0 ha fun v H1 d os1 c1 r1 ha1 => ?_
  refine h2 _ pv os1 c1 σ H1 Γ _ _ r1 ha1 fun u H2 e os2 c2 r2 ha2 => ?_
  split at ha2
  · rename_i p
    split at ha2
    · rename_i dd el
      cases r_adr r2.head
      obtain ⟨g1, g2, g3, g4⟩ := r2.view el
      exact hf _ H2 v _ d dd _ Q trivial g2 (Rw.mono g3 r2.tail.head) g1 ha2 fun z H3 dz s3 rz p3 => hq z H3 dz os2 c2 ((g4 H3 s3).tail.tail.gcons (fl_R p3.1 rz)) p3.2
    · exact ha2.elim
  · exact ha2.elim
theorem snd_CBc {r : List V → Hp → VK → Prop} {f : List D → (D → Prop) → Prop} {ta : TE} {a : ATE} (hf : SndRs K Any r f) (h : SndE K F ta a) : SndE K F (tCB r (tCons ta tNil)) (aCBc f a) := by
  intro gs pv os cs σ H Γ P Q rl ha hq
  refine h gs pv os cs σ H Γ _ _ rl ha fun v H1 d os1 c1 r1 ha2 => ?_
  split at ha2
  · rename_i p
    split at ha2
    · rename_i dd el
      cases r_adr r1.head
      obtain ⟨g1, g2, g3, g4⟩ := r1.view el
      exact hf _ H1 _ _ _ Q trivial g2 (.cons g1 .nil) ha2 fun z H3 dz s3 rz p3 => hq z H3 dz os1 c1 ((g4 H3 s3).tail.gcons (fl_R p3.1 rz)) p3.2
    · exact ha2.elim
  · exact ha2.elim
theorem cell_lst {gs : List (V × D)} {pv os : Os} {cs : Cs} {σ : St} {H : Hp} {Γ : Gs} (r : Rel K F gs pv os cs σ H Γ) {p : Addr} {ds : List D} (e : cs.lookup p = some (.lst ds)) : ∃ xs, H p = some (.lst xs) ∧ RA K (F.at pv os) H xs ds := by
  obtain ⟨o0, hm, ho⟩ := r.st.cel.get e
  cases o0 with
  | lst xs => exact ⟨xs, (at_inv.mp r.st.inv).2 (p, .lst xs) (List.mem_append_right _ hm), ho⟩
  | _ => exact ho.elim
theorem snd_ixC {ta tb : TE} {a b : ATE} (h1 : SndE K F ta a) (h2 : SndE K F tb b) : SndE K F (tOp (rIx K) ta tb) (aIxC a b) := by
  intro gs pv os cs σ H Γ P Q r0 ha hq
  refine h1 gs pv os cs σ H Γ _ _ r0 ha fun v H1 d os1 c1 r1 ha1 => ?_
  refine h2 _ pv os1 c1 σ H1 Γ _ _ r1 ha1 fun u H2 e os2 c2 r2 ha2 => ?_
  split at ha2
  · rename_i p k
    split at ha2
    · rename_i ds el
      split at ha2
      · rename_i dd ea
        cases r_adr r2.tail.head
        cases r_int r2.head
        obtain ⟨xs, hx, rx⟩ := cell_lst r2 el
        unfold atI at ea
        cases ej : ixN ds.length k with
        | none => rw [ej] at ea; cases ea
        | some j =>
          rw [ej] at ea
          obtain ⟨v, hv, rv⟩ := rx.getD ea
          refine .inl ⟨p, xs, k, v, rfl, rfl, SqL.of hx, ?_, hq v H2 dd os2 c2 (r2.tail.tail.gcons rv) ha2⟩
          unfold atI
          rw [rx.length, ej]
          exact hv
      · exact ha2.elim
    · exact ha2.elim
  · exact ha2.elim
theorem snd_app {to te : TE} {o a : ATE} (h1 : SndE K F to o) (h2 : SndE K F te a) : SndE K F (tBM K "list" rAppend to (tCons te tNil)) (aApp o a) := by
  intro gs pv os cs σ H Γ P Q r0 ha hq
  refine h1 gs pv os cs σ H Γ _ _ r0 ha fun v H1 d os1 c1 r1 ha1 => ?_
  split at ha1
  · rename_i p
    split at ha1
    · rename_i ds0 e0
      cases r_adr r1.head
      obtain ⟨xs0, hx0, _⟩ := cell_lst r1 e0
      refine ⟨.inl ⟨rfl, xs0, SqL.of hx0⟩, ?_⟩
      refine h2 _ pv os1 c1 σ H1 Γ _ _ r1.tail ha1 fun u H2 e os2 c2 r2 ha2 => ?_
      split at ha2
      · rename_i ds el
        obtain ⟨xs, hx, rx⟩ := cell_lst r2 el
        have hl := rx.length
        refine ⟨p, xs, u, rfl, rfl, hx, Nat.lt_of_le_of_lt (by omega : xs.length ≤ 1000000) (by decide), ?_⟩
        exact hq _ _ _ _ _ ((r2.put (o := .lst (xs ++ [u])) (d := .lst (ds ++ [e])) el (RwA.append rx (.cons r2.head .nil))).tail.gcons .non) ha2.2
      · exact ha2.elim
    · exact ha1.elim
  · exact ha1.elim
theorem snd_ext {to te : TE} {o a : ATE} (h1 : SndE K F to o) (h2 : SndE K F te a) : SndE K F (tBM K "list" rExtend to (tCons te tNil)) (aExt o a) := by
  intro gs pv os cs σ H Γ P Q r0 ha hq
  refine h1 gs pv os cs σ H Γ _ _ r0 ha fun v H1 d os1 c1 r1 ha1 => ?_
  split at ha1
  · rename_i p
    split at ha1
    · rename_i ds0 e0
      cases r_adr r1.head
      obtain ⟨xs0, hx0, _⟩ := cell_lst r1 e0
      refine ⟨.inl ⟨rfl, xs0, SqL.of hx0⟩, ?_⟩
      refine h2 _ pv os1 c1 σ H1 Γ _ _ r1.tail ha1 fun u H2 e os2 c2 r2 ha2 => ?_
      split at ha2
      · rename_i es ds el
        obtain ⟨xs, hx, rx⟩ := cell_lst r2 el
        have rh := r2.head
        cases rh with
        | @lst b ys _ hy ry =>
          have hl := rx.length
          have hl2 := ry.length
          refine ⟨p, b, xs, ys, rfl, rfl, hx, (vis_some hy).2, Nat.le_trans (by omega : xs.length + ys.length ≤ 1000000) (by decide), ?_⟩
          exact hq _ _ _ _ _ ((r2.put (o := .lst (xs ++ ys)) (d := .lst (ds ++ es)) el (RwA.append rx ry)).tail.gcons .non) ha2.2
      · exact ha2.elim
    · exact ha1.elim
  · exact ha1.elim
end
/-! ### calls -/
def spOf (K : PySem.W.Frag) (C : WC) (A : List D → (D → Prop) → Prop) : Sp := fun vs H Q _ => ∃ (w : Wd) (ds : List D) (P : D → Prop), C w ∧ w.I H ∧ RA K w H vs ds ∧ A ds P ∧ ∀ v H' d, Step w H H' → R K w H' v d → P d → Q v H'
/-- with the caller's cells -/
def spS (K : PySem.W.Frag) (C : WC) (A : List D → Cs → (D → Cs → Prop) → Prop) : Sp := fun vs H Q _ => ∃ (w : Wd) (os : Os) (cs : Cs) (ds : List D) (P : D → Cs → Prop), C w ∧ Stt K ⟨w, os, H⟩ [] os cs H ∧ RA K (Fr.at ⟨w, os, H⟩ [] os) H vs ds ∧ A ds cs P ∧
  ∀ v H' d os' cs', Stt K ⟨w, os, H⟩ [] os' cs' H' → R K (Fr.at ⟨w, os, H⟩ [] os') H' v d → P d cs' → Q v H'
@[simp] abbrev aCall (A : List D → (D → Prop) → Prop) (dds : List D) (a : ATA) : ATE := fun Γ c P => a Γ c fun ds c1 => A (ds ++ dds) fun d => P d c1
@[simp] abbrev aCallS (A : List D → Cs → (D → Cs → Prop) → Prop) (dds : List D) (a : ATA) : ATE := fun Γ c P => a Γ c fun ds c1 => A (ds ++ dds) c1 P
abbrev FC (K : PySem.W.Frag) (F : Fr) (C : WC) : Prop := ∀ (pv os : Os) (cs : Cs) (H : Hp), Stt K F pv os cs H → C (F.at pv os)
abbrev FP (K : PySem.W.Frag) (F : Fr) (C : WC) : Prop := ∀ (pv os : Os) (cs : Cs) (H : Hp), Stt K F pv os cs H → C (F.w.plus pv)
section
variable {K : PySem.W.Frag} {F : Fr}
theorem snd_call {C' : WC} {A : List D → (D → Prop) → Prop} {dvs : List V} {dds : List D} {E : XK} {t : TA} {a : ATA} (hC : FC K F C') (hd : ∀ (w : Wd) H, RA K w H dvs dds) (h : SndA K F t a) : SndE K F (tCall (spOf K C' A) dvs E t) (aCall A dds a) := by
  intro gs pv os cs σ H Γ P Q r0 ha hq
  refine h gs pv os cs σ H Γ _ _ r0 ha fun vs H1 ds os1 c1 r1 ra p1 => ?_
  exact ⟨F.at pv os1, ds ++ dds, _, hC _ _ _ _ r1.st, r1.st.inv, ra.append (hd _ H1), p1, fun v H' d s r p => hq v H' d os1 c1 ((r1.step s).gcons r) p⟩
theorem snd_callS {C' : WC} {A : List D → Cs → (D → Cs → Prop) → Prop} {dvs : List V} {dds : List D} {E : XK} {t : TA} {a : ATA} (hC : FP K F C') (hd : ∀ (w : Wd) H, RA K w H dvs dds) (h : SndA K F t a) : SndE K F (tCall (spS K C' A) dvs E t) (aCallS A dds a) := by
  intro gs pv os cs σ H Γ P Q r0 ha hq
  refine h gs pv os cs σ H Γ _ _ r0 ha fun vs H1 ds os1 c1 r1 ra p1 => ?_
  have st := r1.st
  have nd := st.nd
  rw [List.map_append, List.nodup_append] at nd
  have i0 := at_inv.mp st.inv
  refine ⟨F.w.plus pv, os1, c1, ds ++ dds, P, hC _ _ _ _ st, ⟨Ext.rfl' _, ⟨⟨st.inv.1, fun p hp => (by cases hp)⟩, st.inv.2⟩, fun p hp => ?_, nd.2.1, st.cel.mono (w := F.at pv os1) (w' := Fr.at ⟨F.w.plus pv, os1, H1⟩ [] os1) rfl (Ext.rfl' _), fun p hp => by cases hp⟩, ra.append (hd _ H1), p1, fun v H' d os2 c2 s2 r p => ?_⟩
  · have hp : p ∈ os1 := hp
    refine ⟨fun m => ?_, vis_in (List.mem_append_left _ (List.mem_map_of_mem hp))⟩
    rcases List.mem_append.mp m with m | m
    · exact nd.2.2 p.1 m p.1 (List.mem_map_of_mem hp) rfl
    · exact (st.fr p (List.mem_append_right _ hp)).1 m
  · have e : Ext ((F.at pv os1).v H1) ((F.at pv os2).v H') := s2.ext
    have iv : (F.at pv os2).I H' := ⟨s2.inv.1.1, s2.inv.2⟩
    have fr2 : ∀ p, p ∈ os2 → p.1 ∉ (F.w.plus pv).ms ∧ (F.at pv os1).v H1 p.1 = none := s2.fr
    refine hq v H' d os2 c2 ((r1.mv ⟨st.ext.tr e, iv, fun p hp => ?_, ?_, s2.cel.mono (w := Fr.at ⟨F.w.plus pv, os1, H1⟩ [] os2) (w' := F.at pv os2) rfl (Ext.rfl' _), st.pk⟩ e).gcons r) p
    · rcases List.mem_append.mp hp with m | m
      · exact st.fr p (List.mem_append_left _ m)
      · obtain ⟨f1, f2⟩ := fr2 p m
        refine ⟨fun z => f1 (List.mem_append_right _ z), ?_⟩
        cases q : (F.w.plus F.os0).v F.H0 p.1 with
        | none => rfl
        | some u =>
          have := st.ext p.1 u q
          rw [f2] at this
          cases this
    · rw [List.map_append, List.nodup_append]
      refine ⟨nd.1, s2.nd, fun a ha b hb z => ?_⟩
      obtain ⟨q, hq, e⟩ := List.mem_map.mp hb
      exact (fr2 q hq).1 (List.mem_append_left _ (by rw [e, ← z]; exact ha))
end
end Bd
/-! Bd9: statements, loops, a def's rule. -/
namespace Bd
open PySem L2
structure AE where
  nx : Gs → Cs → Prop
  rt : D → Cs → Prop
  bk : Gs → Cs → Prop := fun _ _ => False
  ct : Gs → Cs → Prop := fun _ _ => False
abbrev ATS := AE → Gs → Cs → Prop
structure EndsOk (K : PySem.W.Frag) (F : Fr) (gs : List (V × D)) (A : AE) (D' : Ends) : Prop where
  nx : ∀ os cs σ H Γ, Rel K F gs [] os cs σ H Γ → A.nx Γ cs → D'.nx σ H
  bk : ∀ os cs σ H Γ, Rel K F gs [] os cs σ H Γ → A.bk Γ cs → D'.bk σ H
  ct : ∀ os cs σ H Γ, Rel K F gs [] os cs σ H Γ → A.ct Γ cs → D'.ct σ H
  rt : ∀ v H d os cs, Stt K F [] os cs H → R K (F.at [] os) H v d → A.rt d cs → D'.rt v H
def SndS (K : PySem.W.Frag) (F : Fr) (t : TS) (a : ATS) : Prop := ∀ (gs : List (V × D)) (os : Os) (cs : Cs) (σ : St) (H : Hp) (Γ : Gs) (A : AE) (D' : Ends), Rel K F gs [] os cs σ H Γ → a A Γ cs → EndsOk K F gs A D' → t D' σ H
structure JS (X : Cx) (F : Fr) (st : Stmt) (t : TS) (a : ATS) : Prop where
  p : PS X st t
  s : SndS X.K F t a
structure JSs (X : Cx) (F : Fr) (sts : List Stmt) (t : TS) (a : ATS) : Prop where
  p : PSs X sts t
  s : SndS X.K F t a
@[simp] abbrev aNext : ATS := fun A Γ c => A.nx Γ c
@[simp] abbrev aSeq (a b : ATS) : ATS := fun A Γ c => a { A with nx := b A } Γ c
@[simp] abbrev aBreak : ATS := fun A Γ c => A.bk Γ c
@[simp] abbrev aCont : ATS := fun A Γ c => A.ct Γ c
@[simp] abbrev aDrop (a : ATE) : ATS := fun A Γ c => a Γ c fun _ c1 => A.nx Γ c1
@[simp] abbrev aRet (a : ATE) : ATS := fun A Γ c => a Γ c A.rt
@[simp] abbrev aRetN : ATS := fun A _ c => A.rt .non c
@[simp] abbrev aIfS (k : ATT) (a b : ATS) : ATS := fun A Γ c => k Γ c fun b' c1 => if b' = true then a A Γ c1 else b A Γ c1
@[simp] abbrev aAsg (a : ATE) (g : ATG) : ATS := fun A Γ c => a Γ c fun d c1 => g d Γ c1 A.nx
/-- from here on the cell in slot i is data -/
@[simp] abbrev aFrz (i : Nat) (a : ATS) : ATS := fun A Γ c => match Γ[i]? with
  | some (some (.adr p)) => match c.lookup p with
    | some d => a A (Γ.set i (some d)) (cdel c p)
    | none => a A Γ c
  | _ => a A Γ c
@[simp] abbrev aPar (i j : Nat) (a : ATA) : ATS := fun A Γ c => a Γ c fun ds c1 => match ds with
  | [d, e] => A.nx ((Γ.set i (some d)).set j (some e)) c1
  | _ => False
@[simp] abbrev aNever : ATS := fun _ _ _ => False
def aFor (ai : ATA) (g : ATG) (b : ATS) : ATS := fun A Γ c => ai Γ c fun ds c1 => ∃ Inv : Nat → Gs → Cs → Prop, Inv 0 Γ c1 ∧
  (∀ i d Γ' c', ds[i]? = some d → Inv i Γ' c' → g d Γ' c' fun Γ2 c2 => b { A with nx := Inv (i + 1), ct := Inv (i + 1), bk := A.nx } Γ2 c2) ∧ ∀ Γ' c', Inv ds.length Γ' c' → A.nx Γ' c'
def aWhile (k : ATT) (b : ATS) : ATS := fun A Γ c => ∃ W : Nat → Gs → Cs → Prop, (∃ m, W m Γ c) ∧ ∀ m Γ' c', W m Γ' c' →
  k Γ' c' fun q c1 => if q = true then b { A with nx := fun Γ2 c2 => ∃ m', m' < m ∧ W m' Γ2 c2, ct := fun Γ2 c2 => ∃ m', m' < m ∧ W m' Γ2 c2, bk := A.nx } Γ' c1 else A.nx Γ' c1
section
variable {K : PySem.W.Frag} {F : Fr}
theorem snd_next : SndS K F tNext aNext := fun gs os cs σ H Γ A D' r ha e => e.nx os cs σ H Γ r ha
theorem snd_seq {t u : TS} {a b : ATS} (h1 : SndS K F t a) (h2 : SndS K F u b) : SndS K F (tSeq t u) (aSeq a b) := by
  intro gs os cs σ H Γ A D' r ha e
  exact h1 gs os cs σ H Γ _ _ r ha ⟨fun os' cs' σ' H' Γ' r' p => h2 gs os' cs' σ' H' Γ' A D' r' p e, e.bk, e.ct, e.rt⟩
theorem snd_break : SndS K F tBreak aBreak := fun gs os cs σ H Γ A D' r ha e => e.bk os cs σ H Γ r ha
theorem snd_cont : SndS K F tCont aCont := fun gs os cs σ H Γ A D' r ha e => e.ct os cs σ H Γ r ha
theorem snd_drop {t : TE} {a : ATE} (h : SndE K F t a) : SndS K F (tDrop t) (aDrop a) := by
  intro gs os cs σ H Γ A D' r ha e
  exact h gs [] os cs σ H Γ _ _ r ha fun v H' d os' cs' r' p => e.nx os' cs' σ H' Γ r'.tail p
theorem snd_ret {t : TE} {a : ATE} (h : SndE K F t a) : SndS K F (tRet t) (aRet a) := by
  intro gs os cs σ H Γ A D' r ha e
  exact h gs [] os cs σ H Γ _ _ r ha fun v H' d os' cs' r' p => e.rt v H' d os' cs' r'.st r'.head p
theorem snd_retN : SndS K F tRetN aRetN := fun gs os cs σ H Γ A D' r ha e => e.rt .non H .non os cs r.st .non ha
theorem snd_ifS {c : TT} {t u : TS} {k : ATT} {a b : ATS} (h : SndT K F c k) (h1 : SndS K F t a) (h2 : SndS K F u b) : SndS K F (tIfS c t u) (aIfS k a b) := by
  intro gs os cs σ H Γ A D' r ha e
  refine h gs [] os cs σ H Γ _ _ r ha fun q H' os' cs' r' p => ?_
  cases q with
  | true => exact h1 gs os' cs' σ H' Γ A D' r' p e
  | false => exact h2 gs os' cs' σ H' Γ A D' r' p e
theorem snd_asg {js : List Nat} {t : TE} {a : ATE} {g : TG} {ag : ATG} (h : SndE K F t a) (hg : SndG K F js g ag) : SndS K F (tAsg t g) (aAsg a ag) := by
  intro gs os cs σ H Γ A D' r ha e
  refine h gs [] os cs σ H Γ _ _ r ha fun v H' d os' cs' r' p => ?_
  exact hg gs [] os' cs' σ H' Γ v d _ _ r' p fun σ2 H2 os2 cs2 Γ2 r2 _ p2 => e.nx os2 cs2 σ2 H2 Γ2 r2 p2
theorem snd_par {i j : Nat} {t : TA} {a : ATA} (h : SndA K F t a) : SndS K F (tPar i j t) (aPar i j a) := by
  intro gs os cs σ H Γ A D' r ha e
  refine h gs [] os cs σ H Γ _ _ r ha fun vs H1 ds os1 c1 rr r1 p => ?_
  split at p
  · cases r1 with
    | cons r1 r2 =>
      cases r2 with
      | cons r2 r3 =>
        cases r3
        exact ⟨_, _, rfl, e.nx os1 c1 _ H1 _ ((rr.set r1).set r2) p⟩
  · exact p.elim
theorem snd_never {t : TS} : SndS K F t aNever := fun _ _ _ _ _ _ _ _ _ ha _ => ha.elim
theorem snd_frz (i : Nat) {t : TS} {a : ATS} (h : SndS K F t a) : SndS K F t (aFrz i a) := by
  intro gs os cs σ H Γ A D' r ha e
  unfold aFrz at ha
  split at ha
  · rename_i p q
    split at ha
    · rename_i d el
      obtain ⟨o, ho, hv, rf⟩ := r.free el
      obtain ⟨v, h1, h2⟩ := rf.at_ i _ q
      cases r_adr h2
      have e1 : σ.set i (some (.ref p)) = σ := by
        apply List.ext_getElem?
        intro j
        by_cases z : i = j
        · subst z
          rw [List.getElem?_set_self (List.getElem?_eq_some_iff.mp h1).1, h1]
        · rw [List.getElem?_set_ne z]
      have r2 := rf.set (i := i) (rh_r ho hv)
      rw [e1] at r2
      exact h gs _ _ σ H _ A D' r2 ha e
    · exact h gs os cs σ H Γ A D' r ha e
  · exact h gs os cs σ H Γ A D' r ha e
theorem snd_for {js : List Nat} {wi : TI} {ai : ATA} {g : TG} {ag : ATG} {tb : TS} {ab : ATS} (hi : SndI K F wi ai) (hg : SndG K F js g ag) (hb : SndS K F tb ab) : SndS K F (tFor wi g tb) (aFor ai ag ab) := by
  intro gs os cs σ H Γ A D' r ha e
  refine hi gs [] os cs σ H Γ _ _ r ha fun J H1 gs2 ds os1 c1 r1 wk ⟨Iv, i0, turn, fin⟩ => ?_
  refine ⟨fun i m σ' Hc => m = ds.length - i ∧ i ≤ ds.length ∧ ∃ os' c' Γ', Rel K F (gs2 ++ gs) [] os' c' σ' Hc Γ' ∧ Iv i Γ' c', ⟨_, rfl, Nat.zero_le _, os1, c1, Γ, r1, i0⟩, ?_⟩
  rintro i m σ' Hc ⟨rfl, hil, os', c', Γ', r', iv⟩
  obtain ⟨g1, g2, g3⟩ := wk (F.at [] os') Hc r'.st.inv fun p hp => r'.gh p (List.mem_append_left _ hp)
  have less : ∀ {os2 : Os} {c2 : Cs} {σ2 : St} {H2 : Hp} {Γ2 : Gs}, Rel K F (gs2 ++ gs) [] os2 c2 σ2 H2 Γ2 → Rel K F gs [] os2 c2 σ2 H2 Γ2 := fun r2 => r2.weak fun p hp => List.mem_append_right _ hp
  by_cases hlt : i < ds.length
  · refine .inr ⟨g1 i hlt, fun σ2 H2 => ∃ os2 c2 Γ2, Rel K F (gs2 ++ gs) [] os2 c2 σ2 H2 Γ2 ∧ Iv (i + 1) Γ2 c2, fun σ2 H2 h => ⟨ds.length - (i + 1), by omega, rfl, hlt, h⟩, fun x H2 y => ?_⟩
    obtain ⟨s2, d, hd, rx⟩ := g3 i x H2 hlt y
    refine hg (gs2 ++ gs) [] os' c' σ' H2 Γ' x d _ _ ((r'.step s2).gcons rx) (turn i d Γ' c' hd iv) fun σ3 H3 os3 c3 Γ3 r3 _ p3 => ?_
    exact hb (gs2 ++ gs) os3 c3 σ3 H3 Γ3 _ _ r3 p3 ⟨fun os4 c4 σ4 H4 Γ4 r4 p4 => ⟨os4, c4, Γ4, r4, p4⟩, fun os4 c4 σ4 H4 Γ4 r4 p4 => e.nx os4 c4 σ4 H4 Γ4 (less r4) p4, fun os4 c4 σ4 H4 Γ4 r4 p4 => ⟨os4, c4, Γ4, r4, p4⟩, e.rt⟩
  · have ei : i = ds.length := by omega
    subst ei
    exact .inl ⟨g2, e.nx os' c' σ' Hc Γ' (less r') (fin Γ' c' iv)⟩
theorem snd_while {c : TT} {ac : ATT} {tb : TS} {ab : ATS} (h : SndT K F c ac) (hb : SndS K F tb ab) : SndS K F (tWhile c tb) (aWhile ac ab) := by
  intro gs os cs σ H Γ A D' r ⟨W, ⟨m0, w0⟩, turn⟩ e
  refine ⟨fun m σ' Hc => ∃ os' c' Γ', Rel K F gs [] os' c' σ' Hc Γ' ∧ W m Γ' c', ⟨m0, os, cs, Γ, r, w0⟩, ?_⟩
  rintro m σ' Hc ⟨os', c', Γ', r', wm⟩
  refine h gs [] os' c' σ' Hc Γ' _ _ r' (turn m Γ' c' wm) fun b H1 os1 c1 r1 p => ?_
  cases b with
  | true =>
    refine ⟨fun σ2 H2 => ∃ m', m' < m ∧ ∃ os2 c2 Γ2, Rel K F gs [] os2 c2 σ2 H2 Γ2 ∧ W m' Γ2 c2, fun σ2 H2 h => h, ?_⟩
    refine hb gs os1 c1 σ' H1 Γ' _ _ r1 p ⟨fun os4 c4 σ4 H4 Γ4 r4 p4 => ?_, fun os4 c4 σ4 H4 Γ4 r4 p4 => e.nx os4 c4 σ4 H4 Γ4 r4 p4, fun os4 c4 σ4 H4 Γ4 r4 p4 => ?_, e.rt⟩
    · obtain ⟨m', hm, q⟩ := p4
      exact ⟨m', hm, os4, c4, Γ4, r4, q⟩
    · obtain ⟨m', hm, q⟩ := p4
      exact ⟨m', hm, os4, c4, Γ4, r4, q⟩
  | false => exact e.nx os1 c1 σ' H1 Γ' r1 p
end
/-! ### a def -/
def startG (n : Nat) (ds : List D) : Gs := ds.map some ++ List.replicate (n - ds.length) none
theorem start_rel {K : PySem.W.Frag} {F : Fr} {os : Os} {cs : Cs} {H : Hp} {N : List Str} {vs : List V} {ds : List D} (s : Stt K F [] os cs H) (r : RA K (F.at [] os) H vs ds) : Rel K F [] [] os cs (L2.start N vs) H (startG N.length ds) := by
  have hl := r.length
  refine ⟨s, ?_, fun i d e => ?_, fun p hp => (by cases hp)⟩
  · unfold L2.start startG
    simp [hl]
  · unfold startG at e
    unfold L2.start
    by_cases hi : i < ds.length
    · rw [List.getElem?_append_left (by simpa using hi)] at e
      rw [List.getElem?_append_left (by simpa [hl] using hi)]
      rw [List.getElem?_map] at e ⊢
      cases q : ds[i]? with
      | none => rw [q] at e; cases e
      | some d' =>
        rw [q] at e
        cases e
        obtain ⟨v, h1, h2⟩ := r.getD q
        rw [h1]
        exact ⟨v, rfl, h2⟩
    · rw [List.getElem?_append_right (by simpa using hi)] at e
      rw [List.getElem?_replicate] at e
      split at e <;> cases e
/-- the newest cells forgotten -/
theorem Stt.drop {K : PySem.W.Frag} {F : Fr} {os : Os} {cs : Cs} {H : Hp} (s : Stt K F [] os cs H) : ∀ n : Nat, Ext ((F.at [] os).v H) ((F.at [] (os.drop n)).v H) ∧ Stt K F [] (os.drop n) (cs.drop n) H := by
  intro n
  have sub : ∀ q, q ∈ os.drop n → q ∈ os := fun q hq => List.mem_of_mem_drop hq
  have e : Ext ((F.at [] os).v H) ((F.at [] (os.drop n)).v H) := ext_of (fun a m => .inl (by
    obtain ⟨q, hq, z⟩ := List.mem_map.mp m
    exact z ▸ List.mem_map_of_mem (f := fun x : Addr × HO => x.1) (sub q hq))) fun a u _ q => q
  refine ⟨e, s.to e (at_inv.mp s.inv).1 (fun q hq => (at_inv.mp s.inv).2 q (sub q hq)) (fun q hq => .inl (List.mem_map_of_mem (f := fun x : Addr × HO => x.1) (sub q hq))) ?_ ?_⟩
  · have := s.nd
    rw [List.nil_append] at this ⊢
    exact ((List.drop_sublist n os).map _).nodup this
  · have : ∀ {w : Wd} (n : Nat) {os : Os} {cs : Cs}, Cells K w H os cs → Cells K w H (os.drop n) (cs.drop n) := by
      intro w n
      induction n with
      | zero => intro os cs h; exact h
      | succ n ih =>
        intro os cs h
        cases h with
        | nil => exact .nil
        | cons _ t => exact ih t
    exact this n (s.cel.mono (w := F.at [] os) (w' := F.at [] (os.drop n)) rfl e)
abbrev FnS (K : PySem.W.Frag) (x qual : Str) (st : Stmt) (dvs : List V) (f : Addr) (fd : FuncData) : Prop := FunD K x qual (defArgs st) (defBody st) (defScope st) dvs [] f fd
theorem start_stt {K : PySem.W.Frag} {w : Wd} {H : Hp} (hI : w.I H) : Stt K ⟨w, [], H⟩ [] [] [] H :=
  ⟨Ext.rfl' _, ⟨⟨hI, fun p hp => (by cases hp)⟩, fun p hp => (by cases hp)⟩, fun p hp => (by cases hp), List.nodup_nil, .nil, fun p hp => (by cases hp)⟩
section
variable {P : Program} {w : World} {K : PySem.W.Frag} {mg : Str → Option Value} {base : Heap} {x qual : Str} {st : Stmt} {dvs : List V} {f : Addr} {fd : FuncData} {N ps : List Str} {k : Nat} {C : WC}
/-- a def that keeps a promise over data -/
theorem fn_rule {Ab : List D → (D → Prop) → Prop} {a : ATS}
    (F : FnS K x qual st dvs f fd) (S : FnScope N ps (defScope st)) (hlen : ∀ ds P, Ab ds P → ds.length = ps.length) (hA : ∀ ds P, Ab ds P → a { nx := fun _ _ => P .non, rt := fun d _ => P d } (startG N.length ds) [])
    (hJ : ∀ (Fm : Fr) (cdv : Value) (A : Around) (outer : List Env) (s : Shared) (H : Hp) (E : XK), C Fm.w → Room k (A.deeper (PyProof.Rows.envOfC qual (defScope st) s.heap.objs.size f cdv)) → ∃ t, JSs (cxOf CX0 P w K mg base N qual (defScope st) f cdv A outer s H E).nox Fm (defBody st) t a) :
    FnOk P w K mg base CX0 (k + 1) f fd ps (spOf K C Ab) := by
  refine F.ok S (fun vs H Q E h => ?_) (fun cdv A outer s H vs Q E hr h => ?_)
  · obtain ⟨_, ds, _, _, _, r, ha, _⟩ := h
    rw [r.length]
    exact hlen _ _ ha
  · obtain ⟨wd, ds, P', hc, hI, r, ha, hq⟩ := h
    obtain ⟨t, j⟩ := hJ ⟨wd, [], H⟩ cdv A outer s H E hc hr
    refine ⟨t, PSs.nox j.p, ?_⟩
    have out : ∀ {os : Os} {cs : Cs} {H' : Hp}, Stt K ⟨wd, [], H⟩ [] os cs H' → Step wd H H' ∧ Ext ((Fr.at ⟨wd, [], H⟩ [] os).v H') (wd.v H') := fun {os cs H'} s => by
      obtain ⟨e, _⟩ := s.drop os.length
      rw [List.drop_length] at e
      exact ⟨⟨fun a o q => e a o (s.ext a o q), (at_inv.mp s.inv).1⟩, e⟩
    refine j.s [] [] [] _ H _ _ _ (start_rel (start_stt hI) r) (hA ds P' ha) ⟨fun os cs σ H' Γ r' p => hq .non H' .non (out r'.st).1 .non p, fun os cs σ H' Γ r' p => p.elim, fun os cs σ H' Γ r' p => p.elim, fun v H' d os cs s rv p => ?_⟩
    exact hq v H' d (out s).1 (Rw.mono (out s).2 rv) p
/-- a def that keeps a promise over data and the caller's cells -/
theorem fn_ruleS {Ab : List D → Cs → (D → Cs → Prop) → Prop} {a : ATS}
    (F : FnS K x qual st dvs f fd) (S : FnScope N ps (defScope st)) (hlen : ∀ ds c P, Ab ds c P → ds.length = ps.length) (hA : ∀ ds c P, Ab ds c P → a { nx := fun _ c' => ∃ n, P .non (c'.drop n), rt := fun d c' => ∃ n, P d (c'.drop n) } (startG N.length ds) c)
    (hJ : ∀ (Fm : Fr) (cdv : Value) (A : Around) (outer : List Env) (s : Shared) (H : Hp) (E : XK), C Fm.w → Room k (A.deeper (PyProof.Rows.envOfC qual (defScope st) s.heap.objs.size f cdv)) → ∃ t, JSs (cxOf CX0 P w K mg base N qual (defScope st) f cdv A outer s H E).nox Fm (defBody st) t a) :
    FnOk P w K mg base CX0 (k + 1) f fd ps (spS K C Ab) := by
  refine F.ok S (fun vs H Q E h => ?_) (fun cdv A outer s H vs Q E hr h => ?_)
  · obtain ⟨_, _, _, ds, _, _, _, r, ha, _⟩ := h
    rw [r.length]
    exact hlen _ _ _ ha
  · obtain ⟨wd, os, cs, ds, P', hc, s0, r, ha, hq⟩ := h
    obtain ⟨t, j⟩ := hJ ⟨wd, os, H⟩ cdv A outer s H E hc hr
    refine ⟨t, PSs.nox j.p, ?_⟩
    have fin : ∀ {v : V} {d : D} {os' : Os} {cs' : Cs} {H' : Hp}, Stt K ⟨wd, os, H⟩ [] os' cs' H' → R K (Fr.at ⟨wd, os, H⟩ [] os') H' v d → (∃ n, P' d (cs'.drop n)) → Q v H' := fun {v d os' cs' H'} s rv ⟨n, p⟩ => by
      obtain ⟨e, s'⟩ := s.drop n
      exact hq v H' d _ _ s' (Rw.mono e rv) p
    exact j.s [] os cs _ H _ _ _ (start_rel s0 r) (hA ds cs P' ha) ⟨fun os cs σ H' Γ r' p => fin r'.st .non p, fun os cs σ H' Γ r' p => p.elim, fun os cs σ H' Γ r' p => p.elim, fun v H' d os cs s rv p => fin s rv p⟩
end
end Bd
/-! BdA: the rules that a derivation is made of. -/
namespace Bd
open PySem L2
def rUpper : V → List V → Hp → VK → Prop := fun x xs H Q => ∃ a, x = .str a ∧ xs = [] ∧ a.length ≤ 5592405 ∧ Q (.str (Txt.upper a)) H
def rJoin (K : PySem.W.Frag) : V → List V → Hp → VK → Prop := fun x xs H Q => ∃ a p, ∃ ys : List Str, x = .str a ∧ xs = [.ref p] ∧ (SqL K H p (ys.map V.str) ∨ SqT K H p (ys.map V.str)) ∧ (ys.map (·.length)).sum + ys.length * a.length ≤ 16777216 ∧ Q (.str (Txt.join a ys)) H
def rSplit : V → List V → Hp → VK → Prop := fun x xs H Q => ∃ a b, x = .str a ∧ xs = [.str b] ∧ (b.length == 0) = false ∧ a.length + 2 ≤ sizeLine ∧ rNewStrs (Txt.split a b) H Q
section
variable {X : Cx} {Fm : Fr} {e a b c o l iter tg elt : Expr} {es rest : List Expr} {pos apos p2 : Pos} {te ta tb tc to tl : TE} {aa ab ac ae ao : ATE} {t : TA} {ag : ATA}
theorem je_var (i : Nat) {x : Str} (hN : X.N[i]? = some x := by rfl) (hv : Vis X.env.scope x := by first | exact Or.inl rfl | exact Or.inr (Or.inl rfl) | exact Or.inr (Or.inr rfl)) (hd : (x == ("__debug__" : Str)) = false := by decide)
    (hcd : (x == ("__classdict__" : Str)) = false := by decide) : JE X Fm (.Name x pos) (tVar i) (aVar i) := ⟨pe_var hN hv hd hcd, snd_var⟩
theorem je_int {i : Int} {j : Nat} : JE X Fm (.Constant (.int i) j pos) (tC (.int i)) (aC (.int i)) := ⟨pe_int, snd_c fun _ _ => .int i⟩
theorem je_bl {i : Bool} {j : Nat} : JE X Fm (.Constant (.bool i) j pos) (tC (.bl i)) (aC (.bl i)) := ⟨pe_bl, snd_c fun _ _ => .bl i⟩
theorem je_non {j : Nat} : JE X Fm (.Constant .none j pos) (tC .non) (aC .non) := ⟨pe_non, snd_c fun _ _ => .non⟩
theorem je_str {x : Str} {j : Nat} : JE X Fm (.Constant (.str x) j pos) (tC (.str x)) (aC (.str x)) := ⟨pe_str, snd_c fun _ _ => .str x⟩
theorem je_gstr {x z : Str} (hm : ∃ u, X.mg x = some (.str z u)) (hg : Gl X x := by rfl) (hd : (x == ("__debug__" : Str)) = false := by decide) : JE X Fm (.Name x pos) (tC (.str z)) (aC (.str z)) := by
  obtain ⟨u, hm⟩ := hm
  exact ⟨pe_glob hg hm ⟨u, rfl⟩ hd, snd_c fun _ _ => .str z⟩
theorem je_gint {x : Str} {i : Int} (hm : ∃ u, X.mg x = some (.int i u)) (hg : Gl X x := by rfl) (hd : (x == ("__debug__" : Str)) = false := by decide) : JE X Fm (.Name x pos) (tC (.int i)) (aC (.int i)) := by
  obtain ⟨u, hm⟩ := hm
  exact ⟨pe_glob hg hm ⟨u, rfl⟩ hd, snd_c fun _ _ => .int i⟩
theorem je_gtup {x : Str} {u : Addr} {vs : List V} {ds : List D} (hm : X.mg x = some (.ref u)) (hs : ∀ H, SqT X.K H u vs) (hr : ∀ (w : Wd) H, RA X.K w H vs ds) (hg : Gl X x := by rfl) (hd : (x == ("__debug__" : Str)) = false := by decide) :
    JE X Fm (.Name x pos) (tC (.ref u)) (aC (.ktu ds)) := ⟨pe_glob hg hm rfl hd, snd_c fun w H => .ktu hs (hr w H)⟩
/-- a built-in class as a value -/
theorem je_ty {x : Str} {n : String} (hm : X.mg x = none) (hv : bootBuiltins x = some (.type n)) (hg : Gl X x := by rfl) (hn : x ≠ "__name__" := by decide) (hd : (x == ("__debug__" : Str)) = false := by decide) : JE X Fm (.Name x pos) (tC (.ty n)) (aC (.ty n)) :=
  ⟨pe_bltn hg hm hv rfl hn hd, snd_c fun _ _ => .ty n⟩
theorem je_op {op : Operator} {r : R2} {g : D → D → (D → Prop) → Prop} (ho : JO X (binaryOp op) r g) (ha : JE X Fm a ta aa) (hb : JE X Fm b tb ab) : JE X Fm (.BinOp a op b pos) (tOp r ta tb) (aOp g aa ab) := ⟨pe_op ho.p ha.p hb.p, snd_op ho.s ha.s hb.s⟩
theorem je_neg (ha : JE X Fm a ta aa) : JE X Fm (.UnaryOp .USub a pos) (tUn (rU fun i => .int (-i)) ta) (aUn wNeg aa) := ⟨pe_un un_neg ha.p, snd_un s_neg ha.s⟩
theorem je_cmp {op : CmpOp} {r : R2} {g : D → D → (D → Prop) → Prop} (ho : JO X (compareOp op) r g) (ha : JE X Fm a ta aa) (hb : JE X Fm b tb ab) (hm : behindInMarks op b = false := by rfl) : JE X Fm (.Compare a [op] [b] pos) (tOp r ta tb) (aOp g aa ab) :=
  ⟨pe_cmpR ho.p ha.p hb.p hm, snd_op ho.s ha.s hb.s⟩
theorem je_chain {op op' : CmpOp} {r r' : R2} {g g' : D → D → (D → Prop) → Prop} (ho : JO X (compareOp op) r g) (ho' : JO X (compareOp op') r' g') (ha : JE X Fm a ta aa) (hb : JE X Fm b tb ab) (hc : JE X Fm c tc ac) (hm : lastMarks [op, op'] [b, c] = false := by with_unfolding_all rfl) :
    JE X Fm (.Compare a [op, op'] [b, c] pos) (tChain r r' ta tb tc) (aChain g g' aa ab ac) := ⟨pe_chain ho.p ho'.p ha.p hb.p hc.p hm, snd_chain ho.s ho'.s ha.s hb.s hc.s⟩
theorem jt_cmp {op : CmpOp} {r : R2} {g : D → D → (D → Prop) → Prop} (ho : JO X (compareOp op) r g) (ha : JE X Fm a ta aa) (hb : JE X Fm b tb ab) (hm : behindInMarks op b = false := by rfl) : JT X Fm (.Compare a [op] [b] pos) (tTest (tOp r ta tb)) (aB (aOp g aa ab)) :=
  ⟨pt_cmpR ho.p ha.p hb.p hm, snd_test (snd_op ho.s ha.s hb.s)⟩
theorem jt_chain {op op' : CmpOp} {r r' : R2} {g g' : D → D → (D → Prop) → Prop} (ho : JO X (compareOp op) r g) (ho' : JO X (compareOp op') r' g') (ha : JE X Fm a ta aa) (hb : JE X Fm b tb ab) (hc : JE X Fm c tc ac) (hm : lastMarks [op, op'] [b, c] = false := by with_unfolding_all rfl) :
    JT X Fm (.Compare a [op, op'] [b, c] pos) (tTest (tChain r r' ta tb tc)) (aB (aChain g g' aa ab ac)) := ⟨pt_chain ho.p ho'.p ha.p hb.p hc.p hm, snd_test (snd_chain ho.s ho'.s ha.s hb.s hc.s)⟩
theorem jt_val (h : JE X Fm e te ae) (he : ∀ whole, isTrue e X.env whole = (do let v ← whole; standAt e.pos; holding [v] (truthy v)) := by intro _; rfl) : JT X Fm e (tB te) (aB ae) := ⟨pt_val h.p he, snd_B h.s⟩
theorem jt_not {tt : TT} {at' : ATT} (h : JT X Fm a tt at') : JT X Fm (.UnaryOp .Not a pos) (tNot tt) (aNot at') := ⟨pt_not h.p, snd_not h.s⟩
theorem jw_and1 {tt : TT} {at' : ATT} (h : JT X Fm a tt at') : JW X Fm (.BoolOp .And [a] pos) tt at' := ⟨pw_and1 h.p, h.s⟩
theorem jw_or1 {tt : TT} {at' : ATT} (h : JT X Fm a tt at') : JW X Fm (.BoolOp .Or [a] pos) tt at' := ⟨pw_or1 h.p, h.s⟩
theorem jw_and {tt tu : TT} {at' au : ATT} (h : JT X Fm a tt at') (h2 : JW X Fm (.BoolOp .And (b :: rest) pos) tu au) : JW X Fm (.BoolOp .And (a :: b :: rest) pos) (tAnd tt tu) (aAnd at' au) := ⟨pw_and h.p h2.p, snd_and h.s h2.s⟩
theorem jw_or {tt tu : TT} {at' au : ATT} (h : JT X Fm a tt at') (h2 : JW X Fm (.BoolOp .Or (b :: rest) pos) tu au) : JW X Fm (.BoolOp .Or (a :: b :: rest) pos) (tOr tt tu) (aOr at' au) := ⟨pw_or h.p h2.p, snd_or h.s h2.s⟩
theorem jt_w {tt : TT} {at' : ATT} (h : JW X Fm e tt at') : JT X Fm e tt at' := ⟨h.p.pt, h.s⟩
theorem je_one {op : BoolOp} (h : JE X Fm a ta aa) : JE X Fm (.BoolOp op [a] pos) ta aa := ⟨pe_one h.p, h.s⟩
theorem je_and (h : JE X Fm a ta aa) (h2 : JE X Fm (.BoolOp .And (b :: rest) pos) tb ab) : JE X Fm (.BoolOp .And (a :: b :: rest) pos) (tAndV ta tb) (aAndV aa ab) := ⟨pe_and h.p h2.p, snd_andV h.s h2.s⟩
theorem je_or (h : JE X Fm a ta aa) (h2 : JE X Fm (.BoolOp .Or (b :: rest) pos) tb ab) : JE X Fm (.BoolOp .Or (a :: b :: rest) pos) (tOrV ta tb) (aOrV aa ab) := ⟨pe_or h.p h2.p, snd_orV h.s h2.s⟩
theorem je_not (h : JE X Fm a ta aa) : JE X Fm (.UnaryOp .Not a pos) (tNotV ta) (aV (aNot (aB aa))) := ⟨pe_not h.p, snd_notV h.s⟩
theorem je_if {tt : TT} {at' : ATT} (h : JT X Fm c tt at') (ha : JE X Fm a ta aa) (hb : JE X Fm b tb ab) : JE X Fm (.IfExp c a b pos) (tIf tt ta tb) (aIf at' aa ab) := ⟨pe_ifExp h.p ha.p hb.p, snd_if h.s ha.s hb.s⟩
theorem ja_nil : JA X Fm [] tNil aNil := ⟨pa_nil, snd_nil⟩
theorem ja_cons (h : JE X Fm e te ae) (hr : JA X Fm es t ag) (hs : starEach (e :: es) X.env = (false, eval e X.env) :: starEach es X.env := by rfl) : JA X Fm (e :: es) (tCons te t) (aCons ae ag) := ⟨pa_cons h.p hr.p hs, snd_cons h.s hr.s⟩
theorem je_tup {k : Nat} (h : JA X Fm es t ag) : JE X Fm (.Tuple es k pos) (tTup t) (aTup ag) := ⟨pe_tup h.p, snd_tup h.s⟩
theorem je_lst (h : JA X Fm es t ag) : JE X Fm (.List es pos) (tLst t) (aLst ag) := ⟨pe_lst h.p, snd_lst h.s⟩
/-- a new list, as a cell -/
theorem je_new (h : JA X Fm es t ag) : JE X Fm (.List es pos) (tLst t) (aNew ag) := ⟨pe_lst h.p, snd_new h.s⟩
theorem je_ix (ha : JE X Fm a ta aa) (hb : JE X Fm b tb ab) (hs : PlainIx b := by intro _ _; rfl) : JE X Fm (.Subscript a b pos) (tOp (rIx X.K) ta tb) (aOp wIx aa ab) := ⟨pe_ix ix_seq ha.p hb.p hs, snd_op s_ix ha.s hb.s⟩
theorem jp_none : JP X Fm none tNoPart aNoPart := ⟨po_none, snd_noPart⟩
theorem jp_some (h : JE X Fm e te ae) : JP X Fm (some e) (tPart te) (aPart ae) := ⟨po_some h.p, snd_part h.s⟩
theorem je_sl {lo hi : Option Expr} {tlo thi : TO} {alo ahi : ATO} (h : JE X Fm e te ae) (hl : JP X Fm lo tlo alo) (hh : JP X Fm hi thi ahi) : JE X Fm (.Subscript e (.Slice lo hi none p2) pos) (tSl (rSlG X.K) te tlo thi) (aSl ae alo ahi) :=
  ⟨pe_slice sl_gen h.p hl.p hh.p, snd_sl h.s hl.s hh.s⟩
theorem je_callB {x : Str} {p : Pos} {id : String} {r : List V → Hp → VK → Prop} {f : List D → (D → Prop) → Prop} (hc : CallR X (.builtin id) r) (hs : SndRs X.K Any r f) (hm : X.mg x = none) (hv : bootBuiltins x = some (.builtin id)) (ha : JA X Fm (e :: es) t ag) (hg : Gl X x := by rfl) (hn : x ≠ "__name__" := by decide) (hdb : (x == ("__debug__" : Str)) = false := by decide)
    (he : starEach (e :: es) X.env = (false, eval e X.env) :: starEach es X.env := by rfl) (hpl : (backTo pos (starEach es X.env)).any (·.1) = false := by rfl) : JE X Fm (.Call (.Name x p) (e :: es) [] pos) (tCB r t) (aCB f ag) :=
  ⟨pe_callB hc hg hm hv ha.p hn hdb he hpl, snd_CB hs ha.s⟩
theorem je_callTy {x : Str} {p : Pos} {id : String} {r : List V → Hp → VK → Prop} {f : List D → (D → Prop) → Prop} (hc : CallR X (.type id) r) (hs : SndRs X.K Any r f) (hm : X.mg x = none) (hv : bootBuiltins x = some (.type id)) (ha : JA X Fm (e :: es) t ag) (hg : Gl X x := by rfl) (hn : x ≠ "__name__" := by decide) (hdb : (x == ("__debug__" : Str)) = false := by decide)
    (he : starEach (e :: es) X.env = (false, eval e X.env) :: starEach es X.env := by rfl) (hpl : (backTo pos (starEach es X.env)).any (·.1) = false := by rfl) : JE X Fm (.Call (.Name x p) (e :: es) [] pos) (tCB r t) (aCB f ag) :=
  ⟨pe_callTy hc hg hm hv ha.p hn hdb he hpl, snd_CB hs ha.s⟩
theorem je_upper (ho : JE X Fm o to ao) (hbase : attributeBase o "upper" X.env (eval o X.env) = eval o X.env := by rfl) (hline : (apos.endLine == pos.line) = true := by rfl) : JE X Fm (.Call (.Attribute o "upper" apos) [] [] pos) (tM0 rUpper to) (aMs wUpper ao aNil) := ⟨pe_upper ho.p hbase hline, snd_M0 s_upper ho.s⟩
theorem je_join (ho : JE X Fm o to ao) (he : JE X Fm e te ae) (hs : starEach [e] X.env = [(false, eval e X.env)] := by rfl) (hbase : attributeBase o "join" X.env (eval o X.env) = eval o X.env := by rfl) (hline : (apos.endLine == pos.line) = true := by rfl) :
    JE X Fm (.Call (.Attribute o "join" apos) [e] [] pos) (tM1 (rJoin X.K) to te) (aMs wJoin ao (aCons ae aNil)) := ⟨pe_join ho.p he.p hs hbase hline, snd_M1 s_join ho.s he.s⟩
theorem je_split (ho : JE X Fm o to ao) (he : JE X Fm e te ae) (hs : starEach [e] X.env = [(false, eval e X.env)] := by rfl) (hbase : attributeBase o "split" X.env (eval o X.env) = eval o X.env := by rfl) (hline : (apos.endLine == pos.line) = true := by rfl) :
    JE X Fm (.Call (.Attribute o "split" apos) [e] [] pos) (tM1 rSplit to te) (aMs wSplit ao (aCons ae aNil)) := ⟨pe_split ho.p he.p hs hbase hline, snd_M1 s_split ho.s he.s⟩
theorem je_index (ho : JE X Fm o to ao) (ha : JA X Fm (e :: es) t ag) (hbase : attributeBase o "index" X.env (eval o X.env) = eval o X.env := by rfl)
    (hfew : ((backTo pos (starEach (e :: es) X.env)).all (fun x => !x.1) && (backToKw pos (keywordEach [] X.env)).all (fun x => x.1.isSome) && decide ((e :: es).length + ([] : List Keyword).length + (if ([] : List Keyword).isEmpty then 0 else 1) < 30)) = true := by rfl)
    (hline : (apos.endLine == pos.line) = true := by rfl) (hs : starEach (e :: es) X.env = (false, eval e X.env) :: starEach es X.env := by rfl) (hplain : (backTo pos (starEach es X.env)).any (·.1) = false := by rfl) :
    JE X Fm (.Call (.Attribute o "index" apos) (e :: es) [] pos) (tBM X.K "list" (rIndex X.K) to t) (aMl wIndex ao ag) :=
  ⟨pe_bm PySem.F.plainAttrs_list PySem.F.slot_list_index PySem.F.type_list_index mt_index ho.p ha.p hbase hfew hline hs hplain, snd_Ml s_index ho.s ha.s⟩
theorem je_fmt (h : JE X Fm e te ae) : JE X Fm (.FormattedValue e (-1) none pos) (tFmt te) (aFmt ae) := ⟨pe_fmt h.p, snd_fmt h.s⟩
inductive JJ (X : Cx) (Fm : Fr) : List Expr → List TE → List ATE → Prop where
  | nil : JJ X Fm [] [] []
  | cons {e : Expr} {t : TE} {a : ATE} {es : List Expr} {ts : List TE} {as : List ATE} (h : JE X Fm e t a) (r : JJ X Fm es ts as) : JJ X Fm (e :: es) (t :: ts) (a :: as)
theorem JJ.p {es : List Expr} {ts : List TE} {as : List ATE} (h : JJ X Fm es ts as) : PJ X es ts := by
  induction h with
  | nil => exact .nil
  | cons h _ ih => exact .cons h.p ih
theorem JJ.s {es : List Expr} {ts : List TE} {as : List ATE} (h : JJ X Fm es ts as) : SndJ X.K Fm ts as := by
  induction h with
  | nil => exact .nil
  | cons h _ ih => exact .cons h.s ih
theorem je_joined {v1 v2 : Expr} {ts : List TE} {as : List ATE} (h : JJ X Fm (v1 :: v2 :: rest) ts as) : JE X Fm (.JoinedStr (v1 :: v2 :: rest) pos) (fun σ H Q => tJs ts Str.empty σ H fun out H1 => Q (.str out) H1) (aJoined as) := ⟨pe_joined h.p, snd_joined h.s⟩
theorem je_joined1 (h : JE X Fm e te ae) : JE X Fm (.JoinedStr [e] pos) te ae := ⟨pe_joined1 h.p, h.s⟩
theorem je_call {x : Str} {p : Pos} {k : Nat} {f : Addr} {fd : FuncData} {ps : List Str} {C' : WC} {A : List D → (D → Prop) → Prop} {dvs : List V} {ds : List Value} {dds : List D} (F : FnOk X.prog X.w X.K X.mg X.base CX0 k f fd ps (spOf X.K C' A)) (hr : Room k X.A) (hm : X.mg x = some (.ref f)) (hk : PySem.W.keepIn X.K (.ref f) = true) (hb : Binds X.K fd ps ds) (hd : Vals dvs ds)
    (hdd : ∀ (w : Wd) H, RA X.K w H dvs dds) (hC : FC X.K Fm C') (ha : JA X Fm (e :: es) t ag) (hg : Gl X x := by rfl) (hdb : (x == ("__debug__" : Str)) = false := by decide) (he : starEach (e :: es) X.env = (false, eval e X.env) :: starEach es X.env := by rfl) (hpl : (backTo pos (starEach es X.env)).any (·.1) = false := by rfl) :
    JE X Fm (.Call (.Name x p) (e :: es) [] pos) (tCall (spOf X.K C' A) dvs E0 t) (aCall A dds ag) := ⟨pe_call F hr hg hm hk hb hd pass0 ha.p hdb he hpl, snd_call hC hdd ha.s⟩
theorem je_call0 {x : Str} {p : Pos} {k : Nat} {f : Addr} {fd : FuncData} {ps : List Str} {C' : WC} {A : List D → (D → Prop) → Prop} {dvs : List V} {ds : List Value} {dds : List D} (F : FnOk X.prog X.w X.K X.mg X.base CX0 k f fd ps (spOf X.K C' A)) (hr : Room k X.A) (hm : X.mg x = some (.ref f)) (hk : PySem.W.keepIn X.K (.ref f) = true) (hb : Binds X.K fd ps ds) (hd : Vals dvs ds)
    (hdd : ∀ (w : Wd) H, RA X.K w H dvs dds) (hC : FC X.K Fm C') (hg : Gl X x := by rfl) (hdb : (x == ("__debug__" : Str)) = false := by decide) :
    JE X Fm (.Call (.Name x p) [] [] pos) (tCall (spOf X.K C' A) dvs E0 tNil) (aCall A dds aNil) := ⟨pe_call0 F hr hg hm hk hb hd pass0 hdb, snd_call hC hdd snd_nil⟩
/-! walks -/
theorem ji_any (h : JE X Fm l tl aa) : JI X Fm tg l (iAny X.K tl) (aItems aa) := ⟨pi_any h.p, snd_any h.s⟩
theorem ji_rng1 {p : Pos} (hm : X.mg "range" = none) (ha : JA X Fm [a] t ag) (hg : Gl X "range" := by rfl) (hs : starEach [a] X.env = [(false, eval a X.env)] := by rfl) : JI X Fm tg (.Call (.Name "range" p) [a] [] pos) (iRng1 t) (aRng1 ag) := ⟨pi_range1 hg hm ha.p hs, snd_rng1 ha.s⟩
theorem ji_rng2 {p : Pos} (hm : X.mg "range" = none) (ha : JA X Fm [a, b] t ag) (hg : Gl X "range" := by rfl) (hs : starEach [a, b] X.env = [(false, eval a X.env), (false, eval b X.env)] := by rfl) (hs2 : starEach [b] X.env = [(false, eval b X.env)] := by rfl) : JI X Fm tg (.Call (.Name "range" p) [a, b] [] pos) (iRng2 t) (aRng2 ag) := ⟨pi_range2 hg hm ha.p hs hs2, snd_rng2 ha.s⟩
theorem ji_zip {p tpos : Pos} {elts : List Expr} {kk : Nat} (hm : X.mg "zip" = none) (ha : JA X Fm [a, b] t ag) (hg : Gl X "zip" := by rfl) (hs : starEach [a, b] X.env = (false, eval a X.env) :: starEach [b] X.env := by rfl) (hpl : (backTo pos (starEach [b] X.env)).any (·.1) = false := by rfl) :
    JI X Fm (.Tuple elts kk tpos) (.Call (.Name "zip" p) [a, b] [] pos) (RZ.iZipA X.K t) (aZip ag) := ⟨RZ.pi_zipA hg hm ha.p hs hpl, snd_zip ha.s⟩
/-! targets -/
structure JG (X : Cx) (Fm : Fr) (js : List Nat) (tg : Expr) (g : TG) (a : ATG) : Prop where
  p : PG X tg g
  s : SndG X.K Fm js g a
structure JGs (X : Cx) (Fm : Fr) (js : List Nat) (tg : List Expr) (g : TGs) (a : ATGs) : Prop where
  p : PGs X tg g
  s : SndGs X.K Fm js g a
theorem jg_name (i : Nat) {x : Str} (hN : X.N.Nodup) (hi : X.N[i]? = some x := by rfl) (hx : Loc X.env.scope x := by first | exact Or.inl rfl | exact Or.inr rfl) (hf : X.fn x = true ∨ X.env.scope.names.lookup x = some .local := by first | exact .inl rfl | exact .inr rfl) : JG X Fm [i] (.Name x pos) (gName i) (gmN i) := ⟨pg_name hN hi hx hf, snd_gName i⟩
theorem jgs_nil : JGs X Fm [] [] gNil gmNil := ⟨pgs_nil, snd_gNil⟩
theorem jgs_cons {js ks : List Nat} {g : TG} {gs : TGs} {a : ATG} {b : ATGs} (h : JG X Fm js e g a) (h2 : JGs X Fm ks es gs b) (hs : (assignEach (e :: es) X.env).map (·.2) = assign e X.env :: (assignEach es X.env).map (·.2) := by rfl) : JGs X Fm (js ++ ks) (e :: es) (gCons g gs) (gmCons a b) := ⟨pgs_cons h.p h2.p hs, snd_gCons h.s h2.s⟩
theorem jg_tup {js : List Nat} {k n : Nat} {gs : TGs} {a : ATGs} (hc : X.calm = true) (h : JGs X Fm js es gs a) (hn : (assignEach es X.env).length = n := by rfl) (hst : (assignEach es X.env).findIdx? (·.1) = none := by rfl) : JG X Fm js (.Tuple es k pos) (gTup X.K n gs) (gmT n a) := ⟨pg_tup hc h.p hn hst, snd_gTup h.s⟩
/-! comprehensions -/
structure JTs (X : Cx) (Fm : Fr) (ifs : List Expr) (t : TT) (a : ATT) : Prop where
  p : PTs X ifs t
  s : SndT X.K Fm t a
theorem jts_nil : JTs X Fm [] tYes aYes := ⟨pts_nil, snd_yes⟩
theorem jts_one {t : TT} {a : ATT} (h : JT X Fm c t a) : JTs X Fm [c] t a := ⟨pts_one h.p, h.s⟩
theorem je_lc {js : List Nat} {ifs : List Expr} {scope : Scope} {own : List (Str × Nat)} {wi : TI} {ai : ATA} {g : TG} {agt : ATG} {tt : TT} {at' : ATT} (hc : X.calm = true) (hN : X.N.Nodup) (hi : JI X Fm tg iter wi ai) (ok : BlkOk X.N X.env.scope scope own)
    (hg : ∀ (s : Shared) (H : Hp) (Ca : Addr) (cl : List (Str × Addr)) (fp : List Addr), JG (X.blk s H scope (PySem.compEnvC scope cl Ca X.env) fp) Fm js tg g agt) (hjs : ∀ j ∈ js, j ∈ own.map (·.2))
    (ht : ∀ (s : Shared) (H : Hp) (Ca : Addr) (cl : List (Str × Addr)) (fp : List Addr), JTs (X.blk s H scope (PySem.compEnvC scope cl Ca X.env) fp) Fm ifs tt at')
    (he : ∀ (s : Shared) (H : Hp) (Ca : Addr) (cl : List (Str × Addr)) (fp : List Addr), JE (X.blk s H scope (PySem.compEnvC scope cl Ca X.env) fp) Fm elt te ae) (hs : ∀ x, foldedSetIterable iter X.env x = pure x := by intro _; rfl) :
    JE X Fm (.ListComp elt [⟨tg, iter, ifs, 0⟩] scope pos) (tLc wi g tt te (own.map (·.2))) (aLc ai agt at' ae (own.map (·.2))) :=
  ⟨pe_lc hc hN hi.p ok (fun s H Ca cl fp => (hg s H Ca cl fp).p) (fun s H Ca cl fp => (ht s H Ca cl fp).p) (fun s H Ca cl fp => (he s H Ca cl fp).p) hs,
    snd_lc hi.s (hg X.s_0 X.H_0 0 [] []).s hjs (ht X.s_0 X.H_0 0 [] []).s (he X.s_0 X.H_0 0 [] []).s⟩
/-! statements -/
variable {st : Stmt} {sts body orelse : List Stmt} {ts tu : TS} {as au : ATS}
theorem jss_nil : JSs X Fm [] tNext aNext := ⟨pss_nil, snd_next⟩
theorem jss_cons (h : JS X Fm st ts as) (h2 : JSs X Fm sts tu au) : JSs X Fm (st :: sts) (tSeq ts tu) (aSeq as au) := ⟨pss_cons h.p h2.p, snd_seq h.s h2.s⟩
theorem jss_one (h : JS X Fm st ts as) : JSs X Fm [st] ts as := ⟨pss_one h.p, h.s⟩
/-- the list in slot i is data from here on -/
theorem jss_frz (i : Nat) (h : JSs X Fm sts ts as) : JSs X Fm sts ts (aFrz i as) := ⟨h.p, snd_frz i h.s⟩
theorem js_break : JS X Fm (.Break pos) tBreak aBreak := ⟨ps_break, snd_break⟩
theorem js_cont : JS X Fm (.Continue pos) tCont aCont := ⟨ps_continue, snd_cont⟩
theorem js_pass : JS X Fm (.Pass pos) tNext aNext := ⟨ps_pass, snd_next⟩
theorem js_ret (h : JE X Fm e te ae) : JS X Fm (.Return (some e) pos) (tRet te) (aRet ae) := ⟨ps_ret h.p, snd_ret h.s⟩
theorem js_retN : JS X Fm (.Return none pos) tRetN aRetN := ⟨ps_retN, snd_retN⟩
theorem js_expr (h : JE X Fm e te ae) (hs : swapsWith e none pos.line X.env = pure false := by rfl) : JS X Fm (.Expr e pos) (tDrop te) (aDrop ae) := ⟨ps_expr h.p hs, snd_drop h.s⟩
theorem js_if {tt : TT} {at' : ATT} (h : JT X Fm c tt at') (h1 : JSs X Fm body ts as) (h2 : JSs X Fm orelse tu au) : JS X Fm (.If c body orelse pos) (tIfS tt ts tu) (aIfS at' as au) := ⟨ps_if h.p h1.p h2.p, snd_ifS h.s h1.s h2.s⟩
theorem js_set (i : Nat) {x : Str} {p : Pos} (hN : X.N.Nodup) (h : JE X Fm e te ae) (hi : X.N[i]? = some x := by rfl) (hx : Loc X.env.scope x := by first | exact Or.inl rfl | exact Or.inr rfl) (hs : swapsWith e (some (.Name x p)) pos.line X.env = pure false := by rfl)
    (hf : X.fn x = true ∨ X.env.scope.names.lookup x = some .local := by first | exact .inl rfl | exact .inr rfl) : JS X Fm (.Assign [.Name x p] e pos) (tAsg te (gName i)) (aAsg ae (gmN i)) := ⟨ps_set hN hi hx h.p hs hf, snd_asg h.s (snd_gName i)⟩
theorem js_asg {js : List Nat} {g : TG} {agt : ATG} (h : JE X Fm e te ae) (hg : JG X Fm js tg g agt) (hs : swapsWithSole [tg] e pos.line X.env = pure false := by rfl) (hw : swappedStores [tg] e X.env = pure none := by rfl) (h1 : (assignEach [tg] X.env).map (·.2) = [assign tg X.env] := by rfl) :
    JS X Fm (.Assign [tg] e pos) (tAsg te g) (aAsg ae agt) := ⟨ps_asg h.p hg.p hs hw h1, snd_asg h.s hg.s⟩
theorem js_setLc (i : Nat) {js : List Nat} {y : Str} {py spos : Pos} {ifs : List Expr} {scope : Scope} {own : List (Str × Nat)} {wi : TI} {ai : ATA} {g : TG} {agt : ATG} {tt : TT} {at' : ATT} (hc : X.calm = true) (hN : X.N.Nodup) (hy : X.N[i]? = some y) (hyl : X.env.scope.names.lookup y = some .local)
    (hsw : swapsWith (.ListComp elt [⟨tg, iter, ifs, 0⟩] scope pos) (some (.Name y py)) spos.line X.env = pure true) (hi : JI X Fm tg iter wi ai) (ok : BlkOk X.N X.env.scope scope own)
    (hg : ∀ (s : Shared) (H : Hp) (Ca : Addr) (cl : List (Str × Addr)) (fp : List Addr), JG (X.blk s H scope (PySem.compEnvC scope cl Ca X.env) fp) Fm js tg g agt) (hjs : ∀ j ∈ js, j ∈ own.map (·.2))
    (ht : ∀ (s : Shared) (H : Hp) (Ca : Addr) (cl : List (Str × Addr)) (fp : List Addr), JTs (X.blk s H scope (PySem.compEnvC scope cl Ca X.env) fp) Fm ifs tt at')
    (he : ∀ (s : Shared) (H : Hp) (Ca : Addr) (cl : List (Str × Addr)) (fp : List Addr), JE (X.blk s H scope (PySem.compEnvC scope cl Ca X.env) fp) Fm elt te ae) (hs : ∀ x, foldedSetIterable iter X.env x = pure x := by intro _; rfl) :
    JS X Fm (.Assign [.Name y py] (.ListComp elt [⟨tg, iter, ifs, 0⟩] scope pos) spos) (tAsg (tLc wi g tt te (own.map (·.2))) (gName i)) (aAsg (aLc ai agt at' ae (own.map (·.2))) (gmN i)) :=
  ⟨ps_setLc hc hN hy hyl hsw hi.p ok (fun s H Ca cl fp => (hg s H Ca cl fp).p) (fun s H Ca cl fp => (ht s H Ca cl fp).p) (fun s H Ca cl fp => (he s H Ca cl fp).p) hs,
    snd_asg (snd_lc hi.s (hg X.s_0 X.H_0 0 [] []).s hjs (ht X.s_0 X.H_0 0 [] []).s (he X.s_0 X.H_0 0 [] []).s) (snd_gName i)⟩
theorem js_for {js : List Nat} {wi : TI} {ai : ATA} {g : TG} {agt : ATG} (hc : X.calm = true) (hi : JI X Fm tg iter wi ai) (hg : JG X Fm js tg g agt) (hb : JSs X Fm body ts as) (hp : PassesOwn (model X.prog X.w) X.A X.env X.xe) (hs : ∀ x, foldedSetIterable iter X.env x = pure x := by intro _; rfl) :
    JS X Fm (.For tg iter body [] pos) (tFor wi g ts) (aFor ai agt as) := ⟨ps_for hp hc hi.p hg.p hb.p hs, snd_for hi.s hg.s hb.s⟩
theorem js_while {tt : TT} {at' : ATT} (h : JT X Fm c tt at') (hb : JSs X Fm body ts as) (hp : PassesOwn (model X.prog X.w) X.A X.env X.xe) : JS X Fm (.While c body [] pos) (tWhile tt ts) (aWhile at' as) := ⟨ps_while hp h.p hb.p, snd_while h.s hb.s⟩
theorem je_app (ho : JE X Fm o to ao) (he : JE X Fm e te ae) (hsx : starEach [e] X.env = [(false, eval e X.env)] := by rfl) (hbase : attributeBase o "append" X.env (eval o X.env) = eval o X.env := by rfl)
    (hfew : ((backTo pos (starEach [e] X.env)).all (fun x => !x.1) && (backToKw pos (keywordEach [] X.env)).all (fun x => x.1.isSome) && decide ([e].length + ([] : List Keyword).length + (if ([] : List Keyword).isEmpty then 0 else 1) < 30)) = true := by rfl)
    (hline : (apos.endLine == pos.line) = true := by rfl) (hplain : (backTo pos (starEach [] X.env)).any (·.1) = false := by rfl) :
    JE X Fm (.Call (.Attribute o "append" apos) [e] [] pos) (tBM X.K "list" rAppend to (tCons te tNil)) (aApp ao ae) :=
  ⟨pe_bm PySem.F.plainAttrs_list PySem.F.slot_list_append PySem.F.type_list_append mt_append ho.p (pa_cons he.p pa_nil hsx) hbase hfew hline hsx hplain, snd_app ho.s he.s⟩
theorem je_ext (ho : JE X Fm o to ao) (he : JE X Fm e te ae) (hsx : starEach [e] X.env = [(false, eval e X.env)] := by rfl) (hbase : attributeBase o "extend" X.env (eval o X.env) = eval o X.env := by rfl)
    (hfew : ((backTo pos (starEach [e] X.env)).all (fun x => !x.1) && (backToKw pos (keywordEach [] X.env)).all (fun x => x.1.isSome) && decide ([e].length + ([] : List Keyword).length + (if ([] : List Keyword).isEmpty then 0 else 1) < 30)) = true := by rfl)
    (hline : (apos.endLine == pos.line) = true := by rfl) (hplain : (backTo pos (starEach [] X.env)).any (·.1) = false := by rfl) :
    JE X Fm (.Call (.Attribute o "extend" apos) [e] [] pos) (tBM X.K "list" rExtend to (tCons te tNil)) (aExt ao ae) :=
  ⟨pe_bm PySem.F.plainAttrs_list PySem.F.slot_list_extend PySem.F.type_list_extend mt_extend ho.p (pa_cons he.p pa_nil hsx) hbase hfew hline hsx hplain, snd_ext ho.s he.s⟩
/-- operations on a cell -/
theorem je_opL {op : Operator} {r : R2} {g : D → D → (D → Prop) → Prop} (ho : JO X (binaryOp op) r g) (ha : JE X Fm a ta aa) (hb : JE X Fm b tb ab) : JE X Fm (.BinOp a op b pos) (tOp r ta tb) (aOpL g aa ab) := ⟨pe_op ho.p ha.p hb.p, snd_opL ho.s ha.s hb.s⟩
theorem je_cmpL {op : CmpOp} {r : R2} {g : D → D → (D → Prop) → Prop} (ho : JO X (compareOp op) r g) (ha : JE X Fm a ta aa) (hb : JE X Fm b tb ab) (hm : behindInMarks op b = false := by rfl) : JE X Fm (.Compare a [op] [b] pos) (tOp r ta tb) (aOpL g aa ab) :=
  ⟨pe_cmpR ho.p ha.p hb.p hm, snd_opL ho.s ha.s hb.s⟩
theorem jt_cmpL {op : CmpOp} {r : R2} {g : D → D → (D → Prop) → Prop} (ho : JO X (compareOp op) r g) (ha : JE X Fm a ta aa) (hb : JE X Fm b tb ab) (hm : behindInMarks op b = false := by rfl) : JT X Fm (.Compare a [op] [b] pos) (tTest (tOp r ta tb)) (aB (aOpL g aa ab)) :=
  ⟨pt_cmpR ho.p ha.p hb.p hm, snd_test (snd_opL ho.s ha.s hb.s)⟩
theorem je_cmpR {op : CmpOp} {r : R2} {g : D → D → (D → Prop) → Prop} (ho : JO X (compareOp op) r g) (ha : JE X Fm a ta aa) (hb : JE X Fm b tb ab) (hm : behindInMarks op b = false := by rfl) : JE X Fm (.Compare a [op] [b] pos) (tOp r ta tb) (aOpR g aa ab) :=
  ⟨pe_cmpR ho.p ha.p hb.p hm, snd_opR ho.s ha.s hb.s⟩
theorem jt_cmpR {op : CmpOp} {r : R2} {g : D → D → (D → Prop) → Prop} (ho : JO X (compareOp op) r g) (ha : JE X Fm a ta aa) (hb : JE X Fm b tb ab) (hm : behindInMarks op b = false := by rfl) : JT X Fm (.Compare a [op] [b] pos) (tTest (tOp r ta tb)) (aB (aOpR g aa ab)) :=
  ⟨pt_cmpR ho.p ha.p hb.p hm, snd_test (snd_opR ho.s ha.s hb.s)⟩
theorem je_ixC (ha : JE X Fm a ta aa) (hb : JE X Fm b tb ab) (hs : PlainIx b := by intro _ _; rfl) : JE X Fm (.Subscript a b pos) (tOp (rIx X.K) ta tb) (aIxC aa ab) := ⟨pe_ix ix_seq ha.p hb.p hs, snd_ixC ha.s hb.s⟩
theorem je_callC {x : Str} {p : Pos} {id : String} {r : List V → Hp → VK → Prop} {f : List D → (D → Prop) → Prop} (hc : CallR X (.builtin id) r) (hs : SndRs X.K Any r f) (hm : X.mg x = none) (hv : bootBuiltins x = some (.builtin id)) (ha : JE X Fm e te ae) (hg : Gl X x := by rfl) (hn : x ≠ "__name__" := by decide) (hdb : (x == ("__debug__" : Str)) = false := by decide)
    (he : starEach [e] X.env = (false, eval e X.env) :: starEach [] X.env := by rfl) (hpl : (backTo pos (starEach [] X.env)).any (·.1) = false := by rfl) : JE X Fm (.Call (.Name x p) [e] [] pos) (tCB r (tCons te tNil)) (aCBc f ae) :=
  ⟨pe_callB hc hg hm hv (pa_cons ha.p pa_nil he) hn hdb he hpl, snd_CBc hs ha.s⟩
/-- the target x[i] -/
theorem jg_sub {o i : Expr} {to ti : TE} {ao ai : ATE} (ho : JE X Fm o to ao) (hi : JE X Fm i ti ai)
    (ha : ∀ v, assign (.Subscript o i pos) X.env v = (do
      let ov ← holding [v] (eval o X.env)
      let iv ← holding [v, ov] (eval i X.env)
      standAt pos
      holding [v, ov, iv] (setItem ov iv v)
      release [v, ov, iv] []) := by intro _; rfl) : JG X Fm [] (.Subscript o i pos) (gSub to ti rSetL) (gmSub ao ai) := ⟨pg_sub ho.p hi.p set_list ha, snd_gSub ho.s hi.s⟩
theorem js_par (i j : Nat) {px py pt : Pos} {kt k2 : Nat} {pt2 : Pos} {x y : Str} (hN : X.N.Nodup) (ha : JA X Fm [a, b] t ag) (hc : X.calm = true := by rfl) (hi : X.N[i]? = some x := by rfl) (hj : X.N[j]? = some y := by rfl) (hij : i ≠ j := by decide)
    (hx : X.env.scope.names.lookup x = some .local := by rfl) (hy : X.env.scope.names.lookup y = some .local := by rfl)
    (hw : swappedStores [.Tuple [.Name x px, .Name y py] kt pt] (.Tuple [a, b] k2 pt2) X.env = pure (some [x, y]) := by rfl)
    (hs : swapsWithSole [.Tuple [.Name x px, .Name y py] kt pt] (.Tuple [a, b] k2 pt2) pos.line X.env = pure false := by rfl) :
    JS X Fm (.Assign [.Tuple [.Name x px, .Name y py] kt pt] (.Tuple [a, b] k2 pt2) pos) (tPar i j t) (aPar i j ag) := ⟨ps_par hc hN hi hj hij hx hy ha.p hw hs, snd_par ha.s⟩
theorem jss_never : JSs X Fm sts tNever aNever := ⟨pss_never, snd_never⟩
end
end Bd
/-! BdB: a def by its name, and its calls. -/
namespace Bd
open PySem L2
theorem hu65 {k : Nat} {A : Around} (hr : Room k A) : A.units + 65 < cLine := by have := hr.un; omega
/-- a def of the text keeps Ab, by at most level k -/
structure Fnc (P : Program) (w : World) (K : PySem.W.Frag) (mg : Str → Option Value) (base : Heap) (x : Str) (k : Nat) (ps : List Str) (C : WC) (Ab : List D → (D → Prop) → Prop) : Prop where
  ex : ∃ fd, FnOk P w K mg base CX0 k (He.ga K x) fd ps (spOf K C Ab) ∧ Binds K fd ps [] ∧ ∀ n, n < ps.length → n = 0 → KBn K fd ps 0 ps (fun _ ws => ws) (fun _ zs => zs)
  m : mg x = some (.ref (He.ga K x))
  k : PySem.W.keepIn K (.ref (He.ga K x)) = true
section
variable {X : Cx} {Fm : Fr} {C C' : WC} {e : Expr} {es : List Expr} {pos p : Pos} {te : TE} {ae : ATE} {t tk : TA} {ag ak : ATA} {x : Str} {k j : Nat} {ps : List Str} {A : List D → (D → Prop) → Prop}
theorem je_fnc (F : Fnc X.prog X.w X.K X.mg X.base x k ps C' A) (hr : Room j X.A) (hk : k ≤ j) (hC : FC X.K Fm C') (ha : JA X Fm (e :: es) t ag) (hg : Gl X x := by rfl) (hdb : (x == ("__debug__" : Str)) = false := by decide) (he : starEach (e :: es) X.env = (false, eval e X.env) :: starEach es X.env := by rfl) (hpl : (backTo pos (starEach es X.env)).any (·.1) = false := by rfl) :
    JE X Fm (.Call (.Name x p) (e :: es) [] pos) (tCall (spOf X.K C' A) [] E0 t) (aCall A [] ag) := by
  obtain ⟨fd, F1, b, _⟩ := F.ex
  exact je_call F1 (hr.mono hk) F.m F.k b .nil (fun _ _ => .nil) hC ha hg hdb he hpl
theorem je_fnc0 (F : Fnc X.prog X.w X.K X.mg X.base x k ps C' A) (hr : Room j X.A) (hk : k ≤ j) (hC : FC X.K Fm C') (hg : Gl X x := by rfl) (hdb : (x == ("__debug__" : Str)) = false := by decide) :
    JE X Fm (.Call (.Name x p) [] [] pos) (tCall (spOf X.K C' A) [] E0 tNil) (aCall A [] aNil) := by
  obtain ⟨fd, F1, b, _⟩ := F.ex
  exact je_call0 F1 (hr.mono hk) F.m F.k b .nil (fun _ _ => .nil) hC hg hdb
/-! f(k = v), every parameter by its name -/
structure JK (X : Cx) (Fm : Fr) (kws : List Keyword) (t : TA) (a : ATA) : Prop where
  p : PK X kws t
  s : SndA X.K Fm t a
theorem jk_nil : JK X Fm [] tNil aNil := ⟨pk_nil, snd_nil⟩
theorem jk_cons {nm : Option Str} {kp : Pos} {kws : List Keyword} (h : JE X Fm e te ae) (h2 : JK X Fm kws t ag) : JK X Fm (⟨nm, e, kp⟩ :: kws) (tCons te t) (aCons ae ag) := ⟨pk_cons h.p h2.p, snd_cons h.s h2.s⟩
theorem je_fnk {kws : List Keyword} (F : Fnc X.prog X.w X.K X.mg X.base x k ps C' A) (hr : Room j X.A) (hk : k ≤ j) (hC : FC X.K Fm C') (h0 : 0 < ps.length) (hkw : JK X Fm kws tk ak) (hg : Gl X x := by rfl)
    (hall : (backToKw pos (keywordEach kws X.env)).all (·.1.isSome) = true := by rfl) (hks : (backToKw pos (keywordEach kws X.env)).filterMap (·.1) = ps := by rfl) (hdb : (x == ("__debug__" : Str)) = false := by decide)
    (hpl : ((backTo pos (starEach [] X.env)).any (·.1) || (backToKw pos (keywordEach kws X.env)).any (·.1.isNone)) = false := by rfl) :
    JE X Fm (.Call (.Name x p) [] kws pos) (tCallN 0 ps.length (spOf X.K C' A) (fun _ zs => zs) E0 tNil tk) (aCall A [] ak) := by
  obtain ⟨fd, F1, b, kb⟩ := F.ex
  have kb0 := kb 0 h0 rfl
  refine ⟨⟨fun pins s σ H Q I h => ?_⟩, ?_⟩
  · refine wpAny_Call_Name_kw (ld_glob I hg F.m ?_ hdb)
    refine PySem.W.callWith_KW0 (h₀ := X.base) I.ok.mod.kin F.k hall ?_ hpl
    refine thn (hkw.p.run pos pins s σ H _ I h) fun ws s2 ⟨zs, H2, I2, rz, l1, l2, q2⟩ => ⟨I2.kIn, ?_⟩
    rw [hks]
    exact run_fnN (us := []) (vs := []) F1 (hr.mono hk) kb0 pass0 I2 .nil rz rfl l2 q2
  · intro gs pv os σcs σ H Γ P Q r0 ha hq
    refine hkw.s gs pv os σcs σ H Γ _ _ r0 ha fun vs H1 ds os1 c1 r1 ra p1 => ⟨rfl, ?_, ?_⟩
    · exact F1.len vs H1 (fun v H' => ∃ d, Step (Fm.at pv os1) H1 H' ∧ R X.K (Fm.at pv os1) H' v d ∧ P d c1) (fun _ _ _ => False) ⟨Fm.at pv os1, ds, fun d => P d c1, hC _ _ _ _ r1.st, r1.st.inv, ra, by have p2 := p1; rw [List.append_nil] at p2; exact p2, fun v H' d s r p => ⟨d, s, r, p⟩⟩
    · exact ⟨Fm.at pv os1, ds, fun d => P d c1, hC _ _ _ _ r1.st, r1.st.inv, ra, by have p2 := p1; rw [List.append_nil] at p2; exact p2, fun v H' d s r p => hq v H' d os1 c1 ((r1.step s).gcons r) p⟩
end
structure FncS (P : Program) (w : World) (K : PySem.W.Frag) (mg : Str → Option Value) (base : Heap) (x : Str) (k : Nat) (ps : List Str) (C : WC) (Ab : List D → Cs → (D → Cs → Prop) → Prop) : Prop where
  ex : ∃ fd, FnOk P w K mg base CX0 k (He.ga K x) fd ps (spS K C Ab) ∧ Binds K fd ps []
  m : mg x = some (.ref (He.ga K x))
  k : PySem.W.keepIn K (.ref (He.ga K x)) = true
section
variable {X : Cx} {Fm : Fr} {C C' : WC} {e : Expr} {es : List Expr} {pos p : Pos} {te : TE} {ae : ATE} {t tk : TA} {ag ak : ATA} {x : Str} {k j : Nat} {ps : List Str} {A : List D → Cs → (D → Cs → Prop) → Prop}
theorem je_fns (F : FncS X.prog X.w X.K X.mg X.base x k ps C' A) (hr : Room j X.A) (hk : k ≤ j) (hC : FP X.K Fm C') (ha : JA X Fm (e :: es) t ag) (hg : Gl X x := by rfl) (hdb : (x == ("__debug__" : Str)) = false := by decide) (he : starEach (e :: es) X.env = (false, eval e X.env) :: starEach es X.env := by rfl) (hpl : (backTo pos (starEach es X.env)).any (·.1) = false := by rfl) :
    JE X Fm (.Call (.Name x p) (e :: es) [] pos) (tCall (spS X.K C' A) [] E0 t) (aCallS A [] ag) := by
  obtain ⟨fd, F1, b⟩ := F.ex
  exact ⟨pe_call F1 (hr.mono hk) hg F.m F.k b .nil pass0 ha.p hdb he hpl, snd_callS hC (fun _ _ => .nil) ha.s⟩
end
section
variable {P : Program} {w : World} {K : PySem.W.Frag} {mg : Str → Option Value} {base : Heap} {x : Str} {st : Stmt} {N ps : List Str} {k : Nat} {C : WC} {a : ATS}
theorem fnc_mk {Ab : List D → (D → Prop) → Prop}
    (hF : ∃ fd, FnS K x x st [] (He.ga K x) fd) (m : mg x = some (.ref (He.ga K x))) (S : FnScope N ps (defScope st))
    (hb : ∀ (kV doc pm : Value) (an : Option Addr) (cdv ct : Value) (us : List Value), us.length = ps.length → bindArgs (PySem.W.fnOf x x (defArgs st) (defBody st) (defScope st) .none kV doc pm an cdv ct) ⟨us, []⟩ = pure (ps.zip us))
    (hk : ∀ (kV doc pm : Value) (an : Option Addr) (cdv ct : Value) (us : List Value), us.length = ps.length → bindArgs (PySem.W.fnOf x x (defArgs st) (defBody st) (defScope st) .none kV doc pm an cdv ct) ⟨[], ps.zip us⟩ = pure (ps.zip us))
    (hlen : ∀ ds P, Ab ds P → ds.length = ps.length) (hA : ∀ ds P, Ab ds P → a { nx := fun _ _ => P .non, rt := fun d _ => P d } (startG N.length ds) [])
    (hJ : ∀ (Fm : Fr) (fd : FuncData) (cdv : Value) (A : Around) (outer : List Env) (s : Shared) (H : Hp) (E : XK), C Fm.w → Room k (A.deeper (PyProof.Rows.envOfC x (defScope st) s.heap.objs.size (He.ga K x) cdv)) → ∃ t, JSs (cxOf CX0 P w K mg base N x (defScope st) (He.ga K x) cdv A outer s H E).nox Fm (defBody st) t a) :
    Fnc P w K mg base x (k + 1) ps C Ab := by
  obtain ⟨fd, F⟩ := hF
  refine ⟨⟨fd, fn_rule F S hlen hA (fun Fm => hJ Fm fd), F.bindsN hb, fun n _ _ => ?_⟩, m, F.kp⟩
  obtain ⟨oc, od, dV, kV, doc, pm, an, cdv, ct, osl, rfl, lk, hcd, hD, hK⟩ := F.ex
  rcases hD with ⟨_, rfl⟩ | ⟨e, _⟩
  · exact ⟨fun s us ws X l1 l2 => by
      have : us = [] := List.length_eq_zero_iff.mp l1
      subst this
      exact .of_eq (hk kV doc pm an cdv ct ws l2), fun _ r => r⟩
  · exact absurd rfl e
theorem fns_mk {Ab : List D → Cs → (D → Cs → Prop) → Prop}
    (hF : ∃ fd, FnS K x x st [] (He.ga K x) fd) (m : mg x = some (.ref (He.ga K x))) (S : FnScope N ps (defScope st))
    (hb : ∀ (kV doc pm : Value) (an : Option Addr) (cdv ct : Value) (us : List Value), us.length = ps.length → bindArgs (PySem.W.fnOf x x (defArgs st) (defBody st) (defScope st) .none kV doc pm an cdv ct) ⟨us, []⟩ = pure (ps.zip us))
    (hlen : ∀ ds c P, Ab ds c P → ds.length = ps.length) (hA : ∀ ds c P, Ab ds c P → a { nx := fun _ c' => ∃ n, P .non (c'.drop n), rt := fun d c' => ∃ n, P d (c'.drop n) } (startG N.length ds) c)
    (hJ : ∀ (Fm : Fr) (fd : FuncData) (cdv : Value) (A : Around) (outer : List Env) (s : Shared) (H : Hp) (E : XK), C Fm.w → Room k (A.deeper (PyProof.Rows.envOfC x (defScope st) s.heap.objs.size (He.ga K x) cdv)) → ∃ t, JSs (cxOf CX0 P w K mg base N x (defScope st) (He.ga K x) cdv A outer s H E).nox Fm (defBody st) t a) :
    FncS P w K mg base x (k + 1) ps C Ab := by
  obtain ⟨fd, F⟩ := hF
  exact ⟨⟨fd, fn_ruleS F S hlen hA (fun Fm => hJ Fm fd), F.bindsN hb⟩, m, F.kp⟩
theorem fns_false {Ab : List D → Cs → (D → Cs → Prop) → Prop}
    (hF : ∃ fd, FnS K x x st [] (He.ga K x) fd) (m : mg x = some (.ref (He.ga K x)))
    (hb : ∀ (kV doc pm : Value) (an : Option Addr) (cdv ct : Value) (us : List Value), us.length = ps.length → bindArgs (PySem.W.fnOf x x (defArgs st) (defBody st) (defScope st) .none kV doc pm an cdv ct) ⟨us, []⟩ = pure (ps.zip us))
    (h : ∀ ds c P, ¬ Ab ds c P) : FncS P w K mg base x k ps C Ab := by
  obtain ⟨fd, F⟩ := hF
  exact ⟨⟨fd, ⟨fun vs H Q E ⟨_, _, _, _, _, _, _, _, ha, _⟩ => (h _ _ _ ha).elim, fun A outer s H args us vs Q E _ _ _ _ ⟨_, _, _, _, _, _, _, _, ha, _⟩ => (h _ _ _ ha).elim⟩, F.bindsN hb⟩, m, F.kp⟩
end
/-- a promise that nobody asks for -/
theorem fnc_none {P : Program} {w : World} {K : PySem.W.Frag} {mg : Str → Option Value} {base : Heap} {x : Str} {k j : Nat} {ps : List Str} {C C' : WC} {Ab Ab' : List D → (D → Prop) → Prop} (F : Fnc P w K mg base x j ps C' Ab') (h : ∀ ds P, ¬ Ab ds P) : Fnc P w K mg base x k ps C Ab := by
  obtain ⟨fd, F1, b, kb⟩ := F.ex
  exact ⟨⟨fd, ⟨fun vs H Q E ⟨_, _, _, _, _, _, ha, _⟩ => (h _ _ ha).elim, fun A outer s H args us vs Q E _ _ _ _ ⟨_, _, _, _, _, _, ha, _⟩ => (h _ _ ha).elim⟩, b, kb⟩, F.m, F.k⟩
theorem Fnc.mono {P : Program} {w : World} {K : PySem.W.Frag} {mg : Str → Option Value} {base : Heap} {x : Str} {k j : Nat} {ps : List Str} {C : WC} {Ab : List D → (D → Prop) → Prop} (F : Fnc P w K mg base x j ps C Ab) (h : j ≤ k) : Fnc P w K mg base x k ps C Ab := by
  obtain ⟨fd, F1, b, kb⟩ := F.ex
  exact ⟨⟨fd, F1.mono h, b, kb⟩, F.m, F.k⟩
end Bd
namespace Bd
open PySem L2
/-- nothing is promised -/
theorem fnc_false {P : Program} {w : World} {K : PySem.W.Frag} {mg : Str → Option Value} {base : Heap} {x : Str} {st : Stmt} {ps : List Str} {k : Nat} {C : WC}
    (hF : ∃ fd, FnS K x x st [] (He.ga K x) fd) (m : mg x = some (.ref (He.ga K x)))
    (hb : ∀ (kV doc pm : Value) (an : Option Addr) (cdv ct : Value) (us : List Value), us.length = ps.length → bindArgs (PySem.W.fnOf x x (defArgs st) (defBody st) (defScope st) .none kV doc pm an cdv ct) ⟨us, []⟩ = pure (ps.zip us))
    (hk : ∀ (kV doc pm : Value) (an : Option Addr) (cdv ct : Value) (us : List Value), us.length = ps.length → bindArgs (PySem.W.fnOf x x (defArgs st) (defBody st) (defScope st) .none kV doc pm an cdv ct) ⟨[], ps.zip us⟩ = pure (ps.zip us)) {Ab : List D → (D → Prop) → Prop} (h : ∀ ds P, ¬ Ab ds P) :
    Fnc P w K mg base x k ps C Ab := by
  obtain ⟨fd, F⟩ := hF
  refine ⟨⟨fd, ⟨fun vs H Q E ⟨_, _, _, _, _, _, ha, _⟩ => (h _ _ ha).elim, fun A outer s H args us vs Q E _ _ _ _ ⟨_, _, _, _, _, _, ha, _⟩ => (h _ _ ha).elim⟩, F.bindsN hb, fun n _ _ => ?_⟩, m, F.kp⟩
  obtain ⟨oc, od, dV, kV, doc, pm, an, cdv, ct, osl, rfl, lk, hcd, hD, hK⟩ := F.ex
  rcases hD with ⟨_, rfl⟩ | ⟨e, _⟩
  · exact ⟨fun s us ws X l1 l2 => by
      have : us = [] := List.length_eq_zero_iff.mp l1
      subst this
      exact .of_eq (hk kV doc pm an cdv ct ws l2), fun _ r => r⟩
  · exact absurd rfl e
end Bd
/-! BdG: the laws' bag of numbers: what is drawn is some number below the bound, no more is told. -/
namespace Bd
open PySem L2
def BagAt (b c : Addr) (H : Hp) : Prop := ∃ (ns : List Int) (i g s : Int), H b = some (.lst [.ref c, .int i, .int g, .int s]) ∧ H c = some (.lst (ns.map V.int)) ∧ 0 ≤ i ∧ 0 ≤ g ∧ 0 ≤ s ∧ s < 4294967296 ∧ ns.length ≤ 63
def BagW (w : Wd) : Prop := ∃ b c, w.hd 0 = some b ∧ b ∈ w.ms ∧ c ∈ w.ms ∧ b ≠ c ∧ (∀ H, w.I H → BagAt b c H) ∧ ∀ H H', w.I H → (∀ a, a ∈ w.ms → a ≠ b → H' a = H a) → KeepE H H' → BagAt b c H' → w.I H'
theorem bag_cl : Cl BagW := by
  rintro w os ⟨b, c, h1, h2, h3, h4, h5, h6⟩ hd
  refine ⟨b, c, h1, List.mem_append_right _ h2, List.mem_append_right _ h3, h4, fun H h => h5 H h.1, fun H H' h k ke hb => ⟨h6 H H' h.1 (fun a ha hn => k a (List.mem_append_right _ ha) hn) ke hb, fun p hp => ?_⟩⟩
  exact (k p.1 (List.mem_append_left _ (List.mem_map_of_mem hp)) fun z => hd p hp (z ▸ h2)).trans (h.2 p hp)
def A_l_pull (ds : List D) (P : D → Prop) : Prop := ∃ m : Int, ds = [.hdl 0, .int m] ∧ 0 < m ∧ m.natAbs.log2 < 9000 ∧ ∀ k : Int, 0 ≤ k → k < m → P (.int k)
theorem keep_bag {b c : Addr} {H H' : Hp} (hb : BagAt b c H) (k : ∀ a, a ≠ b → H' a = H a) : KeepE H H' := fun a o e t => by
  by_cases z : a = b
  · obtain ⟨ns, i, g, s, h1, _⟩ := hb
    subst z
    rw [h1] at e
    cases e
    cases t
  · rw [k a z]
    exact e
/-- the bag's world with another bag -/
theorem bag_step {w : Wd} {b c : Addr} {H H' : Hp} (hm : b ∈ w.ms) (h5 : ∀ H, w.I H → BagAt b c H) (h6 : ∀ H H', w.I H → (∀ a, a ∈ w.ms → a ≠ b → H' a = H a) → KeepE H H' → BagAt b c H' → w.I H') (hI : w.I H) (k : ∀ a, a ≠ b → H' a = H a) (hb : BagAt b c H') : Step w H H' := by
  refine ⟨fun a o e => ?_, h6 H H' hI (fun a _ hn => k a hn) (keep_bag (h5 H hI) k) hb⟩
  obtain ⟨h1, h2, h3⟩ := vis_all e
  exact vis_of h1 ((k a fun z => h1 (z ▸ hm)).trans h2) h3
section
variable {P : Program} {w : World} {K : PySem.W.Frag} {mg : Str → Option Value} {base : Heap}
abbrev pIx (K : PySem.W.Frag) (i : Int) : TE := tOp (rIxL K) (tVar 0) (tC (.int i))
abbrev pP : R2 := rI0 fun i j => .int (i + j)
abbrev pT : R2 := rI CMul fun i j => .int (i * j)
abbrev pM : R2 := rI (fun _ j => j ≠ 0) fun i j => .int (i.fmod j)
abbrev pI (t : TE) : TE := tCB (fun xs H Q => (∃ i, xs = [.int i] ∧ Q (.int i) H) ∨ ∃ k, xs = [.bl k] ∧ Q (.int (if k then 1 else 0)) H) (tCons t tNil)
abbrev pSt (i : Int) (t : TE) : TS := tAsg t (gSub (tVar 0) (tC (.int i)) rSetL)
/-- what _law_pull's body does: the cell, the great cell's digit, the mixed number -/
def t_pull1 (K : PySem.W.Frag) : TS := tIfS (tAnd (tTest (tOp rEq (pIx K 2) (tC (.int 0)))) (tTest (tOp (rI0 fun i j => .bl (decide (i < j))) (pIx K 1) (tCB (fun xs H Q => ∃ p ys, xs = [.ref p] ∧ (SqL K H p ys ∨ SqT K H p ys) ∧ Q (.int ys.length) H) (tCons (pIx K 0) tNil)))))
    (tSeq (tAsg (tOp (rIxL K) (pIx K 0) (pIx K 1)) (gName 2))
    (tSeq (pSt 1 (tOp pP (pIx K 1) (tC (.int 1))))
    (tIfS (tTest (tOp (rI0 fun i j => .bl (decide (j ≤ i))) (tVar 2) (tOp (rI CPow fun i j => .int (i ^ j.toNat)) (tC (.int 10)) (tC (.int 18)))))
      (pSt 2 (tVar 2))
      (pSt 3 (tOp pM (pI (tOp pP (tOp pP (tOp pT (pIx K 3) (tC (.int 48611))) (tOp pT (tOp pM (pI (tVar 2)) (tC (.int 2147483399))) (tC (.int 7577)))) (tC (.int 29)))) (tC (.int 2147483563))))))) tNext
def t_pull3 (K : PySem.W.Frag) : TS := tRet (tOp pM (pI (tOp pP (tOp (rI CDivN fun i j => .int (i.fdiv j)) (pIx K 3) (tC (.int 53))) (tOp pT (tOp pM (pI (pIx K 3)) (tC (.int 8117))) (tC (.int 41))))) (tVar 1))
def t_pull2 (K : PySem.W.Frag) : TS :=
  tSeq (tIfS (tTest (tOp (rI0 fun i j => .bl (decide (j < i))) (pIx K 2) (tC (.int 0))))
    (tSeq (tAsg (tOp pM (pI (pIx K 2)) (tVar 1)) (gName 3))
    (tSeq (pSt 2 (tOp rDivG (pIx K 2) (tVar 1)))
    (tRet (tVar 3)))) tNext)
  (tSeq (pSt 3 (tOp pM (pI (tOp pP (tOp pP (tOp pT (pIx K 3) (pIx K 3)) (tOp pT (pIx K 3) (tC (.int 30011)))) (tC (.int 1400321)))) (tC (.int 2147483563))))
  (t_pull3 K))
theorem fmod_b {x m : Int} (h : 0 < m) : 0 ≤ x.fmod m ∧ x.fmod m < m := ⟨Int.fmod_nonneg_of_pos x h, Int.fmod_lt_of_pos x h⟩
theorem pull_tail {b c : Addr} {H : Hp} {ns : List Int} {i g s m : Int} (hb : H b = some (.lst [.ref c, .int i, .int g, .int s])) (hc : H c = some (.lst (ns.map V.int))) (hbc : b ≠ c) (h0 : 0 ≤ i) (h1 : 0 ≤ g) (h2 : 0 ≤ s) (h3 : s < 4294967296) (h4 : ns.length ≤ 63)
    (hm : 0 < m) (hl : m.natAbs.log2 < 9000) {D' : Ends} {v2 v3 : Option V} (k : ∀ (x : Int) (H' : Hp), 0 ≤ x → x < m → (∀ a, a ≠ b → H' a = H a) → BagAt b c H' → D'.rt (.int x) H') : t_pull2 K D' [some (.ref b), some (.int m), v2, v3] H := by
  have up : ∀ (xs : List V) (H1 : Hp), (∀ a, a ≠ b → H1 a = H a) → ∀ a, a ≠ b → (upd H1 b (.lst xs)) a = H a := fun xs H1 e a ha => by rw [upd_ne ha]; exact e a ha
  refine ⟨_, rfl, b, _, _, _, rfl, rfl, SqL.of hb, rfl, _, _, rfl, rfl, _, rfl, ?_⟩
  refine ite2 (fun hg => ?_) (fun hg => ?_)
  · have hg' : (0 : Int) < g := of_decide_eq_true hg
    refine ⟨_, rfl, b, _, _, _, rfl, rfl, SqL.of hb, rfl, .inl ⟨_, rfl, ?_⟩⟩
    refine ⟨_, rfl, _, _, rfl, rfl, by omega, ?_⟩
    refine ⟨_, rfl, b, _, _, _, rfl, rfl, SqL.of hb, rfl, _, rfl, .inr ⟨_, _, rfl, rfl, ⟨hm, hl⟩, ?_⟩⟩
    refine ⟨_, rfl, b, _, _, 2, rfl, rfl, hb, rfl, _, rfl, ?_⟩
    obtain ⟨f1, f2⟩ := fmod_b (x := g) hm
    refine k _ _ f1 f2 (fun a ha => upd_ne ha) ⟨ns, i, g / m, s, upd_same, by rw [upd_ne hbc.symm]; exact hc, h0, Int.ediv_nonneg h1 (by omega), h2, h3, h4⟩
  · refine ⟨_, rfl, b, _, _, _, rfl, rfl, SqL.of hb, rfl, _, rfl, b, _, _, _, rfl, rfl, SqL.of hb, rfl, _, _, rfl, rfl, .inl (by omega), ?_⟩
    refine ⟨_, rfl, b, _, _, _, rfl, rfl, SqL.of hb, rfl, _, _, rfl, rfl, .inl (by omega), ?_⟩
    refine ⟨_, _, rfl, rfl, _, _, rfl, rfl, .inl ⟨_, rfl, _, _, rfl, rfl, (by show (2147483563 : Int) ≠ 0; decide), ?_⟩⟩
    obtain ⟨f1, f2⟩ := fmod_b (x := s * s + s * 30011 + 1400321) (show (0 : Int) < 2147483563 by decide)
    refine ⟨_, rfl, b, _, _, 3, rfl, rfl, hb, rfl, ?_⟩
    have key : ∀ z : Int, 0 ≤ z → z < 2147483563 → t_pull3 K D' [some (.ref b), some (.int m), v2, v3] (upd H b (.lst [.ref c, .int i, .int g, .int z])) := fun z z1 z2 => by
      have hb2 : (upd H b (.lst [.ref c, .int i, .int g, .int z])) b = some (.lst [.ref c, .int i, .int g, .int z]) := upd_same
      refine ⟨_, rfl, b, _, _, _, rfl, rfl, SqL.of hb2, rfl, _, _, rfl, rfl, ⟨(by show (53 : Int) ≠ 0; decide), (by show (53 : Int).natAbs < 1073741824; decide)⟩, ?_⟩
      refine ⟨_, rfl, b, _, _, _, rfl, rfl, SqL.of hb2, rfl, .inl ⟨_, rfl, _, _, rfl, rfl, (by show (8117 : Int) ≠ 0; decide), ?_⟩⟩
      refine ⟨_, _, rfl, rfl, .inr ⟨(by show -(2 ^ 64) < (41 : Int); decide), (by show (41 : Int) < 2 ^ 64; decide)⟩, _, _, rfl, rfl, .inl ⟨_, rfl, _, rfl, _, _, rfl, rfl, (by show m ≠ 0; omega), ?_⟩⟩
      obtain ⟨e1, e2⟩ := fmod_b (x := z.fdiv 53 + z.fmod 8117 * 41) hm
      exact k _ _ e1 e2 (fun a ha => upd_ne ha) ⟨ns, i, g, z, upd_same, by rw [upd_ne hbc.symm]; exact hc, h0, h1, z1, by omega, h4⟩
    exact key _ f1 f2
theorem pull_all {b c : Addr} {H : Hp} {m : Int} (hB : BagAt b c H) (hbc : b ≠ c) (hm : 0 < m) (hl : m.natAbs.log2 < 9000) {D' : Ends} (k : ∀ (x : Int) (H' : Hp), 0 ≤ x → x < m → (∀ a, a ≠ b → H' a = H a) → BagAt b c H' → D'.rt (.int x) H') :
    tSeq (t_pull1 K) (t_pull2 K) D' [some (.ref b), some (.int m), none, none] H := by
  obtain ⟨ns, i, g, s, hb, hc, h0, h1, h2, h3, h4⟩ := hB
  have done : ∀ {H1 : Hp} {v2 : Option V}, BagAt b c H1 → (∀ a, a ≠ b → H1 a = H a) → t_pull2 K D' [some (.ref b), some (.int m), v2, none] H1 := fun {H1 v2} hB e => by
    obtain ⟨ns, i, g, s, hb, hc, h0, h1, h2, h3, h4⟩ := hB
    exact pull_tail hb hc hbc h0 h1 h2 h3 h4 hm hl fun x H' a1 a2 a3 a4 => k x H' a1 a2 (fun a ha => (a3 a ha).trans (e a ha)) a4
  refine ⟨_, rfl, b, _, _, _, rfl, rfl, SqL.of hb, rfl, rfl, _, rfl, ?_⟩
  refine ite2 (fun hg => ?_) (fun hg => ?_)
  · refine ⟨_, rfl, b, _, _, _, rfl, rfl, SqL.of hb, rfl, _, rfl, b, _, _, _, rfl, rfl, SqL.of hb, rfl, c, _, rfl, .inl (SqL.of hc), _, _, rfl, rfl, _, rfl, ?_⟩
    refine ite2 (fun hi => ?_) (fun hi => ?_)
    · have hi' : i < ((ns.map V.int).length : Int) := of_decide_eq_true hi
      rw [List.length_map] at hi'
      have hn : i.toNat < ns.length := by omega
      have hat : atI (ns.map V.int) i = some (V.int ns[i.toNat]) := by
        refine at_of (j := i.toNat) (by omega) ?_
        rw [List.getElem?_map, List.getElem?_eq_getElem hn]
        rfl
      refine ⟨_, rfl, b, _, _, _, rfl, rfl, SqL.of hb, rfl, _, rfl, b, _, _, _, rfl, rfl, SqL.of hb, rfl, c, _, i, _, rfl, rfl, SqL.of hc, hat, ?_⟩
      generalize ns[i.toNat] = z
      refine ⟨_, rfl, b, _, _, _, rfl, rfl, SqL.of hb, rfl, _, _, rfl, rfl, ?_⟩
      refine ⟨_, rfl, b, _, _, 1, rfl, rfl, hb, rfl, ?_⟩
      have hb2 : (upd H b (.lst [.ref c, .int (i + 1), .int g, .int s])) b = some (.lst [.ref c, .int (i + 1), .int g, .int s]) := upd_same
      refine ⟨_, rfl, _, _, rfl, rfl, ⟨by decide, by decide, by decide⟩, _, _, rfl, rfl, _, rfl, ?_⟩
      refine ite2 (fun hz => ?_) (fun hz => ?_)
      · have hz' : (10 : Int) ^ 18 ≤ z := of_decide_eq_true hz
        refine ⟨_, rfl, _, rfl, b, _, _, 2, rfl, rfl, hb2, rfl, ?_⟩
        refine done ⟨ns, i + 1, z, s, upd_same, ?_, by omega, by omega, h2, h3, h4⟩ fun a ha => ?_
        · rw [upd_ne hbc.symm, upd_ne hbc.symm]; exact hc
        · rw [upd_ne ha, upd_ne ha]
      · obtain ⟨f1, f2⟩ := fmod_b (x := z) (show (0 : Int) < 2147483399 by decide)
        refine ⟨_, rfl, b, _, _, _, rfl, rfl, SqL.of hb2, rfl, _, _, rfl, rfl, .inl (by omega), ?_⟩
        refine ⟨_, rfl, .inl ⟨_, rfl, _, _, rfl, rfl, (by show (2147483399 : Int) ≠ 0; decide), ?_⟩⟩
        refine ⟨_, _, rfl, rfl, .inr ⟨(by show -(2 ^ 64) < (7577 : Int); decide), (by show (7577 : Int) < 2 ^ 64; decide)⟩, _, _, rfl, rfl, _, _, rfl, rfl, .inl ⟨_, rfl, _, _, rfl, rfl, (by show (2147483563 : Int) ≠ 0; decide), ?_⟩⟩
        obtain ⟨g1, g2⟩ := fmod_b (x := s * 48611 + z.fmod 2147483399 * 7577 + 29) (show (0 : Int) < 2147483563 by decide)
        refine ⟨_, rfl, b, _, _, 3, rfl, rfl, hb2, rfl, ?_⟩
        refine done ⟨ns, i + 1, g, _, upd_same, ?_, by omega, h1, g1, by omega, h4⟩ fun a ha => ?_
        · rw [upd_ne hbc.symm, upd_ne hbc.symm]; exact hc
        · rw [upd_ne ha, upd_ne ha]
    · exact done ⟨ns, i, g, s, hb, hc, h0, h1, h2, h3, h4⟩ fun _ _ => rfl
  · exact done ⟨ns, i, g, s, hb, hc, h0, h1, h2, h3, h4⟩ fun _ _ => rfl
/-- _law_pull -/
theorem fnc_pull {x : Str} {st : Stmt} {N : List Str} {ps : List Str} {k : Nat} (hF : ∃ fd, FnS K x x st [] (He.ga K x) fd) (m : mg x = some (.ref (He.ga K x))) (S : FnScope N ps (defScope st)) (hN : N.length = 4) (hps : ps.length = 2)
    (hb : ∀ (kV doc pm : Value) (an : Option Addr) (cdv ct : Value) (us : List Value), us.length = ps.length → bindArgs (PySem.W.fnOf x x (defArgs st) (defBody st) (defScope st) .none kV doc pm an cdv ct) ⟨us, []⟩ = pure (ps.zip us))
    (hk : ∀ (kV doc pm : Value) (an : Option Addr) (cdv ct : Value) (us : List Value), us.length = ps.length → bindArgs (PySem.W.fnOf x x (defArgs st) (defBody st) (defScope st) .none kV doc pm an cdv ct) ⟨[], ps.zip us⟩ = pure (ps.zip us))
    (hJ : ∀ (fd : FuncData) (cdv : Value) (A : Around) (outer : List Env) (s : Shared) (H : Hp) (E : XK), Room k (A.deeper (PyProof.Rows.envOfC x (defScope st) s.heap.objs.size (He.ga K x) cdv)) →
      PSs (cxOf CX0 P w K mg base N x (defScope st) (He.ga K x) cdv A outer s H E).nox (defBody st) (tSeq (t_pull1 K) (t_pull2 K))) : Fnc P w K mg base x (k + 1) ps BagW A_l_pull := by
  have z : ∀ {k : Nat}, Fnc P w K mg base x k ps BagW (fun _ _ => False) := fnc_false hF m hb hk fun _ _ h => h
  obtain ⟨⟨fd0, _, b0, kb0⟩, _, k0⟩ := z (k := 0)
  obtain ⟨fd, F⟩ := hF
  refine ⟨⟨fd, ?_, F.bindsN hb, ?_⟩, m, F.kp⟩
  · refine FunD.ok F S (fun vs H Q E h => ?_) (fun cdv A outer s H vs Q E hr h => ?_)
    · obtain ⟨_, ds, _, _, _, r, ⟨m, rfl, _⟩, _⟩ := h
      rw [r.length, hps]
      rfl
    · obtain ⟨wd, ds, P', ⟨b, c, h1, h2, h3, h4, h5, h6⟩, hI, r, ⟨m, rfl, hm, hl, hP⟩, hq⟩ := h
      refine ⟨_, PSs.nox (hJ fd cdv A outer s H E hr), ?_⟩
      cases r with
      | cons r1 r2 =>
        cases r2 with
        | cons r2 r3 =>
          cases r3
          cases r2
          cases r1 with
          | hdl e =>
            rw [h1] at e
            cases e
            have e4 : L2.start N [.ref b, .int m] = [some (.ref b), some (.int m), none, none] := by
              unfold L2.start
              rw [hN]
              rfl
            rw [e4]
            exact pull_all (h5 H hI) h4 hm hl fun x H' a1 a2 a3 a4 => hq _ _ _ (bag_step h2 h5 h6 hI a3 a4) (.int x) (hP x a1 a2)
  · intro n _ _
    obtain ⟨oc, od, dV, kV, doc, pm, an, cdv, ct, osl, rfl, lk, hcd, hD, hK⟩ := F.ex
    rcases hD with ⟨_, rfl⟩ | ⟨e, _⟩
    · exact ⟨fun s us ws X l1 l2 => by
        have : us = [] := List.length_eq_zero_iff.mp l1
        subst this
        exact .of_eq (hk kV doc pm an cdv ct ws l2), fun _ r => r⟩
    · exact absurd rfl e
/-- _law_bag -/
def spBag (K : PySem.W.Frag) : Sp := fun vs H Q _ => ∃ (a : Addr) (ns : List Int), vs = [.ref a] ∧ SqL K H a (ns.map V.int) ∧ ns.length ≤ 63 ∧ ∀ b c H', Ext H H' → H b = none → H c = none → b ≠ c → BagAt b c H' → Q (.ref b) H'
def t_bag (K : PySem.W.Frag) : TS := tRet (tLst (tCons (tCB (fun xs H Q => ∃ p ys, xs = [.ref p] ∧ (SqL K H p ys ∨ SqT K H p ys) ∧ ∀ l, H l = none → Q (.ref l) (upd H l (.lst ys))) (tCons (tSl (rSlL K) (tVar 0) tNoPart (tPart (tC (.int 63)))) tNil))
  (tCons (tC (.int 0)) (tCons (tC (.int 0)) (tCons (tOp pP (tC (.int 57460)) (tCB (fun xs H Q => ∃ p ys, xs = [.ref p] ∧ (SqL K H p ys ∨ SqT K H p ys) ∧ Q (.int ys.length) H) (tCons (tVar 0) tNil))) tNil)))))
theorem ext_new {H : Hp} {p : Addr} {o : HO} (h : H p = none) : Ext H (upd H p o) := fun a u e => by
  rw [upd_ne (ne_of_none e h)]
  exact e
theorem cutV_int (ns : List Int) (lo hi : Option Int) : ∃ ms : List Int, cutV (ns.map V.int) lo hi = ms.map V.int ∧ ms.length ≤ ns.length := by
  unfold cutV
  rw [← List.map_drop, ← List.map_take]
  exact ⟨_, rfl, by rw [List.length_take, List.length_drop]; omega⟩
theorem bag_all (vs : List V) (H : Hp) (Q : VK) (E : XK) (h : spBag K vs H Q E) : t_bag K { nx := fun _ H' => Q .non H', rt := Q } (L2.start ["x"] vs) H := by
  obtain ⟨a, ns, rfl, hS, hl, k⟩ := h
  obtain ⟨ms, e, hm⟩ := cutV_int ns none (some 63)
  refine ⟨_, rfl, _, rfl, _, _, rfl, hS, fun p hp => ?_⟩
  rw [e]
  refine ⟨p, _, rfl, .inl (SqL.of upd_same), fun c hc => ?_⟩
  have hcp : c ≠ p := fun z => by rw [z, upd_same] at hc; cases hc
  have e1 : Ext H (upd H p (.lst (ms.map V.int))) := ext_new hp
  have e2 : Ext H (upd (upd H p (.lst (ms.map V.int))) c (.lst (ms.map V.int))) := e1.tr (ext_new hc)
  refine ⟨_, rfl, a, _, rfl, .inl (sqL_mono e2 hS), _, _, rfl, rfl, ?_⟩
  refine ⟨(by show 4 ≤ sizeLine; decide), fun b hb => ?_⟩
  have hbc : b ≠ c := fun z => by rw [z, upd_same] at hb; cases hb
  have hb0 : H b = none := by
    cases q : H b with
    | none => rfl
    | some o => rw [e2 b o q] at hb; cases hb
  have hc0 : H c = none := by
    cases q : H c with
    | none => rfl
    | some o => rw [e1 c o q] at hc; cases hc
  refine k b c _ (e2.tr (ext_new hb)) hb0 hc0 hbc ⟨ms, 0, 0, 57460 + ((ns.map V.int).length : Int), upd_same, by rw [upd_ne hbc.symm, upd_same], by omega, by omega, by omega, ?_, by omega⟩
  rw [List.length_map]
  omega
/-- the law's own promise -/
def spLaw (K : PySem.W.Frag) : Sp := fun vs H Q _ => ∃ (a : Addr) (ns : List Int), vs = [.ref a] ∧ SqL K H a (ns.map V.int) ∧ ns.length ≤ 63 ∧ ∀ H', Q (.bl true) H'
def bagWd (b c : Addr) : Wd where
  ms := [b, c]
  hd := fun n => if n = 0 then some b else none
  I := fun H => BagAt b c H
  loc := fun H H' k _ h => by
    obtain ⟨ns, i, g, s, h1, h2, h3⟩ := h
    exact ⟨ns, i, g, s, (k b (by simp)).trans h1, (k c (by simp)).trans h2, h3⟩
  live := fun H h a ha => by
    obtain ⟨ns, i, g, s, h1, h2, h3⟩ := h
    rcases List.mem_cons.mp ha with e | ha
    · rw [e]; exact ⟨_, h1⟩
    · rw [List.mem_singleton.mp ha]; exact ⟨_, h2⟩
theorem bagWd_ok {b c : Addr} (h : b ≠ c) : BagW (bagWd b c) := ⟨b, c, rfl, by simp [bagWd], by simp [bagWd], h, fun H h => h, fun H H' _ _ _ h => h⟩
/-- a law: _law_bag_here = _law_bag(_law_script), then the rest over data -/
theorem law_mk {x : Str} {st st1 : Stmt} {rest : List Stmt} {N : List Str} {k : Nat} {fd : FuncData} {y z : Str} {N' : List Str} {a : ATS} {f : Addr} (F : FnS K x x st [] f fd) (S : FnScope N [y] (defScope st)) (hN : N = y :: z :: N') (hB : defBody st = st1 :: rest)
    (hJ : ∀ (Fm : Fr) (cdv : Value) (A : Around) (outer : List Env) (s : Shared) (H : Hp) (E : XK), BagW Fm.w → Room k (A.deeper (PyProof.Rows.envOfC x (defScope st) s.heap.objs.size f cdv)) → PS (cxOf CX0 P w K mg base N x (defScope st) f cdv A outer s H E).nox st1 (tAsg (tCall (spBag K) [] E0 (tCons (tVar 0) tNil)) (gName 1)) ∧
      ∃ t, JSs (cxOf CX0 P w K mg base N x (defScope st) f cdv A outer s H E).nox Fm rest t a)
    (hA : a { nx := fun _ _ => False, rt := fun d _ => d = .bl true } (none :: some (.hdl 0) :: List.replicate N'.length none) []) : FnOk P w K mg base CX0 (k + 1) f fd [y] (spLaw K) := by
  refine FunD.ok F S (fun vs H Q E h => ?_) (fun cdv A outer s H vs Q E hr h => ?_)
  · obtain ⟨a, ns, rfl, _⟩ := h
    rfl
  · obtain ⟨ad, ns, rfl, hS, hl, kq⟩ := h
    -- what the text says does not hang on the frame: the readings are taken for the frame of each bag
    obtain ⟨j1, _⟩ := hJ ⟨bagWd 0 1, [], H⟩ cdv A outer s H E (bagWd_ok (by decide)) hr
    rw [hB]
    refine ⟨tSeq (tAsg (tCall (spBag K) [] E0 (tCons (tVar 0) tNil)) (gName 1)) (fun D' σ H' => ∃ (b c : Addr) (h : b ≠ c), (hJ ⟨bagWd b c, [], H'⟩ cdv A outer s H E (bagWd_ok h) hr).2.choose D' σ H'), PSs.nox (pss_cons j1 ⟨fun pins s' σ H' D' I ⟨b, c, h, q⟩ => (hJ ⟨bagWd b c, [], H'⟩ cdv A outer s H E (bagWd_ok h) hr).2.choose_spec.p.run pins s' σ H' D' I q⟩), ?_⟩
    subst hN
    refine ⟨_, rfl, ad, ns, rfl, hS, hl, fun b c H' ex hb hc hbc hBag => ?_⟩
    refine ⟨b, c, hbc, ?_⟩
    have hs : (L2.start (y :: z :: N') [V.ref ad]).set 1 (some (.ref b)) = some (.ref ad) :: some (.ref b) :: List.replicate N'.length none := by
      unfold L2.start
      rfl
    rw [hs]
    refine (hJ ⟨bagWd b c, [], H'⟩ cdv A outer s H E (bagWd_ok hbc) hr).2.choose_spec.s [] [] [] _ H' _ _ _ ⟨start_stt hBag, by simp, fun i d e => ?_, fun p hp => (by cases hp)⟩ hA ⟨fun _ _ _ _ _ _ p => p.elim, fun _ _ _ _ _ _ p => p.elim, fun _ _ _ _ _ _ p => p.elim, fun v H2 d _ _ _ rv p => ?_⟩
    · match i, e with
      | 0, e => cases e
      | 1, e => cases e; exact ⟨.ref b, rfl, .hdl rfl⟩
      | i + 2, e =>
        have e2 : (List.replicate N'.length (none : Option D))[i]? = some (some d) := e
        rw [List.getElem?_replicate] at e2
        split at e2 <;> cases e2
    · subst p
      rw [r_bl rv]
      exact kq H2
end
end Bd
/-! BdX: what simp knows of data. -/
namespace Bd
open PySem L2
@[simp] theorem eqD_ii (i j : Int) : eqD (.int i) (.int j) = decide (i = j) := by simp [eqD, pyD, PyData.eqv, Bool.beq_eq_decide_eq]
@[simp] theorem eqD_ss (i j : Str) : eqD (.str i) (.str j) = decide (i = j) := by simp [eqD, pyD, PyData.eqv, Bool.beq_eq_decide_eq]
@[simp] theorem eqD_bb (i j : Bool) : eqD (.bl i) (.bl j) = decide (i = j) := by cases i <;> cases j <;> rfl
@[simp] theorem wEq_ii {i j : Int} {P : D → Prop} : wEq (.int i) (.int j) P ↔ P (.bl (decide (i = j))) := by simp [wEq, sclD]
@[simp] theorem wEq_ss {i j : Str} {P : D → Prop} : wEq (.str i) (.str j) P ↔ P (.bl (decide (i = j))) := by simp [wEq, sclD]
@[simp] theorem wEq_bb {i j : Bool} {P : D → Prop} : wEq (.bl i) (.bl j) P ↔ P (.bl (decide (i = j))) := by simp only [wEq, sclD, eqD_bb, Bool.true_or, true_and]
@[simp] theorem wNe_ii {i j : Int} {P : D → Prop} : wNe (.int i) (.int j) P ↔ P (.bl (!decide (i = j))) := by simp [wNe, sclD]
@[simp] theorem wNe_ss {i j : Str} {P : D → Prop} : wNe (.str i) (.str j) P ↔ P (.bl (!decide (i = j))) := by simp [wNe, sclD]
@[simp] theorem startG_1 (a : D) (n : Nat) : startG (n + 1) [a] = some a :: List.replicate n none := rfl
@[simp] theorem startG_2 (a b : D) (n : Nat) : startG (n + 2) [a, b] = some a :: some b :: List.replicate n none := rfl
@[simp] theorem startG_3 (a b c : D) (n : Nat) : startG (n + 3) [a, b, c] = some a :: some b :: some c :: List.replicate n none := rfl
@[simp] theorem startG_0 (n : Nat) : startG n [] = List.replicate n none := rfl
theorem toNat_inj {a b : Char} (h : a.toNat = b.toNat) : a = b := Char.ext (UInt32.toNat_inj.mp h)
@[simp] theorem ofS_inj {a b : String} : (Str.ofString a = Str.ofString b) ↔ a = b := by
  constructor
  · intro h
    rw [Str.ofString_eq_toList, Str.ofString_eq_toList] at h
    have h1 : (a.toList.map Char.toNat).toArray = (b.toList.map Char.toNat).toArray := congrArg Str.cps h
    have h2 : a.toList.map Char.toNat = b.toList.map Char.toNat := by simpa using congrArg Array.toList h1
    have h3 : a.toList = b.toList := (List.map_inj_right fun x y e => toNat_inj e).mp h2
    exact String.toList_inj.mp h3
  · intro h; rw [h]
@[simp] theorem startG_4 (a b c d : D) (n : Nat) : startG (n + 4) [a, b, c, d] = some a :: some b :: some c :: some d :: List.replicate n none := rfl
@[simp] theorem startG_5 (a b c d e : D) (n : Nat) : startG (n + 5) [a, b, c, d, e] = some a :: some b :: some c :: some d :: some e :: List.replicate n none := rfl
/-! ### comprehensions -/
theorem goA_map {body : D → List D → Cs → (List D → Cs → Prop) → Prop} (f : D → D) : ∀ {ds acc : List D} {c : Cs} {P : List D → Cs → Prop}, (∀ d ∈ ds, ∀ (acc : List D) (k : List D → Cs → Prop), k (acc ++ [f d]) c → body d acc c k) → P (acc ++ ds.map f) c → goA body ds acc c P
  | [], acc, c, P, _, h => by
    show P acc c
    simpa using h
  | d :: ds, acc, c, P, hb, h => by
    refine hb d (by simp) acc _ (goA_map f (fun e he => hb e (by simp [he])) ?_)
    simpa using h
/-- some item each time, of which Z holds -/
theorem goA_all {body : D → List D → Cs → (List D → Cs → Prop) → Prop} (Z : D → D → Prop) : ∀ {ds acc : List D} {c : Cs} {P : List D → Cs → Prop}, (∀ d ∈ ds, ∀ (acc : List D) (k : List D → Cs → Prop), (∀ y, Z d y → k (acc ++ [y]) c) → body d acc c k) → (∀ ys : List D, ys.length = ds.length → (∀ z ∈ ys, ∃ d ∈ ds, Z d z) → P (acc ++ ys) c) → goA body ds acc c P
  | [], acc, c, P, _, h => by
    show P acc c
    simpa using h [] rfl (by simp)
  | d :: ds, acc, c, P, hb, h => by
    refine hb d (by simp) acc _ fun y hy => goA_all Z (fun e he => hb e (by simp [he])) fun ys hl hz => ?_
    have := h (y :: ys) (by simp [hl]) (by
      intro z hzm
      rcases List.mem_cons.mp hzm with e | e
      · exact ⟨d, by simp, by rw [e]; exact hy⟩
      · obtain ⟨d', h1, h2⟩ := hz z e
        exact ⟨d', by simp [h1], h2⟩)
    simpa using this
theorem blsOf_map (f : D → Bool) : ∀ ds : List D, blsOf (ds.map fun d => .bl (f d)) = some (ds.map f)
  | [] => rfl
  | d :: ds => by
    show (blsOf (ds.map fun d => .bl (f d))).map (f d :: ·) = _
    rw [blsOf_map f ds]
    rfl
theorem blsOf_bl : ∀ bs : List Bool, blsOf (bs.map D.bl) = some bs
  | [] => rfl
  | b :: bs => by
    show (blsOf (bs.map D.bl)).map (b :: ·) = _
    rw [blsOf_bl bs]
    rfl
theorem strsOf_map : ∀ zs : List Str, strsOf (zs.map D.str) = some zs
  | [] => rfl
  | z :: zs => by
    show (strsOf (zs.map D.str)).map (z :: ·) = _
    rw [strsOf_map zs]
    rfl
/-! ### the laws' helpers over data -/
def kindM : D → Nat
  | .non => 0 | .bl _ => 1 | .int _ => 2 | .str _ => 3 | .lst _ => 4 | .tup _ => 5
  | _ => 7
def A_l_kind (ds : List D) (P : D → Prop) : Prop := ∃ v, ds = [v] ∧ (tyN v).isSome = true ∧ P (.int (kindM v))
def A_l_pick (ds : List D) (P : D → Prop) : Prop := ∃ xs, (ds = [.hdl 0, .lst xs] ∨ ds = [.hdl 0, .tup xs]) ∧ xs ≠ [] ∧ xs.length < 1000000 ∧ ∀ d ∈ xs, P d
mutual
def sameM : D → D → Bool
  | .lst xs, .lst ys => sameA xs ys
  | .tup xs, .tup ys => sameA xs ys
  | .non, .non => true
  | .bl a, .bl b => a == b
  | .int a, .int b => a == b
  | .str a, .str b => a == b
  | _, _ => false
def sameA : List D → List D → Bool
  | [], [] => true
  | x :: xs, y :: ys => sameM x y && sameA xs ys
  | _, _ => false
end
mutual
/-- how deep _law_same goes -/
def dpt : D → Nat
  | .lst xs => dptA xs + 1
  | .tup xs => dptA xs + 1
  | _ => 1
def dptA : List D → Nat
  | [] => 0
  | x :: xs => max (dpt x) (dptA xs)
end
mutual
/-- nothing but data in it -/
def tyd : D → Bool
  | .lst xs => decide (xs.length ≤ 1000000) && tydA xs
  | .tup xs => decide (xs.length ≤ 1000000) && tydA xs
  | .non => true | .bl _ => true | .int _ => true
  | .str z => decide (z.length ≤ 1000000)
  | _ => false
def tydA : List D → Bool
  | [] => true
  | x :: xs => tyd x && tydA xs
end
def A_l_same (n : Nat) (ds : List D) (P : D → Prop) : Prop := ∃ x y, ds = [x, y] ∧ tyd x = true ∧ tyd y = true ∧ dpt y ≤ n ∧ P (.bl (sameM x y))
end Bd
/-! BdK: the rules that name the fragment, with its name given: for use inside comprehensions. -/
namespace Bd
open PySem L2
section
variable {X : Cx} {Kf : PySem.W.Frag} {Fm : Fr} {C C' : WC} {e a b l o : Expr} {es : List Expr} {pos p apos p2 : Pos} {te ta tb tl to : TE} {ae aa ab ao : ATE} {t tk : TA} {ag ak : ATA} {x : Str} {k j : Nat} {ps : List Str} {A : List D → (D → Prop) → Prop}
theorem jo_addK (hK : X.K = Kf) : JO X (binaryOp .Add) (rAddG Kf) wAdd := by subst hK; exact jo_add
theorem jo_eqK (hK : X.K = Kf) (hu : X.A.units + 65 < cLine) : JO X (compareOp .Eq) (rEqG Kf) wEq := by subst hK; exact jo_eq hu
theorem jo_neK (hK : X.K = Kf) (hu : X.A.units + 65 < cLine) : JO X (compareOp .NotEq) (rNeG Kf) wNe := by subst hK; exact jo_ne hu
theorem jo_inK (hK : X.K = Kf) (hu : X.A.units + 65 < cLine) : JO X (compareOp .In) (rInG Kf) wIn := by subst hK; exact jo_in hu
theorem jo_notInK (hK : X.K = Kf) (hu : X.A.units + 65 < cLine) : JO X (compareOp .NotIn) (rNotInG Kf) wNotIn := by subst hK; exact jo_notIn hu
theorem je_ixK (hK : X.K = Kf) (ha : JE X Fm a ta aa) (hb : JE X Fm b tb ab) (hs : PlainIx b := by intro _ _; rfl) : JE X Fm (.Subscript a b pos) (tOp (rIx Kf) ta tb) (aOp wIx aa ab) := by subst hK; exact je_ix ha hb hs
theorem je_slK {lo hi : Option Expr} {tlo thi : TO} {alo ahi : ATO} (hK : X.K = Kf) (h : JE X Fm e te ae) (hl : JP X Fm lo tlo alo) (hh : JP X Fm hi thi ahi) : JE X Fm (.Subscript e (.Slice lo hi none p2) pos) (tSl (rSlG Kf) te tlo thi) (aSl ae alo ahi) := by subst hK; exact je_sl h hl hh
theorem je_joinK (hK : X.K = Kf) (ho : JE X Fm o to ao) (he : JE X Fm e te ae) (hs : starEach [e] X.env = [(false, eval e X.env)] := by rfl) (hbase : attributeBase o "join" X.env (eval o X.env) = eval o X.env := by rfl) (hline : (apos.endLine == pos.line) = true := by rfl) :
    JE X Fm (.Call (.Attribute o "join" apos) [e] [] pos) (tM1 (rJoin Kf) to te) (aMs wJoin ao (aCons ae aNil)) := by subst hK; exact je_join ho he hs hbase hline
theorem je_fncK (hK : X.K = Kf) (F : Fnc X.prog X.w Kf X.mg X.base x k ps C' A) (hr : Room j X.A) (hk : k ≤ j) (hC : FC Kf Fm C') (ha : JA X Fm (e :: es) t ag) (hg : Gl X x := by rfl) (hdb : (x == ("__debug__" : Str)) = false := by decide) (he : starEach (e :: es) X.env = (false, eval e X.env) :: starEach es X.env := by rfl) (hpl : (backTo pos (starEach es X.env)).any (·.1) = false := by rfl) :
    JE X Fm (.Call (.Name x p) (e :: es) [] pos) (tCall (spOf Kf C' A) [] E0 t) (aCall A [] ag) := by subst hK; exact je_fnc F hr hk hC ha hg hdb he hpl
theorem je_fnc0K (hK : X.K = Kf) (F : Fnc X.prog X.w Kf X.mg X.base x k ps C' A) (hr : Room j X.A) (hk : k ≤ j) (hC : FC Kf Fm C') (hg : Gl X x := by rfl) (hdb : (x == ("__debug__" : Str)) = false := by decide) :
    JE X Fm (.Call (.Name x p) [] [] pos) (tCall (spOf Kf C' A) [] E0 tNil) (aCall A [] aNil) := by subst hK; exact je_fnc0 F hr hk hC hg hdb
theorem ji_anyK {tg : Expr} (hK : X.K = Kf) (h : JE X Fm l tl aa) : JI X Fm tg l (iAny Kf tl) (aItems aa) := by subst hK; exact ji_any h
theorem ji_zipK {p tpos : Pos} {elts : List Expr} {kk : Nat} (hK : X.K = Kf) (hm : X.mg "zip" = none) (ha : JA X Fm [a, b] t ag) (hg : Gl X "zip" := by rfl) (hs : starEach [a, b] X.env = (false, eval a X.env) :: starEach [b] X.env := by rfl) (hpl : (backTo pos (starEach [b] X.env)).any (·.1) = false := by rfl) :
    JI X Fm (.Tuple elts kk tpos) (.Call (.Name "zip" p) [a, b] [] pos) (RZ.iZipA Kf t) (aZip ag) := by subst hK; exact ji_zip hm ha hg hs hpl
theorem jg_tupK {js : List Nat} {k n : Nat} {gs : TGs} {a : ATGs} (hK : X.K = Kf) (hc : X.calm = true) (h : JGs X Fm js es gs a) (hn : (assignEach es X.env).length = n := by rfl) (hst : (assignEach es X.env).findIdx? (·.1) = none := by rfl) : JG X Fm js (.Tuple es k pos) (gTup Kf n gs) (gmT n a) := by subst hK; exact jg_tup hc h hn hst
theorem je_ixCK (hK : X.K = Kf) (ha : JE X Fm a ta aa) (hb : JE X Fm b tb ab) (hs : PlainIx b := by intro _ _; rfl) : JE X Fm (.Subscript a b pos) (tOp (rIx Kf) ta tb) (aIxC aa ab) := by subst hK; exact je_ixC ha hb hs
theorem je_fnsK {A : List D → Cs → (D → Cs → Prop) → Prop} (hK : X.K = Kf) (F : FncS X.prog X.w Kf X.mg X.base x k ps C' A) (hr : Room j X.A) (hk : k ≤ j) (hC : FP Kf Fm C') (ha : JA X Fm (e :: es) t ag) (hg : Gl X x := by rfl) (hdb : (x == ("__debug__" : Str)) = false := by decide) (he : starEach (e :: es) X.env = (false, eval e X.env) :: starEach es X.env := by rfl) (hpl : (backTo pos (starEach es X.env)).any (·.1) = false := by rfl) :
    JE X Fm (.Call (.Name x p) (e :: es) [] pos) (tCall (spS Kf C' A) [] E0 t) (aCallS A [] ag) := by subst hK; exact je_fns F hr hk hC ha hg hdb he hpl
end
theorem fc_any {K : PySem.W.Frag} {Fm : Fr} : FC K Fm (fun _ => True) := fun _ _ _ _ _ => trivial
theorem fp_any {K : PySem.W.Frag} {Fm : Fr} : FP K Fm (fun _ => True) := fun _ _ _ _ _ => trivial
theorem fc_bag {K : PySem.W.Frag} {Fm : Fr} (h : BagW Fm.w) : FC K Fm BagW := fun _ _ _ _ s => s.cl bag_cl h
theorem fp_bag {K : PySem.W.Frag} {Fm : Fr} (h : BagW Fm.w) : FP K Fm BagW := fun _ _ _ _ s => bag_cl _ _ h fun p hp => (s.fr p (List.mem_append_left _ hp)).1
end Bd
/-! BdL: tuple(..), repetition, a list put to a cell. -/
namespace Bd
open PySem L2
theorem op_mul_str {X : Cx} : OpR X (binaryOp .Mult) (fun x y H Q => ∃ a n, x = .str a ∧ y = .int n ∧ MulOk a n ∧ Q (.str (Txt.mul a n)) H) := by
  intro pins s σ H x y v u Q I rx ry h
  obtain ⟨i, j, rfl, rfl, hz, q⟩ := h
  obtain ⟨t, rfl⟩ := rx
  obtain ⟨t', rfl⟩ := ry
  exact SB.mul hz fun t' tk => ⟨.str (Txt.mul i j), H, I.tok _, ⟨_, rfl⟩, q⟩
theorem mulOk {a : Str} {n : Int} (h0 : -1000000 ≤ n) (h1 : n ≤ 1000000) (h : a.length * n.toNat ≤ 16000000) : MulOk a n := by
  refine ⟨?_, fun p q => ?_, fun p q => ?_⟩
  · simp
    omega
  · have hn : 0 < n := by omega
    have : (a.length : Int) ≤ (2 ^ 63 - 1) / n := by
      rw [Int.le_ediv_iff_mul_le hn]
      have e : (a.length : Int) * n = ((a.length * n.toNat : Nat) : Int) := by
        rw [Int.natCast_mul, Int.toNat_of_nonneg (by omega)]
      rw [e]
      omega
    omega
  · show decide (_ > sizeLine) = false
    rw [decide_eq_false_iff_not]
    have : (16000000 : Nat) ≤ sizeLine := by decide
    omega
def rMulX (K : PySem.W.Frag) : R2 := fun x y H Q => rMulG x y H Q ∨ (∃ a n, x = .str a ∧ y = .int n ∧ MulOk a n ∧ Q (.str (Txt.mul a n)) H) ∨ rRep x y H Q ∨ rRepT K x y H Q
@[simp] def wMulX (x y : D) (P : D → Prop) : Prop := match x, y with
  | .str a, .int n => (-1000000 ≤ n ∧ n ≤ 1000000 ∧ a.length * n.toNat ≤ 16000000) ∧ P (.str (Txt.mul a n))
  | .lst ds, .int n => (-1000000 ≤ n ∧ n ≤ 1000000 ∧ ds.length * n.toNat ≤ 16000000) ∧ P (.lst (List.replicate n.toNat ds).flatten)
  | .tup ds, .int n => (ds ≠ [] ∧ 2 ≤ n ∧ n ≤ 1000 ∧ ds.length ≤ 1000) ∧ P (.tup (List.replicate n.toNat ds).flatten)
  | x, y => wMul x y P
theorem ra_rep {K : PySem.W.Frag} {w : Wd} {H : Hp} {xs : List V} {ds : List D} (r : RA K w H xs ds) : ∀ n : Nat, RA K w H (List.replicate n xs).flatten (List.replicate n ds).flatten
  | 0 => .nil
  | n + 1 => by
    rw [List.replicate_succ, List.replicate_succ, List.flatten_cons, List.flatten_cons]
    exact RwA.append r (ra_rep r n)
theorem s_mulX {K : PySem.W.Frag} : SndR2 K Any (rMulX K) wMulX := by
  intro w H x y dx dy P Q hc hI r1 r2 hf hq
  unfold wMulX at hf
  split at hf
  · cases r_str r1
    cases r_int r2
    exact .inr (.inl ⟨_, _, rfl, rfl, mulOk hf.1.1 hf.1.2.1 hf.1.2.2, hq _ _ _ (Step.refl hI) (.str _) hf.2⟩)
  · cases r1 with
    | lst hx rx =>
      cases r_int r2
      refine .inr (.inr (.inl ⟨_, _, _, rfl, rfl, (vis_some hx).2, by omega, by omega, ?_, fun p hp => ?_⟩))
      · rw [rx.length]
        exact Nat.le_trans hf.1.2.2 (by decide)
      · obtain ⟨s, r⟩ := new_lst (w := w) hI hp (ra_rep rx _)
        exact hq _ _ _ s r hf.2
  · cases r1 with
    | tup hx rx =>
      cases r_int r2
      obtain ⟨⟨h1, h2, h3, h4⟩, h5⟩ := hf
      refine .inr (.inr (.inr ⟨_, _, _, rfl, rfl, tup_sq hx, fun e => ?_, h2, h3, by rw [rx.length]; exact h4, fun p hp => ?_⟩))
      · subst e
        cases rx
        exact h1 rfl
      · obtain ⟨s, r⟩ := new_tup (w := w) hI hp (ra_rep rx _)
        exact hq _ _ _ s r h5
  · exact .inl (s_mul w H x y _ _ P Q hc hI r1 r2 hf hq)
theorem jo_mulX {X : Cx} : JO X (binaryOp .Mult) (rMulX X.K) wMulX := ⟨op_mul.or op_mulW |>.or (op_mul_str.or (op_rep.or op_repT)), s_mulX⟩
theorem jo_mulXK {X : Cx} {Kf : PySem.W.Frag} (hK : X.K = Kf) : JO X (binaryOp .Mult) (rMulX Kf) wMulX := by subst hK; exact jo_mulX
/-- tuple(a list, a tuple) -/
@[simp] def wTuple (xs : List D) (P : D → Prop) : Prop := match xs with
  | [.lst ds] => P (.tup ds)
  | [.tup ds] => P (.tup ds)
  | _ => False
theorem s_tuple {K : PySem.W.Frag} : SndRs K Any (fun xs H Q => ∃ p ys, xs = [.ref p] ∧ ((SqL K H p ys ∧ ∀ l, H l = none → Q (.ref l) (upd H l (.tup ys))) ∨ (SqT K H p ys ∧ Q (.ref p) H))) wTuple := by
  intro w H xs ds P Q _ hI r hf hq
  unfold wTuple at hf
  split at hf
  · cases r with
    | cons r1 r2 =>
      cases r2
      cases r1 with
      | lst hx rx =>
        refine ⟨_, _, rfl, .inl ⟨SqL.of (vis_some hx).2, fun l hl => ?_⟩⟩
        obtain ⟨s, r⟩ := new_tup (w := w) hI hl rx
        exact hq _ _ _ s r hf
  · cases r with
    | cons r1 r2 =>
      cases r2
      cases r1 with
      | tup hx rx => exact ⟨_, _, rfl, .inr ⟨tup_sq hx, hq _ _ _ (Step.refl hI) (.tup hx rx) hf⟩⟩
  · exact hf.elim
/-- cell + list, as a new cell; the old one is given up. Also data + list, as a new cell -/
@[simp] abbrev aCatN (a b : ATE) : ATE := fun Γ c P => a Γ c fun x c1 => b Γ c1 fun y c2 => match x, y with
  | .adr p, .lst es => match c2.lookup p with
    | some (.lst ds) => ds.length + es.length ≤ 1000000 ∧ ∀ q : Addr, c2.lookup q = none → P (.adr q) ((q, .lst (ds ++ es)) :: cdel c2 p)
    | _ => False
  | .lst ds, .lst es => ds.length + es.length ≤ 1000000 ∧ ∀ q : Addr, c2.lookup q = none → P (.adr q) ((q, .lst (ds ++ es)) :: c2)
  | _, _ => False
section
variable {K : PySem.W.Frag} {F : Fr}
theorem snd_catN {ta tb : TE} {a b : ATE} (h1 : SndE K F ta a) (h2 : SndE K F tb b) : SndE K F (tOp (rAddG K) ta tb) (aCatN a b) := by
  intro gs pv os cs σ H Γ P Q r0 ha hq
  refine h1 gs pv os cs σ H Γ _ _ r0 ha fun v H1 d os1 c1 r1 ha1 => ?_
  refine h2 _ pv os1 c1 σ H1 Γ _ _ r1 ha1 fun u H2 e os2 c2 r2 ha2 => ?_
  split at ha2
  · rename_i p es
    split at ha2
    · rename_i ds el
      cases r_adr r2.tail.head
      obtain ⟨xs, hx, rx⟩ := cell_lst r2 el
      have rh := r2.head
      cases rh with
      | @lst b ys _ hy ry =>
        have hl := rx.length
        have hl2 := ry.length
        have he : ∀ q, H2 q = none → Q (.ref q) (upd H2 q (.lst (xs ++ ys))) := fun q hq0 => by
          obtain ⟨k, r3⟩ := r2.alloc (o := .lst (xs ++ ys)) (d := .lst (ds ++ es)) hq0 (RwA.append rx ry)
          have hne : q ≠ p := fun z => by rw [z, hx] at hq0; cases hq0
          have el2 : ((q, D.lst (ds ++ es)) :: c2).lookup p = some (.lst ds) := by
            rw [List.lookup_cons]
            have : (p == q) = false := by simp; exact fun z => hne z.symm
            rw [this]; exact el
          obtain ⟨o, _, _, r4⟩ := r3.free el2
          have e1 : cdel ((q, D.lst (ds ++ es)) :: c2) p = (q, D.lst (ds ++ es)) :: cdel c2 p := by
            show (if q = p then c2 else (q, D.lst (ds ++ es)) :: cdel c2 p) = _
            rw [if_neg hne]
          rw [e1] at r4
          exact hq _ _ _ _ _ (r4.tail.tail.gcons (.adr q)) (ha2.2 q k)
        have hsz : xs.length + ys.length ≤ sizeLine := Nat.le_trans (by have := ha2.1; omega : xs.length + ys.length ≤ 1000000) (by decide)
        exact .inr (.inr (.inl ⟨p, b, xs, ys, rfl, rfl, hx, (vis_some hy).2, hsz, he⟩))
    · exact ha2.elim
  · rename_i ds es
    have rg := r2.tail.head
    have rh := r2.head
    cases rg with
    | @lst p xs _ hx rx =>
      cases rh with
      | @lst b ys _ hy ry =>
        have hl := rx.length
        have hl2 := ry.length
        have hsz : xs.length + ys.length ≤ sizeLine := Nat.le_trans (by have := ha2.1; omega : xs.length + ys.length ≤ 1000000) (by decide)
        refine .inr (.inr (.inl ⟨p, b, xs, ys, rfl, rfl, (vis_some hx).2, (vis_some hy).2, hsz, fun q hq0 => ?_⟩))
        obtain ⟨k, r3⟩ := r2.alloc (o := .lst (xs ++ ys)) (d := .lst (ds ++ es)) hq0 (RwA.append rx ry)
        exact hq _ _ _ _ _ (r3.tail.tail.gcons (.adr q)) (ha2.2 q k)
  · exact ha2.elim
end
theorem je_catN {X : Cx} {Fm : Fr} {a b : Expr} {pos : Pos} {ta tb : TE} {aa ab : ATE} (ha : JE X Fm a ta aa) (hb : JE X Fm b tb ab) : JE X Fm (.BinOp a .Add b pos) (tOp (rAddG X.K) ta tb) (aCatN aa ab) := ⟨pe_op jo_add.p ha.p hb.p, snd_catN ha.s hb.s⟩
end Bd
/-! BdS: len(set(a tuple of texts)): how many different ones. -/
namespace Bd
open PySem PySem.Spec PyProof.Rows L2
def ddStep (acc : List Str) (x : Str) : List Str := if acc.any (· == x) = true then acc else acc ++ [x]
def dd (xs : List Str) : List Str := xs.foldl ddStep []
theorem dd_snoc (xs : List Str) (x : Str) : dd (xs ++ [x]) = ddStep (dd xs) x := by unfold dd; rw [List.foldl_append]; rfl
theorem ddStep_any (acc : List Str) (x k : Str) : (ddStep acc x).any (· == k) = (acc.any (· == k) || decide (k = x)) := by
  unfold ddStep
  by_cases h : acc.any (· == x) = true
  · rw [if_pos h]
    by_cases e : k = x
    · rw [e, h]; rfl
    · simp [e]
  · rw [if_neg h, List.any_append]
    by_cases e : k = x
    · rw [e]; simp
    · have e2 : (x == k) = false := beq_eq_false_iff_ne.mpr fun z => e z.symm
      simp [e2, e]
theorem ddStep_len (acc : List Str) (x : Str) : (ddStep acc x).length = if acc.any (· == x) = true then acc.length else acc.length + 1 := by
  unfold ddStep
  split <;> simp
theorem dd_le : ∀ xs : List Str, (dd xs).length ≤ xs.length := by
  have go : ∀ (xs acc : List Str), (xs.foldl ddStep acc).length ≤ acc.length + xs.length := by
    intro xs
    induction xs with
    | nil => intro acc; exact Nat.le_refl _
    | cons x xs ih =>
      intro acc
      have h1 := ih (ddStep acc x)
      have h2 := ddStep_len acc x
      have h3 : (ddStep acc x).length ≤ acc.length + 1 := by rw [h2]; split <;> omega
      rw [List.foldl_cons, List.length_cons]
      omega
  intro xs
  have := go xs []
  simpa [dd] using this
theorem dd_any (xs : List Str) (k : Str) : (dd xs).any (· == k) = xs.any (· == k) := by
  have go : ∀ (xs acc : List Str), (xs.foldl ddStep acc).any (· == k) = (acc.any (· == k) || xs.any (· == k)) := by
    intro xs
    induction xs with
    | nil => intro acc; simp
    | cons x xs ih =>
      intro acc
      rw [List.foldl_cons, ih, ddStep_any, List.any_cons]
      have : decide (k = x) = (x == k) := by
        by_cases e : k = x
        · subst e; simp
        · have : (x == k) = false := beq_eq_false_iff_ne.mpr fun z => e z.symm
          simp [this, e]
      rw [this, Bool.or_assoc]
  have := go xs []
  simpa [dd] using this
/-- nothing twice: as many as there are; else fewer -/
theorem dd_nodup {xs : List Str} : (dd xs).length = xs.length ↔ xs.Nodup := by
  have go : ∀ (n : Nat) (xs : List Str), xs.length = n → ((dd xs).length = xs.length ↔ xs.Nodup) := by
    intro n
    induction n with
    | zero => intro xs h; have : xs = [] := List.length_eq_zero_iff.mp h; subst this; simp [dd]
    | succ n ih =>
      intro xs h
      obtain ⟨ys, y, rfl⟩ : ∃ ys y, xs = ys ++ [y] := by
        have hne : xs ≠ [] := fun e => by rw [e] at h; simp at h
        exact ⟨xs.dropLast, xs.getLast hne, (List.dropLast_concat_getLast hne).symm⟩
      have hy : ys.length = n := by simpa using h
      have h1 := ih ys hy
      have h2 := dd_le ys
      rw [dd_snoc, ddStep_len, dd_any, List.length_append, List.length_singleton, List.nodup_append]
      by_cases c : ys.any (· == y) = true
      · rw [if_pos c]
        have hm : y ∈ ys := by
          obtain ⟨z, z1, z2⟩ := List.any_eq_true.mp c
          rw [← eq_of_beq z2]; exact z1
        constructor
        · intro e; omega
        · intro e; exact absurd rfl (e.2.2 y hm y (by simp))
      · rw [if_neg c]
        have hm : y ∉ ys := fun hm => c (List.any_eq_true.mpr ⟨y, hm, by simp⟩)
        constructor
        · intro e
          refine ⟨h1.mp (by omega), by simp, fun a ha b hb e2 => hm ?_⟩
          rw [List.mem_singleton] at hb
          rw [← hb, ← e2]; exact ha
        · intro e
          have := h1.mpr e.1
          omega
  exact go xs.length xs rfl
section
variable {P : Program} {w : World} {A : Around} {E : Value → Shared → Prop} {s : Shared}
abbrev sk (P : Program) (w : World) := PySem.strKind P w
/-- the set so far: what the first i texts hold -/
abbrev Got (P : Program) (w : World) (h : Heap) (S : Addr) (ys : List Str) : Prop := h.SetOf (sk P w) S (fun k => (dd ys).any (· == k)) (dd ys).length
theorem Got.keep {h h' : Heap} {S : Addr} {ys : List Str} (g : Got P w h S ys) (k : ∀ o, h.get? S = some o → h'.get? S = some o) : Got P w h' S ys := by
  obtain ⟨o, es, ep, tb, ho, r⟩ := g
  exact ⟨o, es, ep, tb, k o ho, r⟩
theorem fill_loop {R : Result → Shared → Prop} {I : Addr} {fp wr : List Addr} {G : Array GenState → Array GenState → Prop} {n : Nat} {Pv : Nat → Value → Prop} {St : Nat → Shared → Prop} {S : Addr} {xs : List Str}
    (W : WalksS P w A.in1 I fp wr G n Pv St) (hS : S ∉ fp) (hn : xs.length = n) (hb : n < 1000) (hv : ∀ i v, Pv i v → ∃ t, v = .str (xs.getD i Str.empty) t) : ∀ (m i : Nat) (s : Shared), i + m = n → St i s → Got P w s.heap S (xs.take i) →
      (∀ s', Moved (S :: wr) G s s' → Got P w s'.heap S xs → R (.ok (.ret .none)) s') → codeAny (model P w) A (.builtin "set.update.loop" ⟨[.ref S, .ref I], []⟩) R s
  | m, i, s, hi, st, g, k => by
    have out : S ∉ wr := fun z => hS (W.sub _ z)
    have inc : ∀ b ∈ wr, b ∈ S :: wr := fun b hb => .tail _ hb
    refine codeAny_builtin (F.entry_set_update_loop) ?_
    rw [Around.under_plainId (F.plain_set_update_loop) _]
    match m, hi with
    | 0, hi =>
      have ei : i = n := by omega
      rw [ei] at st g
      refine wpAny_bind (W.done s _ _ st fun s1 mv => wpAny_pure (k s1 (mv.mono inc) ?_))
      rw [← hn, List.take_length] at g
      exact g.keep fun o q => mv.heap S o out q
    | m + 1, hi =>
      have lt : i < n := by omega
      refine wpAny_bind (W.item i s _ _ lt st fun v s1 pv st1 mv => ?_)
      obtain ⟨t, rfl⟩ := hv i v pv
      have g1 : Got P w s1.heap S (xs.take i) := g.keep fun o q => mv.heap S o out q
      have hx : xs.take (i + 1) = xs.take i ++ [xs.getD i Str.empty] := by
        have : i < xs.length := by omega
        rw [List.take_add_one, List.getD_eq_getElem?_getD, List.getElem?_eq_getElem this]
        rfl
      generalize xs.getD i Str.empty = x at hx
      have room : (dd (xs.take i)).length + 1 < scanBound := by
        have h1 := dd_le (xs.take i)
        rw [List.length_take] at h1
        unfold scanBound
        omega
      show wpAny (model P w) A.in1 (holding [Value.str x t] (setAdd S (Value.str x t)) >>= _) _ _ s1
      refine wpAny_bind (wpAny_holding ?_)
      unfold setAdd
      refine wpAny_holding (wpAny_bind ((sk P w).pyHash (k := x) (strKind_is _ _ _ _) ?_))
      refine wpAny_setAddHashed_of (knd := sk P w) (s := { s1 with toks := s1.toks + 1 }) (strKind_is _ _ _ _) rfl g1 room fun h2 sb g2 => ?_
      have g3 : Got P w h2 S (xs.take (i + 1)) := by
        rw [hx]
        exact SetOf_congr g2 (fun k => by rw [dd_snoc, ddStep_any]) (by rw [dd_snoc, ddStep_len])
      have other : ∀ b, b ≠ S → h2.get? b = s1.heap.get? b := fun b hb => sb.2 b hb
      refine wpAny_pure ⟨plainId_quiet (F.plain_set_update_loop) _, fill_loop W hS hn hb hv m (i + 1) _ (by omega) (W.frame _ s1 _ _ st1 (Nat.le_succ _) fun b hb o e => ?_) g3 fun s3 mv3 g4 => k s3 (Moved.trans W.gtrans ((mv.mono inc).then_heap (Nat.le_succ _) fun b o hb e => ?_) mv3) g4⟩
      · rw [other b fun z => hS (z ▸ hb)]; exact e
      · rw [other b fun z => hb (z ▸ .head _)]; exact e
  termination_by m => m
/-- a set just made -/
abbrev sO (led : Bool) : Obj := { cls := .type "set", dict := none, data := .set #[] 0 (.fresh 0 0 led) }
set_option maxHeartbeats 3200000 in
theorem set_tuple {l : Addr} {its : Array Value} {xs : List Str} {Q : Value → Shared → Prop} (hh : A.handled = none) (hl : s.heap.IsTuple l its) (hi : StrsAre its.toList xs) (hb : xs.length < 1000)
    (k : ∀ (h' : Heap) (tk : Nat), Got P w h' s.heap.objs.size xs → (∀ b o, b < s.heap.objs.size → s.heap.get? b = some o → h'.get? b = some o) → Q (.ref s.heap.objs.size) { s with heap := h', toks := tk }) :
    wpAny (model P w) A (call (.type "set") [.ref l]) Q E s := by
  have hsz : xs.length = its.size := by rw [← StrsAre.len_eq hi, Array.length_toList]
  obtain ⟨c, tl, mro⟩ := PySem.F.called_set.mro
  have z1 := PySem.F.called_set.made
  have z2 := PySem.F.called_set.sub
  have z3 := PySem.F.called_set.notType
  have z4 := PySem.F.called_set.canCreate
  have z5 := PySem.F.typeCall_set_1 (.ref l)
  refine wpAny_call (codeAny_of_tree (wpAny_pure ⟨Code.quiet_builtin _ (by decide +kernel), codeAny_builtin (PySem.F.entry_type_call) ?_⟩))
  rw [Around.under_plain (PySem.weight_type_call_type "set" [.ref l] []) rfl]
  repeat (any_goals (first | assumption | wp_step))
  refine codeAny_mono (PySem.code_set_new_1 (.ref l) (E := E) (Q₁ := fun o s1 => ∃ led, o = .ref s.heap.objs.size ∧ s1 = { s with heap := s.heap.push (sO led) }) fun led => ⟨led, rfl, rfl⟩) fun r s1 hr => ?_
  cases r with
  | error e => exact hr
  | ok fl =>
    cases fl with
    | next => exact hr.elim
    | brk => exact hr.elim
    | cont => exact hr.elim
    | ret o =>
      obtain ⟨led, rfl, rfl⟩ := hr
      have at0 : (s.heap.push (sO led)).get? s.heap.objs.size = some (sO led) := Heap.get?_push_size _ rfl
      have ty0 : Shared.TypeIs { s with heap := s.heap.push (sO led) } (.ref s.heap.objs.size) "set" := ⟨_, at0, rfl⟩
      have z6 := PySem.F.called_set.init.lookup
      have z7 := PySem.F.called_set.init.bind (.ref s.heap.objs.size)
      repeat (any_goals (first | assumption | wp_step))
      refine codeAny_mono (codeAny_call_builtin (R := wants (fun r s2 => r = .none ∧ ∃ h2 tk, s2 = { s with heap := h2, toks := tk } ∧ Got P w h2 s.heap.objs.size xs ∧ ∀ b o, b < s.heap.objs.size → s.heap.get? b = some o → h2.get? b = some o) E)
        PySem.F.called_set.init.plain (PySem.F.entry_set_init) (PySem.check_set_init_1 ty0 ?_)) fun r2 s2 hr2 => ?_
      · obtain ⟨⟨oc, od, dt, sl⟩, ho, hc, nl, hd⟩ := hl
        simp only at hc hd
        subst hc; subst hd
        have ho1 := Heap.get?_push_of_some (sO led) ho
        have is1 : (s.heap.push (sO led)).IsTuple l its := ⟨_, ho1, rfl, nl, rfl⟩
        have z8 := PySem.F.sub_tuple_set
        have z9 := PySem.F.sub_tuple_frozenset
        have za : (Value.type "tuple" == Value.type "dict") = false := by decide
        unfold Builtin.«set.__init__» noKeywords Builtin.Frozenset.updateFrom
        generalize hPI : pyIter = PI
        wp_walk
        subst hPI
        refine wpAny_pyIter_tuple is1 (wpAny_bind (wpAny_runValue ?_))
        have lt := Heap.lt_size ho
        have sz1 : (s.heap.push (sO led)).objs.size = s.heap.objs.size + 1 := Heap.size_push _ _
        have neI : l ≠ (s.heap.push (sO led)).objs.size := Nat.ne_of_lt (sz1 ▸ Nat.lt_succ_of_lt lt)
        have notin : s.heap.objs.size ∉ [(s.heap.push (sO led)).objs.size, l] := fun m => by
          rcases List.mem_cons.mp m with e | m
          · exact Nat.ne_of_lt (Nat.lt_succ_self _) (e.trans sz1)
          · exact Nat.ne_of_gt lt (List.mem_singleton.mp m)
        have vals : ∀ (i : Nat) (v : Value), its[i]? = some v → ∃ t, v = .str (xs.getD i Str.empty) t := fun i v hv => SS.strs_at hi i v (by rw [Array.getElem?_toList]; exact hv)
        have hn3 : A.in1.in1.in1.handled = none := by simp [hh]
        refine fill_loop ((Walks.tuple hn3 _ l neI its).toS) notin hsz (by omega) vals its.size 0 _ (by omega) ⟨⟨_, Heap.get?_push_size _ rfl, rfl, rfl⟩, is1.push _⟩ ?_ fun s3 mv g => ?_
        · have at1 : ((s.heap.push (sO led)).push { cls := .type "tuple_iterator", data := .fields #[.ref l, .int 0 0] }).get? s.heap.objs.size = some (sO led) := Heap.get?_push_of_some _ at0
          exact SetOf_congr ((setObjOf_fresh (knd := sk P w) led).setOf at1 (by unfold scanBound; omega)) (fun _ => rfl) rfl
        · obtain ⟨h3, g3, d3, t3, o3⟩ := s3
          obtain rfl : g3 = s.gens := mv.gens
          obtain rfl : d3 = s.drawn := mv.drawn
          obtain rfl : o3 = s.os := mv.os
          refine wpAny_pure (wpAny_pure ⟨rfl, h3, t3, rfl, g, fun b o hb e => mv.heap b o (fun m => ?_) (Heap.get?_push_of_some _ (Heap.get?_push_of_some _ e))⟩)
          rcases List.mem_cons.mp m with e | m
          · exact Nat.ne_of_lt hb e
          · exact Nat.ne_of_lt (sz1 ▸ Nat.lt_succ_of_lt hb) (List.mem_singleton.mp m)
      · cases r2 with
        | error e => exact hr2
        | ok f2 =>
          cases f2 with
          | next => exact hr2.elim
          | brk => exact hr2.elim
          | cont => exact hr2.elim
          | ret r =>
            obtain ⟨rfl, h2, tk, rfl, g, kp⟩ := hr2
            repeat (any_goals (first | assumption | wp_step))
            exact k _ _ g kp
end
/-- len(set(x)), x a tuple of texts -/
def tLenSet (K : PySem.W.Frag) (ta : TE) : TE := fun σ H Q => ta σ H fun x H1 => ∃ l, ∃ xs : List Str, x = .ref l ∧ SqT K H1 l (xs.map V.str) ∧ xs.length < 1000 ∧ Q (.int (dd xs).length) H1
@[simp] abbrev aLenSet (a : ATE) : ATE := fun Γ c P => a Γ c fun x c1 => match x with
  | .tup ds => match strsOf ds with
    | some xs => xs.length < 1000 ∧ P (.int (dd xs).length) c1
    | none => False
  | _ => False
theorem pe_lenSetT {X : Cx} {a : Expr} {ta : TE} {p p2 q pos : Pos} (hc : X.calm = true) (hg : Gl X "len") (hm : X.mg "len" = none) (hg2 : Gl X "set") (hm2 : X.mg "set" = none) (ha : PE X a ta)
    (na : starEach [a] X.env = (false, eval a X.env) :: starEach [] X.env := by rfl) : PE X (.Call (.Name "len" p) [.Call (.Name "set" p2) [a] [] q] [] pos) (tLenSet X.K ta) := by
  refine ⟨fun pins s σ H Q I h => Call_ (ld_blt I hg hm PySem.boot_len ?_)⟩
  refine PyProof.Rows.callWith_builtin1 (PyProof.Rows.args_cons (Call_ (ld_blt I hg2 hm2 PyProof.Rows.boot_set ?_)) rfl) rfl rfl
  refine PyProof.Rows.callWith_type1 (PyProof.Rows.args_cons (thn (ha.run pins s σ H _ I h) fun v s1 ⟨x, H1, I1, r1, l, xs, ex, hq, hb, q1⟩ => PyProof.Rows.args_nil ?_) na) na rfl
  subst ex
  cases r1
  obtain ⟨its, r, pl, hz⟩ := I1.tuple hq
  refine set_tuple (I1.ok.hd hc) pl (by simpa using L2.strsAre_of r) hb fun h' tk g kp => PyProof.Rows.args_nil ?_
  obtain ⟨o, es, ep, t, ho, hex, hd, _, _, _, hf, hn⟩ := g
  have hle := dd_le xs
  have I2 : Inv X pins σ H1 { s1 with heap := h', toks := tk } := I1.kept fun b o e => kp b o (Heap.lt_size e) e
  exact call_len_set ho hex hd hf (by rw [hn] <;> omega) ⟨.int (dd xs).length, H1, I2.tok _, ⟨_, by rw [hn]⟩, q1⟩
theorem snd_lenSet {K : PySem.W.Frag} {F : Fr} {ta : TE} {a : ATE} (h : SndE K F ta a) : SndE K F (tLenSet K ta) (aLenSet a) := by
  intro gs pv os cs σ H Γ P Q r0 ha hq
  refine h gs pv os cs σ H Γ _ _ r0 ha fun v H1 d os1 c1 r1 p1 => ?_
  split at p1
  · rename_i ds
    split at p1
    · rename_i xs e
      have rh := r1.head
      cases rh with
      | tup hx rx =>
        have e2 := strs_rw (w := F.at pv os1) rx e
        subst e2
        exact ⟨_, xs, rfl, tup_sq hx, p1.1, hq _ H1 _ os1 c1 (r1.tail.gcons (.int _)) p1.2⟩
    · exact p1.elim
  · exact p1.elim
theorem je_lenSet {X : Cx} {Fm : Fr} {a : Expr} {ta : TE} {aa : ATE} {p p2 q pos : Pos} (hm : X.mg "len" = none) (hm2 : X.mg "set" = none) (ha : JE X Fm a ta aa) (hc : X.calm = true := by rfl) (hg : Gl X "len" := by rfl) (hg2 : Gl X "set" := by rfl)
    (na : starEach [a] X.env = (false, eval a X.env) :: starEach [] X.env := by rfl) : JE X Fm (.Call (.Name "len" p) [.Call (.Name "set" p2) [a] [] q] [] pos) (tLenSet X.K ta) (aLenSet aa) := ⟨pe_lenSetT hc hg hm hg2 hm2 ha.p na, snd_lenSet ha.s⟩
end Bd
/-! BeA: own instances as data: fields, methods, properties, making. -/
namespace Bd
open PySem L2
/-! ### fields -/
theorem zip_look {K : PySem.W.Frag} {hd : Nat → Option Addr} {H : Hp} {f : Str} : ∀ {ns : List Str} {xs : List V} {ds : List D} {d : D}, RwA K hd H xs ds → (ns.zip ds).lookup f = some d → ∃ v, (ns.zip xs).lookup f = some v ∧ Rw K hd H v d
  | [], _, _, _, _, e => by simp at e
  | n :: ns, _, _, _, .nil, e => by simp at e
  | n :: ns, _, _, d, .cons (v := v) (d := d') r t, e => by
    rw [List.zip_cons_cons, List.lookup_cons] at e ⊢
    cases q : (f == n) with
    | true => rw [q] at e; cases e; exact ⟨v, rfl, r⟩
    | false => rw [q] at e; exact zip_look t e
theorem zip_none {K : PySem.W.Frag} {hd : Nat → Option Addr} {H : Hp} {f : Str} : ∀ {ns : List Str} {xs : List V} {ds : List D}, RwA K hd H xs ds → (ns.zip ds).lookup f = none → (ns.zip xs).lookup f = none
  | [], _, _, _, e => by simp
  | n :: ns, _, _, .nil, e => by simp
  | n :: ns, _, _, .cons (v := v) (d := d') r t, e => by
    rw [List.zip_cons_cons, List.lookup_cons] at e ⊢
    cases q : (f == n) with
    | true => rw [q] at e; cases e
    | false => rw [q] at e; exact zip_none t e
theorem obj_inj {K : PySem.W.Frag} {w : Wd} {H : Hp} {v : V} {cn : Str} {ns : List Str} {ds : List D} (h : R K w H v (.obj cn ns ds)) : ∃ a dx xs, v = .ref a ∧ H a = some (.ins (He.ga K cn) dx (ns.zip xs)) ∧ ns.length = xs.length ∧ RA K w H xs ds := by
  cases h with
  | obj hx hl r => exact ⟨_, _, _, rfl, (vis_some hx).2, hl, r⟩
@[simp] abbrev aFld (cn f : Str) (a : ATE) : ATE := fun Γ c P => a Γ c fun x c1 => match x with
  | .obj c' ns ds => c' = cn ∧ match (ns.zip ds).lookup f with
    | some d => P d c1
    | none => False
  | _ => False
/-- a field of a cell -/
@[simp] abbrev aFldC (cn f : Str) (a : ATE) : ATE := fun Γ c P => a Γ c fun x c1 => match x with
  | .adr p => match c1.lookup p with
    | some (.obj c' ns ds) => c' = cn ∧ match (ns.zip ds).lookup f with
      | some d => P d c1
      | none => False
    | _ => False
  | _ => False
section
variable {K : PySem.W.Frag} {F : Fr} {te : TE} {ae : ATE} {cn f : Str}
theorem snd_fld (hc : Cls K (He.ga K cn)) (hn : NoAttr K (He.ga K cn) f) (h : SndE K F te ae) : SndE K F (tFld K te f) (aFld cn f ae) := by
  intro gs pv os cs σ H Γ P Q r ha hq
  refine h gs pv os cs σ H Γ _ _ r ha fun v H1 d os1 c1 r1 p1 => ?_
  split at p1
  · obtain ⟨rfl, p1⟩ := p1
    split at p1
    · rename_i d e
      obtain ⟨a, dx, xs, rfl, h1, h2, h3⟩ := obj_inj r1.head
      obtain ⟨u, e1, ru⟩ := zip_look h3 e
      exact ⟨a, _, dx, _, u, rfl, h1, hc, hn, e1, hq u H1 _ os1 c1 (r1.tail.gcons ru) p1⟩
    · exact p1.elim
  · exact p1.elim
theorem cell_obj {gs : List (V × D)} {pv os : Os} {cs : Cs} {σ : St} {H : Hp} {Γ : Gs} (r : Rel K F gs pv os cs σ H Γ) {p : Addr} {c : Str} {ns : List Str} {ds : List D} (e : cs.lookup p = some (.obj c ns ds)) :
    ∃ dx xs, (p, HO.ins (He.ga K c) dx (ns.zip xs)) ∈ os ∧ H p = some (.ins (He.ga K c) dx (ns.zip xs)) ∧ ns.length = xs.length ∧ RA K (F.at pv os) H xs ds := by
  obtain ⟨o0, hm, ho⟩ := r.st.cel.get e
  cases o0 with
  | ins c' dx fs =>
    obtain ⟨rfl, xs, rfl, e2, rx⟩ := (show c' = He.ga K c ∧ ∃ xs, fs = ns.zip xs ∧ ns.length = xs.length ∧ RA K (F.at pv os) H xs ds from ho)
    exact ⟨dx, xs, hm, (at_inv.mp r.st.inv).2 (p, _) (List.mem_append_right _ hm), e2, rx⟩
  | _ => exact ho.elim
theorem snd_fldC (hc : Cls K (He.ga K cn)) (hn : NoAttr K (He.ga K cn) f) (h : SndE K F te ae) : SndE K F (tFld K te f) (aFldC cn f ae) := by
  intro gs pv os cs σ H Γ P Q r ha hq
  refine h gs pv os cs σ H Γ _ _ r ha fun v H1 d os1 c1 r1 p1 => ?_
  split at p1
  · split at p1
    · rename_i e0
      obtain ⟨rfl, p1⟩ := p1
      split at p1
      · rename_i d e
        cases r_adr r1.head
        obtain ⟨dx, xs, _, h1, h2, h3⟩ := cell_obj r1 e0
        obtain ⟨u, e1, ru⟩ := zip_look h3 e
        exact ⟨_, _, dx, _, u, rfl, h1, hc, hn, e1, hq u H1 _ os1 c1 (r1.tail.gcons ru) p1⟩
      · exact p1.elim
    · exact p1.elim
  · exact p1.elim
end
/-- a field put -/
def putN (f : Str) : List Str → List Str
  | [] => [f]
  | g :: r => if g = f then g :: r else g :: putN f r
def putL {α : Type} (f : Str) (y : α) : List Str → List α → List α
  | [], _ => [y]
  | g :: r, x :: xs => if g = f then y :: xs else x :: putL f y r xs
  | _ :: _, [] => []
theorem putF_zip {f : Str} {v : V} : ∀ {ns : List Str} {xs : List V}, ns.length = xs.length → putF f v (ns.zip xs) = (putN f ns).zip (putL f v ns xs) ∧ (putN f ns).length = (putL f v ns xs).length
  | [], [], _ => ⟨rfl, rfl⟩
  | g :: ns, x :: xs, h => by
    have ih := putF_zip (f := f) (v := v) (ns := ns) (xs := xs) (by simpa using h)
    have hl : ns.length = xs.length := by simpa using h
    by_cases e : g = f
    · simp [putF, putN, putL, e, hl]
    · simp only [List.zip_cons_cons, putF, putN, putL, if_neg e, ih.1, List.length_cons, ih.2, and_self]
theorem putL_rw {K : PySem.W.Frag} {hd : Nat → Option Addr} {H : Hp} {f : Str} {v : V} {d : D} (r : Rw K hd H v d) : ∀ {ns : List Str} {xs : List V} {ds : List D}, RwA K hd H xs ds → RwA K hd H (putL f v ns xs) (putL f d ns ds)
  | [], _, _, _ => .cons r .nil
  | g :: ns, _, _, .nil => .nil
  | g :: ns, _, _, .cons q t => by
    unfold putL
    split
    · exact .cons r t
    · exact .cons q (putL_rw r t)
theorem putN_len {f : Str} : ∀ {ns : List Str}, (putN f ns).length ≤ ns.length + 1
  | [] => by simp [putN]
  | g :: ns => by
    have := putN_len (f := f) (ns := ns)
    unfold putN
    split
    · simp
    · simp; omega
/-- o.f = e, o a cell -/
@[simp] abbrev aSetF (cn f : Str) (o e : ATE) : ATS := fun A Γ c => e Γ c fun y c1 => o Γ c1 fun x c2 => match x with
  | .adr p => match c2.lookup p with
    | some (.obj c' ns ds) => c' = cn ∧ ns.length < 500 ∧ A.nx Γ (cset c2 p (.obj c' (putN f ns) (putL f y ns ds)))
    | _ => False
  | _ => False
section
variable {K : PySem.W.Frag} {F : Fr}
theorem snd_setF {cn f : Str} {to te : TE} {ao ae : ATE} (hc : Cls K (He.ga K cn)) (hn : NoAttr K (He.ga K cn) f) (h1 : SndE K F to ao) (h2 : SndE K F te ae) : SndS K F (sFld K to te f) (aSetF cn f ao ae) := by
  intro gs os cs σ H Γ A D' r ha e
  refine h2 gs [] os cs σ H Γ _ _ r ha fun v H1 d os1 c1 r1 p1 => ?_
  refine h1 _ [] os1 c1 σ H1 Γ _ _ r1 p1 fun u H2 d2 os2 c2 r2 p2 => ?_
  split at p2
  · rename_i p
    split at p2
    · rename_i c' ns ds el
      obtain ⟨rfl, hl, p2⟩ := p2
      cases r_adr r2.head
      obtain ⟨dx, xs, hm, hx, hlen, rx⟩ := cell_obj r2 el
      have rv := r2.tail.head
      obtain ⟨z1, z2⟩ := putF_zip (f := f) (v := v) hlen
      refine ⟨p, _, dx, _, rfl, hx, hc, hn, by rw [List.length_zip]; omega, ?_⟩
      rw [z1]
      refine e.nx _ _ σ _ Γ (r2.tail.tail.put (o := .ins (He.ga K c') dx ((putN f ns).zip (putL f v ns xs))) (d := .obj c' (putN f ns) (putL f d ns ds)) el ⟨rfl, _, rfl, z2, putL_rw rv rx⟩) p2
    · exact p2.elim
  · exact p2.elim
end
section
variable {X : Cx} {Fm : Fr} {e o : Expr} {pos pos' : Pos} {te to : TE} {ae ao : ATE} {cn f : Str} {Kf : PySem.W.Frag}
theorem je_fld (hK : X.K = Kf) (hc : Cls Kf (He.ga Kf cn)) (hn : NoAttr Kf (He.ga Kf cn) f) (h : JE X Fm e te ae) (hb : attributeBase e f X.env (eval e X.env) = eval e X.env := by rfl) : JE X Fm (.Attribute e f pos) (tFld Kf te f) (aFld cn f ae) := by
  subst hK
  exact ⟨pe_fld h.p hb, snd_fld hc hn h.s⟩
theorem je_fldC (hK : X.K = Kf) (hc : Cls Kf (He.ga Kf cn)) (hn : NoAttr Kf (He.ga Kf cn) f) (h : JE X Fm e te ae) (hb : attributeBase e f X.env (eval e X.env) = eval e X.env := by rfl) : JE X Fm (.Attribute e f pos) (tFld Kf te f) (aFldC cn f ae) := by
  subst hK
  exact ⟨pe_fld h.p hb, snd_fldC hc hn h.s⟩
theorem js_setF (hc : Cls X.K (He.ga X.K cn)) (hn : NoAttr X.K (He.ga X.K cn) f) (ho : JE X Fm o to ao) (he : JE X Fm e te ae) (hs : swapsWith e (some (.Attribute o f pos')) pos.line X.env = pure false := by rfl) :
    JS X Fm (.Assign [.Attribute o f pos'] e pos) (sFld X.K to te f) (aSetF cn f ao ae) := ⟨ps_fld ho.p he.p hs, snd_setF hc hn ho.s he.s⟩
end
/-! ### methods -/
abbrev ma' (K : PySem.W.Frag) (cn m : Str) : Addr := He.ma K (He.ga K cn) m
structure FncM (P : Program) (w : World) (K : PySem.W.Frag) (mg : Str → Option Value) (base : Heap) (cn m : Str) (k : Nat) (ps : List Str) (C : WC) (Ab : List D → (D → Prop) → Prop) : Prop where
  ex : ∃ fd, FnOk P w K mg base CX0 k (ma' K cn m) fd ps (spOf K C Ab) ∧ Binds K fd ps []
  mt : Meth K (He.ga K cn) m (ma' K cn m)
  cl : Cls K (He.ga K cn)
@[simp] abbrev aMeth (cn m : Str) (A : List D → (D → Prop) → Prop) (o : ATE) (a : ATA) : ATE := fun Γ c P => o Γ c fun x c1 => match x with
  | .obj c' ns ds => (c' = cn ∧ (ns.zip ds).lookup m = none) ∧ a Γ c1 fun xs c2 => A (.obj c' ns ds :: xs) fun d => P d c2
  | _ => False
theorem snd_meth {K : PySem.W.Frag} {F : Fr} {C' : WC} {cn m : Str} {A : List D → (D → Prop) → Prop} {to : TE} {o : ATE} {t : TA} {a : ATA} (hC : FC K F C') (h1 : SndE K F to o) (h2 : SndA K F t a) : SndE K F (tMeth (He.ga K cn) m (spOf K C' A) [] E0 to t) (aMeth cn m A o a) := by
  intro gs pv os cs σ H Γ P Q r0 ha hq
  refine h1 gs pv os cs σ H Γ _ _ r0 ha fun v H1 d os1 c1 r1 p1 => ?_
  split at p1
  · obtain ⟨⟨rfl, hl⟩, p1⟩ := p1
    obtain ⟨b, dx, xs, rfl, g1, g2, g3⟩ := obj_inj r1.head
    refine ⟨b, dx, _, rfl, g1, zip_none g3 hl, ?_⟩
    refine h2 _ pv os1 c1 σ H1 Γ _ _ r1 p1 fun vs H2 es os2 c2 r2 ra p2 => ?_
    rw [List.append_nil]
    exact ⟨F.at pv os2, _, _, hC _ _ _ _ r2.st, r2.st.inv, .cons r2.head ra, p2, fun v' H' d' s r p => hq v' H' d' os2 c2 ((r2.tail.step s).gcons r) p⟩
  · exact p1.elim
section
variable {X : Cx} {Fm : Fr} {C' : WC} {e o : Expr} {es : List Expr} {pos apos : Pos} {te to : TE} {ae ao : ATE} {t : TA} {ag : ATA} {cn m : Str} {k j : Nat} {ps : List Str} {A : List D → (D → Prop) → Prop} {Kf : PySem.W.Frag}
theorem je_meth {pl : Sem Bool} (hK : X.K = Kf) (F : FncM X.prog X.w Kf X.mg X.base cn m k ps C' A) (hr : Room j X.A) (hk : k ≤ j) (hC : FC Kf Fm C') (ho : JE X Fm o to ao) (ha : JA X Fm (e :: es) t ag)
    (hst : starEach (e :: es) X.env = (false, eval e X.env) :: starEach es X.env := by rfl) (hpl : (backTo pos (starEach es X.env)).any (·.1) = false := by rfl)
    (ht : eval (.Call (.Attribute o m apos) (e :: es) [] pos) X.env = (do
      let ov ← eval o X.env
      standAt apos.atName
      let (f, first) ← holding [ov] (getMethod ov m pl)
      callWith pos f first (backTo pos (starEach (e :: es) X.env)) (backToKw pos (keywordEach [] X.env))) := by rfl) :
    JE X Fm (.Call (.Attribute o m apos) (e :: es) [] pos) (tMeth (He.ga Kf cn) m (spOf Kf C' A) [] E0 to t) (aMeth cn m A ao ag) := by
  subst hK
  obtain ⟨fd, F1, b⟩ := F.ex
  exact ⟨pe_meth ho.p F.cl F.mt F1 (hr.mono hk) b .nil pass0 ha.p hst hpl ht, snd_meth hC ho.s ha.s⟩
theorem je_meth0 {pl : Sem Bool} (hK : X.K = Kf) (F : FncM X.prog X.w Kf X.mg X.base cn m k ps C' A) (hr : Room j X.A) (hk : k ≤ j) (hC : FC Kf Fm C') (ho : JE X Fm o to ao)
    (ht : eval (.Call (.Attribute o m apos) [] [] pos) X.env = (do
      let ov ← eval o X.env
      standAt apos.atName
      let (f, first) ← holding [ov] (getMethod ov m pl)
      callWith pos f first (backTo pos (starEach [] X.env)) (backToKw pos (keywordEach [] X.env))) := by rfl) :
    JE X Fm (.Call (.Attribute o m apos) [] [] pos) (tMeth (He.ga Kf cn) m (spOf Kf C' A) [] E0 to tNil) (aMeth cn m A ao aNil) := by
  subst hK
  obtain ⟨fd, F1, b⟩ := F.ex
  exact ⟨pe_meth0 ho.p F.cl F.mt F1 (hr.mono hk) b .nil pass0 ht, snd_meth hC ho.s snd_nil⟩
end
end Bd
/-! BeB: making instances of own classes. -/
namespace Bd
open PySem L2
section
variable {K : PySem.W.Frag} {F : Fr} {gs : List (V × D)} {pv os : Os} {cs : Cs} {σ : St} {H : Hp} {Γ : Gs}
/-- a list of values as ghosts -/
theorem Rel.gall (r : Rel K F gs pv os cs σ H Γ) {vs : List V} {ds : List D} (h : RA K (F.at pv os) H vs ds) : Rel K F (vs.zip ds ++ gs) pv os cs σ H Γ :=
  ⟨r.st, r.len, r.at_, fun p hp => by
    rcases List.mem_append.mp hp with hp | hp
    · have : ∀ {vs : List V} {ds : List D}, RA K (F.at pv os) H vs ds → p ∈ vs.zip ds → R K (F.at pv os) H p.1 p.2 := by
        intro vs
        induction vs with
        | nil => intro ds _ hp; cases hp
        | cons v vs ih =>
          intro ds h hp
          cases h with
          | cons r t =>
            rcases List.mem_cons.mp hp with e | hp
            · rw [e]; exact r
            · exact ih t hp
      exact this h hp
    · exact r.gh p hp⟩
theorem Rel.gback {vs : List V} {ds : List D} (hl : vs.length = ds.length) (r : Rel K F (vs.zip ds ++ gs) pv os cs σ H Γ) : RA K (F.at pv os) H vs ds ∧ Rel K F gs pv os cs σ H Γ := by
  refine ⟨?_, r.weak fun p hp => List.mem_append_right _ hp⟩
  have : ∀ {vs : List V} {ds : List D}, vs.length = ds.length → (∀ p, p ∈ vs.zip ds → R K (F.at pv os) H p.1 p.2) → RA K (F.at pv os) H vs ds := by
    intro vs
    induction vs with
    | nil => intro ds e _; cases ds with
      | nil => exact .nil
      | cons => cases e
    | cons v vs ih =>
      intro ds e h
      cases ds with
      | nil => cases e
      | cons d ds => exact .cons (h (v, d) List.mem_cons_self) (ih (by simpa using e) fun p hp => h p (List.mem_cons_of_mem _ hp))
  exact this hl fun p hp => r.gh p (List.mem_append_left _ hp)
end
structure FncI (P : Program) (w : World) (K : PySem.W.Frag) (mg : Str → Option Value) (base : Heap) (cn : Str) (k : Nat) (ps : List Str) (dvs : List V) (kn : List Nat) (C : WC) (Ab : List D → Cs → (D → Cs → Prop) → Prop) : Prop where
  ex : ∃ fd, FnOk P w K mg base CX0 k (ma' K cn "__init__") fd ps (spS K C Ab) ∧ (∀ n, n ≤ dvs.length → ∃ ds, Vals (dvs.drop n) ds ∧ Binds K fd ps ds) ∧ ∀ n, n ∈ kn → KBn K fd ps n (ps.drop n) (fun us ws => us ++ ws) (fun us ws => us ++ ws)
  made : Mk K (He.ga K cn) (ma' K cn "__init__")
  m : mg cn = some (.ref (He.ga K cn))
/-- C(..): the callee starts with the new instance's cell -/
@[simp] abbrev aMake (cn : Str) (A : List D → Cs → (D → Cs → Prop) → Prop) (dds : List D) (a : ATA) : ATE := fun Γ c P => a Γ c fun xs c1 => ∀ p : Addr, A (.adr p :: (xs ++ dds)) [(p, .obj cn [] [])] fun d c2 => d = .non ∧ ∃ o, c2 = [(p, o)] ∧ P o c1
@[simp] abbrev aMakeK (cn : Str) (A : List D → Cs → (D → Cs → Prop) → Prop) (n m : Nat) (a ak : ATA) : ATE := fun Γ c P => a Γ c fun xs c1 => ak Γ c1 fun zs c2 => (xs.length = n ∧ zs.length = m) ∧
  ∀ p : Addr, A (.adr p :: (xs ++ zs)) [(p, .obj cn [] [])] fun d c3 => d = .non ∧ ∃ o, c3 = [(p, o)] ∧ P o c2
section
variable {K : PySem.W.Frag} {F : Fr} {C' : WC} {cn : Str} {A : List D → Cs → (D → Cs → Prop) → Prop}
/-- the new instance's __init__ -/
theorem make_core (hC : FC K F C') {gs : List (V × D)} {pv os : Os} {cs : Cs} {σ : St} {H : Hp} {Γ : Gs} {P : D → Cs → Prop} {Q : VK} {vs : List V} {ds : List D} (r : Rel K F gs pv os cs σ H Γ) (ra : RA K (F.at pv os) H vs ds)
    (hA : ∀ p : Addr, A (.adr p :: ds) [(p, .obj cn [] [])] fun d c2 => d = .non ∧ ∃ o, c2 = [(p, o)] ∧ P o cs) (hq : ∀ v H' d, Rel K F ((v, d) :: gs) pv os cs σ H' Γ → P d cs → Q v H')
    (x dx : Addr) (hx : H x = none) (hdx : H dx = none) (hne : dx ≠ x) : spS K C' A (.ref x :: vs) (upd (upd H dx (.own x)) x (.ins (He.ga K cn) dx [])) (fun v H2 => v = .non ∧ Q (.ref x) H2) E0 := by
  have hI := r.st.inv
  have s1 : Step (F.at pv os) H (upd H dx (.own x)) := Step.new hI hdx
  have hx1 : (upd H dx (HO.own x)) x = none := by rw [upd_ne (fun z => hne z.symm)]; exact hx
  have s2 := s1.trans (Step.new (o := .ins (He.ga K cn) dx []) s1.inv hx1)
  have hm : x ∉ (F.at pv os).ms := fresh_out hI hx
  generalize hH2 : upd (upd H dx (HO.own x)) x (HO.ins (He.ga K cn) dx []) = H2 at s2 ⊢
  have hx2 : H2 x = some (.ins (He.ga K cn) dx []) := by rw [← hH2]; exact upd_same
  have eV : Ext ((F.at pv os).v H) (((F.at pv os).plus [(x, HO.ins (He.ga K cn) dx [])]).v H2) := fun a o e => by
    obtain ⟨h1, h2, h3⟩ := vis_all e
    have hax : a ≠ x := fun z => by rw [z, hx] at h2; cases h2
    refine vis_of (fun m => ?_) (vis_some (s2.ext a o e)).2 h3
    rcases List.mem_append.mp m with m | m
    · exact hax (List.mem_singleton.mp m)
    · exact h1 m
  refine ⟨F.at pv os, [(x, .ins (He.ga K cn) dx [])], [(x, .obj cn [] [])], .adr x :: ds, _, hC _ _ _ _ r.st, ⟨Ext.rfl' _, ⟨⟨s2.inv, fun p hp => (by cases hp)⟩, fun p hp => ?_⟩, fun p hp => ?_, by simp, ?_, fun p hp => by cases hp⟩, .cons (.adr x) (RwA.mono eV ra), hA x, fun v H' d os' cs' st rv ⟨ed, o, ec, p⟩ => ?_⟩
  · rw [List.mem_singleton.mp hp]; exact hx2
  · have hp : p ∈ [(x, HO.ins (He.ga K cn) dx [])] := hp
    rw [List.mem_singleton.mp hp]
    exact ⟨hm, vis_in (List.mem_append_left _ (by simp))⟩
  · exact .cons ⟨rfl, [], rfl, rfl, .nil⟩ .nil
  · subst ed ec
    have ev : v = .non := by cases rv; rfl
    refine ⟨ev, ?_⟩
    have cel := st.cel
    cases cel with
    | @cons _ ho _ os' _ rh ce =>
      cases ce
      have iv := at_inv.mp st.inv
      have hx' : H' x = some ho := iv.2 (x, ho) (by simp)
      have e1 : Ext ((F.at pv os).v H) ((F.at pv os).v H') := fun a u e => by
        have := st.ext a u (eV a u e)
        obtain ⟨z1, z2⟩ := vis_some this
        exact vis_of (vis_some e).1 z2 (vis_nt e)
      have st1 : Step (F.at pv os) H H' := ⟨e1, iv.1⟩
      have eo : Ext ((Fr.at ⟨F.at pv os, [(x, HO.ins (He.ga K cn) dx [])], H2⟩ [] [(x, ho)]).v H') ((F.at pv os).v H') := fun a u e => by
        obtain ⟨z1, z2, z3⟩ := vis_all e
        exact vis_of (fun m => z1 (List.mem_append_right _ (List.mem_append_right _ m))) z2 z3
      refine hq _ H' o ((r.step st1).gcons (rh_r (RH.mono (w := Fr.at ⟨F.at pv os, [(x, HO.ins (He.ga K cn) dx [])], H2⟩ [] [(x, ho)]) (w' := F.at pv os) rfl eo rh) (vis_of hm hx' (rh_kind rh).1))) p
theorem snd_make {dvs : List V} {dds : List D} {t : TA} {a : ATA} (hC : FC K F C') (hd : ∀ (w : Wd) H, RA K w H dvs dds) (h : SndA K F t a) : SndE K F (tMake (He.ga K cn) (spS K C' A) dvs E0 t) (aMake cn A dds a) := by
  intro gs pv os cs σ H Γ P Q r0 ha hq
  refine h gs pv os cs σ H Γ _ _ r0 ha fun vs H1 ds os1 c1 r1 ra p1 => ?_
  intro x dx hx hdx hne
  exact make_core hC r1 (ra.append (hd _ _)) p1 (fun v H' d r p => hq v H' d os1 c1 r p) x dx hx hdx hne
theorem snd_makeK {n m : Nat} {t tk : TA} {a ak : ATA} (hC : FC K F C') (h : SndA K F t a) (hk : SndA K F tk ak) : SndE K F (tMakeN (He.ga K cn) n m (spS K C' A) (fun us ws => us ++ ws) E0 t tk) (aMakeK cn A n m a ak) := by
  intro gs pv os cs σ H Γ P Q r0 ha hq
  refine h gs pv os cs σ H Γ _ _ r0 ha fun vs H1 ds os1 c1 r1 ra p1 => ?_
  have hl := ra.length
  refine hk _ pv os1 c1 σ H1 Γ _ _ (r1.gall ra) p1 fun zs H2 es os2 c2 r2 rz p2 => ?_
  obtain ⟨⟨l1, l2⟩, p3⟩ := p2
  obtain ⟨rv, r3⟩ := r2.gback hl
  refine ⟨by omega, by rw [rz.length]; exact l2, fun x dx hx hdx hne => ?_⟩
  exact make_core hC r3 (rv.append rz) p3 (fun v H' d r p => hq v H' d os2 c2 r p) x dx hx hdx hne
end
section
variable {X : Cx} {Fm : Fr} {C' : WC} {e : Expr} {es : List Expr} {pos p : Pos} {t tk : TA} {ag ak : ATA} {cn : Str} {k j : Nat} {ps ks : List Str} {dvs : List V} {kn : List Nat} {A : List D → Cs → (D → Cs → Prop) → Prop} {Kf : PySem.W.Frag} {kws : List Keyword}
theorem je_make (hK : X.K = Kf) (F : FncI X.prog X.w Kf X.mg X.base cn k ps dvs kn C' A) (hr : Room j X.A) (hk : k + 1 ≤ j) (hC : FC Kf Fm C') (n : Nat) (hn : n ≤ dvs.length) (dds : List D) (hd : ∀ (w : Wd) H, RA Kf w H (dvs.drop n) dds) (ha : JA X Fm (e :: es) t ag) (hg : Gl X cn := by rfl)
    (hdb : (cn == ("__debug__" : Str)) = false := by decide) (he : starEach (e :: es) X.env = (false, eval e X.env) :: starEach es X.env := by rfl) (hpl : (backTo pos (starEach es X.env)).any (·.1) = false := by rfl) :
    JE X Fm (.Call (.Name cn p) (e :: es) [] pos) (tMake (He.ga Kf cn) (spS Kf C' A) (dvs.drop n) E0 t) (aMake cn A dds ag) := by
  subst hK
  obtain ⟨fd, F1, b, _⟩ := F.ex
  obtain ⟨ds, v, b⟩ := b n hn
  exact ⟨pe_make F.made F1 (hr.mono hk) hg F.m b v pass0 ha.p hdb he hpl, snd_make hC hd ha.s⟩
theorem je_makeK (hK : X.K = Kf) (F : FncI X.prog X.w Kf X.mg X.base cn k ps dvs kn C' A) (hr : Room j X.A) (hk : k + 1 ≤ j) (hC : FC Kf Fm C') (n m : Nat) (ks : List Str) (hn : n + 1 ∈ kn) (hd : ps.drop (n + 1) = ks) (hm : ks.length = m) (ha : JA X Fm (e :: es) t ag) (hkw : JK X Fm kws tk ak)
    (hall : (backToKw pos (keywordEach kws X.env)).all (·.1.isSome) = true := by rfl) (hks : (backToKw pos (keywordEach kws X.env)).filterMap (·.1) = ks := by rfl) (hg : Gl X cn := by rfl)
    (hdb : (cn == ("__debug__" : Str)) = false := by decide) (he : starEach (e :: es) X.env = (false, eval e X.env) :: starEach es X.env := by rfl)
    (hpl : ((backTo pos (starEach (e :: es) X.env)).any (·.1) || (backToKw pos (keywordEach kws X.env)).any (·.1.isNone)) = false := by rfl) :
    JE X Fm (.Call (.Name cn p) (e :: es) kws pos) (tMakeN (He.ga Kf cn) n m (spS Kf C' A) (fun us ws => us ++ ws) E0 t tk) (aMakeK cn A n m ag ak) := by
  subst hK hm hd
  obtain ⟨fd, F1, _, b⟩ := F.ex
  exact ⟨pe_makeN F.made F1 (hr.mono hk) hg F.m (b (n + 1) hn) pass0 ha.p hkw.p hall hks hdb he hpl, snd_makeK hC ha.s hkw.s⟩
end
end Bd
/-! BeC: operators, comparisons, texts of own classes' instances. -/
namespace Bd
open PySem L2
section
variable {X : Cx} {k : Nat} {f C C2 : Addr} {fd : FuncData} {ps : List Str} {sp : Sp}
theorem sub0 (hr : Room k X.A) : L2.Sub X k X.A := ⟨hr, rfl⟩
/-- the callee runs, somewhere below -/
theorem run_sub {A' : Around} {pins : List (Addr × Obj)} {σ : St} {H : Hp} {s : Shared} {Q : VK} {us : List Value} {vs : List V} (sb : L2.Sub X k A') (F : FnOk X.prog X.w X.K X.mg X.base CX0 k f fd ps sp) (hb : Binds X.K fd ps []) (I : Inv X pins σ H s) (r : Vals vs us) (h : sp vs H Q E0) :
    wpAny (model X.prog X.w) A' (call (.ref f) us) (EP X pins σ Q) X.xe s := by
  have hl := F.len _ _ _ _ h
  have e0 : Env0 X.prog X.w X.K X.mg X.base A' X.stack s H := by
    have e := I.env0
    exact ⟨by rw [sb.fr]; exact e.frames, e.mod, e.bs, e.bsz, e.funs, e.frf, e.hok, e.bare⟩
  refine wpAny_call (codeAny_mono (F.run A' X.stack s H ⟨us, []⟩ us vs Q E0 sb.room e0 (by
    have := hb s us I.kIn (by rw [List.append_nil, ← r.length]; exact hl)
    rw [List.append_nil] at this
    exact this) r h) fun r s' hq => ?_)
  cases r with
  | error e => exact hq.elim
  | ok fl =>
    cases fl with
    | ret u => exact I.after hq
    | next => exact False.elim hq
    | brk => exact False.elim hq
    | cont => exact False.elim hq
theorem cmp_back {pins : List (Addr × Obj)} {σ : St} {Q : VK} {v : Value} {s' : Shared} (h : EP X pins σ Q v s') : PySem.W.CmpBack (EP X pins σ Q) v s' := by
  cases v with
  | notImplemented =>
    obtain ⟨v, H', _, r, _⟩ := h
    cases v <;> first | exact nomatch r | (obtain ⟨t, r⟩ := r; exact nomatch r)
  | _ => exact h
theorem str_back {pins : List (Addr × Obj)} {σ : St} {Q : VK} {v : Value} {s' : Shared} (h : EP X pins σ (fun v H' => ∃ z, v = .str z ∧ Q v H') v s') : PySem.W.StrBack (EP X pins σ Q) v s' := by
  obtain ⟨x, H', I, r, z, rfl, q⟩ := h
  obtain ⟨t, rfl⟩ := r
  exact ⟨.str z, H', I, ⟨t, rfl⟩, q⟩
theorem bool_back {pins : List (Addr × Obj)} {σ : St} {Q : Bool → Hp → Prop} {v : Value} {s' : Shared} (h : EP X pins σ (fun v H' => ∃ z, v = .bl z ∧ Q z H') v s') : PySem.W.BoolBack (TP X pins σ Q) v s' := by
  obtain ⟨x, H', I, r, z, rfl, q⟩ := h
  obtain rfl := (show v = Value.bool z from r)
  exact ⟨H', I, q⟩
/-- both are instances -/
def rBin (C C2 : Addr) (sp : Sp) : R2 := fun x y H Q => ∃ a b dx dy fs gs, x = .ref a ∧ y = .ref b ∧ H a = some (.ins C dx fs) ∧ H b = some (.ins C2 dy gs) ∧ sp [x, y] H Q E0
def rUno (C : Addr) (sp : Sp) : V → Hp → VK → Prop := fun x H Q => ∃ a dx fs, x = .ref a ∧ H a = some (.ins C dx fs) ∧ sp [x] H Q E0
/-- what the two classes must have: the operator's own method on the left, none that comes before it on the right -/
structure BinF (K : PySem.W.Frag) (C C2 : Addr) (op : Operator) (f : Addr) : Prop where
  self : PySem.W.selfFirst K C = true
  fnd : PySem.W.findIn K (.ref C) (PySem.dunder op.info.2) = some (some (.ref f))
  fn : PySem.W.isFn K (.ref f) = true
  right : C2 = C ∨ (PySem.W.selfFirst K C2 = true ∧ (∃ g, PySem.W.findIn K (.ref C2) (PySem.dunder op.info.2) = some (some (.ref g))) ∧ PySem.W.findIn K (.ref C) (dunderR op.info.2) = some none ∧
    PySem.W.findIn K (.ref C2) (dunderR op.info.2) = some none ∧ PySem.W.subIn K (.ref C2) (.ref C) = some false)
end
end Bd
namespace PySem.W
open PySem PySem.Calls PyProof.Rows
section
variable {prog : Program} {w : World} {A : Around} {E : Value → Shared → Prop} {s : Shared} {K : Frag} {x y C C2 L f g : Addr} {h₀ : Heap} {m : Str → Option Value} {ox oy : Obj} {od od2 : Option Obj}
theorem bd_binT {op : Operator} {Q : Value → Shared → Prop} (F : Fr h₀ L s.heap m) (X₀ : K.In h₀) (I : InstAt s.heap x ox C od) (I2 : InstAt s.heap y oy C2 od2) (hc : selfFirst K C = true) (hc2 : selfFirst K C2 = true) (hCC : C2 ≠ C)
    (hs : findIn K (.ref C) (PySem.dunder op.info.2) = some (some (.ref f))) (hf : isFn K (.ref f) = true) (hs2 : findIn K (.ref C2) (PySem.dunder op.info.2) = some (some (.ref g)))
    (hr : findIn K (.ref C) (dunderR op.info.2) = some none) (hr2 : findIn K (.ref C2) (dunderR op.info.2) = some none) (hsub : subIn K (.ref C2) (.ref C) = some false)
    (h : wpAny (model prog w) A (call (.ref f) [.ref x, .ref y]) (CmpBack Q) E s) : wpAny (model prog w) A (binaryOp op (.ref x) (.ref y)) Q E s := by
  have X := X₀.keeps F.keep
  obtain ⟨cd, rest, hcd, hm⟩ := ksp_first hc
  obtain ⟨cd2, rest2, hcd2, hm2⟩ := ksp_first hc2
  rcases hi : op.info with ⟨sym, nm'⟩
  rw [hi] at hs hr hs2 hr2
  dsimp only at hs hr hs2 hr2
  have one := ksp_try X I hs hf h
  obtain ⟨hh, g, d, tt, os⟩ := s
  have L1 : Looks (model prog w) hh (typeOf (.ref x)) (.ref C) := I.type
  have L2 : Looks (model prog w) hh (typeOf (.ref y)) (.ref C2) := I2.type
  have L3 : Looks (model prog w) hh (fillsNumberSlot (.ref C) nm') true := fills_K X hcd hm hs
  have L4 : Looks (model prog w) hh (fillsNumberSlot (.ref C2) nm') true := fills_K X hcd2 hm2 hs2
  have L5 : Looks (model prog w) hh (isSubtype (.ref C2) (.ref C)) false := looks_subIn X hsub
  have L6 : Looks (model prog w) hh (numberSlotInPython (.ref C) nm') true := ksp_inPy X hs hr (.inl rfl)
  have L7 : Looks (model prog w) hh (numberSlotInPython (.ref C2) nm') true := ksp_inPy X hs2 hr2 (.inl rfl)
  have hne : (Value.ref C == Value.ref C2) = false := Bool.eq_false_iff.mpr fun q => hCC (by cases beq_iff_eq.mp q; rfl)
  simp only [binaryOp, hi]
  refine wpAny_holding (wpAny_bind ?_)
  unfold binaryOp1
  refine wpAny_bind (L1.at (wpAny_bind (L2.at (wpAny_bind (L3.at ?_)))))
  simp only [hne, Bool.false_eq_true, if_false]
  refine wpAny_bind (L4.at ?_)
  simp only [Bool.and_self, if_true]
  refine wpAny_bind (L5.at ?_)
  simp only [Bool.false_eq_true, if_false, Bool.not_false, Bool.and_true, Bool.and_self, if_true]
  refine wpAny_bind (L6.at ?_)
  simp only [if_true]
  refine wpAny_bind (L7.at ?_)
  simp only [Bool.not_true, Bool.false_eq_true, if_false]
  refine wpAny_bind (wpAny_mono one (fun r s' hr' => ?_) fun _ _ e => e)
  obtain ⟨v, rfl, hq⟩ := hr'
  exact wpAny_pure (wpAny_pure hq)
theorem bd_ifBoundB {name : Str} {id : String} {args : List Value} {M : Model} {Q : Option Value → Shared → Prop} (X : K.In s.heap) (I : InstAt s.heap x ox C od) (hs : findIn K (.ref C) name = some (some (.builtin id)))
    (hb : ∀ self, bindSpecial (.builtin id) self = pure (.builtin id, [self])) (h : wpAny M A (call (.builtin id) (.ref x :: args)) (fun v => Q (some v)) E s) : wpAny M A (callSpecialIfBound? (.ref x) name args) Q E s := by
  simp only [callSpecialIfBound?, bindSpecialIfBound?]
  refine wpAny_holding (wpAny_bind (wpAny_bind (wpAny_bind (I.type.here ((looks_findIn X hs).here ?_)))))
  refine wpAny_bind (wpAny_askSetting (wpAny_ite ?_))
  have fin : wpAny M A (call (.builtin id) ([.ref x] ++ args) >>= fun v => pure (some v)) Q E s := wpAny_bind (wpAny_mono h (fun v s' h' => wpAny_pure h') fun _ _ h' => h')
  split
  · exact wpAny_bind ((Looks.of_pure (hb _)).here (wpAny_pure (by exact fin)))
  · exact wpAny_tryCatch (wpAny_bind ((Looks.of_pure (hb _)).here (wpAny_pure (by exact fin))))
/-- object.__ne__ by an own __eq__ -/
theorem bd_one {Q : Value → Shared → Prop} (hu : A.in1.units < cLine) (X : K.In s.heap) (I : InstAt s.heap x ox C od) (hm : mroIn K C (.type "object") = some true) (hr : findIn K (.ref C) "__eq__" = some (some (.ref f))) (hf : isFn K (.ref f) = true)
    (h : wpAny (model prog w) A.in1 (call (.ref f) [.ref x, .ref y]) (fun v s' => ∃ b, v = .bool b ∧ Q (.bool (!b)) s') E s) : wpAny (model prog w) A (call (.builtin "object.__ne__") [.ref x, .ref y]) Q E s := by
  refine wpAny_call (codeAny_call_builtin PySem.F.slot_object_ne.plain PySem.F.cmpEntry_ne (check_slot (i := "object.__ne__") (owner := "object") (n := "__ne__") (by decide +kernel) (by decide +kernel) (I.type.andThen (looks_mroIn X hm)) (PySem.F.cmpArgs_ne _ _) ?_))
  unfold Builtin.«object.__ne__»
  repeat (first
    | with_reducible refine wpAny_cRoomFor hu ?_
    | (refine wpAny_bind (m := callSpecialIfBound? (.ref x) (Str.ofString "__eq__") [.ref y])
        (ifBound_K X I hr hf (wpAny_mono h (fun r s' hr => by
          obtain ⟨b, rfl, hq⟩ := hr
          repeat (first | exact hq | exact wpAny_pure hq | exact wpAny_truthy_bool hq | (refine wpAny_bind (m := truthy (.bool _)) (wpAny_truthy_bool ?_)) | wp_step)) fun _ _ e => e)))
    | wp_step)
theorem bd_ne {Q : Value → Shared → Prop} (hu : A.units + 1 < cLine) (X : K.In s.heap) (I : InstAt s.heap x ox C od) (I2 : InstAt s.heap y oy C2 od2) (hn : notFirst K C (.ref C2) = true) (hm : mroIn K C (.type "object") = some true)
    (hne : findIn K (.ref C) "__ne__" = some (some (.builtin "object.__ne__"))) (hr : findIn K (.ref C) "__eq__" = some (some (.ref f))) (hf : isFn K (.ref f) = true)
    (h : wpAny (model prog w) A.in1 (call (.ref f) [.ref x, .ref y]) (fun v s' => ∃ b, v = .bool b ∧ Q (.bool (!b)) s') E s) : wpAny (model prog w) A (richCompare .NotEq (.ref x) (.ref y)) Q E s := by
  have one : wpAny (model prog w) A (tryCompare (.ref x) (cmpInfo .NotEq).2.1 (.ref y)) (fun r s' => ∃ v, r = some v ∧ Q v s') E s := by
    unfold tryCompare
    refine wpAny_bind (bd_ifBoundB X I hne PySem.F.slot_object_ne.bind (bd_one hu X I hm hr hf (wpAny_mono h (fun v s' hv => ?_) fun _ _ e => e)))
    obtain ⟨b, rfl, hq⟩ := hv
    exact ⟨b, rfl, wpAny_pure ⟨_, rfl, hq⟩⟩
  unfold richCompare
  simp only [oneThing_ref]
  refine wpAny_holding (wpAny_bind (wpAny_cRoomFor (Nat.lt_of_succ_lt hu) ?_))
  refine wpAny_bind (I.type.here (wpAny_bind (I2.type.here ?_)))
  split
  · rename_i q
    have e : subIn K (.ref C2) (.ref C) = some false := by
      rcases Bool.or_eq_true_iff.mp hn with e | e
      · rw [beq_iff_eq.mp e] at q; simp at q
      · exact beq_iff_eq.mp e
    refine wpAny_bind ((looks_subIn X e).here ?_)
    simp only [Bool.false_eq_true, if_false]
    refine wpAny_bind (wpAny_mono one (fun r s' z => ?_) fun _ _ e => e)
    obtain ⟨v, rfl, hq⟩ := z
    exact wpAny_pure hq
  · refine wpAny_bind (wpAny_pure ?_)
    simp only [Bool.false_eq_true, if_false]
    refine wpAny_bind (wpAny_mono one (fun r s' z => ?_) fun _ _ e => e)
    obtain ⟨v, rfl, hq⟩ := z
    exact wpAny_pure hq
end
end PySem.W
namespace Bd
open PySem L2
section
variable {X : Cx} {k : Nat} {f C C2 : Addr} {fd : FuncData} {ps : List Str} {sp : Sp}
theorem op_bin {op : Operator} (B : BinF X.K C C2 op f) (F : FnOk X.prog X.w X.K X.mg X.base CX0 k f fd ps sp) (hb : Binds X.K fd ps []) (hr : Room k X.A) : OpR X (binaryOp op) (rBin C C2 sp) := by
  intro pins s σ H x y v u Q I rx ry ⟨a, b, dx, dy, fs, gs, e1, e2, ha, hb', hq⟩
  subst e1 e2
  cases rx
  cases ry
  obtain ⟨mA, J, _⟩ := ins_get I.hok ha
  obtain ⟨mB, J', _⟩ := ins_get I.hok hb'
  obtain ⟨od, J, _⟩ := J.look
  obtain ⟨od', J', _⟩ := J'.look
  obtain ⟨m, hF⟩ := I.fr
  have go := run_sub (sub0 hr) F hb I (.cons (show RelV (.ref a) (.ref a) from rfl) (.cons (show RelV (.ref b) (.ref b) from rfl) .nil)) hq
  rcases B.right with z | ⟨z1, ⟨g, z2⟩, z3, z4, z5⟩
  · subst z
    exact PySem.W.binop_K hF I.ok.mod.kin J J'.type B.self B.fnd B.fn (wpAny_mono go (fun v s' q => cmp_back q) fun _ _ q => q)
  · by_cases hCC : C2 = C
    · subst hCC
      exact PySem.W.binop_K hF I.ok.mod.kin J J'.type B.self B.fnd B.fn (wpAny_mono go (fun v s' q => cmp_back q) fun _ _ q => q)
    · exact PySem.W.bd_binT hF I.ok.mod.kin J J' B.self z1 hCC B.fnd B.fn z2 z3 z4 z5 (wpAny_mono go (fun v s' q => cmp_back q) fun _ _ q => q)
/-- what == by an own __eq__ asks -/
structure EqF (K : PySem.W.Frag) (C C2 f : Addr) : Prop where
  fnd : PySem.W.findIn K (.ref C) "__eq__" = some (some (.ref f))
  fn : PySem.W.isFn K (.ref f) = true
  right : PySem.W.notFirst K C (.ref C2) = true
theorem op_eqO (B : EqF X.K C C2 f) (F : FnOk X.prog X.w X.K X.mg X.base CX0 k f fd ps sp) (hb : Binds X.K fd ps []) (hr : Room k X.A) : OpR X (compareOp .Eq) (rBin C C2 sp) := by
  intro pins s σ H x y v u Q I rx ry ⟨a, b, dx, dy, fs, gs, e1, e2, ha, hb', hq⟩
  subst e1 e2
  cases rx
  cases ry
  obtain ⟨mA, J, _⟩ := ins_get I.hok ha
  obtain ⟨mB, J', _⟩ := ins_get I.hok hb'
  obtain ⟨od, J, _⟩ := J.look
  obtain ⟨od', J', _⟩ := J'.look
  obtain ⟨m, hF⟩ := I.fr
  have go := run_sub (sub0 hr) F hb I (.cons (show RelV (.ref a) (.ref a) from rfl) (.cons (show RelV (.ref b) (.ref b) from rfl) .nil)) hq
  show wpAny (model X.prog X.w) X.A (richCompare .Eq (.ref a) (.ref b)) _ _ _
  exact PySem.W.cmp_K (op := .Eq) (tb := .ref C2) hr.units0 hF I.ok.mod.kin J J'.type B.right B.fnd B.fn (wpAny_mono go (fun v s' q => cmp_back q) fun _ _ q => q)
end
end Bd
/-! BeD: the same over data. -/
namespace Bd
open PySem L2
section
variable {X : Cx} {k : Nat} {f C C2 : Addr} {fd : FuncData} {ps : List Str} {sp : Sp}
def rNe (C C2 : Addr) (sp : Sp) : R2 := fun x y H Q => rBin C C2 sp x y H fun v H' => ∃ b, v = .bl b ∧ Q (.bl (!b)) H'
structure NeF (K : PySem.W.Frag) (C : Addr) : Prop where
  ne : PySem.W.findIn K (.ref C) "__ne__" = some (some (.builtin "object.__ne__"))
  ob : PySem.W.mroIn K C (.type "object") = some true
theorem op_neO (B : EqF X.K C C2 f) (B2 : NeF X.K C) (F : FnOk X.prog X.w X.K X.mg X.base CX0 k f fd ps sp) (hb : Binds X.K fd ps []) (hr : Room (k + 1) X.A) : OpR X (compareOp .NotEq) (rNe C C2 sp) := by
  intro pins s σ H x y v u Q I rx ry ⟨a, b, dx, dy, fs, gs, e1, e2, ha, hb', hq⟩
  subst e1 e2
  cases rx
  cases ry
  obtain ⟨mA, J, _⟩ := ins_get I.hok ha
  obtain ⟨mB, J', _⟩ := ins_get I.hok hb'
  obtain ⟨od, J, _⟩ := J.look
  obtain ⟨od', J', _⟩ := J'.look
  have go := run_sub (sub0 hr).in1 F hb I (.cons (show RelV (.ref a) (.ref a) from rfl) (.cons (show RelV (.ref b) (.ref b) from rfl) .nil)) hq
  show wpAny (model X.prog X.w) X.A (richCompare .NotEq (.ref a) (.ref b)) _ _ _
  refine PySem.W.bd_ne (by have := hr.un; show X.A.units + 1 < _; omega) I.kIn J J' B.right B2.ob B2.ne B.fnd B.fn (wpAny_mono go (fun v s' q => ?_) fun _ _ q => q)
  obtain ⟨x, H', I', r, z, rfl, q⟩ := q
  exact ⟨z, r, .bl (!z), H', I', rfl, q⟩
/-- a text of an instance -/
def rTxt (C : Addr) (sp : Sp) : V → Hp → VK → Prop := fun x H Q => rUno C sp x H fun v H' => ∃ z, v = .str z ∧ Q v H'
theorem call_reprO (hf : PySem.W.findIn X.K (.ref C) "__repr__" = some (some (.ref f))) (hn : PySem.W.isFn X.K (.ref f) = true) (F : FnOk X.prog X.w X.K X.mg X.base CX0 k f fd ps sp) (hb : Binds X.K fd ps []) (hr : Room (k + 1) X.A) :
    CallR X (.builtin "repr") (fun xs H Q => ∃ x, xs = [x] ∧ rTxt C sp x H Q) := by
  intro pins s σ H xs us Q I r ⟨x, e, a, dx, fs, e1, ha, hq⟩
  subst e e1
  cases r with
  | cons r1 r2 =>
    cases r2
    cases r1
    obtain ⟨mA, J, _⟩ := ins_get I.hok ha
    obtain ⟨od, J, _⟩ := J.look
    obtain ⟨m, hF⟩ := I.fr
    have go := run_sub (sub0 hr).in1 F hb I (.cons (show RelV (.ref a) (.ref a) from rfl) .nil) hq
    exact PySem.W.repr_K hr.in1.units0 hF I.ok.mod.kin J hf hn (wpAny_mono go (fun v s' q => str_back q) fun _ _ q => q)
theorem call_strO (hf : PySem.W.findIn X.K (.ref C) "__str__" = some (some (.ref f))) (hn : PySem.W.isFn X.K (.ref f) = true) (F : FnOk X.prog X.w X.K X.mg X.base CX0 k f fd ps sp) (hb : Binds X.K fd ps []) (hr : Room (k + 2) X.A) :
    CallR X (.type "str") (fun xs H Q => ∃ x, xs = [x] ∧ rTxt C sp x H Q) := by
  intro pins s σ H xs us Q I r ⟨x, e, a, dx, fs, e1, ha, hq⟩
  subst e e1
  cases r with
  | cons r1 r2 =>
    cases r2
    cases r1
    obtain ⟨mA, J, _⟩ := ins_get I.hok ha
    obtain ⟨od, J, _⟩ := J.look
    have go := run_sub ((sub0 hr).in1.in1) F hb I (.cons (show RelV (.ref a) (.ref a) from rfl) .nil) hq
    exact PySem.W.kso_call hr.in1.in1.units0 I.kIn J hf hn (wpAny_mono go (fun v s' q => str_back q) fun _ _ q => q)
def tFmtO (C : Addr) (sp : Sp) (te : TE) : TE := fun σ H Q => te σ H fun x H1 => rTxt C sp x H1 Q
theorem pe_fmtO {e : Expr} {te : TE} {pos : Pos} (hf : PySem.W.findIn X.K (.ref C) "__str__" = some (some (.ref f))) (hn : PySem.W.isFn X.K (.ref f) = true) (hg : PySem.W.findIn X.K (.ref C) "__format__" = some (some (.builtin "object.__format__"))) (hm : PySem.W.mroIn X.K C (.type "object") = some true)
    (F : FnOk X.prog X.w X.K X.mg X.base CX0 k f fd ps sp) (hb : Binds X.K fd ps []) (hr : Room (k + 1) X.A) (he : PE X e te) : PE X (.FormattedValue e (-1) none pos) (tFmtO C sp te) := by
  refine ⟨fun pins s σ H Q I h => ?_⟩
  refine wpAny_FormattedValue_plain (thn (he.run pins s σ H _ I h) fun v s1 hv => ?_)
  obtain ⟨x, H1, I1, r1, a, dx, fs, e1, ha, hq⟩ := hv
  subst e1
  cases r1
  obtain ⟨mA, J, _⟩ := ins_get I1.hok ha
  obtain ⟨od, J, _⟩ := J.look
  have go := run_sub (sub0 hr).in1 F hb (I1.tok (s1.toks + 1)) (.cons (show RelV (.ref a) (.ref a) from rfl) .nil) hq
  exact PySem.W.kfo_fieldS hr.in1.units0 I1.kIn J hg hm hf hn (wpAny_mono go (fun v s' q => str_back q) fun _ _ q => q)
theorem un_neg (hf : PySem.W.findIn X.K (.ref C) "__neg__" = some (some (.ref f))) (hn : PySem.W.isFn X.K (.ref f) = true) (F : FnOk X.prog X.w X.K X.mg X.base CX0 k f fd ps sp) (hb : Binds X.K fd ps []) (hr : Room k X.A) : UnR X (unaryOp .USub) (rUno C sp) := by
  intro pins s σ H x v Q I r ⟨a, dx, fs, e1, ha, hq⟩
  subst e1
  cases r
  obtain ⟨mA, J, _⟩ := ins_get I.hok ha
  obtain ⟨od, J, _⟩ := J.look
  obtain ⟨m, hF⟩ := I.fr
  exact PySem.W.ksp_neg hF I.ok.mod.kin J hf hn (run_sub (sub0 hr) F hb I (.cons (show RelV (.ref a) (.ref a) from rfl) .nil) hq)
theorem tru_own (hf : PySem.W.findIn X.K (.ref C) "__bool__" = some (some (.ref f))) (hn : PySem.W.isFn X.K (.ref f) = true) (F : FnOk X.prog X.w X.K X.mg X.base CX0 k f fd ps sp) (hb : Binds X.K fd ps []) (hr : Room k X.A) :
    TruR X (fun x H Q => rUno C sp x H fun v H' => ∃ b, v = .bl b ∧ Q b H') := by
  intro pins s σ H x v Q I r ⟨a, dx, fs, e1, ha, hq⟩
  subst e1
  cases r
  obtain ⟨mA, J, _⟩ := ins_get I.hok ha
  obtain ⟨od, J, _⟩ := J.look
  obtain ⟨m, hF⟩ := I.fr
  exact PySem.W.truthy_K hF I.ok.mod.kin J hf hn (wpAny_mono (run_sub (sub0 hr) F hb I (.cons (show RelV (.ref a) (.ref a) from rfl) .nil) hq) (fun v s' q => bool_back q) fun _ _ q => q)
end
/-! ### over data -/
@[simp] def gBin (cn cn2 : Str) (A : List D → (D → Prop) → Prop) (x y : D) (P : D → Prop) : Prop := match x, y with
  | .obj c ns ds, .obj c2 ns2 ds2 => (c = cn ∧ c2 = cn2) ∧ A [.obj c ns ds, .obj c2 ns2 ds2] P
  | _, _ => False
@[simp] def gNe (cn cn2 : Str) (A : List D → (D → Prop) → Prop) (x y : D) (P : D → Prop) : Prop := gBin cn cn2 A x y fun d => match d with
  | .bl b => P (.bl (!b))
  | _ => False
@[simp] def gUno (cn : Str) (A : List D → (D → Prop) → Prop) (x : D) (P : D → Prop) : Prop := match x with
  | .obj c ns ds => c = cn ∧ A [.obj c ns ds] P
  | _ => False
@[simp] def gTxt (cn : Str) (A : List D → (D → Prop) → Prop) (x : D) (P : D → Prop) : Prop := gUno cn A x fun d => match d with
  | .str z => P (.str z)
  | _ => False
@[simp] def wTxt (cn : Str) (A : List D → (D → Prop) → Prop) (xs : List D) (P : D → Prop) : Prop := match xs with
  | [x] => gTxt cn A x P
  | _ => False
section
variable {K : PySem.W.Frag} {A : List D → (D → Prop) → Prop} {cn cn2 : Str}
theorem s_bin : SndR2 K Any (rBin (He.ga K cn) (He.ga K cn2) (spOf K Any A)) (gBin cn cn2 A) := by
  intro w H x y dx dy P Q _ hI r1 r2 hf hq
  unfold gBin at hf
  split at hf
  · obtain ⟨⟨rfl, rfl⟩, p⟩ := hf
    obtain ⟨a, dxa, xs, rfl, h1, _, _⟩ := obj_inj r1
    obtain ⟨b, dxb, ys, rfl, h2, _, _⟩ := obj_inj r2
    exact ⟨a, b, _, _, _, _, rfl, rfl, h1, h2, w, _, P, trivial, hI, .cons r1 (.cons r2 .nil), p, fun v H' d s r p => hq v H' d s r p⟩
  · exact hf.elim
theorem s_uno : SndR1 K Any (rUno (He.ga K cn) (spOf K Any A)) (gUno cn A) := by
  intro w H x dx P Q _ hI r1 hf hq
  unfold gUno at hf
  split at hf
  · obtain ⟨rfl, p⟩ := hf
    obtain ⟨a, dxa, xs, rfl, h1, _, _⟩ := obj_inj r1
    exact ⟨a, _, _, rfl, h1, w, _, P, trivial, hI, .cons r1 .nil, p, fun v H' d s r p => hq v H' d s r p⟩
  · exact hf.elim
theorem s_neO : SndR2 K Any (rNe (He.ga K cn) (He.ga K cn2) (spOf K Any A)) (gNe cn cn2 A) := by
  intro w H x y dx dy P Q hw hI r1 r2 hf hq
  refine s_bin w H x y dx dy _ _ hw hI r1 r2 hf fun v H' d s r p => ?_
  split at p
  · exact ⟨_, r_bl r, hq _ H' _ s (.bl _) p⟩
  · exact p.elim
theorem s_txt : SndR1 K Any (rTxt (He.ga K cn) (spOf K Any A)) (gTxt cn A) := by
  intro w H x dx P Q hw hI r1 hf hq
  refine s_uno w H x dx _ _ hw hI r1 hf fun v H' d s r p => ?_
  split at p
  · exact ⟨_, r_str r, hq _ H' _ s r p⟩
  · exact p.elim
theorem s_wtxt : SndRs K Any (fun xs H Q => ∃ x, xs = [x] ∧ rTxt (He.ga K cn) (spOf K Any A) x H Q) (wTxt cn A) := by
  intro w H xs ds P Q hw hI r hf hq
  unfold wTxt at hf
  split at hf
  · cases r with
    | cons r1 r2 =>
      cases r2
      exact ⟨_, rfl, s_txt w H _ _ P Q hw hI r1 hf hq⟩
  · exact hf.elim
end
end Bd
/-! BeE: facts about own classes by Bool checks; the rules for them. -/
namespace Bd
open PySem L2
/-! ### facts -/
def binB (K : PySem.W.Frag) (cn cn2 : Str) (op : Operator) (m : Str) : Bool :=
  decide (PySem.dunder op.info.2 = m) && (PySem.W.selfFirst K (He.ga K cn) && (decide (He.ga K cn2 = He.ga K cn) || (PySem.W.selfFirst K (He.ga K cn2) && (He.eqO (PySem.W.findIn K (.ref (He.ga K cn2)) m) (some (some (.ref (ma' K cn2 m)))) &&
    (He.eqO (PySem.W.findIn K (.ref (He.ga K cn)) (dunderR op.info.2)) (some none) && (He.eqO (PySem.W.findIn K (.ref (He.ga K cn2)) (dunderR op.info.2)) (some none) && decide (PySem.W.subIn K (.ref (He.ga K cn2)) (.ref (He.ga K cn)) = some false)))))))
theorem binB_ok {K : PySem.W.Frag} {cn cn2 m : Str} {op : Operator} (h : binB K cn cn2 op m = true) (M : Meth K (He.ga K cn) m (ma' K cn m)) : BinF K (He.ga K cn) (He.ga K cn2) op (ma' K cn m) := by
  obtain ⟨h1, h⟩ := He.ba h
  obtain ⟨h2, h⟩ := He.ba h
  have e := of_decide_eq_true h1
  refine ⟨h2, by rw [e]; exact M.at_, M.fn, ?_⟩
  rcases Bool.or_eq_true_iff.mp h with h | h
  · exact .inl (of_decide_eq_true h)
  · obtain ⟨h3, h⟩ := He.ba h
    obtain ⟨h4, h⟩ := He.ba h
    obtain ⟨h5, h⟩ := He.ba h
    obtain ⟨h6, h7⟩ := He.ba h
    exact .inr ⟨h3, ⟨_, by rw [e]; exact He.eqO_ok h4⟩, He.eqO_ok h5, He.eqO_ok h6, of_decide_eq_true h7⟩
def notFirstB (K : PySem.W.Frag) (cn cn2 : Str) : Bool := PySem.W.notFirst K (He.ga K cn) (.ref (He.ga K cn2))
theorem eqF_ok {K : PySem.W.Frag} {cn cn2 : Str} (h : notFirstB K cn cn2 = true) (M : Meth K (He.ga K cn) "__eq__" (ma' K cn "__eq__")) : EqF K (He.ga K cn) (He.ga K cn2) (ma' K cn "__eq__") := ⟨M.at_, M.fn, h⟩
def neB (K : PySem.W.Frag) (cn : Str) : Bool := He.eqO (PySem.W.findIn K (.ref (He.ga K cn)) "__ne__") (some (some (.builtin "object.__ne__"))) && decide (PySem.W.mroIn K (He.ga K cn) (.type "object") = some true)
theorem neB_ok {K : PySem.W.Frag} {cn : Str} (h : neB K cn = true) : NeF K (He.ga K cn) := by
  obtain ⟨h1, h2⟩ := He.ba h
  exact ⟨He.eqO_ok h1, of_decide_eq_true h2⟩
structure FmtF (K : PySem.W.Frag) (cn : Str) : Prop where
  fm : PySem.W.findIn K (.ref (He.ga K cn)) "__format__" = some (some (.builtin "object.__format__"))
  ob : PySem.W.mroIn K (He.ga K cn) (.type "object") = some true
def fmtB (K : PySem.W.Frag) (cn : Str) : Bool := He.eqO (PySem.W.findIn K (.ref (He.ga K cn)) "__format__") (some (some (.builtin "object.__format__"))) && decide (PySem.W.mroIn K (He.ga K cn) (.type "object") = some true)
theorem fmtB_ok {K : PySem.W.Frag} {cn : Str} (h : fmtB K cn = true) : FmtF K cn := by
  obtain ⟨h1, h2⟩ := He.ba h
  exact ⟨He.eqO_ok h1, of_decide_eq_true h2⟩
/-! ### isinstance -/
abbrev tys : List String := ["NoneType", "bool", "int", "str", "list", "tuple"]
abbrev okTys : List String := ["bool", "int", "str", "list", "tuple", "dict"]
structure ClsF (K : PySem.W.Frag) (cs : List Str) : Prop where
  hn : PySem.W.specialIn K (.builtin "object.__class__") "__get__" = some (some (.builtin "getset_descriptor.__get__"))
  htk : PySem.W.takesIn K (.builtin "object.__class__") = some true
  cl : ∀ c, c ∈ cs → Cls K (He.ga K c)
  ha : ∀ c, c ∈ cs → PySem.W.findIn K (.ref (He.ga K c)) "__class__" = some (some (.builtin "object.__class__"))
  hm : ∀ c, c ∈ cs → PySem.W.mroIn K (He.ga K c) (.type "object") = some true
  oo : ∀ c, c ∈ cs → ∀ d, d ∈ cs → PySem.W.kitOne K (.ref (He.ga K c)) (.ref (He.ga K d)) = some (decide (c = d))
  ot : ∀ c, c ∈ cs → ∀ n, n ∈ okTys → PySem.W.kitOne K (.ref (He.ga K c)) (.type n) = some false
  to : ∀ n, n ∈ tys → ∀ c, c ∈ cs → PySem.W.kitOne K (.type n) (.ref (He.ga K c)) = some false
def clsB (K : PySem.W.Frag) (cs : List Str) : Bool :=
  He.eqO (PySem.W.specialIn K (.builtin "object.__class__") "__get__") (some (some (.builtin "getset_descriptor.__get__"))) && (decide (PySem.W.takesIn K (.builtin "object.__class__") = some true) && (cs.all (fun c => (He.Fa.cls c).ok K) &&
  (cs.all (fun c => He.eqO (PySem.W.findIn K (.ref (He.ga K c)) "__class__") (some (some (.builtin "object.__class__")))) && (cs.all (fun c => decide (PySem.W.mroIn K (He.ga K c) (.type "object") = some true)) &&
  (cs.all (fun c => cs.all fun d => decide (PySem.W.kitOne K (.ref (He.ga K c)) (.ref (He.ga K d)) = some (decide (c = d)))) && (cs.all (fun c => okTys.all fun n => decide (PySem.W.kitOne K (.ref (He.ga K c)) (.type n) = some false)) &&
  tys.all (fun n => cs.all fun c => decide (PySem.W.kitOne K (.type n) (.ref (He.ga K c)) = some false))))))))
theorem clsB_ok {K : PySem.W.Frag} {cs : List Str} (h : clsB K cs = true) : ClsF K cs := by
  obtain ⟨h1, h⟩ := He.ba h
  obtain ⟨h2, h⟩ := He.ba h
  obtain ⟨h3, h⟩ := He.ba h
  obtain ⟨h4, h⟩ := He.ba h
  obtain ⟨h5, h⟩ := He.ba h
  obtain ⟨h6, h⟩ := He.ba h
  obtain ⟨h7, h8⟩ := He.ba h
  exact ⟨He.eqO_ok h1, of_decide_eq_true h2, fun c m => He.cls_ok (List.all_eq_true.mp h3 c m), fun c m => He.eqO_ok (List.all_eq_true.mp h4 c m), fun c m => of_decide_eq_true (List.all_eq_true.mp h5 c m),
    fun c m d n => of_decide_eq_true (List.all_eq_true.mp (List.all_eq_true.mp h6 c m) d n), fun c m d n => of_decide_eq_true (List.all_eq_true.mp (List.all_eq_true.mp h7 c m) d n), fun c m d n => of_decide_eq_true (List.all_eq_true.mp (List.all_eq_true.mp h8 c m) d n)⟩
@[simp] def wIsiO (cs : List Str) (xs : List D) (P : D → Prop) : Prop := match xs with
  | [.obj c _ _, .cls d] => (c ∈ cs ∧ d ∈ cs) ∧ P (.bl (decide (c = d)))
  | [.obj c _ _, .ty n] => (c ∈ cs ∧ okTy n = true) ∧ P (.bl false)
  | [x, .cls d] => ((tyN x).isSome = true ∧ d ∈ cs) ∧ P (.bl false)
  | [x, .ty n] => (okTy n && (tyN x).isSome) = true ∧ P (.bl (isD n x))
  | _ => False
theorem okTy_mem {n : String} (h : okTy n = true) : n ∈ okTys := by
  have : n = "bool" ∨ n = "int" ∨ n = "str" ∨ n = "list" ∨ n = "tuple" ∨ n = "dict" := by simpa [okTy, or_assoc] using h
  rcases this with e | e | e | e | e | e <;> rw [e] <;> simp
theorem tyN_mem {x : D} {n : String} (h : tyN x = some n) : n ∈ tys := by
  cases x <;> first | (cases h; simp) | cases h
theorem s_isiO {K : PySem.W.Frag} {cs : List Str} {C : WC} (F : ClsF K cs) : SndRs K C (rIsi K) (wIsiO cs) := by
  intro w H xs ds P Q hw hI r hf hq
  unfold wIsiO at hf
  split at hf
  · rename_i c ns es d
    obtain ⟨⟨m1, m2⟩, p⟩ := hf
    cases r with
    | cons r1 r2 =>
      cases r2 with
      | cons r2 r3 =>
        cases r3
        cases r2
        obtain ⟨a, dx, ys, rfl, h1, _, _⟩ := obj_inj r1
        exact ⟨_, _, _, _, _, rfl, .own _, .base (TyOf.ins h1 (F.cl _ m1) (F.ha _ m1) F.hn F.htk (F.hm _ m1)), F.oo _ m1 _ m2, hq _ H _ (Step.refl hI) (.bl _) p⟩
  · rename_i c ns es n
    obtain ⟨⟨m1, m2⟩, p⟩ := hf
    cases r with
    | cons r1 r2 =>
      cases r2 with
      | cons r2 r3 =>
        cases r3
        cases r2
        obtain ⟨a, dx, ys, rfl, h1, _, _⟩ := obj_inj r1
        exact ⟨_, _, _, _, _, rfl, .ty _, .base (TyOf.ins h1 (F.cl _ m1) (F.ha _ m1) F.hn F.htk (F.hm _ m1)), F.ot _ m1 _ (okTy_mem m2), hq _ H _ (Step.refl hI) (.bl _) p⟩
  · rename_i x d _
    obtain ⟨⟨m1, m2⟩, p⟩ := hf
    obtain ⟨n, e⟩ := Option.isSome_iff_exists.mp m1
    cases r with
    | cons r1 r2 =>
      cases r2 with
      | cons r2 r3 =>
        cases r3
        cases r2
        exact ⟨_, _, _, _, _, rfl, .own _, ty_rw r1 e, F.to _ (tyN_mem e) _ m2, hq _ H _ (Step.refl hI) (.bl _) p⟩
  · rename_i x n _
    exact s_isi (C := C) w H xs _ P Q hw hI r hf hq
  · exact hf.elim
/-! ### properties -/
def scopeB (sc : Scope) : Bool := decide (sc.kind = .function) && (!sc.isCoroutine && (!sc.isGenerator && (decide (sc.names.lookup ("self" : Str) = some NameKind.local) && sc.names.all fun y => decide (y.2 ≠ NameKind.free))))
theorem scopeB_ok {sc : Scope} (h : scopeB sc = true) : FnScope ["self"] ["self"] sc := by
  obtain ⟨h1, h⟩ := He.ba h
  obtain ⟨h2, h⟩ := He.ba h
  obtain ⟨h3, h⟩ := He.ba h
  obtain ⟨h4, h5⟩ := He.ba h
  refine ⟨of_decide_eq_true h1, by simpa using h2, by simpa using h3, by decide, rfl, fun x hx => ?_, fun y hy => of_decide_eq_true (List.all_eq_true.mp h5 y hy)⟩
  rw [List.mem_singleton.mp hx]
  exact .inl (of_decide_eq_true h4)
def parB (p : Arguments) : Bool := match p with
  | ⟨[], [⟨a, _, _⟩], none, [], [], none, []⟩ => decide (a = "self")
  | _ => false
def bodB (own : Str) (b : FuncBody) : Bool := match b with
  | .stmts [.Return (some (.Attribute (.Name x _) f _)) _] => decide (x = "self") && decide (f = own)
  | _ => false
def noneB (v : Value) : Bool := match v with
  | .none => true
  | _ => false
def gfnB (K : PySem.W.Frag) (g : Addr) (own : Str) : Bool := match K.lookup g with
  | some ⟨_, _, .func fd, _⟩ => parB fd.params && (bodB own fd.body && (scopeB fd.scope && (decide (fd.globals = mainGlobals) && (fd.closure.isEmpty && (decide (fd.builtins = builtinsNs) && (noneB fd.defaults && PySem.W.codeIn K fd.code fd.qualname))))))
  | _ => false
/-- the name is a property of the class whose getter hands the attribute own out -/
structure GetF (K : PySem.W.Frag) (cn f own : Str) : Prop where
  ex : ∃ p g fd, PropOf K (He.ga K cn) f p g ∧ (∀ (P : Program) (w : World) (mg : Str → Option Value) (base : Heap), FnOk P w K mg base CX0 1 g fd ["self"] (getSp (He.ga K cn) own)) ∧ Binds K fd ["self"] []
def getB (K : PySem.W.Frag) (cn f own : Str) : Bool := match PySem.W.findIn K (.ref (He.ga K cn)) f with
  | some (some (.ref p)) => He.eqO (PySem.W.specialIn K (.ref p) "__get__") (some (some (.builtin "property.__get__"))) && (decide (PySem.W.takesIn K (.ref p) = some true) && (match PySem.W.recIn K p "property" with
    | some (.ref g :: _) => gfnB K g own
    | _ => false))
  | _ => false
theorem gfnB_ok {K : PySem.W.Frag} {g : Addr} {own cn : Str} (h : gfnB K g own = true) (c : Cls K (He.ga K cn)) (n : NoAttr K (He.ga K cn) own) :
    ∃ fd, (∀ (P : Program) (w : World) (mg : Str → Option Value) (base : Heap), FnOk P w K mg base CX0 1 g fd ["self"] (getSp (He.ga K cn) own)) ∧ Binds K fd ["self"] [] := by
  unfold gfnB at h
  split at h
  · rename_i oc od fd osl lk
    obtain ⟨h1, h⟩ := He.ba h
    obtain ⟨h2, h⟩ := He.ba h
    obtain ⟨h3, h⟩ := He.ba h
    obtain ⟨h4, h⟩ := He.ba h
    obtain ⟨h5, h⟩ := He.ba h
    obtain ⟨h6, h⟩ := He.ba h
    obtain ⟨h7, h8⟩ := He.ba h
    obtain ⟨n1, n2, n3, n4, n5, n6, n7, n8, n9, n10, n11, n12, n13, n14, n15⟩ := fd
    have e6 : n6 = mainGlobals := of_decide_eq_true h4
    have e7 : n7 = [] := List.isEmpty_iff.mp h5
    have e15 : n15 = builtinsNs := of_decide_eq_true h6
    have e8 : n8 = .none := by
      cases n8 <;> first | rfl | cases h7
    subst e6 e7 e15 e8
    unfold bodB at h2
    dsimp only at h2
    split at h2
    · rename_i x p1 f p2 p3
      obtain ⟨q1, q2⟩ := He.ba h2
      have e1 := of_decide_eq_true q1
      have e2 := of_decide_eq_true q2
      subst e1 e2
      refine ⟨_, fun P w mg base => L2.fn_getter (k := 0) (P := P) (w := w) (mg := mg) (base := base) lk h8 (scopeB_ok h3) rfl rfl c n, fun s us _ hl => ?_⟩
      unfold parB at h1
      dsimp only at h1
      split at h1
      · have e3 := of_decide_eq_true h1
        subst e3
        match us, hl with
        | [u], _ => exact .of_eq rfl
      · cases h1
    · cases h2
  · cases h
theorem getB_ok {K : PySem.W.Frag} {cn f own : Str} (h : getB K cn f own = true) (c : Cls K (He.ga K cn)) (n : NoAttr K (He.ga K cn) own) : GetF K cn f own := by
  unfold getB at h
  split at h
  · rename_i p e
    obtain ⟨h1, h⟩ := He.ba h
    obtain ⟨h2, h⟩ := He.ba h
    split at h
    · rename_i g rest er
      obtain ⟨fd, F, b⟩ := gfnB_ok h c n
      exact ⟨p, g, fd, ⟨e, He.eqO_ok h1, of_decide_eq_true h2, rest, er⟩, F, b⟩
    · cases h
  · cases h
end Bd
/-! BeF: the rules for own classes, ready for printed derivations. -/
namespace Bd
open PySem L2
section
variable {X : Cx} {Fm : Fr} {e a b : Expr} {pos : Pos} {te ta tb : TE} {ae aa ab : ATE} {cn cn2 m f own : Str} {k j : Nat} {ps : List Str} {A : List D → (D → Prop) → Prop} {Kf : PySem.W.Frag}
theorem jo_bin {op : Operator} (hK : X.K = Kf) (F : FncM X.prog X.w Kf X.mg X.base cn m k ps Any A) (B : binB Kf cn cn2 op m = true) (hr : Room j X.A) (hk : k ≤ j) : JO X (binaryOp op) (rBin (He.ga Kf cn) (He.ga Kf cn2) (spOf Kf Any A)) (gBin cn cn2 A) := by
  subst hK
  obtain ⟨fd, F1, b⟩ := F.ex
  exact ⟨op_bin (binB_ok B F.mt) F1 b (hr.mono hk), s_bin⟩
theorem jo_eqO (hK : X.K = Kf) (F : FncM X.prog X.w Kf X.mg X.base cn "__eq__" k ps Any A) (B : notFirstB Kf cn cn2 = true) (hr : Room j X.A) (hk : k ≤ j) : JO X (compareOp .Eq) (rBin (He.ga Kf cn) (He.ga Kf cn2) (spOf Kf Any A)) (gBin cn cn2 A) := by
  subst hK
  obtain ⟨fd, F1, b⟩ := F.ex
  exact ⟨op_eqO (eqF_ok B F.mt) F1 b (hr.mono hk), s_bin⟩
theorem jo_neO (hK : X.K = Kf) (F : FncM X.prog X.w Kf X.mg X.base cn "__eq__" k ps Any A) (B : notFirstB Kf cn cn2 = true) (B2 : NeF Kf (He.ga Kf cn)) (hr : Room j X.A) (hk : k + 1 ≤ j) : JO X (compareOp .NotEq) (rNe (He.ga Kf cn) (He.ga Kf cn2) (spOf Kf Any A)) (gNe cn cn2 A) := by
  subst hK
  obtain ⟨fd, F1, b⟩ := F.ex
  exact ⟨op_neO (eqF_ok B F.mt) B2 F1 b (hr.mono hk), s_neO⟩
theorem cr_reprO (hK : X.K = Kf) (F : FncM X.prog X.w Kf X.mg X.base cn "__repr__" k ps Any A) (hr : Room j X.A) (hk : k + 1 ≤ j) : CallR X (.builtin "repr") (fun xs H Q => ∃ x, xs = [x] ∧ rTxt (He.ga Kf cn) (spOf Kf Any A) x H Q) := by
  subst hK
  obtain ⟨fd, F1, b⟩ := F.ex
  exact call_reprO F.mt.at_ F.mt.fn F1 b (hr.mono hk)
theorem cr_strO (hK : X.K = Kf) (F : FncM X.prog X.w Kf X.mg X.base cn "__str__" k ps Any A) (hr : Room j X.A) (hk : k + 2 ≤ j) : CallR X (.type "str") (fun xs H Q => ∃ x, xs = [x] ∧ rTxt (He.ga Kf cn) (spOf Kf Any A) x H Q) := by
  subst hK
  obtain ⟨fd, F1, b⟩ := F.ex
  exact call_strO F.mt.at_ F.mt.fn F1 b (hr.mono hk)
@[simp] abbrev aFmtO (cn : Str) (A : List D → (D → Prop) → Prop) (a : ATE) : ATE := aUn (gTxt cn A) a
theorem je_fmtO (hK : X.K = Kf) (F : FncM X.prog X.w Kf X.mg X.base cn "__str__" k ps Any A) (B : FmtF Kf cn) (hr : Room j X.A) (hk : k + 1 ≤ j) (h : JE X Fm e te ae) : JE X Fm (.FormattedValue e (-1) none pos) (tFmtO (He.ga Kf cn) (spOf Kf Any A) te) (aUn (gTxt cn A) ae) := by
  subst hK
  obtain ⟨fd, F1, b⟩ := F.ex
  exact ⟨pe_fmtO F.mt.at_ F.mt.fn B.fm B.ob F1 b (hr.mono hk) h.p, snd_un s_txt h.s⟩
theorem je_negO (hK : X.K = Kf) (F : FncM X.prog X.w Kf X.mg X.base cn "__neg__" k ps Any A) (hr : Room j X.A) (hk : k ≤ j) (h : JE X Fm e te ae) : JE X Fm (.UnaryOp .USub e pos) (tUn (rUno (He.ga Kf cn) (spOf Kf Any A)) te) (aUn (gUno cn A) ae) := by
  subst hK
  obtain ⟨fd, F1, b⟩ := F.ex
  exact ⟨pe_un (un_neg F.mt.at_ F.mt.fn F1 b (hr.mono hk)) h.p, snd_un s_uno h.s⟩
/-- a property -/
theorem snd_prop {K : PySem.W.Frag} {F : Fr} (h : SndE K F te ae) : SndE K F (tProp (He.ga K cn) (getSp (He.ga K cn) own) [] E0 te) (aFld cn own ae) := by
  intro gs pv os cs σ H Γ P Q r ha hq
  refine h gs pv os cs σ H Γ _ _ r ha fun v H1 d os1 c1 r1 p1 => ?_
  split at p1
  · obtain ⟨rfl, p1⟩ := p1
    split at p1
    · rename_i d e
      obtain ⟨a, dx, xs, rfl, h1, h2, h3⟩ := obj_inj r1.head
      obtain ⟨u, e1, ru⟩ := zip_look h3 e
      exact ⟨a, dx, _, rfl, h1, a, dx, _, u, rfl, h1, e1, hq u H1 _ os1 c1 (r1.tail.gcons ru) p1⟩
    · exact p1.elim
  · exact p1.elim
theorem je_prop (hK : X.K = Kf) (c : Cls Kf (He.ga Kf cn)) (G : GetF Kf cn f own) (hr : Room j X.A) (hk : 2 ≤ j) (h : JE X Fm e te ae) (hab : attributeBase e f X.env (eval e X.env) = eval e X.env := by rfl) :
    JE X Fm (.Attribute e f pos) (tProp (He.ga Kf cn) (getSp (He.ga Kf cn) own) [] E0 te) (aFld cn own ae) := by
  subst hK
  obtain ⟨p, g, fd, hp, F, b⟩ := G.ex
  exact ⟨pe_prop h.p c hp (F X.prog X.w X.mg X.base) (hr.mono hk) b .nil pass0 hab, snd_prop h.s⟩
theorem je_cls {x : Str} (hK : X.K = Kf) (hm : X.mg x = some (.ref (He.ga Kf x))) (hg : Gl X x := by rfl) (hd : (x == ("__debug__" : Str)) = false := by decide) : JE X Fm (.Name x pos) (tC (.ref (He.ga Kf x))) (aC (.cls x)) := by
  subst hK
  exact ⟨pe_glob hg hm rfl hd, snd_c fun _ _ => .cls x⟩
theorem s_isiK {cs : List Str} (hK : X.K = Kf) (F : ClsF Kf cs) : SndRs X.K Any (rIsi X.K) (wIsiO cs) := by
  subst hK
  exact s_isiO F
end
/-! ### defs -/
section
variable {P : Program} {w : World} {K : PySem.W.Frag} {mg : Str → Option Value} {base : Heap} {cn m q : Str} {st : Stmt} {N ps : List Str} {k : Nat} {C : WC} {a : ATS}
theorem fncM_mk {Ab : List D → (D → Prop) → Prop}
    (hF : ∃ fd, FnS K m q st [] (ma' K cn m) fd) (mt : Meth K (He.ga K cn) m (ma' K cn m)) (cl : Cls K (He.ga K cn)) (S : FnScope N ps (defScope st))
    (hb : ∀ (kV doc pm : Value) (an : Option Addr) (cdv ct : Value) (us : List Value), us.length = ps.length → bindArgs (PySem.W.fnOf m q (defArgs st) (defBody st) (defScope st) .none kV doc pm an cdv ct) ⟨us, []⟩ = pure (ps.zip us))
    (hlen : ∀ ds P, Ab ds P → ds.length = ps.length) (hA : ∀ ds P, Ab ds P → a { nx := fun _ _ => P .non, rt := fun d _ => P d } (startG N.length ds) [])
    (hJ : ∀ (Fm : Fr) (fd : FuncData) (cdv : Value) (A : Around) (outer : List Env) (s : Shared) (H : Hp) (E : XK), C Fm.w → Room k (A.deeper (PyProof.Rows.envOfC q (defScope st) s.heap.objs.size (ma' K cn m) cdv)) → ∃ t, JSs (cxOf CX0 P w K mg base N q (defScope st) (ma' K cn m) cdv A outer s H E).nox Fm (defBody st) t a) :
    FncM P w K mg base cn m (k + 1) ps C Ab := by
  obtain ⟨fd, F⟩ := hF
  exact ⟨⟨fd, fn_rule F S hlen hA (fun Fm => hJ Fm fd), F.bindsN hb⟩, mt, cl⟩
theorem fncI_mk {dvs : List V} {kn : List Nat} {Ab : List D → Cs → (D → Cs → Prop) → Prop}
    (hF : ∃ fd, FnS K "__init__" q st dvs (ma' K cn "__init__") fd) (made : Mk K (He.ga K cn) (ma' K cn "__init__")) (hm : mg cn = some (.ref (He.ga K cn))) (S : FnScope N ps (defScope st))
    (hb : ∀ fd, FnS K "__init__" q st dvs (ma' K cn "__init__") fd → ∀ n, n ≤ dvs.length → ∃ ds, Vals (dvs.drop n) ds ∧ Binds K fd ps ds)
    (hkb : ∀ fd, FnS K "__init__" q st dvs (ma' K cn "__init__") fd → ∀ n, n ∈ kn → KBn K fd ps n (ps.drop n) (fun us ws => us ++ ws) (fun us ws => us ++ ws))
    (hlen : ∀ ds c P, Ab ds c P → ds.length = ps.length) (hA : ∀ ds c P, Ab ds c P → a { nx := fun _ c' => ∃ n, P .non (c'.drop n), rt := fun d c' => ∃ n, P d (c'.drop n) } (startG N.length ds) c)
    (hJ : ∀ (Fm : Fr) (fd : FuncData) (cdv : Value) (A : Around) (outer : List Env) (s : Shared) (H : Hp) (E : XK), C Fm.w → Room k (A.deeper (PyProof.Rows.envOfC q (defScope st) s.heap.objs.size (ma' K cn "__init__") cdv)) → ∃ t, JSs (cxOf CX0 P w K mg base N q (defScope st) (ma' K cn "__init__") cdv A outer s H E).nox Fm (defBody st) t a) :
    FncI P w K mg base cn (k + 1) ps dvs kn C Ab := by
  obtain ⟨fd, F⟩ := hF
  exact ⟨⟨fd, fn_ruleS F S hlen hA (fun Fm => hJ Fm fd), hb fd F, hkb fd F⟩, made, hm⟩
/-- __init__ without defaults -/
theorem ib_none {fd : FuncData} (F : FnS K "__init__" q st [] (ma' K cn "__init__") fd) (hb : ∀ (kV doc pm : Value) (an : Option Addr) (cdv ct : Value) (us : List Value), us.length = ps.length → bindArgs (PySem.W.fnOf "__init__" q (defArgs st) (defBody st) (defScope st) .none kV doc pm an cdv ct) ⟨us, []⟩ = pure (ps.zip us)) :
    ∀ n, n ≤ ([] : List V).length → ∃ ds, Vals (([] : List V).drop n) ds ∧ Binds K fd ps ds := fun n _ => ⟨[], by rw [List.drop_nil]; exact .nil, F.bindsN hb⟩
theorem ik_one {fd : FuncData} (n : Nat) (F : FnS K "__init__" q st [] (ma' K cn "__init__") fd) (hb : ∀ (kV doc pm : Value) (an : Option Addr) (cdv ct : Value) (us ws : List Value), us.length = n → ws.length = (ps.drop n).length → bindArgs (PySem.W.fnOf "__init__" q (defArgs st) (defBody st) (defScope st) .none kV doc pm an cdv ct) ⟨us, (ps.drop n).zip ws⟩ = pure (ps.zip (us ++ ws))) :
    KBn K fd ps n (ps.drop n) (fun us ws => us ++ ws) (fun us ws => us ++ ws) := by
  obtain ⟨oc, od, dV, kV, doc, pm, an, cdv, ct, osl, rfl, lk, hcd, hD, hK⟩ := F.ex
  rcases hD with ⟨_, rfl⟩ | ⟨e, _⟩
  · exact ⟨fun s us ws X l1 l2 => .of_eq (hb kV doc pm an cdv ct us ws l1 l2), fun r1 r2 => r1.append r2⟩
  · exact absurd rfl e
end
def memb (st : Stmt) (j : Nat) : Stmt := match st with
  | .ClassDef (body := b) .. => b.getD j (.Pass ⟨0, 0, 0, 0⟩)
  | _ => .Pass ⟨0, 0, 0, 0⟩
end Bd
namespace Bd
open PySem L2
theorem s_wtxtK {X : Cx} {Kf : PySem.W.Frag} {cn : Str} {A : List D → (D → Prop) → Prop} (hK : X.K = Kf) : SndRs X.K Any (fun xs H Q => ∃ x, xs = [x] ∧ rTxt (He.ga Kf cn) (spOf Kf Any A) x H Q) (wTxt cn A) := by
  subst hK
  exact s_wtxt
end Bd
/-! BeG: a comprehension's list as a new cell. -/
namespace Bd
open PySem L2
section
variable {K : PySem.W.Frag} {F : Fr} {gs : List (V × D)} {pv os : Os} {cs : Cs} {σ : St} {H : Hp} {Γ : Gs}
/-- the private cell is an own cell from here on -/
theorem Rel.pubP {p : Addr} {xs : List V} {d : D} (r : Rel K F gs ((p, .lst xs) :: pv) os cs σ H Γ) (h : RH K (F.at ((p, .lst xs) :: pv) os) H (.lst xs) d) :
    cs.lookup p = none ∧ Rel K F gs pv ((p, .lst xs) :: os) ((p, d) :: cs) σ H Γ := by
  obtain ⟨n1, n2⟩ := List.nodup_cons.mp r.st.nd
  have mem : ∀ q, q ∈ pv ++ (p, HO.lst xs) :: os ↔ q ∈ (p, HO.lst xs) :: pv ++ os := fun q => by
    simp only [List.mem_append, List.mem_cons, List.cons_append]
    constructor
    · rintro (h | h | h)
      · exact .inr (.inl h)
      · exact .inl h
      · exact .inr (.inr h)
    · rintro (h | h | h)
      · exact .inr (.inl h)
      · exact .inl h
      · exact .inr (.inr h)
  have e : Ext ((F.at ((p, HO.lst xs) :: pv) os).v H) ((F.at pv ((p, HO.lst xs) :: os)).v H) := ext_of (fun a m => .inl (by
    obtain ⟨q, hq, z⟩ := List.mem_map.mp m
    exact z ▸ List.mem_map_of_mem (f := fun x : Addr × HO => x.1) ((mem q).mp hq))) fun a u _ q => q
  have hc : cs.lookup p = none := by
    cases q : cs.lookup p with
    | none => rfl
    | some d' =>
      obtain ⟨o, hm, _⟩ := r.st.cel.get q
      exact absurd (List.mem_map_of_mem (f := fun x : Addr × HO => x.1) (List.mem_append_right pv hm)) n1
  refine ⟨hc, r.mv (r.st.to e (at_inv.mp r.st.inv).1 (fun q hq => (at_inv.mp r.st.inv).2 q ((mem q).mp hq)) (fun q hq => .inl (List.mem_map_of_mem (f := fun x : Addr × HO => x.1) ((mem q).mp hq))) ?_
    (.cons (RH.mono (w := F.at ((p, .lst xs) :: pv) os) (w' := F.at pv ((p, .lst xs) :: os)) rfl e h) (r.st.cel.mono (w := F.at ((p, .lst xs) :: pv) os) (w' := F.at pv ((p, .lst xs) :: os)) rfl e))) e⟩
  rw [List.map_append, List.map_cons]
  have n1 : p ∉ (pv ++ os).map (·.1) := n1
  have n2' : ((pv ++ os).map (·.1)).Nodup := n2
  rw [List.map_append] at n1 n2'
  have n3 := List.nodup_append.mp n2'
  refine List.nodup_append.mpr ⟨n3.1, List.nodup_cons.mpr ⟨fun z => n1 (List.mem_append_right _ z), n3.2.1⟩, fun a ha b hb z => ?_⟩
  rcases List.mem_cons.mp hb with e | hb
  · have e : a = p := z.trans e
    rw [e] at ha
    exact n1 (List.mem_append_left _ ha)
  · exact n3.2.2 a ha b hb z
end
def aLcN (ai : ATA) (g : ATG) (tt : ATT) (te : ATE) (vs : List Nat) : ATE := fun Γ c P => ai Γ c fun ds c1 => ds.length ≤ 1000000 ∧ goA (lcB g tt te (wipeG Γ vs)) ds [] c1 fun acc c2 => ∀ p : Addr, c2.lookup p = none → P (.adr p) ((p, .lst acc) :: c2)
section
variable {K : PySem.W.Frag} {F : Fr}
theorem snd_lcN {js vs : List Nat} {wi : TI} {ai : ATA} {g : TG} {ag : ATG} {tt : TT} {at' : ATT} {te : TE} {ae : ATE} (hi : SndI K F wi ai) (hg : SndG K F js g ag) (hjs : ∀ j ∈ js, j ∈ vs) (ht : SndT K F tt at') (he : SndE K F te ae) :
    SndE K F (tLc wi g tt te vs) (aLcN ai ag at' ae vs) := by
  intro gs pv os cs σ H Γ P Q r ha hq
  refine hi gs pv os cs σ H Γ _ _ r ha fun J H1 gs2 ds os1 c1 r1 wk ⟨hz, p1⟩ => fun Dl hD => ?_
  have r0 := r1.allocP (o := .lst []) hD
  refine ⟨fun i m Hc => m = ds.length - i ∧ i ≤ ds.length ∧ ∃ (xs : List V) (acc : List D) (os' : Os) (c' : Cs), acc.length ≤ i ∧ Rel K F (gs2 ++ gs) ((Dl, .lst xs) :: pv) os' c' σ Hc Γ ∧ RA K (F.at ((Dl, .lst xs) :: pv) os') Hc xs acc ∧
    goA (lcB ag at' ae (wipeG Γ vs)) (ds.drop i) acc c' fun acc c2 => ∀ p : Addr, c2.lookup p = none → P (.adr p) ((p, .lst acc) :: c2), ⟨_, rfl, Nat.zero_le _, [], [], os1, c1, Nat.le_refl _, r0, .nil, by rw [List.drop_zero]; exact p1⟩, ?_⟩
  rintro i m Hc ⟨rfl, hil, xs, acc, os', c', hl, rc, ra, go⟩
  obtain ⟨g1, g2, g3⟩ := wk (F.at ((Dl, .lst xs) :: pv) os') Hc rc.st.inv fun p hp => rc.gh p (List.mem_append_left _ hp)
  by_cases hlt : i < ds.length
  · refine .inr ⟨g1 i hlt, fun Hn => ∃ (xs : List V) (acc : List D) (os' : Os) (c' : Cs), acc.length ≤ i + 1 ∧ Rel K F (gs2 ++ gs) ((Dl, .lst xs) :: pv) os' c' σ Hn Γ ∧ RA K (F.at ((Dl, .lst xs) :: pv) os') Hn xs acc ∧
      goA (lcB ag at' ae (wipeG Γ vs)) (ds.drop (i + 1)) acc c' fun acc c2 => ∀ p : Addr, c2.lookup p = none → P (.adr p) ((p, .lst acc) :: c2), fun Hn h => ⟨ds.length - (i + 1), by omega, rfl, hlt, h⟩, fun x H2 y => ?_⟩
    obtain ⟨s2, d, hd, rx⟩ := g3 i x H2 hlt y
    have ed : ds.drop i = d :: ds.drop (i + 1) := by
      rw [List.drop_eq_getElem_cons hlt]
      obtain ⟨_, e⟩ := List.getElem?_eq_some_iff.mp hd
      rw [e]
    rw [ed] at go
    have r2 := ((rc.step s2).gapp (s2.ra ra)).ghost
    -- the ghosts: the slots, the list's items, those of the walk
    refine hg _ _ os' c' (wipe σ vs) H2 (wipeG Γ vs) x d _ _ ((r2.wipe vs).gcons rx) go fun σ2 H3 os3 c3 Γ2 r3 k3 p3 => ⟨(k3 vs hjs).trans wipe_idem, ?_⟩
    refine ht _ _ os3 c3 σ2 H3 Γ2 _ _ r3 p3 fun b H4 os4 c4 r4 p4 => ?_
    have fin : ∀ {H5 : Hp} {os5 : Os} {c5 : Cs} {σ5 : St} {Γ5 : Gs}, Rel K F (slotsOf σ Γ ++ (xs.zip acc ++ (gs2 ++ gs))) ((Dl, .lst xs) :: pv) os5 c5 σ5 H5 Γ5 → Rel K F (gs2 ++ gs) ((Dl, .lst xs) :: pv) os5 c5 σ H5 Γ ∧ RA K (F.at ((Dl, .lst xs) :: pv) os5) H5 xs acc := fun {H5 os5 c5 σ5 Γ5} r5 => by
      have q := ((rc.step s2).gapp (s2.ra ra)).back r5
      refine ⟨q.weak fun p hp => List.mem_append_right _ hp, ?_⟩
      have : ∀ {us : List V} {es : List D}, us.length = es.length → (∀ p, p ∈ us.zip es → R K (F.at ((Dl, .lst xs) :: pv) os5) H5 p.1 p.2) → RA K (F.at ((Dl, .lst xs) :: pv) os5) H5 us es := by
        intro us
        induction us with
        | nil => intro es e _; cases es with
          | nil => exact .nil
          | cons _ _ => cases e
        | cons u us ih => intro es e h; cases es with
          | nil => cases e
          | cons z es => exact .cons (h (u, z) List.mem_cons_self) (ih (by simpa using e) fun p hp => h p (List.mem_cons_of_mem _ hp))
      exact this ra.length fun p hp => q.gh p (List.mem_append_left _ hp)
    cases b with
    | true =>
      refine he _ _ os4 c4 σ2 H4 Γ2 _ _ r4 p4 fun v H5 z os5 c5 r5 p5 => ?_
      obtain ⟨q1, q2⟩ := fin r5.tail
      have hx := ra.length
      refine ⟨xs, (at_inv.mp r5.st.inv).2 (Dl, .lst xs) List.mem_cons_self, Nat.lt_of_le_of_lt (by omega : xs.length ≤ 1000000) (by decide), xs ++ [v], acc ++ [z], os5, c5, ?_, ?_⟩
      · rw [List.length_append, List.length_singleton]
        omega
      · obtain ⟨e, q3⟩ := q1.putP (o' := .lst (xs ++ [v]))
        exact ⟨q3, RwA.append (q2.mono e) (.cons (Rw.mono e r5.head) .nil), p5⟩
    | false =>
      obtain ⟨q1, q2⟩ := fin r4
      exact ⟨xs, acc, os4, c4, by omega, q1, q2, p4⟩
  · have ei : i = ds.length := by omega
    subst ei
    rw [List.drop_length] at go
    obtain ⟨el, q⟩ := rc.pubP (d := .lst acc) ra
    exact .inl ⟨g2, hq _ Hc _ ((Dl, .lst xs) :: os') ((Dl, .lst acc) :: c') ((q.weak fun p hp => List.mem_append_right _ hp).gcons (.adr Dl)) (go Dl el)⟩
end
section
variable {X : Cx} {Fm : Fr} {tg iter elt : Expr} {pos : Pos} {te : TE} {ae : ATE}
theorem je_lcN {js : List Nat} {ifs : List Expr} {scope : Scope} {own : List (Str × Nat)} {wi : TI} {ai : ATA} {g : TG} {agt : ATG} {tt : TT} {at' : ATT} (hc : X.calm = true) (hN : X.N.Nodup) (hi : JI X Fm tg iter wi ai) (ok : BlkOk X.N X.env.scope scope own)
    (hg : ∀ (s : Shared) (H : Hp) (Ca : Addr) (cl : List (Str × Addr)) (fp : List Addr), JG (X.blk s H scope (PySem.compEnvC scope cl Ca X.env) fp) Fm js tg g agt) (hjs : ∀ j ∈ js, j ∈ own.map (·.2))
    (ht : ∀ (s : Shared) (H : Hp) (Ca : Addr) (cl : List (Str × Addr)) (fp : List Addr), JTs (X.blk s H scope (PySem.compEnvC scope cl Ca X.env) fp) Fm ifs tt at')
    (he : ∀ (s : Shared) (H : Hp) (Ca : Addr) (cl : List (Str × Addr)) (fp : List Addr), JE (X.blk s H scope (PySem.compEnvC scope cl Ca X.env) fp) Fm elt te ae) (hs : ∀ x, foldedSetIterable iter X.env x = pure x := by intro _; rfl) :
    JE X Fm (.ListComp elt [⟨tg, iter, ifs, 0⟩] scope pos) (tLc wi g tt te (own.map (·.2))) (aLcN ai agt at' ae (own.map (·.2))) :=
  ⟨pe_lc hc hN hi.p ok (fun s H Ca cl fp => (hg s H Ca cl fp).p) (fun s H Ca cl fp => (ht s H Ca cl fp).p) (fun s H Ca cl fp => (he s H Ca cl fp).p) hs,
    snd_lcN hi.s (hg X.s_0 X.H_0 0 [] []).s hjs (ht X.s_0 X.H_0 0 [] []).s (he X.s_0 X.H_0 0 [] []).s⟩
theorem js_setLcN (i : Nat) {js : List Nat} {y : Str} {py spos : Pos} {ifs : List Expr} {scope : Scope} {own : List (Str × Nat)} {wi : TI} {ai : ATA} {g : TG} {agt : ATG} {tt : TT} {at' : ATT} (hc : X.calm = true) (hN : X.N.Nodup) (hy : X.N[i]? = some y) (hyl : X.env.scope.names.lookup y = some .local)
    (hsw : swapsWith (.ListComp elt [⟨tg, iter, ifs, 0⟩] scope pos) (some (.Name y py)) spos.line X.env = pure true) (hi : JI X Fm tg iter wi ai) (ok : BlkOk X.N X.env.scope scope own)
    (hg : ∀ (s : Shared) (H : Hp) (Ca : Addr) (cl : List (Str × Addr)) (fp : List Addr), JG (X.blk s H scope (PySem.compEnvC scope cl Ca X.env) fp) Fm js tg g agt) (hjs : ∀ j ∈ js, j ∈ own.map (·.2))
    (ht : ∀ (s : Shared) (H : Hp) (Ca : Addr) (cl : List (Str × Addr)) (fp : List Addr), JTs (X.blk s H scope (PySem.compEnvC scope cl Ca X.env) fp) Fm ifs tt at')
    (he : ∀ (s : Shared) (H : Hp) (Ca : Addr) (cl : List (Str × Addr)) (fp : List Addr), JE (X.blk s H scope (PySem.compEnvC scope cl Ca X.env) fp) Fm elt te ae) (hs : ∀ x, foldedSetIterable iter X.env x = pure x := by intro _; rfl) :
    JS X Fm (.Assign [.Name y py] (.ListComp elt [⟨tg, iter, ifs, 0⟩] scope pos) spos) (tAsg (tLc wi g tt te (own.map (·.2))) (gName i)) (aAsg (aLcN ai agt at' ae (own.map (·.2))) (gmN i)) :=
  ⟨ps_setLc hc hN hy hyl hsw hi.p ok (fun s H Ca cl fp => (hg s H Ca cl fp).p) (fun s H Ca cl fp => (ht s H Ca cl fp).p) (fun s H Ca cl fp => (he s H Ca cl fp).p) hs,
    snd_asg (snd_lcN hi.s (hg X.s_0 X.H_0 0 [] []).s hjs (ht X.s_0 X.H_0 0 [] []).s (he X.s_0 X.H_0 0 [] []).s) (snd_gName i)⟩
end
end Bd
/-! BiA: own exception classes over any of three built-in ones: made, their fields stored. -/
namespace Bd
open PySem L2
open PySem.W PySem.Calls PyProof.Rows
/-- a built-in exception class: its names and its mro -/
structure ExB (B ni ii : String) (tl : List Value) : Prop where
  fb : ExcBaseFacts B ni ii tl
  sf : StoreFacts B tl "object.__setattr__" "object"
  kx : PySem.W.KxsFacts B ii
theorem exB_VE : ExB "ValueError" "ValueError.__new__" "ValueError.__init__" [.type "ValueError", .type "Exception", .type "BaseException", .type "object"] := ⟨F.excBase_ValueError, F.store_ValueError, PySem.W.kxs_ValueError⟩
theorem exB_LE : ExB "LookupError" "LookupError.__new__" "LookupError.__init__" [.type "LookupError", .type "Exception", .type "BaseException", .type "object"] := ⟨F.excBase_LookupError, F.store_LookupError, PySem.W.kxs_LookupError⟩
theorem exB_IE : ExB "IndexError" "IndexError.__new__" "IndexError.__init__" [.type "IndexError", .type "LookupError", .type "Exception", .type "BaseException", .type "object"] := ⟨F.excBase_IndexError, F.store_IndexError, PySem.W.kxs_IndexError⟩
structure OexG (K : PySem.W.Frag) (C : Addr) (B ni ii : String) (tl : List Value) : Prop where
  bf : ExB B ni ii tl
  cls : ∃ nm q N bs bm sn sub ab col dd k0 k1 k2 k3 k5, K.lookup C = some (excClassObj nm q C N bs bm true sn sub ab col dd k0 k1 k2 k3 k5 ni) ∧ PySem.W.excTail tl bm = true
  sa : PySem.W.findIn K (.ref C) "__setattr__" = some (some (.builtin "object.__setattr__"))
  exC : PySem.W.subIn K (.ref C) (.type "BaseException") = some true
  tyC : PySem.W.typeIn K (.ref C) = some (.type "type")
  kC : PySem.W.keepIn K (.ref C) = true
abbrev OexA (K : PySem.W.Frag) (C : Addr) : Prop := ∃ B ni ii tl, OexG K C B ni ii tl
section
variable {X : Cx} {pins : List (Addr × Obj)} {σ : L2.St} {H : Hp} {s : Shared} {a C dx : Addr} {f : Str} {y : V} {u : Value} {fs : List (Str × V)} {Q : Unit → Shared → Prop} {E : Value → Shared → Prop} {A : Around} {B ni ii : String} {tl : List Value}
theorem taker_none {K : PySem.W.Frag} {C : Addr} {f : Str} (h : PySem.W.findIn K (.ref C) f = some none) : PySem.W.takerIn K C f = some none := by
  unfold PySem.W.takerIn
  rw [h]
  rfl
/-- self.f = y, the first one -/
theorem ostG_new (T : OexG X.K C B ni ii tl) (I : Inv X pins σ H s) (e : H a = some (exo a C none)) (hno : PySem.W.findIn X.K (.ref C) f = some none) (ry : RelV y u)
    (h : ∀ dx s', H dx = none → dx ≠ a → Inv X pins σ (upd (upd H dx (exd dx [(f, y)])) a (exo a C (some dx))) s' → Q () s') : wpAny (model X.prog X.w) A (setAttr (.ref a) f u) Q E s := by
  obtain ⟨nm, q, N, bs, bm, sn, sub, ab, col, dd, k0, k1, k2, k3, k5, hC, hbm⟩ := T.cls
  have hcl : PySem.W.clsIn X.K C = some { name := nm, bases := bs, mro := .ref C :: bm, ns := N, qualname := q, hasDict := true, slotNames := sn, subclasses := sub, abstract := ab, collection := col, hasDel := false } := by unfold PySem.W.clsIn; rw [hC] <;> rfl
  have hov : PySem.W.excOver X.K C tl = true := by
    unfold PySem.W.excOver
    rw [hcl]
    simp [hbm]
  obtain ⟨t1, ho⟩ := exo_at I.hok e
  obtain ⟨hp, g, d, t, os⟩ := s
  have hcls : PySem.W.Looks (model X.prog X.w) hp (classData C) _ := PySem.W.looks_clsIn I.kIn hcl
  have hxs : a ≠ hp.objs.size := Nat.ne_of_lt (Heap.lt_size ho)
  refine PySem.W.set_plain I.kIn (ox := { cls := .ref C, dict := none, data := .fields #[.ref t1, .none, .none, .none, .bool false, .none] }) (od := none) ⟨ho, rfl, rfl, trivial⟩ T.sa ?_
  refine PySem.W.osa_openX T.bf.sf I.kIn (ox := { cls := .ref C, dict := none, data := .fields #[.ref t1, .none, .none, .none, .bool false, .none] }) (od := none) ⟨ho, rfl, rfl, trivial⟩ hov (taker_none hno) fun b => ?_
  show wpAny _ _ (Builtin.ObjectAttr.storeInOwnDict (.ref a) (.ref C) (.str f t) f u b) _ _ _
  unfold Builtin.ObjectAttr.storeInOwnDict Builtin.ObjectAttr.ownDictForStores
  repeat (first | with_reducible refine PySem.PX.store_in_new ?_ ?_ | with_reducible refine wpAny_loadPart_at ho ?_ | with_reducible refine hcls.at ?_ | wp_step)
  · exact ⟨_, #[], _, (Heap.get?_update_ne _ _ _ _ hxs.symm).trans (Heap.get?_push_at rfl rfl), rfl, fun e he => absurd he (by simp), fun _ => rfl⟩
  · intro h' tk' hn hs
    have hx₁ : (hp.push { cls := .type "dict", data := .dict #[] }).get? a = some { cls := .ref C, data := .fields #[.ref t1, .none, .none, .none, .bool false, .none] } := Heap.get?_push_of_some _ ho
    have k : ∀ b o, b ≠ a → hp.get? b = some o → h'.get? b = some o := fun b o hb ho => (hs.2 b (Nat.ne_of_lt (Heap.lt_size ho))).trans ((Heap.get?_update_ne _ _ _ _ hb).trans (Heap.get?_push_of_some _ ho))
    have hx : h'.get? a = some { cls := .ref C, dict := some hp.objs.size, data := .fields #[.ref t1, .none, .none, .none, .bool false, .none] } := (hs.2 a hxs).trans (Heap.get?_update_self _ hx₁ rfl)
    obtain ⟨dx, edx⟩ : ∃ dx, dx = hp.objs.size := ⟨_, rfl⟩
    have dn : hp.objs.size ≤ dx := Nat.le_of_eq edx.symm
    rw [← edx] at hn hs hx hxs
    have hnd : H dx = none := I.hok.fresh dn
    have nd : ∀ {b : Addr} {o : Obj}, hp.get? b = some o → b ≠ dx := fun {b o} q => Nat.ne_of_lt (Nat.lt_of_lt_of_le (Heap.lt_size q) dn)
    have na : ∀ {b : Addr}, H b = none → b ≠ a := fun {b} n z => by
      rw [z, e] at n
      cases n
    have Un1 : Un X.fs [] H (upd (upd H dx (exd dx [(f, y)])) a (exo a C (some dx))) hp h' := {
      keep := fun b o q n _ _ => k b o (na n) q
      slot := fun b o q n _ _ => ⟨o.slots, k b o (na n) q⟩
      free := fun b o q n _ => by rw [upd_ne (na n), upd_ne (nd q)]; exact n
      there := fun b o q _ => by
        by_cases hb : b = a
        · exact ⟨_, by rw [hb]; exact hx⟩
        · exact ⟨o, k b o hb q⟩
      tups := fun b xs q => by rw [upd_ne (at_ne e q exo_tup), upd_ne (ne_of_none q hnd)]; exact q
      frzs := fun b o v q => by rw [upd_ne (at_ne e q exo_frz), upd_ne (ne_of_none q hnd)]; exact q
      tbls := fun b ps q => ⟨#[], by rw [upd_ne (at_ne e q exo_tbl), upd_ne (ne_of_none q hnd), q]; simp⟩ }
    refine h dx _ hnd hxs.symm (I.un (t' := tk') Un1 fun b o q => ?_)
    by_cases hb : b = a
    · subst hb
      rw [upd_same] at q
      cases q
      exact exo_ok hx
    · rw [upd_ne hb] at q
      by_cases hd : b = dx
      · subst hd
        rw [upd_same] at q
        cases q
        exact exd_ok hn (relO_put (fs := []) ry fun g => True.intro)
      · rw [upd_ne hd] at q
        exact (I.hok b o q).stay (fun c v hc z => k c v (by
            rcases hc with hc | hc
            · rw [hc]
              exact hb
            · exact at_ne e hc exo_own) z)
          (fun c hc => by rw [upd_ne (at_ne e hc exo_own), upd_ne (ne_of_none hc hnd)]; exact hc) (fun c xs hc => by rw [upd_ne (at_ne e hc exo_tup), upd_ne (ne_of_none hc hnd)]; exact hc)
/-- self.f = y, a further one -/
theorem ostG_old (T : OexG X.K C B ni ii tl) (I : Inv X pins σ H s) (e : H a = some (exo a C (some dx))) (ed : H dx = some (exd dx fs)) (hl : fs.length ≤ 900) (hno : PySem.W.findIn X.K (.ref C) f = some none) (ry : RelV y u)
    (h : ∀ s', Inv X pins σ (upd H dx (exd dx ((f, y) :: fs))) s' → Q () s') : wpAny (model X.prog X.w) A (setAttr (.ref a) f u) Q E s := by
  obtain ⟨nm, q, N, bs, bm, sn, sub, ab, col, dd, k0, k1, k2, k3, k5, hC, hbm⟩ := T.cls
  have hcl : PySem.W.clsIn X.K C = some { name := nm, bases := bs, mro := .ref C :: bm, ns := N, qualname := q, hasDict := true, slotNames := sn, subclasses := sub, abstract := ab, collection := col, hasDel := false } := by unfold PySem.W.clsIn; rw [hC] <;> rfl
  have hov : PySem.W.excOver X.K C tl = true := by
    unfold PySem.W.excOver
    rw [hcl]
    simp [hbm]
  obtain ⟨t1, ho⟩ := exo_at I.hok e
  obtain ⟨mA, hns, rel⟩ := exd_at I.hok ed
  have hw := within_of rel
  obtain ⟨hp, g, d, t, os⟩ := s
  obtain ⟨oD, _, _, hoD, _, _⟩ := hns.count hw
  have hcls : PySem.W.Looks (model X.prog X.w) hp (classData C) _ := PySem.W.looks_clsIn I.kIn hcl
  refine PySem.W.set_plain I.kIn (ox := { cls := .ref C, dict := some dx, data := .fields #[.ref t1, .none, .none, .none, .bool false, .none] }) (od := some oD) ⟨ho, rfl, rfl, hoD⟩ T.sa ?_
  refine PySem.W.osa_openX T.bf.sf I.kIn (ox := { cls := .ref C, dict := some dx, data := .fields #[.ref t1, .none, .none, .none, .bool false, .none] }) (od := some oD) ⟨ho, rfl, rfl, hoD⟩ hov (taker_none hno) fun b => ?_
  show wpAny _ _ (Builtin.ObjectAttr.storeInOwnDict (.ref a) (.ref C) (.str f t) f u b) _ _ _
  have hz : (fs.map (·.1)).length ≤ 1000 := by rw [List.length_map]; omega
  unfold Builtin.ObjectAttr.storeInOwnDict Builtin.ObjectAttr.ownDictForStores
  repeat (first | with_reducible refine PySem.OEX.store_in_old hns hw hz ?_ | with_reducible refine wpAny_loadPart_at ho ?_ | with_reducible refine hcls.at ?_ | wp_step)
  intro h' tk' hn hs
  have hd : ∃ o, h'.get? dx = some o := by
    obtain ⟨o, _, _, e', _⟩ := hn
    exact ⟨o, e'⟩
  exact h _ (I.write (t' := tk') (x := dx) (e := dx) (o := exd dx ((f, y) :: fs)) (by rw [ed]; exact True.intro) (.inl rfl) (fun b o hb ho => (hs.2 b hb).trans ho) hd (exd_ok hn (relO_put ry rel)))
end
/-- self.f = e -/
def tOstG (K : PySem.W.Frag) (f : Str) (to te : TE) : TS := fun D σ H => te σ H fun y H1 => to σ H1 fun x H2 => ∃ a C : Addr, x = .ref a ∧ OexA K C ∧ PySem.W.findIn K (.ref C) f = some none ∧
  ((H2 a = some (exo a C none) ∧ ∀ dx, H2 dx = none → dx ≠ a → D.nx σ (upd (upd H2 dx (exd dx [(f, y)])) a (exo a C (some dx)))) ∨
    ∃ (dx : Addr) (fs : List (Str × V)), H2 a = some (exo a C (some dx)) ∧ H2 dx = some (exd dx fs) ∧ fs.length ≤ 900 ∧ D.nx σ (upd H2 dx (exd dx ((f, y) :: fs))))
section
variable {X : Cx} {o e : Expr} {es : List Expr} {to te : TE} {ta : TA} {f : Str} {p p' p1 p2 pos : Pos}
theorem ps_ostG (ho : PE X o to) (he : PE X e te) (hs : swapsWith e (some (.Attribute o f p')) pos.line X.env = pure false := by rfl) : PS X (.Assign [.Attribute o f p'] e pos) (tOstG X.K f to te) := by
  refine ⟨fun pins s σ H D I h => ?_⟩
  refine plainObj_wpAny_Assign_Attribute (thn (he.run pins s σ H _ I h) fun v s1 ⟨y, H1, I1, r1, q1⟩ => thn (ho.run pins s1 σ H1 _ I1 q1) fun u s2 ⟨x, H2, I2, r2, a, C, ex, ⟨B, ni, ii, tl, T⟩, hno, q⟩ => ?_) hs
  subst ex
  obtain rfl : u = Value.ref a := r2
  rcases q with ⟨ea, q⟩ | ⟨dx, fs, ea, ed, hl, q⟩
  · exact ostG_new T I2 ea hno r1 fun dx s' n ne J => ⟨σ, _, J, q dx n ne⟩
  · exact ostG_old T I2 ea ed hl hno r1 fun s' J => ⟨σ, _, J, q⟩
theorem pmk_oexG {CX : CXT} {x : Str} {C fI : Addr} {k : Nat} {fd : FuncData} {ps : List Str} {sp : Sp} {ds : List Value} {dvs : List V} (T : OexA X.K C) (iC : PySem.W.findIn X.K (.ref C) "__init__" = some (some (.ref fI))) (tI : PySem.W.typeIn X.K (.ref fI) = some (.type "function"))
    (F1 : FnOk X.prog X.w X.K X.mg X.base CX k fI fd ps sp) (hr : Room (k + 1) X.A) (hb : Binds X.K fd ps ds) (hd : Vals dvs ds) (hx : Passes CX X (fun _ _ _ => False)) (hg : Gl X x) (hm : X.mg x = some (.ref C)) (ha : PA X (e :: es) ta)
    (hdb : (x == ("__debug__" : Str)) = false := by decide) (he : starEach (e :: es) X.env = (false, eval e X.env) :: starEach es X.env := by rfl) (hpl : (backTo pos (starEach es X.env)).any (·.1) = false := by rfl) :
    PMk X (.Call (.Name x p) (e :: es) [] pos) (tMkO C sp dvs ta) := by
  intro pins s σ H Q I h
  obtain ⟨B, ni, ii, tl, T⟩ := T
  obtain ⟨nm, q, N, bs, bm, sn, sub, ab, col, dd, k0, k1, k2, k3, k5, hC, hbm⟩ := T.cls
  refine wpAny_Call_Name_kw (ld_glob I hg hm ?_ hdb)
  refine PySem.W.callWith_K (h₀ := X.base) I.ok.mod.kin T.kC (thn (ha.run pos pins s σ H _ I h) fun us s1 ⟨vs, H1, I1, r1, hz, q1⟩ => ⟨I1.kIn, ?_⟩) he hpl
  show wpAny _ _ (call (.ref C) us) _ _ _
  obtain ⟨hp, g, dr, tk, os⟩ := s1
  have hsz : hp.objs.size ≤ hp.objs.size + 1 := Nat.le_succ _
  have hn : H1 (hp.objs.size + 1) = none := I1.hok.fresh hsz
  have hq := q1 (hp.objs.size + 1) hn
  have kk : ∀ b o, hp.get? b = some o → ((hp.push (PySem.W.kdv_tup us)).push (PySem.HandSPX.excO C hp.objs.size)).get? b = some o := fun b o e => Heap.get?_push_of_some _ (Heap.get?_push_of_some _ e)
  have hget : ((hp.push (PySem.W.kdv_tup us)).push (PySem.HandSPX.excO C hp.objs.size)).get? (hp.objs.size + 1) = some (PySem.HandSPX.excO C hp.objs.size) := by heap_get
  have I2 : Inv X pins σ (upd H1 (hp.objs.size + 1) (exo (hp.objs.size + 1) C none)) ⟨(hp.push (PySem.W.kdv_tup us)).push (PySem.HandSPX.excO C hp.objs.size), g, dr, tk, os⟩ :=
    I1.laid (t' := tk) (a := hp.objs.size + 1) (o := exo (hp.objs.size + 1) C none) (h' := (hp.push (PySem.W.kdv_tup us)).push (PySem.HandSPX.excO C hp.objs.size)) kk hsz (exo_ok hget)
  have r2 : Vals (V.ref (hp.objs.size + 1) :: (vs ++ dvs)) (Value.ref (hp.objs.size + 1) :: (us ++ ds)) := .cons rfl (r1.append hd)
  have hl : (Value.ref (hp.objs.size + 1) :: us ++ ds).length = ps.length := by
    have e := r2.length
    rw [F1.len _ _ _ _ hq] at e
    exact e.symm
  have hus : us.length ≤ sizeLine := by
    rw [← Paired.length r1, sizeLine_eq]
    omega
  refine wpAny_call (PySem.HandSPX.call_own T.bf.fb (fun Y => PySem.W.excTail_contains Y bm hbm) (I1.kIn _ _ hC) (PySem.W.looks_findIn I1.kIn iC) (fun self => PySem.W.bind_fn I1.kIn self tI) hus
    (codeAny_mono (F1.run _ X.stack _ _ ⟨Value.ref (hp.objs.size + 1) :: us, []⟩ (Value.ref (hp.objs.size + 1) :: (us ++ ds)) _ _ (fun _ _ _ => False) (hr.make C us []) (I2.env0.make C us []) (hb _ (Value.ref (hp.objs.size + 1) :: us) I2.kIn hl) r2 hq) fun r s' hq' => ?_))
  cases r with
  | error er => exact hx pins σ _ _ er s' I2 hq'
  | ok fl =>
    cases fl with
    | ret u =>
      obtain ⟨v, H2, os2, bare2, un2, hok2, rv, ev, d, fs, ea, ed, hd1, q2⟩ := hq'
      subst ev
      obtain ⟨h2, g2, d2, t2, os'⟩ := s'
      exact ⟨rv, mk_end (raises_own T.exC T.tyC) I1 hsz kk un2 hok2 os2 bare2 ea ed hd1 q2⟩
    | next => exact False.elim hq'
    | brk => exact False.elim hq'
    | cont => exact False.elim hq'
end
end Bd
/-! BfI: the __init__ of an own exception over ValueError that says super().__init__('..'), then stores its parameter and its tag. -/
namespace Bd
open PySem L2
section
variable {prog : Program} {w : World} {A : Around} {E : Value → Shared → Prop} {h : Heap} {g : Array GenState} {d : Drawn} {t : Nat} {os : OsState}
variable {nm q : Str} {C N : Addr} {bs bm : List Value} {hdct : Bool} {sn : List Str} {sub : List Value} {ab : Bool} {col : Option Bool} {dd : Option Addr} {k0 k1 k2 k3 k5 : Option Value}
/-- the bound ValueError.__init__ called: the exception's texts are laid anew, no more is told -/
theorem mw_call {B ni ii : String} {tl : List Value} (FB : ExcBaseFacts B ni ii tl) {u e t0 : Addr} {rest : List Value} {Q : Value → Shared → Prop} (hC : h.get? C = some (excClassObj nm q C N bs bm hdct sn sub ab col dd k0 k1 k2 k3 k5 ni))
    (he : h.get? e = some ({ cls := .ref C, dict := none, data := .fields #[.ref t0, .none, .none, .none, .bool false, .none] } : Obj)) (hu : h.get? u = some (PySem.W.kxs_mw ii e)) (hz : rest.length ≤ sizeLine)
    (hq : ∀ (h' : Heap) (t1 : Addr), (∀ b o, b ≠ e → h.get? b = some o → h'.get? b = some o) → h'.get? e = some ({ cls := .ref C, dict := none, data := .fields #[.ref t1, .none, .none, .none, .bool false, .none] } : Obj) → Q .none ⟨h', g, d, t, os⟩) :
    wpAny (model prog w) A (call (.ref u) rest) Q E ⟨h, g, d, t, os⟩ := by
  refine wpAny_call (codeAny_of_tree ?_)
  show wpAny _ A.in1 (callAny (.ref u) ⟨rest, []⟩) _ _ _
  simp only [callAny]
  refine wpAny_bind (wpAny_load hu ?_)
  simp only [PySem.W.kxs_mw, show (Value.type "method-wrapper" == Value.type "method" || Value.type "method-wrapper" == Value.type "builtin_function_or_method" || Value.type "method-wrapper" == Value.type "method-wrapper") = true by decide, if_true]
  refine PySem.W.KFB.if_so (by decide) (wpAny_bind (PySem.W.check_bound_init FB.toExcCallFacts hC he rfl (wpAny_bind (wpAny_pure (wpAny_pure ⟨plainId_quiet FB.init.plain _, codeAny_builtin FB.initEntry ?_⟩)))))
  exact PySem.W.exc_init_tree (cls := .ref C) (t0 := t0) (dv := none) (c2 := .none) (c3 := .none) (b4 := .bool false) he hz fun h' k e' _ => hq h' _ k e'
end
end Bd
/-! BfJ: the context of such an __init__. -/
namespace Bd
open PySem L2
structure CeS (scope : Scope) (par : Str) : Prop where
  kind : scope.kind = .function
  co : scope.isCoroutine = false
  gen : scope.isGenerator = false
  nocell : ∀ x ∈ scope.names, x.2 ≠ .cell
  free : ∀ x ∈ scope.names, x.2 = .free → x.1 = "__class__"
  sf : scope.names.lookup ("self" : Str) = some .local
  pr : scope.names.lookup par = some .local
  su : scope.names.lookup ("super" : Str) = some .globalImplicit
  cl : scope.names.lookup ("__class__" : Str) = some .free
  ne : par ≠ "self"
abbrev ceEnv (q : Str) (scope : Scope) (L f : Addr) (cdv : Value) (cc : Addr) : Env := PySem.W.ksEnv q scope L f cdv cc
def ceCx (P : Program) (w : World) (K : PySem.W.Frag) (mg : Str → Option Value) (base : Heap) (par q : Str) (scope : Scope) (f : Addr) (cdv : Value) (cc : Addr) (A : Around) (outer : List Env) (s : Shared) (H : Hp) : Cx where
  prog := P
  w := w
  K := K
  mg := mg
  base := base
  A := A.deeper (ceEnv q scope s.heap.objs.size f cdv cc)
  N := ["self", par]
  s_0 := s
  H_0 := H
  env := ceEnv q scope s.heap.objs.size f cdv cc
  outer := outer
  stack := ceEnv q scope s.heap.objs.size f cdv cc :: outer
  ex := []
  fn := fun _ => false
  calm := true
  pn := []
  xe := fun _ _ => False
section
variable {P : Program} {w : World} {K : PySem.W.Frag} {mg : Str → Option Value} {base : Heap} {par q : Str} {scope : Scope} {f cc D : Addr} {cdv : Value} {A : Around} {outer : List Env} {s : Shared} {H : Hp} {u0 u1 : Value} {v0 v1 : V}
theorem ce_start (S : CeS scope par) (hd : A.handled = none) (e0 : Env0 P w K mg base A outer s H) (hcc : ∃ oc od osl, K.lookup cc = some ⟨oc, od, .cell (some (.ref D)), osl⟩) (r0 : RelV v0 u0) (r1 : RelV v1 u1) {h1 : Heap} {tk : Nat}
    (hns : h1.Ns s.heap.objs.size fun x => ([(("self" : Str), u0), (par, u1)].reverse).lookup x) (kp : ∀ b o, s.heap.get? b = some o → h1.get? b = some o) :
    Inv (ceCx P w K mg base par q scope f cdv cc A outer s H) [] [some v0, some v1] H { s with heap := h1, toks := tk } := by
  obtain ⟨oc, od, osl, hcc⟩ := hcc
  have hbase : base.get? cc = some ⟨oc, od, .cell (some (.ref D)), osl⟩ := e0.mod.kin _ _ hcc
  obtain ⟨hs, hn⟩ := e0.bs _ _ hbase
  have cells : ∀ y c, (ceEnv q scope s.heap.objs.size f cdv cc).cells.lookup y = some c → y = "__class__" ∧ c = cc := fun y c e => by
    have e : ([(("__class__" : Str), cc)] : List (Str × Addr)).lookup y = some c := e
    rw [List.lookup_cons] at e
    by_cases z : y = "__class__"
    · subst z
      simp at e
      exact ⟨rfl, e.symm⟩
    · have zb : (y == ("__class__" : Str)) = false := by simp [z]
      rw [zb] at e
      cases e
  have noA : ∀ b : Addr, b ∉ (ceCx P w K mg base par q scope f cdv cc A outer s H).ex := fun b z => absurd (show b ∈ ([] : List Addr) from z) (by simp)
  refine ⟨⟨e0.mod, S.kind, rfl, rfl, Nat.le_refl _, fun y z c e1 e2 => (cells y c e1).1.trans (cells z c e2).1.symm, fun y hy => ?_, fun y c z _ => absurd (show false = true from z) (by simp), fun _ => hd, Around.frames_deeper e0.frames, .inr ⟨rfl, rfl⟩, fun b z => absurd z (noA b), e0.bs, e0.bsz, fun b _ _ => noA b,
      fun b z => absurd z (noA b), e0.funs, e0.frf⟩,
    rfl, e0.bare, Un.kept kp, ⟨_, hns, fun i x v e1 e2 e3 => ?_⟩, fun y c e => ?_, e0.hok.fresh (Nat.le_refl _), fun y c e => ?_, fun p hp => absurd (show p ∈ ([] : List (Addr × Obj)) ++ [] from hp) (by simp), e0.hok.kept kp, rfl⟩
  · have hy : scope.names.lookup y = some .cell ∨ scope.names.lookup y = some .free := hy
    rcases hy with hy | hy
    · exact absurd rfl (S.nocell _ (PySem.mem_of_lookup hy))
    · have e : y = "__class__" := S.free _ (PySem.mem_of_lookup hy) rfl
      subst e
      exact ⟨cc, by simp [ceCx, ceEnv, PySem.W.ksEnv, PySem.W.envX]⟩
  · match i, e1, e2 with
    | 0, e1, e2 =>
      cases e1
      cases e2
      refine ⟨u0, r0, .inl ⟨S.sf, ?_⟩⟩
      have zb : (("self" : Str) == par) = false := by simp; exact fun z => S.ne z.symm
      simp [List.lookup_cons, zb]
    | 1, e1, e2 =>
      cases e1
      cases e2
      refine ⟨u1, r1, .inl ⟨S.pr, ?_⟩⟩
      simp [List.lookup_cons]
    | i + 2, e1, e2 => cases e1
  · obtain ⟨rfl, rfl⟩ := cells y c e
    exact ⟨_, _, kp _ _ hs, rfl⟩
  · obtain ⟨rfl, rfl⟩ := cells y c e
    exact hn
end
end Bd
/-! BfK: super().__init__('..') in it. -/
namespace Bd
open PySem L2
/-- what the written part says of such a class and its __init__ -/
structure CeF (P : Program) (K : PySem.W.Frag) (mg : Str → Option Value) (C cc cda : Addr) : Prop where
  cell : ∃ oc od osl, K.lookup cc = some ⟨oc, od, .cell (some (.ref C)), osl⟩
  sub : PySem.W.mroIn K C (.ref C) = some true
  sup : mg "super" = none
  top : (P.main.scope.names.lookup ("super" : Str)).isSome = false
  code : ∃ oc od vs osl file tf, K.lookup cda = some ⟨oc, od, .fields vs, osl⟩ ∧ vs[2]? = some (.str file tf) ∧ ((P.main.file : Str) == file) = true
  ho : PySem.W.nsIn K cStatics "thirdparty.any" = some none
  ox : ∃ B ni ii tl, OexG K C B ni ii tl ∧ PySem.W.ks_superIn K C C "__init__" = some (some (.builtin ii)) ∧ PySem.W.subIn K (.ref C) (.type B) = some true
section
variable {P : Program} {w : World} {K : PySem.W.Frag} {mg : Str → Option Value} {base : Heap} {par q msg : Str} {scope : Scope} {f cc cda C a : Addr} {A : Around} {outer : List Env} {s s1 : Shared} {H H1 : Hp} {σ : L2.St}
variable {params : Arguments} {body : List Stmt} {dV kV doc pm ct oc : Value} {an od : Option Addr} {osl : Array (Option Value)} {ar : Arg}
theorem ce_super {p0 p1 p2 p3 p4 p5 : Pos} {j : Nat} {pl : Env → Sem Bool} (he : ∀ env : Env, eval (.Call (.Attribute (.Call (.Name "super" p0) [] [] p1) "__init__" p2) [.Constant (.str msg) j p3] [] p4) env = (do
      let ov ← attributeBase (.Call (.Name "super" p0) [] [] p1) "__init__" env (eval (.Call (.Name "super" p0) [] [] p1) env)
      standAt p2.atName
      let (f, first) ← holding [ov] (getMethod ov "__init__" (pl env))
      callWith p4 f first (backTo p4 (starEach [.Constant (.str msg) j p3] env)) [])) (S : CeS scope par) (F0 : CeF P K mg C cc cda)
    (lk : K.lookup f = some ⟨oc, od, .func (PySem.W.ksFn "__init__" q params body scope dV kV doc pm an (.ref cda) ct cc), osl⟩) (hp : (params.posonlyargs ++ params.args).head? = some ar) (har : ar.arg = "self")
    (I : Inv (ceCx P w K mg base par q scope f (.ref cda) cc A outer s H) [] σ H1 s1) (hs : σ[0]? = some (some (.ref a))) (ea : H1 a = some (exo a C none)) {Q : Flow → Shared → Prop} {E : Value → Shared → Prop} (hq : ∀ s2, Inv (ceCx P w K mg base par q scope f (.ref cda) cc A outer s H) [] σ H1 s2 → Q .next s2) :
    wpAt (model P w) (A.deeper (ceEnv q scope s.heap.objs.size f (.ref cda) cc)) (.func body (ceEnv q scope s.heap.objs.size f (.ref cda) cc)) (exec (.Expr (.Call (.Attribute (.Call (.Name "super" p0) [] [] p1) "__init__" p2) [.Constant (.str msg) j p3] [] p4) p5) (ceEnv q scope s.heap.objs.size f (.ref cda) cc)) Q E s1 := by
  have X := I.kIn
  obtain ⟨c1, c2, vs, c3, file, tf, hcode, hvs, hfile⟩ := F0.code
  obtain ⟨d1, d2, d3, hcell⟩ := F0.cell
  obtain ⟨B, ni, ii, tl, T, hm2, hB⟩ := F0.ox
  obtain ⟨nm, qn, N0, bs, bm, sn, sub, ab, col, dd, k0, k1, k2, k3, k5, hC, hbm⟩ := T.cls
  obtain ⟨t1, hx⟩ := exo_at I.hok ea
  obtain ⟨mb, b1, b2⟩ := I.mod.blt
  obtain ⟨m, hn, hl⟩ := I.loc
  obtain ⟨u, ru, look⟩ := hl 0 "self" (.ref a) rfl hs (.inl S.sf)
  obtain rfl : u = Value.ref a := ru
  have hself : m "self" = some (Value.ref a) := by
    rcases look with ⟨_, z⟩ | ⟨z, _⟩
    · exact z
    · have z : scope.names.lookup ("self" : Str) = some .cell ∨ scope.names.lookup ("self" : Str) = some .free := z
      rw [S.sf] at z
      rcases z with z | z <;> cases z
  have hcl : PySem.W.clsIn K C = some { name := nm, bases := bs, mro := .ref C :: bm, ns := N0, qualname := qn, hasDict := true, slotNames := sn, subclasses := sub, abstract := ab, collection := col, hasDel := false } := by
    unfold PySem.W.clsIn
    rw [hC] <;> rfl
  have hi : interactive (ceEnv q scope s.heap.objs.size f (.ref cda) cc) = false := by
    show (scope.kind == .module && _) = false
    rw [S.kind]
    rfl
  refine ks_wpAt_Expr_any (hs := by rfl) (hi := hi) ?_
  refine ks_wpAt_MethodCall (pl := pl (ceEnv q scope s.heap.objs.size f (.ref cda) cc)) ?_ (he _)
  refine ((ks_wpAt_super_base S.su S.cl (by decide) rfl (X _ _ lk) rfl hp rfl (X _ _ hcode) rfl hvs hfile F0.top ?_))
  refine PySem.W.ks_loadName_global S.kind S.su (Calls.loadGlobal_builtin (mg := mg) (mb := mb) (I.mod.glob.keeps I.bk) F0.sup (b1.keeps I.bk) ((b2 "super" (by decide)).trans (by decide +kernel)) ⟨rfl, ?_⟩)
  refine wpAny_loadName_free S.kind S.cl rfl ⟨_, X _ _ hcell, rfl⟩ ?_
  rw [har]
  refine wpAny_loadName_local S.kind S.sf hn hself ?_
  refine ks_wpAny_isType_cls (X _ _ hC) rfl ⟨rfl, ?_⟩
  obtain ⟨hh, g, d, t, os⟩ := s1
  refine ks_wpAny_call_super (X _ _ hC) rfl hx rfl (fun c z => by cases z) (PySem.W.looks_mroIn X F0.sub) (fun h' e k => ?_)
  have I1 : Inv (ceCx P w K mg base par q scope f (.ref cda) cc A outer s H) [] σ H1 ⟨h', g, d, t, os⟩ := I.kept (t' := t) k
  have J1 : PySem.W.InstAt h' a { cls := .ref C, dict := none, data := .fields #[.ref t1, .none, .none, .none, .bool false, .none] } C none := ⟨k _ _ hx, rfl, rfl, trivial⟩
  unfold PySem.W.ks_superIn at hm2
  rw [hcl] at hm2
  refine PySem.W.kxs_getMethod T.bf.kx e (PySem.W.looks_opaque I1.kIn F0.ho) (l₀ := .ref C :: bm) (fun A Q E s k2 q => wpAny_bind ((PySem.W.looks_clsIn I1.kIn hcl) A _ E s k2 (wpAny_pure q))) rfl I1.kIn hm2
    (J1.type.andThen (PySem.W.looks_subIn I1.kIn hB)) (PySem.W.ks_ne I1.kIn J1 hcl) (by decide) ?_
  have k3 : ∀ b o, h'.get? b = some o → (h'.push (PySem.W.kxs_mw ii a)).get? b = some o := fun b o z => Heap.get?_push_of_some _ z
  have I2 : Inv (ceCx P w K mg base par q scope f (.ref cda) cc A outer s H) [] σ H1 ⟨h'.push (PySem.W.kxs_mw ii a), g, d, t + 1, os⟩ := I1.kept (t' := t + 1) k3
  have hu : (h'.push (PySem.W.kxs_mw ii a)).get? h'.objs.size = some (PySem.W.kxs_mw ii a) := Heap.get?_push_at rfl rfl
  refine PySem.W.kxs_callWith (i := ii) (x := a) rfl (Calls.evalArgs_plain (Calls.spliced_cons (Calls.Constant_str (x := msg) (k := j) (pos := p3) (Calls.spliced_nil ⟨hu, ?_⟩))))
  have I3 := I2.tok (t + 1 + 1)
  refine mw_call T.bf.fb (I3.kIn _ _ hC) (k3 _ _ (k _ _ hx)) hu (by show 1 ≤ sizeLine; decide) (fun h2 t2 k4 e4 => hq _ ?_)
  have J := I3.write (t' := t + 1 + 1) (x := a) (e := a) (o := exo a C none) (by rw [ea]; exact True.intro) (.inl rfl) k4 ⟨_, e4⟩ (exo_ok e4)
  have eu : upd H1 a (exo a C none) = H1 := by
    funext b
    by_cases hb : b = a
    · rw [hb, upd_same, ea]
    · rw [upd_ne hb]
  rw [eu] at J
  exact J
end
end Bd
/-! BfL: the promise of such an __init__. -/
namespace Bd
open PySem L2
def spExc (C : Addr) (fld : Str) (tag : Str) : Sp := fun vs H Q _ => ∃ a v, vs = [.ref a, v] ∧ H a = some (exo a C none) ∧
  ∀ d, H d = none → d ≠ a → Q .non (upd (upd (upd H d (exd d [(fld, v)])) a (exo a C (some d))) d (exd d [("tag", .str tag), (fld, v)]))
section
variable {P : Program} {w : World} {K : PySem.W.Frag} {mg : Str → Option Value} {base : Heap} {par q msg fld tag : Str} {scope : Scope} {f cc cda C : Addr}
variable {params : Arguments} {dV kV doc pm ct oc : Value} {an od : Option Addr} {osl : Array (Option Value)} {ar : Arg}
theorem fn_exc {p0 p1 p2 p3 p4 p5 p6 p7 p8 p9 p10 p11 p12 p13 : Pos} {j j2 : Nat} {pl : Env → Sem Bool} {body : List Stmt}
    (hbd : body = [.Expr (.Call (.Attribute (.Call (.Name "super" p0) [] [] p1) "__init__" p2) [.Constant (.str msg) j p3] [] p4) p5, .Assign [.Attribute (.Name "self" p6) fld p7] (.Name par p8) p9, .Assign [.Attribute (.Name "self" p10) "tag" p11] (.Constant (.str tag) j2 p12) p13])
    (he : ∀ env : Env, eval (.Call (.Attribute (.Call (.Name "super" p0) [] [] p1) "__init__" p2) [.Constant (.str msg) j p3] [] p4) env = (do
      let ov ← attributeBase (.Call (.Name "super" p0) [] [] p1) "__init__" env (eval (.Call (.Name "super" p0) [] [] p1) env)
      standAt p2.atName
      let (f, first) ← holding [ov] (getMethod ov "__init__" (pl env))
      callWith p4 f first (backTo p4 (starEach [.Constant (.str msg) j p3] env)) []))
    (S : CeS scope par) (F0 : CeF P K mg C cc cda) (hpd : (par == ("__debug__" : Str)) = false) (hpc : (par == ("__classdict__" : Str)) = false)
    (lk : K.lookup f = some ⟨oc, od, .func (PySem.W.ksFn "__init__" q params body scope dV kV doc pm an (.ref cda) ct cc), osl⟩) (hcd : PySem.W.codeIn K (.ref cda) q = true) (hp : (params.posonlyargs ++ params.args).head? = some ar) (har : ar.arg = "self")
    (n1 : PySem.W.findIn K (.ref C) fld = some none) (n2 : PySem.W.findIn K (.ref C) "tag" = some none) :
    FnOk P w K mg base CX0 1 f (PySem.W.ksFn "__init__" q params body scope dV kV doc pm an (.ref cda) ct cc) ["self", par] (spExc C fld tag) := by
  have oxa : OexA K C := let ⟨B, ni, ii, tl, T, _⟩ := F0.ox; ⟨B, ni, ii, tl, T⟩
  refine ⟨fun vs H Q E h => ?_, fun A outer s H args us vs Q E hr e0 hb rv hsp => ?_⟩
  · obtain ⟨a, v, rfl, _⟩ := h
    rfl
  · obtain ⟨a, v, rfl, ea, hq⟩ := hsp
    cases rv with
    | @cons _ u0 _ us' r0 rr =>
      cases rr with
      | @cons _ u1 _ us'' r1 rr2 =>
        cases rr2
        obtain rfl : u0 = Value.ref a := r0
        have KX : K.In s.heap := e0.mod.kin.keeps fun b o e => (e0.bs b o e).1
        have lim : s.heap.NoLimit := e0.mod.nolimit.keeps fun b o e => (e0.bs b o e).1
        refine ks_codeAny_call_defAt (body := body) (binds := [(("self" : Str), Value.ref a), (par, u1)]) (by have := hr.dp; omega) (KX _ _ lk) rfl lim (PySem.W.codeRec_of KX hcd) rfl hb S.nocell (fun x hx => ?_) (fun h1 hns kp => ?_) S.co S.gen S.kind
        · rcases List.mem_cons.mp hx with e | hx
          · rw [e]; exact S.sf
          · rw [List.mem_singleton.mp hx]; exact S.pr
        · have I := ce_start (P := P) (w := w) (q := q) (f := f) (cdv := .ref cda) S hr.hd e0 (F0.cell) (show RelV (.ref a) (.ref a) from rfl) r1 (tk := s.toks + [(("self" : Str), Value.ref a), (par, u1)].length) hns kp
          subst hbd
          refine ks_wpAt_execs_cons (ce_super he S F0 lk hp har I rfl ea fun s2 I2 => ?_)
          refine wpAt_of_wpAny ?_
          have vs0 : PE (ceCx P w K mg base par q scope f (.ref cda) cc A outer s H) (.Name "self" p6) (tVar 0) := pe_var rfl (.inl S.sf)
          have vs2 : PE (ceCx P w K mg base par q scope f (.ref cda) cc A outer s H) (.Name "self" p10) (tVar 0) := pe_var rfl (.inl S.sf)
          have vs1 : PE (ceCx P w K mg base par q scope f (.ref cda) cc A outer s H) (.Name par p8) (tVar 1) := pe_var rfl (.inl S.pr) hpd hpc
          have ps := pss_cons (ps_ostG (p' := p7) (pos := p9) (f := fld) vs0 vs1) (pss_one (ps_ostG (p' := p11) (pos := p13) (f := "tag") vs2 (pe_str (x := tag) (j := j2) (pos := p12))))
          refine wpAny_mono (ps.run [] s2 _ H { nx := fun _ H' => Q .non H', rt := fun _ _ => False, bk := fun _ _ => False, ct := fun _ _ => False } I2 ?_) (fun fl s' hs => ?_) (fun e s' z => False.elim z)
          · refine ⟨v, rfl, .ref a, rfl, a, C, rfl, oxa, n1, .inl ⟨ea, fun d hd hda => ?_⟩⟩
            have hca : ∀ {x : HO}, (upd (upd H d x) a (exo a C (some d))) a = some (exo a C (some d)) := upd_same
            refine ⟨.ref a, rfl, a, C, rfl, oxa, n2, .inr ⟨d, [(fld, v)], upd_same, ?_, by simp, hq d hd hda⟩⟩
            rw [upd_ne hda, upd_same]
          · cases fl with
            | next =>
              obtain ⟨σ', H', J, q'⟩ := hs
              exact ⟨.non, H', J.os, J.bare, J.base, J.hok, rfl, q'⟩
            | ret u => obtain ⟨_, _, _, _, _, z⟩ := hs; exact z.elim
            | brk => obtain ⟨_, _, _, z⟩ := hs; exact z.elim
            | cont => obtain ⟨_, _, _, z⟩ := hs; exact z.elim
end
end Bd
/-! BfM: exceptions as data: promises with exceptions, raise, calls. -/
namespace Bd
open PySem L2
abbrev XD := Str → List Str → List D → Cs → Prop
/-- what is wished of an exception that leaves the frame -/
def EXK (K : PySem.W.Frag) (F : Fr) (x : XD) : XK := fun cls d H' => ∃ (c : Str) (ns : List Str) (dd : Addr) (vs : List V) (ds : List D) (os : Os) (cs : Cs), cls = .ref (He.ga K c) ∧ d = some dd ∧ (F.at [] os).v H' dd = some (.xd (ns.zip vs)) ∧ ns.length = vs.length ∧
  Stt K F [] os cs H' ∧ RA K (F.at [] os) H' vs ds ∧ x c ns ds cs
abbrev AX := List D → (D → Prop) → (Str → List Str → List D → Prop) → Prop
def spX (K : PySem.W.Frag) (C : WC) (A : AX) : Sp := fun vs H Q E => ∃ (w : Wd) (ds : List D) (P : D → Prop) (Xc : Str → List Str → List D → Prop), C w ∧ w.I H ∧ RA K w H vs ds ∧ A ds P Xc ∧ (∀ v H' d, Step w H H' → R K w H' v d → P d → Q v H') ∧
  ∀ H' c ns dd vs' ds', Step w H H' → w.v H' dd = some (.xd (ns.zip vs')) → ns.length = vs'.length → RA K w H' vs' ds' → Xc c ns ds' → E (.ref (He.ga K c)) (some dd) H'
@[simp] abbrev aCallX (A : AX) (dds : List D) (x : XD) (a : ATA) : ATE := fun Γ c P => a Γ c fun ds c1 => A (ds ++ dds) (fun d => P d c1) fun cn ns es => x cn ns es c1
@[simp] abbrev aRaise (cn fld tag : Str) (x : XD) (a : ATE) : ATS := fun _ Γ c => a Γ c fun v c1 => x cn ["tag", fld] [.str tag, v] c1
section
variable {K : PySem.W.Frag} {F : Fr}
theorem Stt.nopv {pv os : Os} {cs : Cs} {H : Hp} (s : Stt K F pv os cs H) : Ext ((F.at pv os).v H) ((F.at [] os).v H) ∧ Stt K F [] os cs H := by
  have e : Ext ((F.at pv os).v H) ((F.at [] os).v H) := ext_of (fun a m => .inl (by
    obtain ⟨q, hq, z⟩ := List.mem_map.mp m
    exact z ▸ List.mem_map_of_mem (f := fun x : Addr × HO => x.1) (List.mem_append_right pv hq))) fun a u _ q => q
  refine ⟨e, s.to e (at_inv.mp s.inv).1 (fun q hq => (at_inv.mp s.inv).2 q (List.mem_append_right _ hq)) (fun q hq => .inl (List.mem_map_of_mem (f := fun x : Addr × HO => x.1) (List.mem_append_right pv hq))) ?_ (s.cel.mono (w := F.at pv os) (w' := F.at [] os) rfl e)⟩
  have nd := s.nd
  rw [List.map_append, List.nodup_append] at nd
  exact nd.2.1
theorem snd_callX {C' : WC} {A : AX} {dvs : List V} {dds : List D} {x : XD} {t : TA} {a : ATA} (hC : FC K F C') (hd : ∀ (w : Wd) H, RA K w H dvs dds) (h : SndA K F t a) : SndE K F (tCall (spX K C' A) dvs (EXK K F x) t) (aCallX A dds x a) := by
  intro gs pv os cs σ H Γ P Q r0 ha hq
  refine h gs pv os cs σ H Γ _ _ r0 ha fun vs H1 ds os1 c1 r1 ra p1 => ?_
  refine ⟨F.at pv os1, ds ++ dds, _, _, hC _ _ _ _ r1.st, r1.st.inv, ra.append (hd _ H1), p1, fun v H' d s r p => hq v H' d os1 c1 ((r1.step s).gcons r) p, fun H' c ns dd vs' ds' s hv hl rv hx => ?_⟩
  obtain ⟨e, s2⟩ := (r1.st.step s).nopv
  exact ⟨c, ns, dd, vs', ds', os1, c1, rfl, rfl, e _ _ hv, hl, s2, RwA.mono e rv, hx⟩
theorem snd_raise {cn fld tag : Str} {x : XD} {te : TE} {ae : ATE} (h : SndE K F te ae) :
    SndS K F (fun _ σ H => tMkO (He.ga K cn) (spExc (He.ga K cn) fld tag) [] (tCons te tNil) σ H fun cls d H' => EXK K F x cls d H') (aRaise cn fld tag x ae) := by
  intro gs os cs σ H Γ A D' r0 ha hq
  refine h gs [] os cs σ H Γ _ _ r0 ha fun v H1 d os1 c1 r1 p1 => ?_
  refine ⟨by simp, fun a hn => ⟨a, v, rfl, upd_same, fun dd hd hda => ⟨rfl, dd, [("tag", .str tag), (fld, v)], ?_, upd_same, ?_, ?_⟩⟩⟩
  · rw [upd_ne (Ne.symm hda), upd_same]
  · rw [upd_ne hda] at hd
    exact hd
  · rw [upd_ne hda] at hd
    have eH : upd (L2.del (upd (upd (upd (upd H1 a (exo a (He.ga K cn) none)) dd (exd dd [(fld, v)])) a (exo a (He.ga K cn) (some dd))) dd (exd dd [("tag", .str tag), (fld, v)])) a) dd (.xd [("tag", .str tag), (fld, v)]) = upd H1 dd (.xd [("tag", .str tag), (fld, v)]) := by
      funext b
      by_cases hb : b = dd
      · rw [hb, upd_same, upd_same]
      · rw [upd_ne hb, upd_ne hb]
        by_cases hba : b = a
        · rw [hba, del_same, hn]
        · rw [del_ne hba, upd_ne hb, upd_ne hba, upd_ne hb, upd_ne hba]
    rw [eH]
    have st := Step.new (o := .xd [("tag", .str tag), (fld, v)]) r1.st.inv hd
    exact ⟨cn, ["tag", fld], dd, [.str tag, v], [.str tag, d], os1, c1, rfl, rfl, v_new r1.st.inv hd, rfl, r1.st.step st, .cons (.str _) (.cons (st.r r1.head) .nil), p1⟩
end
/-- a def that may raise -/
structure FncX (P : Program) (w : World) (K : PySem.W.Frag) (mg : Str → Option Value) (base : Heap) (x : Str) (k : Nat) (ps : List Str) (C : WC) (Ab : AX) : Prop where
  ex : ∃ fd, FnOk P w K mg base (L2.CX P w) k (He.ga K x) fd ps (spX K C Ab) ∧ Binds K fd ps []
  m : mg x = some (.ref (He.ga K x))
  k : PySem.W.keepIn K (.ref (He.ga K x)) = true
/-- an exception class -/
structure FncE (P : Program) (w : World) (K : PySem.W.Frag) (mg : Str → Option Value) (base : Heap) (cn fld tag : Str) : Prop where
  ox : OexA K (He.ga K cn)
  ex : ∃ fI fd ps, PySem.W.findIn K (.ref (He.ga K cn)) "__init__" = some (some (.ref fI)) ∧ PySem.W.typeIn K (.ref fI) = some (.type "function") ∧ FnOk P w K mg base CX0 1 fI fd ps (spExc (He.ga K cn) fld tag) ∧ Binds K fd ps []
  m : mg cn = some (.ref (He.ga K cn))
abbrev TakesX (X : Cx) (Kf : PySem.W.Frag) (Fm : Fr) (x : XD) : Prop := Takes X fun cls d _ H => EXK Kf Fm x cls d H
section
variable {X : Cx} {Fm : Fr} {C' : WC} {e : Expr} {es : List Expr} {pos p rpos : Pos} {te : TE} {ae : ATE} {t : TA} {ag : ATA} {x cn fld tag : Str} {k j : Nat} {ps : List Str} {A : AX} {Kf : PySem.W.Frag} {xd : XD}
theorem je_fnx (hK : X.K = Kf) (tk : TakesX X Kf Fm xd) (F : FncX X.prog X.w Kf X.mg X.base x k ps C' A) (hr : Room j X.A) (hk : k ≤ j) (hC : FC Kf Fm C') (ha : JA X Fm (e :: es) t ag) (hg : Gl X x := by rfl) (hdb : (x == ("__debug__" : Str)) = false := by decide) (he : starEach (e :: es) X.env = (false, eval e X.env) :: starEach es X.env := by rfl) (hpl : (backTo pos (starEach es X.env)).any (·.1) = false := by rfl) :
    JE X Fm (.Call (.Name x p) (e :: es) [] pos) (tCall (spX Kf C' A) [] (EXK Kf Fm xd) t) (aCallX A [] xd ag) := by
  subst hK
  obtain ⟨fd, F1, b⟩ := F.ex
  exact ⟨pe_call F1 (hr.mono hk) hg F.m F.k b .nil (passes_call tk fun _ _ _ _ h => h) ha.p hdb he hpl, snd_callX hC (fun _ _ => .nil) ha.s⟩
theorem js_raise (hK : X.K = Kf) (hc : X.calm = true) (tk : TakesX X Kf Fm xd) (F : FncE X.prog X.w Kf X.mg X.base cn fld tag) (hr : Room j X.A) (hk : 2 ≤ j) (h : JE X Fm e te ae) (hg : Gl X cn := by rfl)
    (hdb : (cn == ("__debug__" : Str)) = false := by decide) (he : starEach [e] X.env = (false, eval e X.env) :: starEach [] X.env := by rfl) (hpl : (backTo pos (starEach [] X.env)).any (·.1) = false := by rfl) :
    JS X Fm (.Raise (some (.Call (.Name cn p) [e] [] pos)) none rpos) (fun _ σ H => tMkO (He.ga Kf cn) (spExc (He.ga Kf cn) fld tag) [] (tCons te tNil) σ H fun cls d H' => EXK Kf Fm xd cls d H') (aRaise cn fld tag xd ae) := by
  subst hK
  obtain ⟨fI, fd, ps, iC, tI, F1, b⟩ := F.ex
  exact ⟨ps_raise hc tk (pmk_oexG F.ox iC tI F1 (hr.mono hk) b .nil pass0 hg F.m (pa_cons (hs := he) h.p pa_nil) hdb he hpl), snd_raise h.s⟩
end
section
variable {P : Program} {w : World} {K : PySem.W.Frag} {mg : Str → Option Value} {base : Heap} {x qual : Str} {st : Stmt} {dvs : List V} {f : Addr} {fd : FuncData} {N ps : List Str} {k : Nat} {C : WC}
theorem fn_ruleX {Ab : AX} {a : XD → ATS}
    (F : FnS K x qual st dvs f fd) (S : FnScope N ps (defScope st)) (hlen : ∀ ds P Xc, Ab ds P Xc → ds.length = ps.length) (hA : ∀ ds P Xc, Ab ds P Xc → a (fun c ns es _ => Xc c ns es) { nx := fun _ _ => P .non, rt := fun d _ => P d } (startG N.length ds) [])
    (hJ : ∀ (Fm : Fr) (xd : XD) (cdv : Value) (A : Around) (outer : List Env) (s : Shared) (H : Hp) (E : XK), TakesX (cxOf (L2.CX P w) P w K mg base N qual (defScope st) f cdv A outer s H E) K Fm xd → C Fm.w → Room k (A.deeper (PyProof.Rows.envOfC qual (defScope st) s.heap.objs.size f cdv)) →
      ∃ t, JSs (cxOf (L2.CX P w) P w K mg base N qual (defScope st) f cdv A outer s H E) Fm (defBody st) t (a xd)) :
    FnOk P w K mg base (L2.CX P w) (k + 1) f fd ps (spX K C Ab) := by
  refine F.ok S (fun vs H Q E h => ?_) (fun cdv A outer s H vs Q E hr h => ?_)
  · obtain ⟨_, ds, _, _, _, _, r, ha, _⟩ := h
    rw [r.length]
    exact hlen _ _ _ ha
  · obtain ⟨wd, ds, P', Xc, hc, hI, r, ha, hq, hx⟩ := h
    have out : ∀ {os : Os} {cs : Cs} {H' : Hp}, Stt K ⟨wd, [], H⟩ [] os cs H' → Step wd H H' ∧ Ext ((Fr.at ⟨wd, [], H⟩ [] os).v H') (wd.v H') := fun {os cs H'} s => by
      obtain ⟨e, _⟩ := s.drop os.length
      rw [List.drop_length] at e
      exact ⟨⟨fun a o q => e a o (s.ext a o q), (at_inv.mp s.inv).1⟩, e⟩
    have tk : TakesX (cxOf (L2.CX P w) P w K mg base N qual (defScope st) f cdv A outer s H E) K ⟨wd, [], H⟩ (fun c ns es _ => Xc c ns es) := by
      refine (takes_of (X := cxOf (L2.CX P w) P w K mg base N qual (defScope st) f cdv A outer s H E) (E := E) rfl rfl rfl rfl).imp ?_
      rintro cls d σ H' ⟨c, ns, dd, vs', ds', os, cs, rfl, rfl, hv, hl, s2, rv, px⟩
      obtain ⟨s3, e⟩ := out s2
      exact hx H' c ns dd vs' ds' s3 (e _ _ hv) hl (RwA.mono e rv) px
    obtain ⟨t, j⟩ := hJ ⟨wd, [], H⟩ _ cdv A outer s H E tk hc hr
    refine ⟨t, j.p, ?_⟩
    refine j.s [] [] [] _ H _ _ _ (start_rel (start_stt hI) r) (hA ds P' Xc ha) ⟨fun os cs σ H' Γ r' p => hq .non H' .non (out r'.st).1 .non p, fun os cs σ H' Γ r' p => p.elim, fun os cs σ H' Γ r' p => p.elim, fun v H' d os cs s rv p => ?_⟩
    exact hq v H' d (out s).1 (Rw.mono (out s).2 rv) p
end
end Bd
/-! BfN: // by any int but 0 below 2 ^ 9000. -/
namespace Bd
open PySem L2
def CDivM (_ j : Int) : Prop := j ≠ 0 ∧ j.natAbs.log2 < 9000
@[simp] def wDivM : D → D → (D → Prop) → Prop := wInt CDivM fun i j => .int (i.fdiv j)
section
variable {X : Cx}
theorem op_fdivM : OpR X (binaryOp .FloorDiv) (rI CDivM fun i j => .int (i.fdiv j)) := opI fun i j _ _ _ _ _ hc q => PyProof.Rows.floordiv_int hc.1 q (.inl (PyProof.noPylong_of_log2 hc.2))
theorem jo_divM : JO X (binaryOp .FloorDiv) (rI CDivM fun i j => .int (i.fdiv j)) wDivM := ⟨op_fdivM, wI1 (fun _ _ h => h) fun _ _ _ _ _ => .int _⟩
end
end Bd
/-! BfO: methods that may raise; the rules for defs that may raise. -/
namespace Bd
open PySem L2
structure FncMX (P : Program) (w : World) (K : PySem.W.Frag) (mg : Str → Option Value) (base : Heap) (cn m : Str) (k : Nat) (ps : List Str) (C : WC) (Ab : AX) : Prop where
  ex : ∃ fd, FnOk P w K mg base (L2.CX P w) k (ma' K cn m) fd ps (spX K C Ab) ∧ Binds K fd ps []
  mt : Meth K (He.ga K cn) m (ma' K cn m)
  cl : Cls K (He.ga K cn)
@[simp] abbrev aMethX (cn m : Str) (A : AX) (x : XD) (o : ATE) (a : ATA) : ATE := fun Γ c P => o Γ c fun v c1 => match v with
  | .obj c' ns ds => (c' = cn ∧ (ns.zip ds).lookup m = none) ∧ a Γ c1 fun xs c2 => A (.obj c' ns ds :: xs) (fun d => P d c2) fun cn ns es => x cn ns es c2
  | _ => False
theorem snd_methX {K : PySem.W.Frag} {F : Fr} {C' : WC} {cn m : Str} {A : AX} {x : XD} {to : TE} {o : ATE} {t : TA} {a : ATA} (hC : FC K F C') (h1 : SndE K F to o) (h2 : SndA K F t a) : SndE K F (tMeth (He.ga K cn) m (spX K C' A) [] (EXK K F x) to t) (aMethX cn m A x o a) := by
  intro gs pv os cs σ H Γ P Q r0 ha hq
  refine h1 gs pv os cs σ H Γ _ _ r0 ha fun v H1 d os1 c1 r1 p1 => ?_
  split at p1
  · obtain ⟨⟨rfl, hl⟩, p1⟩ := p1
    obtain ⟨b, dx, xs, rfl, g1, g2, g3⟩ := obj_inj r1.head
    refine ⟨b, dx, _, rfl, g1, zip_none g3 hl, ?_⟩
    refine h2 _ pv os1 c1 σ H1 Γ _ _ r1 p1 fun vs H2 es os2 c2 r2 ra p2 => ?_
    rw [List.append_nil]
    refine ⟨F.at pv os2, _, _, _, hC _ _ _ _ r2.st, r2.st.inv, .cons r2.head ra, p2, fun v' H' d' s r p => hq v' H' d' os2 c2 ((r2.tail.step s).gcons r) p, fun H' c ns dd vs' ds' s hv hl rv hx => ?_⟩
    obtain ⟨e, s2⟩ := (r2.st.step s).nopv
    exact ⟨c, ns, dd, vs', ds', os2, c2, rfl, rfl, e _ _ hv, hl, s2, RwA.mono e rv, hx⟩
  · exact p1.elim
section
variable {X : Cx} {Fm : Fr} {C' : WC} {e o : Expr} {es : List Expr} {pos apos : Pos} {te to : TE} {ae ao : ATE} {t : TA} {ag : ATA} {cn m : Str} {k j : Nat} {ps : List Str} {A : AX} {Kf : PySem.W.Frag} {xd : XD}
theorem je_methX {pl : Sem Bool} (hK : X.K = Kf) (tk : TakesX X Kf Fm xd) (F : FncMX X.prog X.w Kf X.mg X.base cn m k ps C' A) (hr : Room j X.A) (hk : k ≤ j) (hC : FC Kf Fm C') (ho : JE X Fm o to ao) (ha : JA X Fm (e :: es) t ag)
    (hst : starEach (e :: es) X.env = (false, eval e X.env) :: starEach es X.env := by rfl) (hpl : (backTo pos (starEach es X.env)).any (·.1) = false := by rfl)
    (ht : eval (.Call (.Attribute o m apos) (e :: es) [] pos) X.env = (do
      let ov ← eval o X.env
      standAt apos.atName
      let (f, first) ← holding [ov] (getMethod ov m pl)
      callWith pos f first (backTo pos (starEach (e :: es) X.env)) (backToKw pos (keywordEach [] X.env))) := by rfl) :
    JE X Fm (.Call (.Attribute o m apos) (e :: es) [] pos) (tMeth (He.ga Kf cn) m (spX Kf C' A) [] (EXK Kf Fm xd) to t) (aMethX cn m A xd ao ag) := by
  subst hK
  obtain ⟨fd, F1, b⟩ := F.ex
  exact ⟨pe_meth ho.p F.cl F.mt F1 (hr.mono hk) b .nil (passes_call tk fun _ _ _ _ h => h) ha.p hst hpl ht, snd_methX hC ho.s ha.s⟩
theorem je_methX0 {pl : Sem Bool} (hK : X.K = Kf) (tk : TakesX X Kf Fm xd) (F : FncMX X.prog X.w Kf X.mg X.base cn m k ps C' A) (hr : Room j X.A) (hk : k ≤ j) (hC : FC Kf Fm C') (ho : JE X Fm o to ao)
    (ht : eval (.Call (.Attribute o m apos) [] [] pos) X.env = (do
      let ov ← eval o X.env
      standAt apos.atName
      let (f, first) ← holding [ov] (getMethod ov m pl)
      callWith pos f first (backTo pos (starEach [] X.env)) (backToKw pos (keywordEach [] X.env))) := by rfl) :
    JE X Fm (.Call (.Attribute o m apos) [] [] pos) (tMeth (He.ga Kf cn) m (spX Kf C' A) [] (EXK Kf Fm xd) to tNil) (aMethX cn m A xd ao aNil) := by
  subst hK
  obtain ⟨fd, F1, b⟩ := F.ex
  exact ⟨pe_meth0 ho.p F.cl F.mt F1 (hr.mono hk) b .nil (passes_call tk fun _ _ _ _ h => h) ht, snd_methX hC ho.s snd_nil⟩
end
section
variable {P : Program} {w : World} {K : PySem.W.Frag} {mg : Str → Option Value} {base : Heap} {x cn m q : Str} {st : Stmt} {N ps : List Str} {k : Nat} {C : WC} {a : XD → ATS}
theorem fncX_mk {Ab : AX}
    (hF : ∃ fd, FnS K x x st [] (He.ga K x) fd) (hm : mg x = some (.ref (He.ga K x))) (S : FnScope N ps (defScope st))
    (hb : ∀ (kV doc pm : Value) (an : Option Addr) (cdv ct : Value) (us : List Value), us.length = ps.length → bindArgs (PySem.W.fnOf x x (defArgs st) (defBody st) (defScope st) .none kV doc pm an cdv ct) ⟨us, []⟩ = pure (ps.zip us))
    (hlen : ∀ ds P Xc, Ab ds P Xc → ds.length = ps.length) (hA : ∀ ds P Xc, Ab ds P Xc → a (fun c ns es _ => Xc c ns es) { nx := fun _ _ => P .non, rt := fun d _ => P d } (startG N.length ds) [])
    (hJ : ∀ (Fm : Fr) (xd : XD) (fd : FuncData) (cdv : Value) (A : Around) (outer : List Env) (s : Shared) (H : Hp) (E : XK), TakesX (cxOf (L2.CX P w) P w K mg base N x (defScope st) (He.ga K x) cdv A outer s H E) K Fm xd → C Fm.w → Room k (A.deeper (PyProof.Rows.envOfC x (defScope st) s.heap.objs.size (He.ga K x) cdv)) →
      ∃ t, JSs (cxOf (L2.CX P w) P w K mg base N x (defScope st) (He.ga K x) cdv A outer s H E) Fm (defBody st) t (a xd)) :
    FncX P w K mg base x (k + 1) ps C Ab := by
  obtain ⟨fd, F⟩ := hF
  exact ⟨⟨fd, fn_ruleX F S hlen hA (fun Fm xd => hJ Fm xd fd), F.bindsN hb⟩, hm, F.kp⟩
theorem fncMX_mk {Ab : AX}
    (hF : ∃ fd, FnS K m q st [] (ma' K cn m) fd) (mt : Meth K (He.ga K cn) m (ma' K cn m)) (cl : Cls K (He.ga K cn)) (S : FnScope N ps (defScope st))
    (hb : ∀ (kV doc pm : Value) (an : Option Addr) (cdv ct : Value) (us : List Value), us.length = ps.length → bindArgs (PySem.W.fnOf m q (defArgs st) (defBody st) (defScope st) .none kV doc pm an cdv ct) ⟨us, []⟩ = pure (ps.zip us))
    (hlen : ∀ ds P Xc, Ab ds P Xc → ds.length = ps.length) (hA : ∀ ds P Xc, Ab ds P Xc → a (fun c ns es _ => Xc c ns es) { nx := fun _ _ => P .non, rt := fun d _ => P d } (startG N.length ds) [])
    (hJ : ∀ (Fm : Fr) (xd : XD) (fd : FuncData) (cdv : Value) (A : Around) (outer : List Env) (s : Shared) (H : Hp) (E : XK), TakesX (cxOf (L2.CX P w) P w K mg base N q (defScope st) (ma' K cn m) cdv A outer s H E) K Fm xd → C Fm.w → Room k (A.deeper (PyProof.Rows.envOfC q (defScope st) s.heap.objs.size (ma' K cn m) cdv)) →
      ∃ t, JSs (cxOf (L2.CX P w) P w K mg base N q (defScope st) (ma' K cn m) cdv A outer s H E) Fm (defBody st) t (a xd)) :
    FncMX P w K mg base cn m (k + 1) ps C Ab := by
  obtain ⟨fd, F⟩ := hF
  exact ⟨⟨fd, fn_ruleX F S hlen hA (fun Fm xd => hJ Fm xd fd), F.bindsN hb⟩, mt, cl⟩
end
end Bd
/-! BfP: an __init__ that may raise. -/
namespace Bd
open PySem L2
abbrev AXS := List D → Cs → (D → Cs → Prop) → XD → Prop
def spSX (K : PySem.W.Frag) (C : WC) (A : AXS) : Sp := fun vs H Q E => ∃ (w : Wd) (os : Os) (cs : Cs) (ds : List D) (P : D → Cs → Prop) (Xc : XD), C w ∧ Stt K ⟨w, os, H⟩ [] os cs H ∧ RA K (Fr.at ⟨w, os, H⟩ [] os) H vs ds ∧ A ds cs P Xc ∧
  (∀ v H' d os' cs', Stt K ⟨w, os, H⟩ [] os' cs' H' → R K (Fr.at ⟨w, os, H⟩ [] os') H' v d → P d cs' → Q v H') ∧ ∀ cls d H', EXK K ⟨w, os, H⟩ Xc cls d H' → E cls d H'
section
variable {P : Program} {w : World} {K : PySem.W.Frag} {mg : Str → Option Value} {base : Heap} {x qual : Str} {st : Stmt} {dvs : List V} {f : Addr} {fd : FuncData} {N ps : List Str} {k : Nat} {C : WC}
theorem fn_ruleSX {Ab : AXS} {a : XD → ATS}
    (F : FnS K x qual st dvs f fd) (S : FnScope N ps (defScope st)) (hlen : ∀ ds c P Xc, Ab ds c P Xc → ds.length = ps.length) (hA : ∀ ds c P Xc, Ab ds c P Xc → a Xc { nx := fun _ c' => ∃ n, P .non (c'.drop n), rt := fun d c' => ∃ n, P d (c'.drop n) } (startG N.length ds) c)
    (hJ : ∀ (Fm : Fr) (xd : XD) (cdv : Value) (A : Around) (outer : List Env) (s : Shared) (H : Hp) (E : XK), TakesX (cxOf (L2.CX P w) P w K mg base N qual (defScope st) f cdv A outer s H E) K Fm xd → C Fm.w → Room k (A.deeper (PyProof.Rows.envOfC qual (defScope st) s.heap.objs.size f cdv)) →
      ∃ t, JSs (cxOf (L2.CX P w) P w K mg base N qual (defScope st) f cdv A outer s H E) Fm (defBody st) t (a xd)) :
    FnOk P w K mg base (L2.CX P w) (k + 1) f fd ps (spSX K C Ab) := by
  refine F.ok S (fun vs H Q E h => ?_) (fun cdv A outer s H vs Q E hr h => ?_)
  · obtain ⟨_, _, _, ds, _, _, _, _, r, ha, _⟩ := h
    rw [r.length]
    exact hlen _ _ _ _ ha
  · obtain ⟨wd, os, cs, ds, P', Xc, hc, s0, r, ha, hq, hx⟩ := h
    have tk : TakesX (cxOf (L2.CX P w) P w K mg base N qual (defScope st) f cdv A outer s H E) K ⟨wd, os, H⟩ Xc :=
      (takes_of (X := cxOf (L2.CX P w) P w K mg base N qual (defScope st) f cdv A outer s H E) (E := E) rfl rfl rfl rfl).imp fun cls d σ H' z => hx cls d H' z
    obtain ⟨t, j⟩ := hJ ⟨wd, os, H⟩ _ cdv A outer s H E tk hc hr
    refine ⟨t, j.p, ?_⟩
    have fin : ∀ {v : V} {d : D} {os' : Os} {cs' : Cs} {H' : Hp}, Stt K ⟨wd, os, H⟩ [] os' cs' H' → R K (Fr.at ⟨wd, os, H⟩ [] os') H' v d → (∃ n, P' d (cs'.drop n)) → Q v H' := fun {v d os' cs' H'} s rv ⟨n, p⟩ => by
      obtain ⟨e, s'⟩ := s.drop n
      exact hq v H' d _ _ s' (Rw.mono e rv) p
    exact j.s [] os cs _ H _ _ _ (start_rel s0 r) (hA ds cs P' Xc ha) ⟨fun os cs σ H' Γ r' p => fin r'.st .non p, fun os cs σ H' Γ r' p => p.elim, fun os cs σ H' Γ r' p => p.elim, fun v H' d os cs s rv p => fin s rv p⟩
end
structure FncIX (P : Program) (w : World) (K : PySem.W.Frag) (mg : Str → Option Value) (base : Heap) (cn : Str) (k : Nat) (ps : List Str) (dvs : List V) (kn : List Nat) (C : WC) (Ab : AXS) : Prop where
  ex : ∃ fd, FnOk P w K mg base (L2.CX P w) k (ma' K cn "__init__") fd ps (spSX K C Ab) ∧ (∀ n, n ≤ dvs.length → ∃ ds, Vals (dvs.drop n) ds ∧ Binds K fd ps ds) ∧ ∀ n, n ∈ kn → KBn K fd ps n (ps.drop n) (fun us ws => us ++ ws) (fun us ws => us ++ ws)
  made : Mk K (He.ga K cn) (ma' K cn "__init__")
  m : mg cn = some (.ref (He.ga K cn))
@[simp] abbrev aMakeX (cn : Str) (A : AXS) (dds : List D) (x : XD) (a : ATA) : ATE := fun Γ c P => a Γ c fun xs c1 => ∀ p : Addr, A (.adr p :: (xs ++ dds)) [(p, .obj cn [] [])] (fun d c2 => d = .non ∧ ∃ o, c2 = [(p, o)] ∧ P o c1) fun en ns es _ => x en ns es c1
@[simp] abbrev aMakeKX (cn : Str) (A : AXS) (n m : Nat) (x : XD) (a ak : ATA) : ATE := fun Γ c P => a Γ c fun xs c1 => ak Γ c1 fun zs c2 => (xs.length = n ∧ zs.length = m) ∧
  ∀ p : Addr, A (.adr p :: (xs ++ zs)) [(p, .obj cn [] [])] (fun d c3 => d = .non ∧ ∃ o, c3 = [(p, o)] ∧ P o c2) fun en ns es _ => x en ns es c2
section
variable {K : PySem.W.Frag} {F : Fr} {C' : WC} {cn : Str} {A : AXS}
theorem make_coreX (hC : FC K F C') {gs : List (V × D)} {pv os : Os} {cs : Cs} {σ : St} {H : Hp} {Γ : Gs} {P : D → Cs → Prop} {Q : VK} {vs : List V} {ds : List D} {xd : XD} (r : Rel K F gs pv os cs σ H Γ) (ra : RA K (F.at pv os) H vs ds)
    (hA : ∀ p : Addr, A (.adr p :: ds) [(p, .obj cn [] [])] (fun d c2 => d = .non ∧ ∃ o, c2 = [(p, o)] ∧ P o cs) fun en ns es _ => xd en ns es cs) (hq : ∀ v H' d, Rel K F ((v, d) :: gs) pv os cs σ H' Γ → P d cs → Q v H')
    (x dx : Addr) (hx : H x = none) (hdx : H dx = none) (hne : dx ≠ x) : spSX K C' A (.ref x :: vs) (upd (upd H dx (.own x)) x (.ins (He.ga K cn) dx [])) (fun v H2 => v = .non ∧ Q (.ref x) H2) (EXK K F xd) := by
  have hI := r.st.inv
  have s1 : Step (F.at pv os) H (upd H dx (.own x)) := Step.new hI hdx
  have hx1 : (upd H dx (HO.own x)) x = none := by rw [upd_ne (fun z => hne z.symm)]; exact hx
  have s2 := s1.trans (Step.new (o := .ins (He.ga K cn) dx []) s1.inv hx1)
  have hm : x ∉ (F.at pv os).ms := fresh_out hI hx
  generalize hH2 : upd (upd H dx (HO.own x)) x (HO.ins (He.ga K cn) dx []) = H2 at s2 ⊢
  have hx2 : H2 x = some (.ins (He.ga K cn) dx []) := by rw [← hH2]; exact upd_same
  have eV : Ext ((F.at pv os).v H) (((F.at pv os).plus [(x, HO.ins (He.ga K cn) dx [])]).v H2) := fun a o e => by
    obtain ⟨h1, h2, h3⟩ := vis_all e
    have hax : a ≠ x := fun z => by rw [z, hx] at h2; cases h2
    refine vis_of (fun m => ?_) (vis_some (s2.ext a o e)).2 h3
    rcases List.mem_append.mp m with m | m
    · exact hax (List.mem_singleton.mp m)
    · exact h1 m
  -- from the callee's state to the caller's
  have back : ∀ {os' : Os} {cs' : Cs} {H' : Hp}, Stt K ⟨F.at pv os, [(x, HO.ins (He.ga K cn) dx [])], H2⟩ [] os' cs' H' → Step (F.at pv os) H H' ∧ Ext ((Fr.at ⟨F.at pv os, [(x, HO.ins (He.ga K cn) dx [])], H2⟩ [] os').v H') ((F.at pv os).v H') := fun {os' cs' H'} st => by
    refine ⟨⟨fun a u e => ?_, (at_inv.mp st.inv).1⟩, fun a u e => ?_⟩
    · obtain ⟨z1, z2, z3⟩ := vis_all (st.ext a u (eV a u e))
      exact vis_of (vis_some e).1 z2 z3
    · obtain ⟨z1, z2, z3⟩ := vis_all e
      exact vis_of (fun m => z1 (List.mem_append_right _ (List.mem_append_right _ m))) z2 z3
  refine ⟨F.at pv os, [(x, .ins (He.ga K cn) dx [])], [(x, .obj cn [] [])], .adr x :: ds, _, _, hC _ _ _ _ r.st, ⟨Ext.rfl' _, ⟨⟨s2.inv, fun p hp => (by cases hp)⟩, fun p hp => ?_⟩, fun p hp => ?_, by simp, ?_, fun p hp => by cases hp⟩, .cons (.adr x) (RwA.mono eV ra), hA x, fun v H' d os' cs' st rv ⟨ed, o, ec, p⟩ => ?_, ?_⟩
  · rw [List.mem_singleton.mp hp]; exact hx2
  · have hp : p ∈ [(x, HO.ins (He.ga K cn) dx [])] := hp
    rw [List.mem_singleton.mp hp]
    exact ⟨hm, vis_in (List.mem_append_left _ (by simp))⟩
  · exact .cons ⟨rfl, [], rfl, rfl, .nil⟩ .nil
  · subst ed ec
    have ev : v = .non := by cases rv; rfl
    refine ⟨ev, ?_⟩
    obtain ⟨st1, eo⟩ := back st
    have cel := st.cel
    have iv := at_inv.mp st.inv
    cases cel with
    | @cons _ ho _ os' _ rh ce =>
      cases ce
      have hx' : H' x = some ho := iv.2 (x, ho) (by simp)
      exact hq _ H' o ((r.step st1).gcons (rh_r (RH.mono (w := Fr.at ⟨F.at pv os, [(x, HO.ins (He.ga K cn) dx [])], H2⟩ [] [(x, ho)]) (w' := F.at pv os) rfl eo rh) (vis_of hm hx' (rh_kind rh).1))) p
  · rintro cls d H' ⟨c, ns, dd, vs', ds', os', cs', rfl, rfl, hv, hl, st, rv, hxc⟩
    obtain ⟨st1, eo⟩ := back st
    obtain ⟨e2, s3⟩ := (r.st.step st1).nopv
    exact ⟨c, ns, dd, vs', ds', os, cs, rfl, rfl, e2 _ _ (eo _ _ hv), hl, s3, RwA.mono e2 (RwA.mono eo rv), hxc⟩
theorem snd_makeX {dvs : List V} {dds : List D} {xd : XD} {t : TA} {a : ATA} (hC : FC K F C') (hd : ∀ (w : Wd) H, RA K w H dvs dds) (h : SndA K F t a) : SndE K F (tMake (He.ga K cn) (spSX K C' A) dvs (EXK K F xd) t) (aMakeX cn A dds xd a) := by
  intro gs pv os cs σ H Γ P Q r0 ha hq
  refine h gs pv os cs σ H Γ _ _ r0 ha fun vs H1 ds os1 c1 r1 ra p1 => ?_
  intro x dx hx hdx hne
  exact make_coreX hC r1 (ra.append (hd _ _)) p1 (fun v H' d r p => hq v H' d os1 c1 r p) x dx hx hdx hne
theorem snd_makeKX {n m : Nat} {xd : XD} {t tk : TA} {a ak : ATA} (hC : FC K F C') (h : SndA K F t a) (hk : SndA K F tk ak) : SndE K F (tMakeN (He.ga K cn) n m (spSX K C' A) (fun us ws => us ++ ws) (EXK K F xd) t tk) (aMakeKX cn A n m xd a ak) := by
  intro gs pv os cs σ H Γ P Q r0 ha hq
  refine h gs pv os cs σ H Γ _ _ r0 ha fun vs H1 ds os1 c1 r1 ra p1 => ?_
  have hl := ra.length
  refine hk _ pv os1 c1 σ H1 Γ _ _ (r1.gall ra) p1 fun zs H2 es os2 c2 r2 rz p2 => ?_
  obtain ⟨⟨l1, l2⟩, p3⟩ := p2
  obtain ⟨rv, r3⟩ := r2.gback hl
  refine ⟨by omega, by rw [rz.length]; exact l2, fun x dx hx hdx hne => ?_⟩
  exact make_coreX hC r3 (rv.append rz) p3 (fun v H' d r p => hq v H' d os2 c2 r p) x dx hx hdx hne
end
section
variable {X : Cx} {Fm : Fr} {C' : WC} {e : Expr} {es : List Expr} {pos p : Pos} {t tk : TA} {ag ak : ATA} {cn : Str} {k j : Nat} {ps : List Str} {dvs : List V} {kn : List Nat} {A : AXS} {Kf : PySem.W.Frag} {kws : List Keyword} {xd : XD}
theorem je_makeX (hK : X.K = Kf) (tk : TakesX X Kf Fm xd) (F : FncIX X.prog X.w Kf X.mg X.base cn k ps dvs kn C' A) (hr : Room j X.A) (hk : k + 1 ≤ j) (hC : FC Kf Fm C') (n : Nat) (hn : n ≤ dvs.length) (dds : List D) (hd : ∀ (w : Wd) H, RA Kf w H (dvs.drop n) dds) (ha : JA X Fm (e :: es) t ag) (hg : Gl X cn := by rfl)
    (hdb : (cn == ("__debug__" : Str)) = false := by decide) (he : starEach (e :: es) X.env = (false, eval e X.env) :: starEach es X.env := by rfl) (hpl : (backTo pos (starEach es X.env)).any (·.1) = false := by rfl) :
    JE X Fm (.Call (.Name cn p) (e :: es) [] pos) (tMake (He.ga Kf cn) (spSX Kf C' A) (dvs.drop n) (EXK Kf Fm xd) t) (aMakeX cn A dds xd ag) := by
  subst hK
  obtain ⟨fd, F1, b, _⟩ := F.ex
  obtain ⟨ds, v, b⟩ := b n hn
  exact ⟨pe_make F.made F1 (hr.mono hk) hg F.m b v (passes_call tk fun _ _ _ _ h => h) ha.p hdb he hpl, snd_makeX hC hd ha.s⟩
theorem je_makeKX {tw : TA} (hK : X.K = Kf) (tk : TakesX X Kf Fm xd) (F : FncIX X.prog X.w Kf X.mg X.base cn k ps dvs kn C' A) (hr : Room j X.A) (hk : k + 1 ≤ j) (hC : FC Kf Fm C') (n m : Nat) (ks : List Str) (hn : n + 1 ∈ kn) (hd : ps.drop (n + 1) = ks) (hm : ks.length = m) (ha : JA X Fm (e :: es) t ag) (hkw : JK X Fm kws tw ak)
    (hall : (backToKw pos (keywordEach kws X.env)).all (·.1.isSome) = true := by rfl) (hks : (backToKw pos (keywordEach kws X.env)).filterMap (·.1) = ks := by rfl) (hg : Gl X cn := by rfl)
    (hdb : (cn == ("__debug__" : Str)) = false := by decide) (he : starEach (e :: es) X.env = (false, eval e X.env) :: starEach es X.env := by rfl)
    (hpl : ((backTo pos (starEach (e :: es) X.env)).any (·.1) || (backToKw pos (keywordEach kws X.env)).any (·.1.isNone)) = false := by rfl) :
    JE X Fm (.Call (.Name cn p) (e :: es) kws pos) (tMakeN (He.ga Kf cn) n m (spSX Kf C' A) (fun us ws => us ++ ws) (EXK Kf Fm xd) t tw) (aMakeKX cn A n m xd ag ak) := by
  subst hK hm hd
  obtain ⟨fd, F1, _, b⟩ := F.ex
  exact ⟨pe_makeN F.made F1 (hr.mono hk) hg F.m (b (n + 1) hn) (passes_call tk fun _ _ _ _ h => h) ha.p hkw.p hall hks hdb he hpl, snd_makeKX hC ha.s hkw.s⟩
end
end Bd
/-! BfQ: defs called in an except suite with the caught exception; its fields; several clauses with names. -/
namespace Bd
open PySem PySem.Spec PyProof.Rows L2 L2H
/-- a def that may be called while p's object is handled -/
structure FnW (P : Program) (w : World) (K : PySem.W.Frag) (mg : Str → Option Value) (base : Heap) (T0 : CXT) (k : Nat) (f : Addr) (fd : FuncData) (ps : List Str) (sp : Addr × Obj → Sp) : Prop where
  len : ∀ p vs H Q E, sp p vs H Q E → vs.length = ps.length
  run : ∀ (A : Around) (outer : List Env) (s : Shared) (H : Hp) (args : Args) (us : List Value) (vs : List V) (Q : VK) (E : XK) (p : Addr × Obj), RoomH k A → PinOk outer H s p → Env0 P w K mg base A outer s H → BindsTo s fd args (ps.zip us) → Vals vs us → sp p vs H Q E →
    codeAny (model P w) A (.call (.ref f) args) (CR T0 outer P w H s Q E) s
theorem fn_ofW {T0 : CXT} {P : Program} {w : World} {K : PySem.W.Frag} {mg : Str → Option Value} {base : Heap} {k : Nat} {f : Addr} {name qual : Str} {params : Arguments} {body : List Stmt} {scope : Scope} {dV kV doc pm cdv ct oc : Value} {an od : Option Addr}
    {osl : Array (Option Value)} {N ps : List Str} {sp : Addr × Obj → Sp} (lk : K.lookup f = some ⟨oc, od, .func (PySem.W.fnOf name qual params body scope dV kV doc pm an cdv ct), osl⟩) (hcd : PySem.W.codeIn K cdv qual = true) (S : FnScope N ps scope)
    (len : ∀ p vs H Q E, sp p vs H Q E → vs.length = ps.length)
    (hbody : ∀ (A : Around) (outer : List Env) (s : Shared) (H : Hp) (vs : List V) (Q : VK) (E : XK) (p : Addr × Obj), RoomH k (A.deeper (envOfC qual scope s.heap.objs.size f cdv)) → sp p vs H Q E →
      ∃ t, PSs (cxH T0 P w K mg base N qual scope f cdv A outer s H E p) body t ∧ t { nx := fun _ H' => Q .non H', rt := Q } (L2.start N vs) H) :
    FnW P w K mg base T0 (k + 1) f (PySem.W.fnOf name qual params body scope dV kV doc pm an cdv ct) ps sp := by
  refine ⟨len, fun A outer s H args us vs Q E p hr hpin e0 hb r hsp => ?_⟩
  have hl := len _ _ _ _ _ hsp
  have KX : K.In s.heap := e0.mod.kin.keeps fun b o e => (e0.bs b o e).1
  have lim : s.heap.NoLimit := e0.mod.nolimit.keeps fun b o e => (e0.bs b o e).1
  refine codeAny_call_function hr.depth (KX _ _ lk) rfl S.co S.gen rfl (PySem.W.codeRec_of KX hcd) (hb _ _ _ _ ?_)
  refine wpAny_newFunctionEnv_cells S.kind (fun y hy => ?_) fun env he s1 x => ?_
  · rcases S.par y.1 (List.of_mem_zip hy).1 with q | q
    · exact .inl q
    · exact .inr ⟨q, PySem.W.cellsFrom_some _ _ _ (.inl q)⟩
  subst he
  refine ⟨lim.keeps x.toInCall.keep, codeAny_func ?_⟩
  obtain ⟨t, ht, hq⟩ := hbody A outer s H vs Q E p (hr.deeper _) hsp
  have I : Inv (cxH T0 P w K mg base N qual scope f cdv A outer s H E p) [] (L2.start N vs) H s1 := inv_startH S hpin e0 hl r x
  refine wpAny_mono (ht.run [] s1 (L2.start N vs) H _ I hq) (fun fl s' hs => ?_) fun e s' hs => hs
  cases fl with
  | ret u =>
    obtain ⟨v, σ', H', J, rv, q⟩ := hs
    exact ⟨v, H', J.os, J.bare, J.base, J.hok, rv, q⟩
  | next =>
    obtain ⟨σ', H', J, q⟩ := hs
    exact ⟨.non, H', J.os, J.bare, J.base, J.hok, rfl, q⟩
  | brk =>
    obtain ⟨_, _, _, q⟩ := hs
    exact q.elim
  | cont =>
    obtain ⟨_, _, _, q⟩ := hs
    exact q.elim
section
variable {X : Cx} {T0 : CXT} {k : Nat} {f C a : Addr} {oe : Obj} {fd : FuncData} {ps : List Str} {sp : Addr × Obj → Sp} {E : L2.St → XK} {x n : Str} {q pos : Pos} {e : Expr} {es : List Expr} {te : TE} {t : TA} {cls : Value} {d : Option Addr}
/-- f(..) in the suite -/
theorem pe_callW (F : FnW X.prog X.w X.K X.mg X.base T0 k f fd ps sp) (hr : RoomH k X.A) (hp : (a, oe) ∈ X.pn) (hg : Gl X x) (hm : X.mg x = some (.ref f)) (hk : PySem.W.keepIn X.K (.ref f) = true) (hb : Binds X.K fd ps []) (hx : ∀ σ, PassesAt T0 X σ (E σ))
    (ha : PA X (e :: es) t) (hdb : (x == ("__debug__" : Str)) = false := by decide) (he : starEach (e :: es) X.env = (false, eval e X.env) :: starEach es X.env := by rfl) (hpl : (backTo pos (starEach es X.env)).any (·.1) = false := by rfl) :
    PE X (.Call (.Name x q) (e :: es) [] pos) (tCallS (sp (a, oe)) E t) := by
  refine ⟨fun pins s σ H Q I h => ?_⟩
  refine wpAny_Call_Name_kw (ld_glob I hg hm ?_ hdb)
  refine PySem.W.callWith_K (h₀ := X.base) I.ok.mod.kin hk (thn (ha.run pos pins s σ H _ I h) fun us s1 ⟨vs, H1, I1, r, q⟩ => ⟨I1.kIn, ?_⟩) he hpl
  have hl : us.length = ps.length := by rw [← r.length]; exact F.len _ _ _ _ _ q
  have b := hb s1 us I1.kIn (by rw [List.append_nil]; exact hl)
  rw [List.append_nil] at b
  have P1 := I1.pin (a, oe) (List.mem_append_left _ hp)
  have hpin : PinOk X.stack H1 s1 (a, oe) := ⟨P1.1, P1.2.1, fun hm => (List.mem_cons.mp (I1.stkSub a hm)).elim P1.2.2.1 P1.2.2.2.1, P1.2.2.2.2⟩
  refine wpAny_call (codeAny_mono (F.run X.A X.stack s1 H1 ⟨us, []⟩ us vs Q (E σ) (a, oe) hr hpin I1.env0 b r q) fun r s' hq => ?_)
  cases r with
  | error e => exact hx σ pins H1 s1 e s' I1 hq
  | ok fl =>
    cases fl with
    | ret u => exact I1.after hq
    | next => exact hq.elim
    | brk => exact hq.elim
    | cont => exact hq.elim
/-- e.f, e the caught exception -/
theorem pe_xfW (hp : (a, oe) ∈ X.pn) (T : XfC X.K C) (hno : PySem.W.findIn X.K (.ref C) n = some none) (hz : Zc cls d oe) (hf : ∃ vs, oe.data = .fields vs) (he : PE X e te) (hb : attributeBase e n X.env (eval e X.env) = eval e X.env := by rfl) :
    PE X (.Attribute e n pos) (tXf a cls d C n te) := by
  refine ⟨fun pins s σ H Q I h => ?_⟩
  refine attr_of hb (thn (he.run pins s σ H _ I h) fun u s1 ⟨x, H1, I1, rx, ex, ec, dd, fs, v, ed, ea, l, q⟩ => ?_)
  subst ex ec ed
  obtain rfl : u = Value.ref a := rx
  obtain ⟨ha, _⟩ := I1.pin (a, oe) (List.mem_append_left _ hp)
  obtain ⟨vs, hd⟩ := hf
  have hx : ObjOk X.prog X.w H1 s1.heap dd (.xd fs) := I1.hok dd _ ea
  obtain ⟨mA, hns, hr⟩ := hx
  obtain ⟨od, ho, hl⟩ := lookIn_ns hns
  obtain ⟨u, hu, ru⟩ := RelO.some_of (v := v) (o := mA n) (by rw [← l]; exact hr n)
  exact HandSPX.exc_get I1.kIn ⟨ha, hz.1, by unfold PySem.W.notCls; rw [hd] <;> rfl, by rw [hz.2]; exact ho⟩ T.ga T.gg T.exC (PySem.W.findObj_own T.hdC hno rfl (by rw [hl, hu])) (handed_of ru) ⟨v, H1, I1.tok _, ru, q⟩
end
end Bd
/-! BfR: try with several clauses except x as n. -/
namespace Bd
open PySem PySem.Spec PyProof.Rows L2
abbrev ClT := Value × Nat × (Addr → Value → Option Addr → TS)
/-- what is wished behind a clause's suite: its name goes -/
@[simp] abbrev endAs (D : Ends) (i : Nat) : Ends := { nx := fun σ H => D.nx (σ.set i none) H, rt := D.rt, bk := fun σ H => D.bk (σ.set i none) H, ct := fun σ H => D.ct (σ.set i none) H }
def wMAs (K : PySem.W.Frag) (Wout : WX) (D : Ends) : List ClT → WX
  | [] => Wout
  | (c, i, ts) :: r => fun cls d σ H => ∃ b, PySem.W.exmOne K cls c = some b ∧ (b = true → ∀ a, H a = none → ts a cls d (endAs D i) (σ.set i (some (.ref a))) H) ∧ (b = false → wMAs K Wout D r cls d σ H)
inductive HdsAs (X : Cx) : List ExceptHandler → List ClT → Prop
  | nil : HdsAs X [] []
  | cons {x n : Str} {c : Value} {i : Nat} {ts : Addr → Value → Option Addr → TS} {b₀ : Stmt} {suite : List Stmt} {np pos' : Pos} {hds : List ExceptHandler} {l : List ClT} (hc : Names X x c) (hi : X.N[i]? = some n) (hln : X.env.kindOf n = some .local)
      (hsu : ∀ (a : Addr) (oe : Obj) (cls : Value) (d : Option Addr) (pn : List (Addr × Obj)), Zc cls d oe → (∃ vs, oe.data = .fields vs) → PSs (X.suite a ((a, oe) :: pn)) (b₀ :: suite) (ts a cls d)) (r : HdsAs X hds l) :
      HdsAs X (.ExceptHandler (some (.Name x np)) (some n) (b₀ :: suite) pos' :: hds) ((c, i, ts) :: l)
section
variable {X : Cx} {body : List Stmt} {h₀ : ExceptHandler} {hds : List ExceptHandler} {l : List ClT} {pos : Pos} {tb : WX → TS} {Wout : WX}
theorem ps_try_mas (hs : X.stack = X.env :: X.outer) (hf : X.env.frame = some X.env.locals) (hN : X.N.Nodup) (tk : Takes X Wout)
    (hb : ∀ (W : WX) (pn : List (Addr × Obj)) (xe : Value → Shared → Prop), Takes (X.tr pn xe) W → PassesOwn (model X.prog X.w) X.A X.env xe → PSs (X.tr pn xe) body (tb W))
    (hh : HdsAs X (h₀ :: hds) l) : PS X (.Try body (h₀ :: hds) [] [] pos) (fun D σ H => tb (wMAs X.K Wout D l) D σ H) := by
  refine ⟨fun pins s σ H D I h => ?_⟩
  have ok := I.ok
  have hfr : X.A.frames = some (X.env :: X.outer) := by rw [ok.frames, hs]
  refine wpAny_Try_except ?_
  refine wpAny_mono ((hb (wMAs X.K Wout D l) (X.pn ++ pins) (fun e s₁ => wpAny (model X.prog X.w) X.A (noteFrame e X.env) (fun _ s₂ => wpAny (model X.prog X.w) X.A (setFlight e none) (fun _ s₃ =>
    wpAny (model X.prog X.w) X.A (handleBy e X.env (h₀ :: hds)) (SP X pins D) X.xe s₃) X.xe s₂) X.xe s₁) (fun u s' xx => ?_) PassesOwn.looking).run [] s σ H D (I.toTry _) h) (fun f s1 hsp => ?_) (fun e s1 he => he)
  · obtain ⟨a, B, sI, pins', σ', H', cls, d, rfl, J', nb, up, sky, na, os, ag, w⟩ := xx
    have J : Inv X pins σ' H' sI := J'.ofTry ok
    have sky' : Sky B (X.env :: X.outer) a (Zc cls d) X.env.locals s'.heap := by rw [← hs]; exact sky
    show wpAny (model X.prog X.w) X.A (noteFrame (.ref a) X.env) _ _ _
    refine Sky.land Zc.steady hfr hf sky' fun h3 fl3 up3 => ?_
    have J3 : Inv X pins σ' H' { s' with heap := h3 } := J.landed nb fl3.1 (up.trans up3) os ag
    obtain ⟨oe3, vs3, he3, hz3, hd3⟩ := fl3.there
    have nfr : a ∉ frs (X.env :: X.outer) := fun hm => by
      obtain ⟨_, o', e', hnf⟩ := fl3.2.2.1.mem hm
      rw [he3] at e'
      cases e'
      exact hnf _ hd3
    have nL : a ≠ X.env.locals := fun z => nfr (List.mem_filterMap.mpr ⟨X.env, List.mem_cons_self, by rw [hf, z]⟩)
    have nF : a ∉ X.fs := fun hm => by
      obtain ⟨e, he, q⟩ := List.mem_filterMap.mp hm
      exact nfr (List.mem_filterMap.mpr ⟨e, List.mem_cons_of_mem _ he, q⟩)
    have S3 := J3.suite he3 hd3 na nL nF
    have go : ∀ {hds' : List ExceptHandler} {l' : List ClT}, HdsAs X hds' l' → wMAs X.K Wout D l' cls d σ' H' → wpAny (model X.prog X.w) X.A (handleBy (.ref a) X.env hds') (SP X pins D) X.xe { s' with heap := h3 } := by
      intro hds' l' hk
      induction hk with
      | nil =>
        intro w
        refine wpAny_handleBy_nil ?_
        obtain ⟨k1, k2, k3, oe, vs, T, oT, ts', he, hz, hd, h1, hr⟩ := id fl3
        unfold PySem.passOn
        refine wpAny_bind (wpAny_field he hd h1 ?_)
        rw [if_neg (show ¬ ((Value.ref T == Value.none) = true) from by simp)]
        have fin : wpAny (model X.prog X.w) X.A (setFlight (.ref a) X.env.frame) (fun _ s4 => wpAny (model X.prog X.w) X.A (throw (.ref a) : Sem Flow) (SP X pins D) X.xe s4) X.xe { s' with heap := h3 } := by
          rw [hf]
          refine HandSPX.setFlight_upZ fl3 fun h4 hh4 up4 => wpAny_throw (tk _ _ ?_)
          exact ⟨a, B, sI, pins, σ', H', cls, d, rfl, J, nb, (up.trans up3).trans up4, .inr (.inr (by rw [hs]; exact hh4)), na, os, ag, w⟩
        first
          | exact wpAny_bind (wpAny_pure (wpAny_bind fin))
          | exact wpAny_bind fin
      | @cons x n c i ts b₀ suite np pos' hds2 l2 hc hi hln hsu r ih =>
        intro w
        obtain ⟨b, hb1, hyes, hno⟩ := w
        refine wpAny_handleBy_cons (codeAny_handlers_test ?_) (by intro q; cases q)
        have LT : PySem.W.Looks (model X.prog X.w) h3 (typeOf (.ref a)) cls := fun A Q E s k q => wpAny_typeOf_ref (k _ _ he3) (by rw [hz3.1]; exact q)
        have LM := PySem.W.exm_one (M := model X.prog X.w) (J3.kIn) LT hb1
        have test : ∀ {Q : Value → Shared → Prop} {E : Value → Shared → Prop}, Q c { s' with heap := h3 } → wpAny (model X.prog X.w) (X.A.mark (some (.ref a))) (eval (.Name x np) X.env) Q E { s' with heap := h3 } := fun {Q E} q => by
          obtain ⟨hg, hdbg, hm | ⟨hm, hv, hnn⟩⟩ := hc
          · exact ld_glob (X := X.suite a ((a, oe3) :: (X.pn ++ pins))) S3 hg hm q hdbg
          · exact ld_blt (X := X.suite a ((a, oe3) :: (X.pn ++ pins))) S3 hg hm hv q hnn hdbg
        refine test (LM.here ?_)
        cases b with
        | true =>
          refine codeAny_handlers_suite_as ?_
          refine HandSPX.lands_againZ fl3 fun h4 fl4 up4 => ?_
          have J4 : Inv X pins σ' H' { s' with heap := h4 } := J.landed nb fl4.1 ((up.trans up3).trans up4) os ag
          obtain ⟨oe4, vs4, he4, hz4, hd4⟩ := fl4.there
          have S4 := J4.suite he4 hd4 na nL nF
          refine store_ok (X := X.suite a ((a, oe4) :: (X.pn ++ pins))) (v := .ref a) S4 hN hi (.inl hln) rfl (fun s5 S5 => ?_) (.inr hln)
          refine wpAny_mono ((hsu a oe4 cls d (X.pn ++ pins) hz4 ⟨_, hd4⟩).run [] s5 _ H' _ S5 (hyes rfl a na)) (fun f s6 hsp => ?_) (fun _ _ z => False.elim z)
          have end_ : ∀ {σ6 : L2.St} {H6 : Hp} {Q : Shared → Prop}, Inv (X.suite a ((a, oe4) :: (X.pn ++ pins))) [] σ6 H6 s6 → (∀ s7, Inv X pins (σ6.set i none) H6 s7 → Q s7) →
              wpAny (model X.prog X.w) X.A (do bindName X.env n .none; unbindBehindTheSuite X.env n pos') (fun _ s7 => Q s7) X.xe s6 := fun {σ6 H6 Q} S6 hq => gone_ok (S6.unsuite ok) hN hi hln hq
          cases f with
          | next =>
            obtain ⟨σ6, H6, S6, q6⟩ := hsp
            exact end_ S6 fun s7 J7 => ⟨_, _, J7, q6⟩
          | brk =>
            obtain ⟨σ6, H6, S6, q6⟩ := hsp
            exact end_ S6 fun s7 J7 => ⟨_, _, J7, q6⟩
          | cont =>
            obtain ⟨σ6, H6, S6, q6⟩ := hsp
            exact end_ S6 fun s7 J7 => ⟨_, _, J7, q6⟩
          | ret u =>
            obtain ⟨v6, σ6, H6, S6, r6, q6⟩ := hsp
            exact end_ S6 fun s7 J7 => ⟨_, _, _, J7, r6, q6⟩
        | false =>
          show wpAny _ X.A (handleBy (.ref a) X.env hds2) _ _ _
          exact ih (hno rfl)
    exact go hh w
  · cases f with
    | next =>
      obtain ⟨σ', H', J', q⟩ := hsp
      exact wpAny_execs_nil ⟨σ', H', J'.ofTry ok, q⟩
    | brk =>
      obtain ⟨σ', H', J', q⟩ := hsp
      exact ⟨σ', H', J'.ofTry ok, q⟩
    | cont =>
      obtain ⟨σ', H', J', q⟩ := hsp
      exact ⟨σ', H', J'.ofTry ok, q⟩
    | ret u =>
      obtain ⟨v, σ', H', J', r, q⟩ := hsp
      exact ⟨v, σ', H', J'.ofTry ok, r, q⟩
end
end Bd
/-! BfS: the caught exception as data: its fields, defs that take it. -/
namespace Bd
open PySem L2 L2H
/-- the names of the fields of exceptions -/
abbrev xfl : List Str := ["tag", "given", "at", "many", "most", "row", "index", "name"]
structure XcOk (K : PySem.W.Frag) (cn : Str) : Prop where
  xf : XfC K (He.ga K cn)
  no : ∀ f, f ∈ xfl → PySem.W.findIn K (.ref (He.ga K cn)) f = some none
/-- what is known of the caught exception -/
structure PinX (K : PySem.W.Frag) (w : Wd) (H : Hp) (p : Addr × Obj) (dd : Addr) (cn : Str) (ns : List Str) (vs : List V) (es : List D) : Prop where
  z : Zc (.ref (He.ga K cn)) (some dd) p.2
  fl : ∃ xs, p.2.data = .fields xs
  at_ : w.v H dd = some (.xd (ns.zip vs))
  len : ns.length = vs.length
  ra : RA K w H vs es
  ok : XcOk K cn
@[simp] abbrev aXf (a : Addr) (ns : List Str) (es : List D) (n : Str) (ae : ATE) : ATE := fun Γ c P => ae Γ c fun d c1 => d = .adr a ∧ match (ns.zip es).lookup n with
  | some x => P x c1
  | none => False
abbrev AW := Addr → Str → List Str → List D → List D → (D → Prop) → Prop
def spW (K : PySem.W.Frag) (C : WC) (A : AW) : Addr × Obj → Sp := fun p vs H Q _ => ∃ (w : Wd) (ds : List D) (P : D → Prop) (dd : Addr) (cn : Str) (ns : List Str) (ws : List V) (es : List D), C w ∧ w.I H ∧ PinX K w H p dd cn ns ws es ∧ RA K w H vs ds ∧ A p.1 cn ns es ds P ∧
  ∀ v H' d, Step w H H' → R K w H' v d → P d → Q v H'
@[simp] abbrev aCallW (A : AW) (a : Addr) (cn : Str) (ns : List Str) (es : List D) (ag : ATA) : ATE := fun Γ c P => ag Γ c fun ds c1 => A a cn ns es ds fun d => P d c1
section
variable {K : PySem.W.Frag} {F : Fr} {p : Addr × Obj} {dd : Addr} {cn : Str} {ns : List Str} {vs : List V} {es : List D}
theorem PinX.at' (h : PinX K (F.w.plus F.os0) F.H0 p dd cn ns vs es) {pv os : Os} {cs : Cs} {H : Hp} (s : Stt K F pv os cs H) : PinX K (F.at pv os) H p dd cn ns vs es :=
  ⟨h.z, h.fl, s.ext _ _ h.at_, h.len, RwA.mono s.ext h.ra, h.ok⟩
theorem snd_xf {n : Str} {te : TE} {ae : ATE} (hp : PinX K (F.w.plus F.os0) F.H0 p dd cn ns vs es) (h : SndE K F te ae) : SndE K F (tXf p.1 (.ref (He.ga K cn)) (some dd) (He.ga K cn) n te) (aXf p.1 ns es n ae) := by
  intro gs pv os cs σ H Γ P Q r0 ha hq
  refine h gs pv os cs σ H Γ _ _ r0 ha fun v H1 d os1 c1 r1 p1 => ?_
  obtain ⟨rfl, p1⟩ := p1
  split at p1
  · rename_i x hx
    have hp1 := hp.at' r1.st
    obtain ⟨u, hu, ru⟩ := zip_look hp1.ra hx
    have hv : v = .ref p.1 := r_adr r1.head
    exact ⟨hv, rfl, dd, _, u, rfl, (vis_some hp1.at_).2, hu, hq u H1 x os1 c1 (r1.tail.gcons ru) p1⟩
  · exact p1.elim
theorem snd_callW {C' : WC} {A : AW} {E : L2.St → XK} {t : TA} {a : ATA} (hC : FC K F C') (hp : PinX K (F.w.plus F.os0) F.H0 p dd cn ns vs es) (h : SndA K F t a) : SndE K F (tCallS (spW K C' A p) E t) (aCallW A p.1 cn ns es a) := by
  intro gs pv os cs σ H Γ P Q r0 ha hq
  refine h gs pv os cs σ H Γ _ _ r0 ha fun us H1 ds os1 c1 r1 ra p1 => ?_
  exact ⟨F.at pv os1, ds, _, dd, cn, ns, vs, es, hC _ _ _ _ r1.st, r1.st.inv, hp.at' r1.st, ra, p1, fun v H' d s r p => hq v H' d os1 c1 ((r1.step s).gcons r) p⟩
end
/-- a def that takes the caught exception -/
structure FncW (P : Program) (w : World) (K : PySem.W.Frag) (mg : Str → Option Value) (base : Heap) (x : Str) (k : Nat) (ps : List Str) (C : WC) (Ab : AW) : Prop where
  ex : ∃ fd, FnW P w K mg base CX0 k (He.ga K x) fd ps (spW K C Ab) ∧ Binds K fd ps []
  m : mg x = some (.ref (He.ga K x))
  k : PySem.W.keepIn K (.ref (He.ga K x)) = true
section
variable {X : Cx} {Fm : Fr} {C' : WC} {e : Expr} {es : List Expr} {pos q : Pos} {te : TE} {ae : ATE} {t : TA} {ag : ATA} {x cn n : Str} {k j : Nat} {ps ns : List Str} {A : AW} {Kf : PySem.W.Frag} {p : Addr × Obj} {dd : Addr} {vs : List V} {ds : List D}
theorem je_xf (hK : X.K = Kf) (hpn : p ∈ X.pn) (hp : PinX Kf (Fm.w.plus Fm.os0) Fm.H0 p dd cn ns vs ds) (h : JE X Fm e te ae) (hn : n ∈ xfl := by decide) (hb : attributeBase e n X.env (eval e X.env) = eval e X.env := by rfl) :
    JE X Fm (.Attribute e n pos) (tXf p.1 (.ref (He.ga Kf cn)) (some dd) (He.ga Kf cn) n te) (aXf p.1 ns ds n ae) := by
  subst hK
  exact ⟨pe_xfW (oe := p.2) hpn hp.ok.xf (hp.ok.no n hn) hp.z hp.fl h.p hb, snd_xf hp h.s⟩
theorem je_fnW {E : L2.St → XK} (hK : X.K = Kf) (hpn : p ∈ X.pn) (hp : PinX Kf (Fm.w.plus Fm.os0) Fm.H0 p dd cn ns vs ds) (F : FncW X.prog X.w Kf X.mg X.base x k ps C' A) (hr : RoomH j X.A) (hk : k ≤ j) (hC : FC Kf Fm C') (ha : JA X Fm (e :: es) t ag) (hg : Gl X x := by rfl)
    (hdb : (x == ("__debug__" : Str)) = false := by decide) (he : starEach (e :: es) X.env = (false, eval e X.env) :: starEach es X.env := by rfl) (hpl : (backTo pos (starEach es X.env)).any (·.1) = false := by rfl) :
    JE X Fm (.Call (.Name x q) (e :: es) [] pos) (tCallS (spW Kf C' A p) E t) (aCallW A p.1 cn ns ds ag) := by
  subst hK
  obtain ⟨fd, F1, b⟩ := F.ex
  exact ⟨pe_callW (oe := p.2) F1 (hr.mono hk) hpn hg F.m F.k b (fun _ _ _ _ _ _ _ h => h.elim) ha.p hdb he hpl, snd_callW hC hp ha.s⟩
end
section
variable {P : Program} {w : World} {K : PySem.W.Frag} {mg : Str → Option Value} {base : Heap} {x qual : Str} {st : Stmt} {dvs : List V} {f : Addr} {fd : FuncData} {N ps : List Str} {k : Nat} {C : WC}
theorem fn_ruleW {Ab : AW} {a : Addr → Str → List Str → List D → ATS}
    (F : FnS K x qual st dvs f fd) (S : FnScope N ps (defScope st)) (hlen : ∀ b cn ns es ds P, Ab b cn ns es ds P → ds.length = ps.length) (hA : ∀ b cn ns es ds P, Ab b cn ns es ds P → a b cn ns es { nx := fun _ _ => P .non, rt := fun d _ => P d } (startG N.length ds) [])
    (hJ : ∀ (Fm : Fr) (cdv : Value) (A : Around) (outer : List Env) (s : Shared) (H : Hp) (E : XK) (p : Addr × Obj) (dd : Addr) (cn : Str) (ns : List Str) (ws : List V) (es : List D), PinX K (Fm.w.plus Fm.os0) Fm.H0 p dd cn ns ws es → C Fm.w →
      RoomH k (A.deeper (PyProof.Rows.envOfC qual (defScope st) s.heap.objs.size f cdv)) → ∃ t, JSs (cxH CX0 P w K mg base N qual (defScope st) f cdv A outer s H E p).nox Fm (defBody st) t (a p.1 cn ns es)) :
    FnW P w K mg base CX0 (k + 1) f fd ps (spW K C Ab) := by
  obtain ⟨oc, od, dV, kV, doc, pm, an, cdv, ct, osl, rfl, lk, hcd, _, _⟩ := F.ex
  refine fn_ofW lk hcd S (fun p vs H Q E h => ?_) fun A outer s H vs Q E p hr h => ?_
  · obtain ⟨_, ds, _, _, _, _, _, _, _, _, _, r, ha, _⟩ := h
    rw [r.length]
    exact hlen _ _ _ _ _ _ ha
  · obtain ⟨wd, ds, P', dd, cn, ns, ws, es, hc, hI, hpx, r, ha, hq⟩ := h
    obtain ⟨t, j⟩ := hJ ⟨wd, [], H⟩ cdv A outer s H E p dd cn ns ws es ⟨hpx.z, hpx.fl, hpx.at_, hpx.len, RwA.mono (fun _ _ q => q) hpx.ra, hpx.ok⟩ hc hr
    refine ⟨t, PSs.nox j.p, ?_⟩
    have out : ∀ {os : Os} {cs : Cs} {H' : Hp}, Stt K ⟨wd, [], H⟩ [] os cs H' → Step wd H H' ∧ Ext ((Fr.at ⟨wd, [], H⟩ [] os).v H') (wd.v H') := fun {os cs H'} s => by
      obtain ⟨e, _⟩ := s.drop os.length
      rw [List.drop_length] at e
      exact ⟨⟨fun a o q => e a o (s.ext a o q), (at_inv.mp s.inv).1⟩, e⟩
    refine j.s [] [] [] _ H _ _ _ (start_rel (start_stt hI) r) (hA _ _ _ _ ds P' ha) ⟨fun os cs σ H' Γ r' p => hq .non H' .non (out r'.st).1 .non p, fun os cs σ H' Γ r' p => p.elim, fun os cs σ H' Γ r' p => p.elim, fun v H' d os cs s rv p => ?_⟩
    exact hq v H' d (out s).1 (Rw.mono (out s).2 rv) p
end
end Bd
/-! BfT: a frame within a frame: the private cells go into the world. -/
namespace Bd
open PySem L2
/-- the frame that starts here -/
abbrev Fr.here (F : Fr) (pv os : Os) (H : Hp) : Fr := ⟨F.w.plus pv, os, H⟩
section
variable {K : PySem.W.Frag} {F : Fr} {gs : List (V × D)} {pv os os' : Os} {cs cs' : Cs} {σ : L2.St} {H H' : Hp} {Γ : Gs}
theorem here_ext {w : Wd} {a b : Os} {H : Hp} (h : a.map (·.1) = b.map (·.1)) : Ext ((w.plus a).v H) ((w.plus b).v H) := fun x o e => by
  obtain ⟨h1, h2, h3⟩ := vis_all e
  refine vis_of (fun m => h1 ?_) h2 h3
  rcases List.mem_append.mp m with m | m
  · exact List.mem_append_left _ (h ▸ m)
  · exact List.mem_append_right _ m
theorem Rel.here (r : Rel K F gs pv os cs σ H Γ) : Rel K (F.here pv os H) [] [] os cs σ H Γ := by
  have s := r.st
  have e1 : Ext ((F.at pv os).v H) (((F.here pv os H).at [] os).v H) := fun _ _ q => q
  have iv := at_inv.mp s.inv
  refine ⟨⟨fun _ _ q => q, ?_, fun p hp => ?_, ?_, s.cel.mono (w := F.at pv os) (w' := (F.here pv os H).at [] os) rfl e1, fun p hp => by cases hp⟩, r.len, fun i d e => ?_, fun p hp => by cases hp⟩
  · exact at_inv.mpr ⟨⟨iv.1, fun q hq => iv.2 q (List.mem_append_left _ hq)⟩, fun q hq => iv.2 q (List.mem_append_right _ (by simpa using hq))⟩
  · have hp : p ∈ os := by simpa using hp
    have nd := s.nd
    rw [List.map_append, List.nodup_append] at nd
    refine ⟨fun m => ?_, vis_in (List.mem_append_left _ (List.mem_map_of_mem (f := fun x : Addr × HO => x.1) hp))⟩
    have m : p.1 ∈ pv.map (·.1) ++ F.w.ms := m
    rcases List.mem_append.mp m with m | m
    · exact nd.2.2 _ m _ (List.mem_map_of_mem (f := fun x : Addr × HO => x.1) hp) rfl
    · exact (s.fr p (List.mem_append_right _ hp)).1 m
  · have nd := s.nd
    rw [List.map_append, List.nodup_append] at nd
    simpa using nd.2.1
  · obtain ⟨v, h1, h2⟩ := r.at_ i d e
    exact ⟨v, h1, Rw.mono e1 h2⟩
theorem Stt.backF (r : Stt K F pv os cs H) (s : Stt K (F.here pv os H) [] os' cs' H') : Stt K F pv os' cs' H' ∧ Ext ((F.at pv os).v H) ((F.at pv os').v H') ∧ Ext (((F.here pv os H).at [] os').v H') ((F.at pv os').v H') := by
  have e1 : Ext (((F.here pv os H).at [] os').v H') ((F.at pv os').v H') := fun _ _ q => q
  have e2 : Ext ((F.at pv os).v H) ((F.at pv os').v H') := fun a o q => e1 a o (s.ext a o q)
  have iv := at_inv.mp s.inv
  have iw := iv.1
  have nd := r.nd
  rw [List.map_append, List.nodup_append] at nd
  have ndo : (os'.map (·.1)).Nodup := by simpa using s.nd
  refine ⟨⟨r.ext.tr e2, at_inv.mpr ⟨iw.1, fun q hq => ?_⟩, fun p hp => ?_, ?_, s.cel.mono (w := (F.here pv os H).at [] os') (w' := F.at pv os') rfl e1, r.pk⟩, e2, e1⟩
  · rcases List.mem_append.mp hq with hq | hq
    · exact iw.2 q hq
    · exact iv.2 q (by simpa using hq)
  · rcases List.mem_append.mp hp with hp | hp
    · exact r.fr p (List.mem_append_left _ hp)
    · obtain ⟨n1, n2⟩ := s.fr p (by simpa using hp)
      have n1 : p.1 ∉ pv.map (·.1) ++ F.w.ms := n1
      refine ⟨fun m => n1 (List.mem_append_right _ m), ?_⟩
      cases q : (F.w.plus F.os0).v F.H0 p.1 with
      | none => rfl
      | some o =>
        have z : (F.at pv os).v H p.1 = some o := r.ext _ _ q
        have n2 : (F.at pv os).v H p.1 = none := n2
        rw [n2] at z
        cases z
  · rw [List.map_append, List.nodup_append]
    refine ⟨nd.1, ndo, fun a ha b hb z => ?_⟩
    subst z
    obtain ⟨p, hp, e⟩ := List.mem_map.mp hb
    have n1 : p.1 ∉ pv.map (·.1) ++ F.w.ms := (s.fr p (by simpa using hp)).1
    exact n1 (List.mem_append_left _ (by rw [e]; exact ha))
theorem Rel.backF (r : Rel K F gs pv os cs σ H Γ) (s : Stt K (F.here pv os H) [] os' cs' H') : Rel K F gs pv os' cs' σ H' Γ := by
  obtain ⟨s1, e, _⟩ := r.st.backF s
  exact ⟨s1, r.len, fun i d h => by
    obtain ⟨v, h1, h2⟩ := r.at_ i d h
    exact ⟨v, h1, Rw.mono e h2⟩, fun p hp => Rw.mono e (r.gh p hp)⟩
end
end Bd
/-! BfU: worlds where lambdas are made. -/
namespace Bd
open PySem L2
/-- what a world must bear where lambdas are made: the tables of code objects -/
structure TabW (T : List (Addr × Str)) (w : Wd) : Prop where
  has : ∀ H, w.I H → LamX.Tabs T H
  keep : ∀ H H1, LamX.ExtN H H1 → LamX.Tabs T H1 → w.I H → w.I H1
theorem no_tbl {o : HO} (t : isT o = false) : ∀ ps, o ≠ .tbl ps := fun ps z => by
  subst z
  cases t
section
variable {K : PySem.W.Frag} {F : Fr} {gs : List (V × D)} {pv os : Os} {cs : Cs} {σ : L2.St} {H H1 : Hp} {Γ : Gs} {T : List (Addr × Str)}
theorem Cells.kind {w : Wd} : ∀ {os : Os} {cs : Cs}, Cells K w H os cs → ∀ q, q ∈ os → isT q.2 = false
  | _, _, .nil, _, h => by cases h
  | _, _, .cons r t, q, h => by
    rcases List.mem_cons.mp h with h | h
    · rw [h]; exact (rh_kind r).1
    · exact Cells.kind t q h
theorem Stt.tabs (tw : TabW T F.w) (r : Stt K F pv os cs H) (e : LamX.ExtN H H1) (t : LamX.Tabs T H1) : Step (F.at pv os) H H1 := by
  have iv := at_inv.mp r.inv
  refine ⟨fun a o q => ?_, at_inv.mpr ⟨tw.keep H H1 e t iv.1, fun q hq => e _ _ (iv.2 q hq) (no_tbl ?_)⟩⟩
  · obtain ⟨h1, h2, h3⟩ := vis_all q
    exact vis_of h1 (e _ _ h2 (no_tbl h3)) h3
  · rcases List.mem_append.mp hq with m | m
    · exact r.pk q m
    · exact r.cel.kind q m
theorem Stt.has (tw : TabW T F.w) (r : Stt K F pv os cs H) : LamX.Tabs T H := tw.has H (at_inv.mp r.inv).1
end
end Bd
/-! BfV: the rule for _law_try(lambda: e). -/
namespace Bd
open PySem L2
section
variable {X : Cx} {K : PySem.W.Frag} {G : Fr} {xd : XD} {A : Around} {outer : List Env} {s : Shared} {H : Hp} {scope : Scope} {f c' : Addr}
/-- what the lambda's body lets out is told -/
theorem takes_lam : TakesX (LamX.lamCx X A outer s H (EXK K G xd) scope f c') K G xd := takes_of (E := EXK K G xd) rfl rfl rfl rfl
end
/-- the readings of the lambda's body, of all frames -/
def lamT (K : PySem.W.Frag) (C : WC) (t : Fr → XD → TE) (E : XK) : TE := fun σ H Q => ∃ (G : Fr) (xd : XD), E = EXK K G xd ∧ C G.w ∧ t G xd σ H Q
section
variable {X : Cx} {K : PySem.W.Frag} {C : WC} {t : Fr → XD → TE} {ae : XD → ATE} {scope : Scope} {body : Expr} {k : Nat}
theorem pe_lamT (hj : ∀ (G : Fr) (xd : XD) (A : Around) (outer : List Env) (s : Shared) (H : Hp) (f c' : Addr), C G.w → Room k (A.deeper (LamX.lamEnv X scope s.heap.objs.size f c')) → TakesX (LamX.lamCx X A outer s H (EXK K G xd) scope f c') K G xd →
      JE (LamX.lamCx X A outer s H (EXK K G xd) scope f c') G body (t G xd) (ae xd))
    (A : Around) (outer : List Env) (s : Shared) (H : Hp) (E : XK) (f c' : Addr) (hr : Room k (A.deeper (LamX.lamEnv X scope s.heap.objs.size f c'))) : PE (LamX.lamCx X A outer s H E scope f c') body (lamT K C t E) := by
  refine ⟨fun pins s1 σ H1 Q I h => ?_⟩
  obtain ⟨G, xd, rfl, hc, h⟩ := h
  exact (hj G xd A outer s H f c' hc hr takes_lam).p.run pins s1 σ H1 Q I h
end
end Bd
/-! BfW: the suites of _law_try. -/
namespace Bd
open PySem L2 L2H
section
variable {X : Cx} {G : Fr} {C' : WC} {A : AW} {Kf : PySem.W.Frag} {p : Addr × Obj} {dd : Addr} {cn : Str} {ns ps : List Str} {vs : List V} {ds : List D} {k j u1 u2 : Nat} {p1 p2 p3 p4 p5 p6 p7 p8 p9 : Pos}
/-- return ("no", e.tag) + _law_fields(e) -/
theorem js_no (hK : X.K = Kf) (hpn : p ∈ X.pn) (hp : PinX Kf (G.w.plus G.os0) G.H0 p dd cn ns vs ds) (F : FncW X.prog X.w Kf X.mg X.base "_law_fields" k ps C' A) (hr : RoomH j X.A) (hk : k ≤ j) (hC : FC Kf G C') (hN : X.N[1]? = some ("_law_e" : Str)) (hv : Vis X.env.scope "_law_e") (hg : Gl X "_law_fields") :
    ∃ t, JS X G (.Return (some (.BinOp (.Tuple [.Constant (.str "no") u1 p1, .Attribute (.Name "_law_e" p2) "tag" p3] u2 p4) .Add (.Call (.Name "_law_fields" p5) [.Name "_law_e" p6] [] p7) p8)) p9) t
      (aRet (aOp wAdd (aTup (aCons (aC (.str "no")) (aCons (aXf p.1 ns ds "tag" (aVar 1)) aNil))) (aCallW A p.1 cn ns ds (aCons (aVar 1) aNil)))) :=
  ⟨_, js_ret (je_op (jo_addK hK) (je_tup (ja_cons je_str (ja_cons (je_xf hK hpn hp (je_var 1 hN hv)) ja_nil))) (je_fnW (E := fun _ => E0) hK hpn hp F hr hk hC (ja_cons (je_var 1 hN hv) ja_nil) hg))⟩
/-- return ("no", e.tag) -/
theorem js_no1 (hK : X.K = Kf) (hpn : p ∈ X.pn) (hp : PinX Kf (G.w.plus G.os0) G.H0 p dd cn ns vs ds) (hN : X.N[1]? = some ("_law_e" : Str)) (hv : Vis X.env.scope "_law_e") :
    ∃ t, JS X G (.Return (some (.Tuple [.Constant (.str "no") u1 p1, .Attribute (.Name "_law_e" p2) "tag" p3] u2 p4)) p9) t (aRet (aTup (aCons (aC (.str "no")) (aCons (aXf p.1 ns ds "tag" (aVar 1)) aNil)))) :=
  ⟨_, js_ret (je_tup (ja_cons je_str (ja_cons (je_xf hK hpn hp (je_var 1 hN hv)) ja_nil)))⟩
end
end Bd
/-! BfX: a suite's reading that does not name the exception's object. -/
namespace Bd
open PySem L2
/-- any reading that holds for the object, whatever it is -/
def tsAny (Z : Cx) (suite : List Stmt) : Addr → Value → Option Addr → TS := fun a cls d D σ H => ∀ (oe : Obj) (pn : List (Addr × Obj)), Zc cls d oe → (∃ vs, oe.data = .fields vs) → ∃ t : TS, PSs (Z.suite a ((a, oe) :: pn)) suite t ∧ t D σ H
theorem tsAny_ok {Z : Cx} {suite : List Stmt} (a : Addr) (oe : Obj) (cls : Value) (d : Option Addr) (pn : List (Addr × Obj)) (hz : Zc cls d oe) (hf : ∃ vs, oe.data = .fields vs) : PSs (Z.suite a ((a, oe) :: pn)) suite (tsAny Z suite a cls d) :=
  ⟨fun pins s σ H D I h => by
    obtain ⟨t, ht, q⟩ := h oe pn hz hf
    exact ht.run pins s σ H D I q⟩
end Bd
/-! BfY: what _law_try makes of the lambda. -/
namespace Bd
open PySem L2
theorem takes_len {X : Cx} {W W' : WX} (tk : Takes X W) (h : ∀ cls d σ H, σ.length = X.N.length → W' cls d σ H → W cls d σ H) : Takes X W' := by
  rintro u s' ⟨a, B, sI, pins, σ, H, cls, d, e, I, nb, up, sky, na, os, ag, w⟩
  exact tk u s' ⟨a, B, sI, pins, σ, H, cls, d, e, I, nb, up, sky, na, os, ag, h _ _ _ _ I.len w⟩
/-- the context of _law_try's body -/
abbrev tryZ (X : Cx) (Ng : List Str) (x : Str) (sg : Scope) (g : Addr) (cdg : Value) (s : Shared) (H : Hp) : Cx := (cxOf C8.CX0 X.prog X.w X.K X.mg X.base Ng x sg g cdg X.A X.stack s H C8.E0).nox
@[simp] abbrev endR (Q : VK) : Ends := { nx := fun _ H' => Q .non H', rt := Q }
def TTry (X : Cx) (Ng : List Str) (x : Str) (sg : Scope) (g : Addr) (cdg : Value) (l : Cx → List ClT) : (XK → Hp → VK → Prop) → Hp → VK → Prop := fun tl H Q => ∃ Ech : XK,
  (tl Ech H fun v H1 => [V.str "told", v].length ≤ sizeLine ∧ ∀ p, H1 p = none → Q (.ref p) (upd H1 p (.tup [.str "told", v]))) ∧
    ∀ (s : Shared) (cls : Value) (d : Option Addr) (σ : L2.St) (H' : Hp), σ.length = Ng.length → Ech cls d H' → wMAs X.K (fun _ _ _ _ => False) (endR Q) (l (tryZ X Ng x sg g cdg s H)) cls d σ H'
theorem try_gives {X : Cx} {Ng : List Str} {x a q : Str} {sg : Scope} {g : Addr} {cdg : Value} {l : Cx → List ClT} {h₀ : ExceptHandler} {hds : List ExceptHandler} {j k : Nat} {p0 p1 p2 p3 p4 p5 : Pos} (hN : Ng.Nodup) (h0 : ∀ f : Addr, (L2.start Ng [V.ref f])[0]? = some (some (V.ref f)))
    (hh : ∀ s H, HdsAs (tryZ X Ng x sg g cdg s H) (h₀ :: hds) (l (tryZ X Ng x sg g cdg s H))) :
    LamX.GivesTo X Ng x sg g cdg [.Try [.Return (some (.Tuple [.Constant (.str "told") j p0, .Call (.Name a p1) [] [] p2] k p3)) p4] (h₀ :: hds) [] [] p5] a q (TTry X Ng x sg g cdg l) := by
  intro f c' s H Q tl act hc ⟨Ech, h1, h2⟩
  refine ⟨_, pss_one (ps_try_mas (X := tryZ X Ng x sg g cdg s H) (l := l (tryZ X Ng x sg g cdg s H)) (Wout := fun _ _ _ _ => False)
      (tb := fun W D σ H1 => (∀ cls d σ' H', σ'.length = Ng.length → Ech cls d H' → W cls d σ' H') ∧ σ[0]? = some (some (.ref f)) ∧ H1 c' = some (LamX.CodeO c' q) ∧ tl Ech H1 fun v H2 => [V.str "told", v].length ≤ sizeLine ∧ ∀ p, H2 p = none → D.rt (.ref p) (upd H2 p (.tup [.str "told", v])))
      rfl rfl hN LamX.takes0 (fun W pn xe tk _ => ?_) (hh s H)), ?_⟩
  · refine ⟨fun pins s' σ H1 D I h => ?_⟩
    obtain ⟨hW, e1, e2, e3⟩ := h
    have hp := act (fun cls d _ H' => Ech cls d H') pn xe Ech p1 p2 (takes_len tk fun cls d σ' H' hl z => hW cls d σ' H' hl z) (fun _ _ _ _ z => z)
    have hq := pss_one (ps_ret (pos := p4) (pe_tup (pos := p3) (x1 := k) (pa_cons (e := .Constant (.str "told") j p0) pe_str (pa_cons hp pa_nil))))
    exact hq.run pins s' σ H1 D I ⟨e1, e2, e3⟩
  · exact ⟨fun cls d σ' H' hl z => h2 s cls d σ' H' hl z, h0 f, hc, h1⟩
end Bd
/-! BfZ: _law_try(lambda: e) over data. -/
namespace Bd
open PySem L2
/-- what the law makes of an error: class, names and values of its fields -/
abbrev AXT := Str → List Str → List D → (D → Prop) → Prop
@[simp] abbrev aTry (ae : XD → ATE) (XT : AXT) : ATE := fun Γ c P => ae (fun cn ns es c1 => XT cn ns es fun d => P d c1) Γ c fun d c1 => P (.tup [.str "told", d]) c1
/-- the suites answer as XT tells, in any frame that starts with the error -/
def SuitesOk (K : PySem.W.Frag) (C : WC) (n : Nat) (Zs : Shared → Hp → Cx) (l : Cx → List ClT) (XT : AXT) : Prop :=
  ∀ (s : Shared) (H1 : Hp) (w : Wd) (os : Os) (cs : Cs) (σ : L2.St) (H : Hp) (cn : Str) (dd : Addr) (ns : List Str) (vs : List V) (es : List D) (P : D → Prop) (Q : VK), C w → σ.length = n → Stt K ⟨w, os, H⟩ [] os cs H → ((w.plus os).v H) dd = some (.xd (ns.zip vs)) → ns.length = vs.length → RA K (w.plus os) H vs es → XT cn ns es P →
    (∀ v H' d os2, Stt K ⟨w, os, H⟩ [] os2 cs H' → R K (w.plus os2) H' v d → P d → Q v H') → wMAs K (fun _ _ _ _ => False) (endR Q) (l (Zs s H1)) (.ref (He.ga K cn)) (some dd) σ H
theorem snd_try {X : Cx} {K : PySem.W.Frag} {F : Fr} {C : WC} {T : List (Addr × Str)} {Ng : List Str} {x : Str} {sg : Scope} {g : Addr} {cdg : Value} {l : Cx → List ClT} {t : Fr → XD → TE} {ae : XD → ATE} {XT : AXT} (hK : X.K = K)
    (hC : FP K F C) (tw : TabW T F.w) (hs : ∀ (G : Fr) (xd : XD), C G.w → SndE K G (t G xd) (ae xd)) (hw : SuitesOk K C Ng.length (fun s H => tryZ X Ng x sg g cdg s H) l XT) :
    SndE K F (LamX.tLam T (TTry X Ng x sg g cdg l) (lamT K C t)) (aTry ae XT) := by
  subst hK
  intro gs pv os cs σ H Γ P Q r ha hq
  refine ⟨r.st.has tw, fun H1 eN hT => ?_⟩
  have r1 := r.step (r.st.tabs tw eN hT)
  have rG := r1.here
  have cw : C (F.w.plus pv) := hC pv os cs H1 r1.st
  refine ⟨EXK X.K (F.here pv os H1) fun cn ns es c1 => XT cn ns es fun d => P d c1, ⟨F.here pv os H1, _, rfl, cw, ?_⟩, ?_⟩
  · refine hs (F.here pv os H1) _ cw [] [] os cs σ H1 Γ _ _ rG ha fun v H2 d os2 c2 r2 p2 => ⟨by rw [sizeLine_eq]; show 2 ≤ _; omega, fun p hp => ?_⟩
    have rB : Rel X.K F ((v, d) :: gs) pv os2 c2 σ H2 Γ := (r1.backF r2.st).gcons (Rw.mono (r1.st.backF r2.st).2.2 r2.head)
    have st := Step.new (o := .tup [.str "told", v]) rB.st.inv hp
    have rN := rB.step st
    refine hq _ _ _ os2 c2 (rN.tail.gcons (.tup (vis_of (fresh_out rB.st.inv hp) upd_same) (.cons (.str "told") (.cons rN.head .nil)))) p2
  · rintro s cls d σ' H' hl ⟨cn, ns, dd, vs, es, os', cs', rfl, rfl, hv, hn, s2, rv, px⟩
    have rB := r1.backF s2
    have e0 : Ext (((F.here pv os H1).at [] os').v H') (((F.w.plus pv).plus os').v H') := fun _ _ q => q
    refine hw s _ (F.w.plus pv) os' cs' σ' H' cn dd ns vs es (fun d => P d cs') Q cw hl rB.here.st (e0 _ _ hv) hn (RwA.mono e0 rv) px fun v H2 d os2 s3 rd pd => ?_
    have e1 : Ext (((F.w.plus pv).plus os2).v H2) ((F.at pv os2).v H2) := fun _ _ q => q
    exact hq v H2 d os2 cs' ((rB.backF s3).gcons (Rw.mono e1 rd)) pd
end Bd
/-! BgA: the slots of _law_try in a suite. -/
namespace Bd
open PySem L2
theorem rel_slot {K : PySem.W.Frag} {G : Fr} {os : Os} {cs : Cs} {H : Hp} {σ : L2.St} {a : Addr} (s : Stt K G [] os cs H) (hl : σ.length = 2) : Rel K G [] [] os cs (σ.set 1 (some (.ref a))) H [none, some (.adr a)] := by
  refine ⟨s, by simp [hl], fun i d e => ?_, fun p hp => by cases hp⟩
  match i, e with
  | 0, e => simp at e
  | 1, e =>
    obtain rfl : D.adr a = d := by simpa using e
    exact ⟨.ref a, by rw [List.getElem?_set_self (by omega)], .adr a⟩
  | n + 2, e => simp at e
end Bd
/-! BgB: an error that the first clause of _law_try takes. -/
namespace Bd
open PySem L2 L2H
/-- what the law makes of such an error -/
@[simp] abbrev xtNo (A : AW) : AXT := fun cn ns es P => match (ns.zip es).lookup ("tag" : Str) with
  | some tg => ∀ a : Addr, A a cn ns es [.adr a] fun d => wAdd (.tup [.str "no", tg]) d P
  | none => False
section
variable {X : Cx} {K : PySem.W.Frag} {C C' : WC} {A : AW} {x : Str} {sg : Scope} {g : Addr} {cdg : Value} {ps : List Str} {c1 : Value} {k j u1 u2 : Nat} {p1 p2 p3 p4 p5 p6 p7 p8 p9 : Pos} {l : Cx → List ClT} {Ng : List Str}
theorem tsAny_no {s : Shared} {H0 H : Hp} {w : Wd} {os : Os} {cs : Cs} {σ : L2.St} {cn : Str} {dd a : Addr} {ns : List Str} {vs : List V} {es : List D} {P : D → Prop} {Q : VK} (hK : X.K = K) (hx : XcOk K cn) (F : FncW X.prog X.w K X.mg X.base "_law_fields" k ps C' A) (hr : RoomH k (X.A.deeper (PyProof.Rows.envOfC x sg s.heap.objs.size g cdg)))
    (hN : Ng[1]? = some ("_law_e" : Str)) (hv : Vis sg "_law_e") (hg : sg.names.lookup ("_law_fields" : Str) = some .globalImplicit) (hC : FC K ⟨w, os, H⟩ C') (hl : σ.length = 2) (st : Stt K ⟨w, os, H⟩ [] os cs H) (hd : ((w.plus os).v H) dd = some (.xd (ns.zip vs))) (hn : ns.length = vs.length) (rv : RA K (w.plus os) H vs es) (px : xtNo A cn ns es P)
    (hq : ∀ v H' d os2, Stt K ⟨w, os, H⟩ [] os2 cs H' → R K (w.plus os2) H' v d → P d → Q v H') :
    tsAny (tryZ X Ng x sg g cdg s H0) [.Return (some (.BinOp (.Tuple [.Constant (.str "no") u1 p1, .Attribute (.Name "_law_e" p2) "tag" p3] u2 p4) .Add (.Call (.Name "_law_fields" p5) [.Name "_law_e" p6] [] p7) p8)) p9] a (.ref (He.ga K cn)) (some dd) (endAs (endR Q) 1) (σ.set 1 (some (.ref a))) H := by
  subst hK
  intro oe pn hz hf
  have hp : PinX X.K (w.plus os) H (a, oe) dd cn ns vs es := ⟨hz, hf, hd, hn, rv, hx⟩
  obtain ⟨t, ht⟩ := js_no (X := (tryZ X Ng x sg g cdg s H0).suite a ((a, oe) :: pn)) (G := ⟨w, os, H⟩) (u1 := u1) (u2 := u2) (p1 := p1) (p2 := p2) (p3 := p3) (p4 := p4) (p5 := p5) (p6 := p6) (p7 := p7) (p8 := p8) (p9 := p9) rfl (List.mem_cons_self ..) hp F (j := k) ⟨hr.dp, hr.un⟩ (Nat.le_refl _) hC hN hv hg
  refine ⟨_, pss_one ht.p, ht.s [] os cs _ H _ { nx := fun _ _ => False, rt := fun d c => P d ∧ c = cs } _ (rel_slot st hl) ?_ ⟨fun _ _ _ _ _ _ z => z.elim, fun _ _ _ _ _ _ z => z.elim, fun _ _ _ _ _ _ z => z.elim, fun v H' d os' cs' s' r p => ?_⟩⟩
  · simp only [xtNo] at px
    split at px
    · rename_i tg htg
      simp only [aRet, aOp, aTup, aCons, aC, aXf, aVar, aNil, aCallW]
      simp [htg]
      exact px a
    · exact px.elim
  · obtain ⟨p, rfl⟩ := p
    exact hq v H' d os' s' (Rw.mono (fun _ _ q => q) r) p
end
end Bd
/-! BgC: the rule for _law_try(lambda: e). -/
namespace Bd
open PySem L2 L2H
/-- which clause of _law_try takes an error of the class -/
def tryB (K : PySem.W.Frag) (cs : List Str) : Bool := cs.all fun cn => xfB K (He.ga K cn) && (xfl.all (fun f => He.eqO (PySem.W.findIn K (.ref (He.ga K cn)) f) (some none)) &&
  (if cn = "NothingLeft" then decide (PySem.W.exmOne K (.ref (He.ga K cn)) (.ref (He.ga K "CallError")) = some false) && (decide (PySem.W.exmOne K (.ref (He.ga K cn)) (.ref (He.ga K "Missing")) = some false) && decide (PySem.W.exmOne K (.ref (He.ga K cn)) (.ref (He.ga K "NothingLeft")) = some true))
   else decide (PySem.W.exmOne K (.ref (He.ga K cn)) (.ref (He.ga K "CallError")) = some true) || (decide (PySem.W.exmOne K (.ref (He.ga K cn)) (.ref (He.ga K "CallError")) = some false) && decide (PySem.W.exmOne K (.ref (He.ga K cn)) (.ref (He.ga K "Missing")) = some true))))
structure TryC (K : PySem.W.Frag) (cs : List Str) : Prop where
  ok : ∀ c, c ∈ cs → XcOk K c
  cl : ∀ c, c ∈ cs → if c = "NothingLeft" then PySem.W.exmOne K (.ref (He.ga K c)) (.ref (He.ga K "CallError")) = some false ∧ PySem.W.exmOne K (.ref (He.ga K c)) (.ref (He.ga K "Missing")) = some false ∧ PySem.W.exmOne K (.ref (He.ga K c)) (.ref (He.ga K "NothingLeft")) = some true
   else PySem.W.exmOne K (.ref (He.ga K c)) (.ref (He.ga K "CallError")) = some true ∨ (PySem.W.exmOne K (.ref (He.ga K c)) (.ref (He.ga K "CallError")) = some false ∧ PySem.W.exmOne K (.ref (He.ga K c)) (.ref (He.ga K "Missing")) = some true)
theorem tryB_ok {K : PySem.W.Frag} {cs : List Str} (h : tryB K cs = true) : TryC K cs := by
  have key := fun c hc => List.all_eq_true.mp h c hc
  refine ⟨fun c hc => ?_, fun c hc => ?_⟩
  · obtain ⟨h1, h2⟩ := He.ba (key c hc)
    obtain ⟨h3, _⟩ := He.ba h2
    exact ⟨xfB_ok h1, fun f hf => He.eqO_ok (List.all_eq_true.mp h3 f hf)⟩
  · obtain ⟨h1, h2⟩ := He.ba (key c hc)
    obtain ⟨_, h3⟩ := He.ba h2
    by_cases e : c = "NothingLeft"
    · rw [if_pos e] at h3 ⊢
      obtain ⟨h4, h5⟩ := He.ba h3
      obtain ⟨h5, h6⟩ := He.ba h5
      exact ⟨of_decide_eq_true h4, of_decide_eq_true h5, of_decide_eq_true h6⟩
    · rw [if_neg e] at h3 ⊢
      rcases Bool.or_eq_true_iff.mp h3 with h4 | h4
      · exact .inl (of_decide_eq_true h4)
      · obtain ⟨h5, h6⟩ := He.ba h4
        exact .inr ⟨of_decide_eq_true h5, of_decide_eq_true h6⟩
/-- what the law makes of an error -/
@[simp] abbrev xtT (A : AW) (cs : List Str) : AXT := fun cn ns es P => cn ∈ cs ∧ if cn = "NothingLeft" then (match (ns.zip es).lookup ("tag" : Str) with
  | some tg => P (.tup [.str "no", tg])
  | none => False) else xtNo A cn ns es P
section
variable {X : Cx} {K : PySem.W.Frag} {C C' : WC} {A : AW} {x : Str} {sg : Scope} {g : Addr} {cdg : Value} {ps : List Str} {c1 : Value} {k j u1 u2 : Nat} {p1 p2 p3 p4 p5 p6 p7 p8 p9 : Pos} {l : Cx → List ClT} {Ng : List Str}
theorem tsAny_no1 {s : Shared} {H0 H : Hp} {w : Wd} {os : Os} {cs : Cs} {σ : L2.St} {cn : Str} {dd a : Addr} {ns : List Str} {vs : List V} {es : List D} {P : D → Prop} {Q : VK} (hK : X.K = K) (hx : XcOk K cn)
    (hN : Ng[1]? = some ("_law_e" : Str)) (hv : Vis sg "_law_e") (hl : σ.length = 2) (st : Stt K ⟨w, os, H⟩ [] os cs H) (hd : ((w.plus os).v H) dd = some (.xd (ns.zip vs))) (hn : ns.length = vs.length) (rv : RA K (w.plus os) H vs es) (px : match (ns.zip es).lookup ("tag" : Str) with
      | some tg => P (.tup [.str "no", tg])
      | none => False)
    (hq : ∀ v H' d os2, Stt K ⟨w, os, H⟩ [] os2 cs H' → R K (w.plus os2) H' v d → P d → Q v H') :
    tsAny (tryZ X Ng x sg g cdg s H0) [.Return (some (.Tuple [.Constant (.str "no") u1 p1, .Attribute (.Name "_law_e" p2) "tag" p3] u2 p4)) p9] a (.ref (He.ga K cn)) (some dd) (endAs (endR Q) 1) (σ.set 1 (some (.ref a))) H := by
  subst hK
  intro oe pn hz hf
  have hp : PinX X.K (w.plus os) H (a, oe) dd cn ns vs es := ⟨hz, hf, hd, hn, rv, hx⟩
  obtain ⟨t, ht⟩ := js_no1 (X := (tryZ X Ng x sg g cdg s H0).suite a ((a, oe) :: pn)) (G := ⟨w, os, H⟩) (u1 := u1) (u2 := u2) (p1 := p1) (p2 := p2) (p3 := p3) (p4 := p4) (p9 := p9) rfl (List.mem_cons_self ..) hp hN hv
  refine ⟨_, pss_one ht.p, ht.s [] os cs _ H _ { nx := fun _ _ => False, rt := fun d c => P d ∧ c = cs } _ (rel_slot st hl) ?_ ⟨fun _ _ _ _ _ _ z => z.elim, fun _ _ _ _ _ _ z => z.elim, fun _ _ _ _ _ _ z => z.elim, fun v H' d os' cs' s' r p => ?_⟩⟩
  · split at px
    · rename_i tg htg
      simp only [aRet, aTup, aCons, aC, aXf, aVar, aNil]
      simp [htg]
      exact px
    · exact px.elim
  · obtain ⟨p, rfl⟩ := p
    exact hq v H' d os' s' (Rw.mono (fun _ _ q => q) r) p
end
/-- the text of _law_try -/
abbrev suNo (u1 u2 : Nat) (p1 p2 p3 p4 p5 p6 p7 p8 p9 : Pos) : List Stmt := [.Return (some (.BinOp (.Tuple [.Constant (.str "no") u1 p1, .Attribute (.Name "_law_e" p2) "tag" p3] u2 p4) .Add (.Call (.Name "_law_fields" p5) [.Name "_law_e" p6] [] p7) p8)) p9]
abbrev suNo1 (u1 u2 : Nat) (p1 p2 p3 p4 p9 : Pos) : List Stmt := [.Return (some (.Tuple [.Constant (.str "no") u1 p1, .Attribute (.Name "_law_e" p2) "tag" p3] u2 p4)) p9]
inductive TryText : List Stmt → Prop
  | mk (u0 v0 u1 u2 u3 u4 u5 u6 : Nat) (a0 a1 a2 a3 a4 a5 p1 p2 p3 p4 p5 p6 p7 p8 p9 q1 q2 q3 q4 q5 q6 q7 q8 q9 r1 r2 r3 r4 r9 n1 n2 n3 h1 h2 h3 : Pos) :
    TryText [.Try [.Return (some (.Tuple [.Constant (.str "told") u0 a0, .Call (.Name "_law_ask" a1) [] [] a2] v0 a3)) a4]
      [.ExceptHandler (some (.Name "CallError" n1)) (some "_law_e") (suNo u1 u2 p1 p2 p3 p4 p5 p6 p7 p8 p9) h1, .ExceptHandler (some (.Name "Missing" n2)) (some "_law_e") (suNo u3 u4 q1 q2 q3 q4 q5 q6 q7 q8 q9) h2,
       .ExceptHandler (some (.Name "NothingLeft" n3)) (some "_law_e") (suNo1 u5 u6 r1 r2 r3 r4 r9) h3] [] [] a5]
/-- the scope of _law_try -/
structure TryS (sg : Scope) : Prop where
  fs : FnScope ["_law_ask", "_law_e"] ["_law_ask"] sg
  ask : sg.names.lookup ("_law_ask" : Str) = some .local
  e : sg.names.lookup ("_law_e" : Str) = some .local
  f : sg.names.lookup ("_law_fields" : Str) = some .globalImplicit
  c1 : sg.names.lookup ("CallError" : Str) = some .globalImplicit
  c2 : sg.names.lookup ("Missing" : Str) = some .globalImplicit
  c3 : sg.names.lookup ("NothingLeft" : Str) = some .globalImplicit
structure TryF (P : Program) (w : World) (K : PySem.W.Frag) (mg : Str → Option Value) (base : Heap) (st : Stmt) (j : Nat) (A : AW) (cs : List Str) : Prop where
  d : ∃ fd, FnS K "_law_try" "_law_try" st [] (He.ga K "_law_try") fd ∧ Binds K fd ["_law_ask"] []
  tx : TryText (defBody st)
  sc : TryS (defScope st)
  fl : FncW P w K mg base "_law_fields" j ["_law_e"] Any A
  m : mg "_law_try" = some (.ref (He.ga K "_law_try"))
  m1 : mg "CallError" = some (.ref (He.ga K "CallError"))
  m2 : mg "Missing" = some (.ref (He.ga K "Missing"))
  m3 : mg "NothingLeft" = some (.ref (He.ga K "NothingLeft"))
  cs : TryC K cs
theorem wMAs_no {K : PySem.W.Frag} {Wout : WX} {D : Ends} {c cls : Value} {i : Nat} {ts : Addr → Value → Option Addr → TS} {r : List ClT} {d : Option Addr} {σ : L2.St} {H : Hp} (h : PySem.W.exmOne K cls c = some false) (hr : wMAs K Wout D r cls d σ H) : wMAs K Wout D ((c, i, ts) :: r) cls d σ H :=
  ⟨false, h, fun z => (by cases z), fun _ => hr⟩
theorem wMAs_yes {K : PySem.W.Frag} {Wout : WX} {D : Ends} {c cls : Value} {i : Nat} {ts : Addr → Value → Option Addr → TS} {r : List ClT} {d : Option Addr} {σ : L2.St} {H : Hp} (h : PySem.W.exmOne K cls c = some true) (hr : ∀ a, ts a cls d (endAs D i) (σ.set i (some (.ref a))) H) : wMAs K Wout D ((c, i, ts) :: r) cls d σ H :=
  ⟨true, h, fun _ a _ => hr a, fun z => by cases z⟩
/-- where lambdas are made: the def's code object c, its table P -/
structure LamH (X : Cx) (T : List (Addr × Str)) (c P : Addr) : Prop where
  tb : LamX.TabB X.base X.mg c P
  code : X.env.code = .ref c
  mem : (P, X.env.qual ++ "<lambda>") ∈ T
  un : ∀ p ∈ T, p.1 = P → p.2 = X.env.qual ++ "<lambda>"
theorem je_try {X : Cx} {Fm : Fr} {K : PySem.W.Frag} {C : WC} {A : AW} {cs : List Str} {T : List (Addr × Str)} {c P : Addr} {j k : Nat} {st : Stmt} {params : Arguments} {body : Expr} {scope : Scope} {t : Fr → XD → TE} {ae : XD → ATE} {p lpos pos : Pos} (hK : X.K = K)
    (F : TryF X.prog X.w K X.mg X.base st j A cs) (hL : LamH X T c P) (tw : TabW T Fm.w) (hr : Room (k + 2) X.A) (hj : j ≤ k + 1) (L : LamX.LamS X.env.scope scope) (hdef : defaultsOf params X.env = ([], []))
    (hbind : ∀ (q : Str) (cl : List (Str × Addr)) (pm cv ctv : Value), bindArgs (PySem.W.kla_fn "<lambda>" q params body scope cl pm cv ctv) ⟨[], []⟩ = pure [])
    (hg : Gl X "_law_try") (hC : FP K Fm C)
    (hb : ∀ (G : Fr) (xd : XD) (A : Around) (outer : List Env) (s : Shared) (H : Hp) (f c' : Addr), C G.w → Room k (A.deeper (LamX.lamEnv X scope s.heap.objs.size f c')) → TakesX (LamX.lamCx X A outer s H (EXK K G xd) scope f c') K G xd →
      JE (LamX.lamCx X A outer s H (EXK K G xd) scope f c') G body (t G xd) (ae xd)) :
    ∃ t', JE X Fm (.Call (.Name "_law_try" p) [.Lambda params body scope lpos] [] pos) t' (aTry ae (xtT A cs)) := by
  subst hK
  obtain ⟨fd, ⟨⟨oc, od, dV, kV, doc, pm, an, cdg, ct, osl, rfl, lk, hcd, hD, hKd⟩, kp⟩, bnd⟩ := F.d
  have tx := F.tx
  generalize hbd : defBody st = bd at tx
  cases tx with
  | mk u0 v0 u1 u2 u3 u4 u5 u6 a0 a1 a2 a3 a4 a5 p1 p2 p3 p4 p5 p6 p7 p8 p9 q1 q2 q3 q4 q5 q6 q7 q8 q9 r1 r2 r3 r4 r9 n1 n2 n3 h1 h2 h3 =>
  rw [hbd] at lk bnd
  let sg := defScope st
  let l : Cx → List ClT := fun Z => [(.ref (He.ga X.K "CallError"), 1, tsAny Z (suNo u1 u2 p1 p2 p3 p4 p5 p6 p7 p8 p9)), (.ref (He.ga X.K "Missing"), 1, tsAny Z (suNo u3 u4 q1 q2 q3 q4 q5 q6 q7 q8 q9)), (.ref (He.ga X.K "NothingLeft"), 1, tsAny Z (suNo1 u5 u6 r1 r2 r3 r4 r9))]
  have hG : LamX.GivesTo X ["_law_ask", "_law_e"] "_law_try" sg (He.ga X.K "_law_try") cdg [.Try [.Return (some (.Tuple [.Constant (.str "told") u0 a0, .Call (.Name "_law_ask" a1) [] [] a2] v0 a3)) a4]
      [.ExceptHandler (some (.Name "CallError" n1)) (some "_law_e") (suNo u1 u2 p1 p2 p3 p4 p5 p6 p7 p8 p9) h1, .ExceptHandler (some (.Name "Missing" n2)) (some "_law_e") (suNo u3 u4 q1 q2 q3 q4 q5 q6 q7 q8 q9) h2,
       .ExceptHandler (some (.Name "NothingLeft" n3)) (some "_law_e") (suNo1 u5 u6 r1 r2 r3 r4 r9) h3] [] [] a5] "_law_ask" (X.env.qual ++ "<lambda>") (TTry X ["_law_ask", "_law_e"] "_law_try" sg (He.ga X.K "_law_try") cdg l) :=
    try_gives (l := l) F.sc.fs.nd (fun f => rfl) (fun s H => .cons ⟨F.sc.c1, by decide, .inl F.m1⟩ rfl F.sc.e tsAny_ok (.cons ⟨F.sc.c2, by decide, .inl F.m2⟩ rfl F.sc.e tsAny_ok (.cons ⟨F.sc.c3, by decide, .inl F.m3⟩ rfl F.sc.e tsAny_ok .nil)))
  refine ⟨_, LamX.pe_lamcall (k := k) hg F.m kp lk hcd bnd F.sc.fs rfl (.inl F.sc.ask) hG hL.tb hL.code hL.mem hL.un hr L hdef hbind (fun A outer s H E f c' hr => pe_lamT (C := C) (t := t) (ae := ae) hb A outer s H E f c' hr), ?_⟩
  refine snd_try rfl hC tw (fun G xd hc => ?_) ?_
  · exact (hb G xd X.A [] X.s_0 X.H_0 0 0 hc ((hr.deeper _).mono (by omega)) takes_lam).s
  · intro s H1 w os cs' σ H cn dd ns vs es P Q hc hl st hd hn rv px hq
    obtain ⟨hm, px⟩ := px
    have hx := F.cs.ok cn hm
    have hcl := F.cs.cl cn hm
    have hrH : ∀ (s : Shared), RoomH j (X.A.deeper (PyProof.Rows.envOfC "_law_try" sg s.heap.objs.size (He.ga X.K "_law_try") cdg)) := fun s => roomH_of ((hr.deeper _).mono hj)
    by_cases e : cn = "NothingLeft"
    · rw [if_pos e] at px hcl
      obtain ⟨k1, k2, k3⟩ := hcl
      refine wMAs_no k1 (wMAs_no k2 (wMAs_yes k3 fun a => ?_))
      exact tsAny_no1 rfl hx rfl (.inl F.sc.e) hl st hd hn rv px hq
    · rw [if_neg e] at px hcl
      rcases hcl with k1 | ⟨k1, k2⟩
      · refine wMAs_yes k1 fun a => ?_
        exact tsAny_no (C' := Any) rfl hx F.fl (hrH s) rfl (.inl F.sc.e) F.sc.f (fun _ _ _ _ _ => trivial) hl st hd hn rv px hq
      · refine wMAs_no k1 (wMAs_yes k2 fun a => ?_)
        exact tsAny_no (C' := Any) rfl hx F.fl (hrH s) rfl (.inl F.sc.e) F.sc.f (fun _ _ _ _ _ => trivial) hl st hd hn rv px hq
end Bd
/-! BgD: a law in which lambdas are made. -/
namespace Bd
open PySem L2
section
variable {P : Program} {w : World} {K : PySem.W.Frag} {mg : Str → Option Value} {base : Heap} {x qual : Str} {st : Stmt} {dvs : List V} {f : Addr} {fd : FuncData} {k : Nat}
/-- the rule for a def whose code object is known -/
theorem fnS_okC {CX : CXT} {N ps : List Str} {sp : Sp} (F : FnS K x qual st dvs f fd) (S : FnScope N ps (defScope st)) (len : ∀ vs H Q E, sp vs H Q E → vs.length = ps.length)
    (hbody : ∀ (c : Addr) (A : Around) (outer : List Env) (s : Shared) (H : Hp) (vs : List V) (Q : VK) (E : XK), fd.code = .ref c → Room k (A.deeper (PyProof.Rows.envOfC qual (defScope st) s.heap.objs.size f (.ref c))) → sp vs H Q E →
      ∃ t, PSs (cxOf CX P w K mg base N qual (defScope st) f (.ref c) A outer s H E) (defBody st) t ∧ t { nx := fun _ H' => Q .non H', rt := Q } (L2.start N vs) H) : FnOk P w K mg base CX (k + 1) f fd ps sp := by
  obtain ⟨oc, od, dV, kV, doc, pm, an, cdv, ct, osl, rfl, lk, hcd, _, _⟩ := F.ex
  obtain ⟨c, rfl⟩ := He.codeIn_ref hcd
  exact fn_of lk hcd S len fun A outer s H vs Q E hr hsp => hbody c A outer s H vs Q E rfl hr hsp
end
/-- a bag beside tables of code objects -/
def bagWdT (T : List (Addr × Str)) (b c : Addr) : Wd where
  ms := b :: c :: T.map (·.1)
  hd := fun n => if n = 0 then some b else none
  I := fun H => BagAt b c H ∧ LamX.Tabs T H
  loc := fun H H' k ke h => by
    obtain ⟨⟨ns, i, g, s, h1, h2, h3⟩, t⟩ := h
    refine ⟨⟨ns, i, g, s, (k b (by simp)).trans h1, (k c (by simp)).trans h2, h3⟩, fun p hp => ?_⟩
    obtain ⟨qs, q1, q2, q3⟩ := t p hp
    refine ⟨qs, (k p.1 (List.mem_cons_of_mem _ (List.mem_cons_of_mem _ (List.mem_map_of_mem hp)))).trans q1, q2, fun pos cv hc => ?_⟩
    obtain ⟨c', e1, e2⟩ := q3 pos cv hc
    exact ⟨c', e1, ke _ _ e2 rfl⟩
  live := fun H h a ha => by
    obtain ⟨⟨ns, i, g, s, h1, h2, h3⟩, t⟩ := h
    rcases List.mem_cons.mp ha with e | ha
    · rw [e]; exact ⟨_, h1⟩
    · rcases List.mem_cons.mp ha with e | ha
      · rw [e]; exact ⟨_, h2⟩
      · obtain ⟨p, hp, e⟩ := List.mem_map.mp ha
        obtain ⟨qs, q1, _⟩ := t p hp
        rw [← e]
        exact ⟨_, q1⟩
theorem tabs_keep {T : List (Addr × Str)} {H H' : Hp} (t : LamX.Tabs T H) (k : ∀ p, p ∈ T → H' p.1 = H p.1) (ke : KeepE H H') : LamX.Tabs T H' := fun p hp => by
  obtain ⟨qs, q1, q2, q3⟩ := t p hp
  refine ⟨qs, (k p hp).trans q1, q2, fun pos cv hc => ?_⟩
  obtain ⟨c', e1, e2⟩ := q3 pos cv hc
  exact ⟨c', e1, ke _ _ e2 rfl⟩
theorem bagWdT_ok {T : List (Addr × Str)} {b c : Addr} (h : b ≠ c) : BagW (bagWdT T b c) :=
  ⟨b, c, rfl, by simp [bagWdT], by simp [bagWdT], h, fun H h => h.1, fun H H' hI k ke hb => ⟨hb, tabs_keep hI.2 (fun p hp => k _ (List.mem_cons_of_mem _ (List.mem_cons_of_mem _ (List.mem_map_of_mem hp))) fun z => by
    obtain ⟨⟨ns, i, g, s, h1, _⟩, t⟩ := hI
    obtain ⟨qs, q1, _⟩ := t p hp
    rw [z, h1] at q1
    cases q1) ke⟩⟩
theorem bagWdT_tab {T : List (Addr × Str)} {b c : Addr} : TabW T (bagWdT T b c) :=
  ⟨fun H h => h.2, fun H H1 e t h => by
    obtain ⟨⟨ns, i, g, s, h1, h2, h3⟩, _⟩ := h
    exact ⟨⟨ns, i, g, s, e _ _ h1 (fun _ z => by cases z), e _ _ h2 (fun _ z => by cases z), h3⟩, t⟩⟩
/-- the law's own promise, tables told -/
def spLawT (K : PySem.W.Frag) (T : List (Addr × Str)) : Sp := fun vs H Q _ => ∃ (a : Addr) (ns : List Int), vs = [.ref a] ∧ SqL K H a (ns.map V.int) ∧ ns.length ≤ 63 ∧ LamX.Tabs T H ∧ ∀ H', Q (.bl true) H'
theorem start_sttT {K : PySem.W.Frag} {T : List (Addr × Str)} {b c : Addr} {H : Hp} (h : BagAt b c H) (t : LamX.Tabs T H) : Stt K ⟨bagWdT T b c, [], H⟩ [] [] [] H := start_stt (w := bagWdT T b c) ⟨h, t⟩
section
variable {P : Program} {w : World} {K : PySem.W.Frag} {mg : Str → Option Value} {base : Heap}
theorem law_mkT {x : Str} {st st1 : Stmt} {rest : List Stmt} {N : List Str} {k : Nat} {fd : FuncData} {y z : Str} {N' : List Str} {a : ATS} {f : Addr} {T : List (Addr × Str)} (F : FnS K x x st [] f fd) (S : FnScope N [y] (defScope st)) (hN : N = y :: z :: N') (hB : defBody st = st1 :: rest)
    (hJ : ∀ (Fm : Fr) (c : Addr) (A : Around) (outer : List Env) (s : Shared) (H : Hp) (E : XK), fd.code = .ref c → BagW Fm.w → TabW T Fm.w → Room k (A.deeper (PyProof.Rows.envOfC x (defScope st) s.heap.objs.size f (.ref c))) → PS (cxOf CX0 P w K mg base N x (defScope st) f (.ref c) A outer s H E).nox st1 (tAsg (tCall (spBag K) [] E0 (tCons (tVar 0) tNil)) (gName 1)) ∧
      ∃ t, JSs (cxOf CX0 P w K mg base N x (defScope st) f (.ref c) A outer s H E).nox Fm rest t a)
    (hA : a { nx := fun _ _ => False, rt := fun d _ => d = .bl true } (none :: some (.hdl 0) :: List.replicate N'.length none) []) : FnOk P w K mg base CX0 (k + 1) f fd [y] (spLawT K T) := by
  refine fnS_okC F S (fun vs H Q E h => ?_) (fun cd A outer s H vs Q E hcd hr h => ?_)
  · obtain ⟨a, ns, rfl, _⟩ := h
    rfl
  · obtain ⟨ad, ns, rfl, hS, hl, hT, kq⟩ := h
    obtain ⟨j1, _⟩ := hJ ⟨bagWdT T 0 1, [], H⟩ cd A outer s H E hcd (bagWdT_ok (by decide)) bagWdT_tab hr
    rw [hB]
    refine ⟨tSeq (tAsg (tCall (spBag K) [] E0 (tCons (tVar 0) tNil)) (gName 1)) (fun D' σ H' => ∃ (b c : Addr) (h : b ≠ c), (hJ ⟨bagWdT T b c, [], H'⟩ cd A outer s H E hcd (bagWdT_ok h) bagWdT_tab hr).2.choose D' σ H'), PSs.nox (pss_cons j1 ⟨fun pins s' σ H' D' I ⟨b, c, h, q⟩ => (hJ ⟨bagWdT T b c, [], H'⟩ cd A outer s H E hcd (bagWdT_ok h) bagWdT_tab hr).2.choose_spec.p.run pins s' σ H' D' I q⟩), ?_⟩
    subst hN
    refine ⟨_, rfl, ad, ns, rfl, hS, hl, fun b c H' ex hb hc hbc hBag => ?_⟩
    refine ⟨b, c, hbc, ?_⟩
    have hs : (L2.start (y :: z :: N') [V.ref ad]).set 1 (some (.ref b)) = some (.ref ad) :: some (.ref b) :: List.replicate N'.length none := by
      unfold L2.start
      rfl
    rw [hs]
    refine (hJ ⟨bagWdT T b c, [], H'⟩ cd A outer s H E hcd (bagWdT_ok hbc) bagWdT_tab hr).2.choose_spec.s [] [] [] _ H' _ _ _ ⟨start_sttT hBag (hT.ext ex), by simp, fun i d e => ?_, fun p hp => (by cases hp)⟩ hA ⟨fun _ _ _ _ _ _ p => p.elim, fun _ _ _ _ _ _ p => p.elim, fun _ _ _ _ _ _ p => p.elim, fun v H2 d _ _ _ rv p => ?_⟩
    · match i, e with
      | 0, e => cases e
      | 1, e => cases e; exact ⟨.ref b, rfl, .hdl rfl⟩
      | i + 2, e =>
        have e2 : (List.replicate N'.length (none : Option D))[i]? = some (some d) := e
        rw [List.getElem?_replicate] at e2
        split at e2 <;> cases e2
    · subst p
      rw [r_bl rv]
      exact kq H2
end
/-- the table of the def at p, and what its lambdas are called -/
abbrev tabL (K : PySem.W.Frag) (p : He.Defn) (q : Str) : Addr × Str := ((He.cT K p).2, q ++ "<lambda>")
theorem code_law {K : PySem.W.Frag} {x qual : Str} {st : Stmt} {fd : FuncData} {c : Addr} (F : FnS K x qual st [] (He.ga K x) fd) (h : fd.code = .ref c) : (He.cT K (x, none)).1 = c := by
  obtain ⟨oc, od, dV, kV, doc, pm, an, cdv, ct, osl, rfl, lk, hcd, _, _⟩ := F.ex
  exact He.codeOf_eq (p := (x, none)) lk h
theorem lamH_law {CX : CXT} {P : Program} {w : World} {K : PySem.W.Frag} {mg : Str → Option Value} {base : Heap} {x q : Str} {st : Stmt} {fd : FuncData} {c : Addr} {N : List Str} {sc : Scope} {A : Around} {outer : List Env} {s : Shared} {H : Hp} {E : XK} (F : FnS K x x st [] (He.ga K x) fd) (h : fd.code = .ref c)
    (tb : LamX.TabB base mg (He.cT K (x, none)).1 (He.cT K (x, none)).2) (hq : q = x ++ ".<locals>.") : LamH (cxOf CX P w K mg base N x sc (He.ga K x) (.ref c) A outer s H E).nox [tabL K (x, none) q] c (He.cT K (x, none)).2 := by
  subst hq
  have e := code_law F h
  refine ⟨by rw [← e]; exact tb, rfl, List.mem_singleton.mpr rfl, fun p hp _ => ?_⟩
  rw [List.mem_singleton.mp hp]
  rfl
end Bd
/-! BgE: facts about own exception classes by Bool checks. -/
namespace Bd
open PySem L2
def oexB (K : PySem.W.Frag) (C : Addr) (ni : String) (tl : List Value) : Bool := (match K.lookup C with
  | some ⟨.type t, _, .cls cd, sl⟩ => decide (t = "type") && (match cd.mro, sl.toList with
    | .ref C' :: bm, [_, _, _, _, some (.builtin n), _] => decide (C' = C) && (decide (n = ni) && (!cd.hasDel && (cd.hasDict && PySem.W.excTail tl bm)))
    | _, _ => false)
  | _ => false) && (He.eqO (PySem.W.findIn K (.ref C) "__setattr__") (some (some (.builtin "object.__setattr__"))) && (decide (PySem.W.subIn K (.ref C) (.type "BaseException") = some true) && (decide (PySem.W.typeIn K (.ref C) = some (.type "type")) && PySem.W.keepIn K (.ref C))))
theorem oexB_ok {K : PySem.W.Frag} {C : Addr} {B ni ii : String} {tl : List Value} (bf : ExB B ni ii tl) (h : oexB K C ni tl = true) : OexG K C B ni ii tl := by
  obtain ⟨h0, h⟩ := He.ba h
  obtain ⟨h1, h⟩ := He.ba h
  obtain ⟨h2, h⟩ := He.ba h
  obtain ⟨h3, h4⟩ := He.ba h
  refine ⟨bf, ?_, He.eqO_ok h1, of_decide_eq_true h2, of_decide_eq_true h3, h4⟩
  split at h0
  · rename_i t dd cd sl lk
    obtain ⟨q1, g0⟩ := He.ba h0
    obtain rfl := of_decide_eq_true q1
    clear h0
    split at g0
    · rename_i C' bm x0 x1 x2 x3 n x5 em es
      obtain ⟨q2, g1⟩ := He.ba g0
      obtain ⟨q3, g2⟩ := He.ba g1
      obtain ⟨q4, g3⟩ := He.ba g2
      obtain ⟨q5, q6⟩ := He.ba g3
      obtain rfl := of_decide_eq_true q2
      obtain rfl := of_decide_eq_true q3
      obtain ⟨nm, bs, mro, ns, qn, hd, sn, sb, ab, col, del⟩ := cd
      dsimp only at em q4 q5
      subst em q5
      obtain ⟨l⟩ := sl
      dsimp only at es
      subst es
      have q4 : del = false := by simpa using q4
      subst q4
      exact ⟨nm, qn, ns, bs, bm, sn, sb, ab, col, dd, x0, x1, x2, x3, x5, lk, q6⟩
    · cases g0
  · cases h0
/-- which built-in class it stands over -/
def baseB (K : PySem.W.Frag) (C : Addr) (B ni ii : String) (tl : List Value) : Bool := oexB K C ni tl && (He.eqO (PySem.W.ks_superIn K C C "__init__") (some (some (.builtin ii))) && decide (PySem.W.subIn K (.ref C) (.type B) = some true))
def basesB (K : PySem.W.Frag) (C : Addr) : Bool := baseB K C "ValueError" "ValueError.__new__" "ValueError.__init__" [.type "ValueError", .type "Exception", .type "BaseException", .type "object"] || (baseB K C "LookupError" "LookupError.__new__" "LookupError.__init__" [.type "LookupError", .type "Exception", .type "BaseException", .type "object"] ||
  baseB K C "IndexError" "IndexError.__new__" "IndexError.__init__" [.type "IndexError", .type "LookupError", .type "Exception", .type "BaseException", .type "object"])
theorem baseB_ok {K : PySem.W.Frag} {C : Addr} {B ni ii : String} {tl : List Value} (bf : ExB B ni ii tl) (h : baseB K C B ni ii tl = true) : ∃ B ni ii tl, OexG K C B ni ii tl ∧ PySem.W.ks_superIn K C C "__init__" = some (some (.builtin ii)) ∧ PySem.W.subIn K (.ref C) (.type B) = some true := by
  obtain ⟨h1, h⟩ := He.ba h
  obtain ⟨h2, h3⟩ := He.ba h
  exact ⟨B, ni, ii, tl, oexB_ok bf h1, He.eqO_ok h2, of_decide_eq_true h3⟩
theorem basesB_ok {K : PySem.W.Frag} {C : Addr} (h : basesB K C = true) : ∃ B ni ii tl, OexG K C B ni ii tl ∧ PySem.W.ks_superIn K C C "__init__" = some (some (.builtin ii)) ∧ PySem.W.subIn K (.ref C) (.type B) = some true := by
  unfold basesB at h
  rcases Bool.or_eq_true _ _ |>.mp h with h | h
  · exact baseB_ok exB_VE h
  · rcases Bool.or_eq_true _ _ |>.mp h with h | h
    · exact baseB_ok exB_LE h
    · exact baseB_ok exB_IE h
/-! ### the __init__ -/
def par2B (p : Arguments) (par : Str) : Bool := match p with
  | ⟨[], [⟨a, _, _⟩, ⟨b, _, _⟩], none, [], [], none, []⟩ => decide (a = "self") && decide (b = par)
  | _ => false
def ceB (sc : Scope) (par : Str) : Bool := decide (sc.kind = .function) && (!sc.isCoroutine && (!sc.isGenerator && ((sc.names.all fun x => decide (x.2 ≠ NameKind.cell)) && ((sc.names.all fun x => decide (x.2 = NameKind.free → x.1 = "__class__")) &&
  (decide (sc.names.lookup ("self" : Str) = some NameKind.local) && (decide (sc.names.lookup par = some NameKind.local) && (decide (sc.names.lookup ("super" : Str) = some NameKind.globalImplicit) && (decide (sc.names.lookup ("__class__" : Str) = some NameKind.free) && decide (par ≠ "self")))))))))
theorem ceB_ok {sc : Scope} {par : Str} (h : ceB sc par = true) : CeS sc par := by
  obtain ⟨h1, h⟩ := He.ba h
  obtain ⟨h2, h⟩ := He.ba h
  obtain ⟨h3, h⟩ := He.ba h
  obtain ⟨h4, h⟩ := He.ba h
  obtain ⟨h5, h⟩ := He.ba h
  obtain ⟨h6, h⟩ := He.ba h
  obtain ⟨h7, h⟩ := He.ba h
  obtain ⟨h8, h⟩ := He.ba h
  obtain ⟨h9, h10⟩ := He.ba h
  exact ⟨of_decide_eq_true h1, by simpa using h2, by simpa using h3, fun x hx => of_decide_eq_true (List.all_eq_true.mp h4 x hx), fun x hx => of_decide_eq_true (List.all_eq_true.mp h5 x hx), of_decide_eq_true h6, of_decide_eq_true h7, of_decide_eq_true h8, of_decide_eq_true h9, of_decide_eq_true h10⟩
def xbodB (fld par tag : Str) (b : FuncBody) : Bool := match b with
  | .stmts [.Expr (.Call (.Attribute (.Call (.Name s _) [] [] _) i p2) [.Constant (.str _) _ _] [] p4) _, .Assign [.Attribute (.Name s1 _) f1 _] (.Name a1 _) _, .Assign [.Attribute (.Name s2 _) f2 _] (.Constant (.str tg) _ _) _] =>
    decide (s = "super") && (decide (i = "__init__") && ((p2.endLine == p4.line) && (decide (s1 = "self") && (decide (f1 = fld) && (decide (a1 = par) && (decide (s2 = "self") && (decide (f2 = "tag") && decide (tg = tag))))))))
  | _ => false
theorem xbodB_ok {fld par tag : Str} {b : FuncBody} (h : xbodB fld par tag b = true) : ∃ (p0 p1 p2 : Pos) (msg : Str) (j : Nat) (p3 p4 p5 p6 p7 p8 p9 p10 p11 : Pos) (j2 : Nat) (p12 p13 : Pos), (p2.endLine == p4.line) = true ∧
    b = .stmts [.Expr (.Call (.Attribute (.Call (.Name "super" p0) [] [] p1) "__init__" p2) [.Constant (.str msg) j p3] [] p4) p5, .Assign [.Attribute (.Name "self" p6) fld p7] (.Name par p8) p9, .Assign [.Attribute (.Name "self" p10) "tag" p11] (.Constant (.str tag) j2 p12) p13] := by
  unfold xbodB at h
  split at h
  · obtain ⟨c1, h⟩ := He.ba h
    obtain ⟨c2, h⟩ := He.ba h
    obtain ⟨c3, h⟩ := He.ba h
    obtain ⟨c4, h⟩ := He.ba h
    obtain ⟨c5, h⟩ := He.ba h
    obtain ⟨c6, h⟩ := He.ba h
    obtain ⟨c7, h⟩ := He.ba h
    obtain ⟨c8, c9⟩ := He.ba h
    rw [of_decide_eq_true c1, of_decide_eq_true c2, of_decide_eq_true c4, of_decide_eq_true c5, of_decide_eq_true c6, of_decide_eq_true c7, of_decide_eq_true c8, of_decide_eq_true c9]
    exact ⟨_, _, _, _, _, _, _, _, _, _, _, _, _, _, _, _, _, c3, rfl⟩
  · cases h
def cellB (K : PySem.W.Frag) (cc C : Addr) : Bool := match K.lookup cc with
  | some ⟨_, _, .cell (some (.ref D)), _⟩ => decide (D = C)
  | _ => false
def fileB (K : PySem.W.Frag) (cda : Addr) (file : Str) : Bool := match K.lookup cda with
  | some ⟨_, _, .fields vs, _⟩ => (match (vs[2]? : Option Value) with
    | some (.str f _) => decide (f = file)
    | _ => false)
  | _ => false
def xfnB (K : PySem.W.Frag) (C f : Addr) (fld par tag file : Str) : Bool := match K.lookup f with
  | some ⟨_, _, .func fd, _⟩ => (match fd.closure, fd.code with
    | [(x, cc)], .ref cda => decide (x = "__class__") && (cellB K cc C && (fileB K cda file && (PySem.W.codeIn K (.ref cda) fd.qualname && (par2B fd.params par && (xbodB fld par tag fd.body && (ceB fd.scope par && (decide (fd.globals = mainGlobals) && (decide (fd.builtins = builtinsNs) && (decide (fd.name = "__init__") && noneB fd.defaults)))))))))
    | _, _ => false)
  | _ => false
def xclsB (K : PySem.W.Frag) (cn fld par tag file : Str) : Bool := basesB K (He.ga K cn) && (decide (PySem.W.mroIn K (He.ga K cn) (.ref (He.ga K cn)) = some true) && (He.eqO (PySem.W.nsIn K cStatics "thirdparty.any") (some none) &&
  (He.eqO (PySem.W.findIn K (.ref (He.ga K cn)) fld) (some none) && (He.eqO (PySem.W.findIn K (.ref (He.ga K cn)) "tag") (some none) &&
  (match PySem.W.findIn K (.ref (He.ga K cn)) "__init__" with
    | some (some (.ref f)) => decide (PySem.W.typeIn K (.ref f) = some (.type "function")) && xfnB K (He.ga K cn) f fld par tag file
    | _ => false)))))
/-- what the program's text must show for super() -/
structure SupF (P : Program) (mg : Str → Option Value) (file : Str) : Prop where
  sup : mg "super" = none
  top : (P.main.scope.names.lookup ("super" : Str)).isSome = false
  file : (P.main.file : Str) = file
/-- a call binds self and the parameter -/
def ParB (par : Str) : Prop := ∀ (q : Str) (a1 a2 : Option Expr) (p1 p2 : Pos) (body : List Stmt) (sc : Scope) (kV doc pm : Value) (an : Option Addr) (cdv ct : Value) (cc : Addr) (u1 u2 : Value),
  bindArgs (PySem.W.ksFn "__init__" q ⟨[], [⟨"self", a1, p1⟩, ⟨par, a2, p2⟩], none, [], [], none, []⟩ body sc .none kV doc pm an cdv ct cc) ⟨[u1, u2], []⟩ = pure [(("self" : Str), u1), (par, u2)]
theorem parB_given : ParB "given" := fun _ _ _ _ _ _ _ _ _ _ _ _ _ _ _ _ => rfl
theorem parB_row : ParB "row" := fun _ _ _ _ _ _ _ _ _ _ _ _ _ _ _ _ => rfl
theorem parB_at : ParB "at" := fun _ _ _ _ _ _ _ _ _ _ _ _ _ _ _ _ => rfl
theorem parB_name : ParB "name" := fun _ _ _ _ _ _ _ _ _ _ _ _ _ _ _ _ => rfl
theorem parB_many : ParB "many" := fun _ _ _ _ _ _ _ _ _ _ _ _ _ _ _ _ => rfl
theorem parB_most : ParB "most" := fun _ _ _ _ _ _ _ _ _ _ _ _ _ _ _ _ => rfl
theorem parB_index : ParB "index" := fun _ _ _ _ _ _ _ _ _ _ _ _ _ _ _ _ => rfl
/-- .. by the parameter's name -/
def ParK (par : Str) : Prop := ∀ (q : Str) (a1 a2 : Option Expr) (p1 p2 : Pos) (body : List Stmt) (sc : Scope) (kV doc pm : Value) (an : Option Addr) (cdv ct : Value) (cc : Addr) (u1 u2 : Value),
  bindArgs (PySem.W.ksFn "__init__" q ⟨[], [⟨"self", a1, p1⟩, ⟨par, a2, p2⟩], none, [], [], none, []⟩ body sc .none kV doc pm an cdv ct cc) ⟨[u1], [(par, u2)]⟩ = pure [(("self" : Str), u1), (par, u2)]
theorem parK_name : ParK "name" := fun _ _ _ _ _ _ _ _ _ _ _ _ _ _ _ _ => rfl
structure FncEK (P : Program) (w : World) (K : PySem.W.Frag) (mg : Str → Option Value) (base : Heap) (cn fld par tag : Str) : Prop where
  ox : OexA K (He.ga K cn)
  ex : ∃ fI fd, PySem.W.findIn K (.ref (He.ga K cn)) "__init__" = some (some (.ref fI)) ∧ PySem.W.typeIn K (.ref fI) = some (.type "function") ∧ FnOk P w K mg base CX0 1 fI fd ["self", par] (spExc (He.ga K cn) fld tag) ∧ Binds K fd ["self", par] [] ∧
    (ParK par → ∀ (s : Shared) (u1 u2 : Value), BindsTo s fd ⟨[u1], [(par, u2)]⟩ [("self", u1), (par, u2)])
  m : mg cn = some (.ref (He.ga K cn))
theorem FncEK.e {P : Program} {w : World} {K : PySem.W.Frag} {mg : Str → Option Value} {base : Heap} {cn fld par tag : Str} (F : FncEK P w K mg base cn fld par tag) : FncE P w K mg base cn fld tag :=
  let ⟨fI, fd, a, b, c, d, _⟩ := F.ex
  ⟨F.ox, ⟨fI, fd, _, a, b, c, d⟩, F.m⟩
theorem xcls_full {P : Program} {w : World} {K : PySem.W.Frag} {mg : Str → Option Value} {base : Heap} {cn fld par tag file : Str} (h : xclsB K cn fld par tag file = true) (S : SupF P mg file) (m : mg cn = some (.ref (He.ga K cn))) (hbi : ParB par) (hpd : (par == ("__debug__" : Str)) = false := by decide) (hpc : (par == ("__classdict__" : Str)) = false := by decide) : FncEK P w K mg base cn fld par tag := by
  obtain ⟨h1, h⟩ := He.ba h
  obtain ⟨h2, h⟩ := He.ba h
  obtain ⟨h3, h⟩ := He.ba h
  obtain ⟨h6, h⟩ := He.ba h
  obtain ⟨h7, h⟩ := He.ba h
  split at h
  · rename_i f e
    obtain ⟨h8, h⟩ := He.ba h
    have hbs := basesB_ok h1
    refine ⟨let ⟨B, ni, ii, tl, T, _⟩ := hbs; ⟨B, ni, ii, tl, T⟩, ?_, m⟩
    unfold xfnB at h
    split at h
    · rename_i oc od fd osl lk
      split at h
      · rename_i x cc cda ecl ecd
        obtain ⟨k1, h⟩ := He.ba h
        obtain ⟨k2, h⟩ := He.ba h
        obtain ⟨k3, h⟩ := He.ba h
        obtain ⟨k4, h⟩ := He.ba h
        obtain ⟨k5, h⟩ := He.ba h
        obtain ⟨k6, h⟩ := He.ba h
        obtain ⟨k7, h⟩ := He.ba h
        obtain ⟨k8, h⟩ := He.ba h
        obtain ⟨k9, h⟩ := He.ba h
        obtain ⟨k10, k11⟩ := He.ba h
        obtain ⟨n1, n2, n3, n4, n5, n6, n7, n8, n9, n10, n11, n12, n13, n14, n15⟩ := fd
        dsimp only at ecl ecd k4 k5 k6 k7 k8 k9 k10 k11
        obtain rfl := of_decide_eq_true k1
        obtain rfl := of_decide_eq_true k8
        obtain rfl := of_decide_eq_true k9
        obtain rfl := of_decide_eq_true k10
        subst ecl ecd
        have e8 : n8 = .none := by
          cases n8 <;> first | rfl | cases k11
        subst e8
        have hcell : ∃ oc od osl, K.lookup cc = some ⟨oc, od, .cell (some (.ref (He.ga K cn))), osl⟩ := by
          unfold cellB at k2
          split at k2
          · rename_i a b D c q
            obtain rfl := of_decide_eq_true k2
            exact ⟨_, _, _, q⟩
          · cases k2
        have hcode : ∃ oc od vs osl file tf, K.lookup cda = some ⟨oc, od, .fields vs, osl⟩ ∧ vs[2]? = some (.str file tf) ∧ ((P.main.file : Str) == file) = true := by
          unfold fileB at k3
          split at k3
          · rename_i a b vs c q
            split at k3
            · rename_i f2 tf q2
              obtain rfl := of_decide_eq_true k3
              exact ⟨_, _, vs, _, _, tf, q, q2, by rw [S.file]; simp⟩
            · cases k3
          · cases k3
        have F0 : CeF P K mg (He.ga K cn) cc cda := ⟨hcell, of_decide_eq_true h2, S.sup, S.top, hcode, He.eqO_ok h3, hbs⟩
        unfold par2B at k5
        skip
        split at k5
        · rename_i ar b1 b2 br b3 b4
          obtain ⟨e1, e2⟩ := He.ba k5
          obtain rfl := of_decide_eq_true e1
          obtain rfl := of_decide_eq_true e2
          obtain ⟨p0, p1, p2, msg, j, p3, p4, p5, p6, p7, p8, p9, p10, p11, j2, p12, p13, c3, rfl⟩ := xbodB_ok k6
          refine ⟨f, _, e, of_decide_eq_true h8, fn_exc (pl := fun env => plainOf (.Call (.Name "super" p0) [] [] p1) env) rfl (fun env => ?_) (ceB_ok k7) F0 hpd hpc lk k4 rfl rfl (He.eqO_ok h6) (He.eqO_ok h7), ?_, fun hk s u1 u2 => .of_eq (hk _ _ _ _ _ _ _ _ _ _ _ _ _ _ _ _)⟩
          · show (do
              let ov ← attributeBase (.Call (.Name "super" p0) [] [] p1) "__init__" env (eval (.Call (.Name "super" p0) [] [] p1) env)
              standAt p2.atName
              methodCall (.Call (.Name "super" p0) [] [] p1) "__init__" p2 p4 env ov _ (backTo p4 (starEach [.Constant (.str msg) j p3] env)) _) = _
            congr 1
            funext ov
            congr 1
            funext _
            exact mcall_line rfl c3
          · intro s us _ hl
            match us, hl with
            | [u1, u2], _ => exact .of_eq (hbi _ _ _ _ _ _ _ _ _ _ _ _ _ _ _ _)
        · cases k5
      · cases h
    · cases h
  · cases h
theorem xcls_ok {P : Program} {w : World} {K : PySem.W.Frag} {mg : Str → Option Value} {base : Heap} {cn fld par tag file : Str} (h : xclsB K cn fld par tag file = true) (S : SupF P mg file) (m : mg cn = some (.ref (He.ga K cn))) (hbi : ParB par) (hpd : (par == ("__debug__" : Str)) = false := by decide) (hpc : (par == ("__classdict__" : Str)) = false := by decide) : FncE P w K mg base cn fld tag :=
  (xcls_full h S m hbi hpd hpc).e
end Bd
namespace Bd
open PySem L2
/-- slots: 0 _law_bag_here, 1 _law_some -/
def a_l_pick : ATS :=
  aRet (aOp wIx (aVar 1) (aCall A_l_pull [] (aCons (aVar 0) (aCons (aCB wLen (aCons (aVar 1) (aNil))) (aNil)))))
/-- slots: 0 _law_value_z, 1 _law_found -/
def a_l_kind : ATS :=
  aSeq (aAsg (aLst (aCons (aOp wIsN (aVar 0) (aC .non)) (aCons (aCB wIsi (aCons (aVar 0) (aCons (aC (.ty "bool")) (aNil)))) (aCons (aCB wIsi (aCons (aVar 0) (aCons (aC (.ty "int")) (aNil)))) (aCons (aCB wIsi (aCons (aVar 0) (aCons (aC (.ty "str")) (aNil)))) (aNil)))))) (gmN 1))
  (aSeq (aAsg (aOp wAdd (aVar 1) (aLst (aCons (aCB wIsi (aCons (aVar 0) (aCons (aC (.ty "list")) (aNil)))) (aCons (aCB wIsi (aCons (aVar 0) (aCons (aC (.ty "tuple")) (aNil)))) (aCons (aCB wIsi (aCons (aVar 0) (aCons (aC (.ty "dict")) (aNil)))) (aCons (aC (.bl true)) (aNil))))))) (gmN 1))
  (aRet (aMl wIndex (aVar 1) (aCons (aC (.bl true)) (aNil)))))
/-- slots: 0 _law_found, 1 _law_due, 2 _law_key, 3 _law_one, 4 _law_other -/
def a_l_same (A : List D → (D → Prop) → Prop) : ATS :=
  aSeq (aIfS (aB (aOp wNe (aCall A_l_kind [] (aCons (aVar 0) (aNil))) (aCall A_l_kind [] (aCons (aVar 1) (aNil))))) (aRet (aC (.bl false))) (aNext))
  (aSeq (aIfS (aB (aOp wIn (aCall A_l_kind [] (aCons (aVar 1) (aNil))) (aTup (aCons (aC (.int 4)) (aCons (aC (.int 5)) (aNil)))))) (aRet (aAndV (aOp wEq (aCB wLen (aCons (aVar 0) (aNil))) (aCB wLen (aCons (aVar 1) (aNil)))) (aCB wAll (aCons (aLc (aZip (aCons (aVar 0) (aCons (aVar 1) (aNil)))) (gmT 2 (gmCons (gmN 3) (gmCons (gmN 4) (gmNil)))) (aYes) (aCall A [] (aCons (aVar 3) (aCons (aVar 4) (aNil)))) [3, 4]) (aNil))))) (aNext))
  (aSeq (aIfS (aB (aOp wEq (aCall A_l_kind [] (aCons (aVar 1) (aNil))) (aC (.int 6)))) (aNever) (aNext))
  (aRet (aOp wEq (aVar 0) (aVar 1)))))
theorem len_l_pick : ∀ ds P, A_l_pick ds P → ds.length = 2 := by rintro ds P ⟨xs, rfl | rfl, _⟩ <;> rfl
theorem atI_of {xs : List D} {k : Int} (h0 : 0 ≤ k) (h1 : k < xs.length) : ∃ d ∈ xs, atI xs k = some d := by
  have hn : k.toNat < xs.length := by omega
  refine ⟨xs[k.toNat], List.getElem_mem hn, ?_⟩
  obtain ⟨j, rfl⟩ := Int.eq_ofNat_of_zero_le h0
  exact atI_nat (by simp)
theorem log_small {m : Int} (h : 0 < m) (h1 : m < 2 ^ 100) : m.natAbs.log2 < 9000 := by
  have h2 : m.natAbs < 2 ^ 100 := by omega
  have h3 : m.natAbs ≠ 0 := by omega
  have := (Nat.log2_lt h3).mpr h2
  omega
theorem pure_l_pick : ∀ ds P, A_l_pick ds P → a_l_pick { nx := fun _ _ => P .non, rt := fun d _ => P d } (startG 2 ds) [] := by
  rintro ds P ⟨xs, h, hne, hl, hP⟩
  have hpos : 0 < xs.length := List.length_pos_iff.mpr hne
  have go : ∀ k : Int, 0 ≤ k → k < xs.length → ∃ d ∈ xs, atI xs k = some d := fun k a b => atI_of a b
  rcases h with rfl | rfl
  · simp only [a_l_pick, aRet, aOp, aVar, aCall, aCons, aCB, aNil, wLen, startG_2, List.getElem?_cons_zero, List.getElem?_cons_succ, A_l_pull, List.append_nil]
    refine ⟨xs.length, rfl, by omega, log_small (by omega) (by omega), fun k h0 h1 => ?_⟩
    obtain ⟨d, hd, e⟩ := go k h0 h1
    simp only [wIx, e]
    exact hP d hd
  · simp only [a_l_pick, aRet, aOp, aVar, aCall, aCons, aCB, aNil, wLen, startG_2, List.getElem?_cons_zero, List.getElem?_cons_succ, A_l_pull, List.append_nil]
    refine ⟨xs.length, rfl, by omega, log_small (by omega) (by omega), fun k h0 h1 => ?_⟩
    obtain ⟨d, hd, e⟩ := go k h0 h1
    simp only [wIx, e]
    exact hP d hd
theorem len_l_kind : ∀ ds P, A_l_kind ds P → ds.length = 1 := by rintro ds P ⟨v, rfl, _⟩; rfl
theorem pure_l_kind : ∀ ds P, A_l_kind ds P → a_l_kind { nx := fun _ _ => P .non, rt := fun d _ => P d } (startG 2 ds) [] := by
  rintro ds P ⟨v, rfl, hv, hP⟩
  cases v <;> first
    | (simp [a_l_kind, isD, okTy, tyN, isNon, wIndex, flD, eqD_bb, List.findIdx?_cons]; exact hP)
    | cases hv
@[simp] theorem kind_1 {x : D} {P : D → Prop} : A_l_kind [x] P ↔ (tyN x).isSome = true ∧ P (.int (kindM x)) := by
  constructor
  · rintro ⟨v, h, a, b⟩
    cases h
    exact ⟨a, b⟩
  · rintro ⟨a, b⟩
    exact ⟨x, rfl, a, b⟩
theorem tyd_ty {x : D} (h : tyd x = true) : (tyN x).isSome = true := by cases x <;> first | rfl | cases h
theorem tyd_mem : ∀ {xs : List D} {x : D}, tydA xs = true → x ∈ xs → tyd x = true
  | y :: ys, x, h, hm => by
    have h' : tyd y = true ∧ tydA ys = true := by simpa [tydA] using h
    rcases List.mem_cons.mp hm with e | e
    · rw [e]; exact h'.1
    · exact tyd_mem h'.2 e
theorem dpt_mem : ∀ {xs : List D} {x : D}, x ∈ xs → dpt x ≤ dptA xs
  | y :: ys, x, hm => by
    show dpt x ≤ max (dpt y) (dptA ys)
    rcases List.mem_cons.mp hm with e | e
    · rw [e]; exact Nat.le_max_left _ _
    · exact Nat.le_trans (dpt_mem e) (Nat.le_max_right _ _)
theorem len_l_same (n : Nat) : ∀ ds P, A_l_same n ds P → ds.length = 2 := by rintro ds P ⟨x, y, rfl, _⟩; rfl
theorem sameA_zip : ∀ (xs ys : List D), xs.length = ys.length → sameA xs ys = ((zipD xs ys).map fun d => match d with | .tup [a, b] => sameM a b | _ => false).all id
  | [], [], _ => rfl
  | x :: xs, y :: ys, h => by
    have := sameA_zip xs ys (by simpa using h)
    show (sameM x y && sameA xs ys) = _
    rw [this]
    rfl
theorem sameA_len : ∀ (xs ys : List D), xs.length ≠ ys.length → sameA xs ys = false
  | [], [], h => absurd rfl h
  | [], _ :: _, _ => rfl
  | _ :: _, [], _ => rfl
  | x :: xs, y :: ys, h => by
    show (sameM x y && sameA xs ys) = false
    rw [sameA_len xs ys (by simpa using h), Bool.and_false]
theorem zip_mem : ∀ {xs ys : List D} {d : D}, d ∈ zipD xs ys → ∃ a b, d = .tup [a, b] ∧ a ∈ xs ∧ b ∈ ys
  | x :: xs, y :: ys, d, h => by
    have h' : d = .tup [x, y] ∨ d ∈ zipD xs ys := by simpa [zipD] using h
    rcases h' with e | e
    · exact ⟨x, y, e, by simp, by simp⟩
    · obtain ⟨a, b, h1, h2, h3⟩ := zip_mem e
      exact ⟨a, b, h1, by simp [h2], by simp [h3]⟩
  | [], _, d, h => by simp [zipD] at h
  | _ :: _, [], d, h => by simp [zipD] at h
/-- all of the pairs, one by one -/
theorem same_all {n : Nat} {xs ys : List D} {ai : ATA} {Γ : Gs} {c : Cs} {P : D → Prop} (hx : tydA xs = true) (hy : tydA ys = true) (hd : dptA ys ≤ n) (hl : xs.length = ys.length) (hz : xs.length ≤ 1000000) (hP : P (.bl (sameA xs ys))) (hai : ∀ Q : List D → Cs → Prop, Q (zipD xs ys) c → ai Γ c Q) (hG : Γ.length = 5) :
    aLc ai (gmT 2 (gmCons (gmN 3) (gmCons (gmN 4) gmNil))) aYes (aCall (A_l_same n) [] (aCons (aVar 3) (aCons (aVar 4) aNil))) [3, 4] Γ c fun d _ => wAll [d] P := by
  refine hai _ ⟨by rw [zip_len]; omega, ?_⟩
  refine goA_map (fun d => .bl (match d with | .tup [a, b] => sameM a b | _ => false)) (fun d hm acc k hk => ?_) ?_
  · obtain ⟨a, b, rfl, ha, hb⟩ := zip_mem hm
    match Γ, hG with
    | [g0, g1, g2, g3, g4], _ =>
      simp only [lcB, wipeG, gmT, gmCons, gmN, gmNil, aYes, aCall, aCons, aVar, aNil, List.set_cons_succ, List.set_cons_zero, List.getElem?_cons_succ, List.getElem?_cons_zero, List.length_cons, List.length_nil, if_true, true_and, List.append_nil, A_l_same]
      exact ⟨a, b, rfl, tyd_mem hx ha, tyd_mem hy hb, Nat.le_trans (dpt_mem hb) hd, hk⟩
  · rw [List.nil_append]
    show (match blsOf ((zipD xs ys).map fun d => D.bl (match d with | .tup [a, b] => sameM a b | _ => false)) with
      | some bs => P (.bl (bs.all id))
      | none => False)
    rw [blsOf_map]
    show P (.bl (List.all _ id))
    rw [← sameA_zip xs ys hl]
    exact hP
theorem pure_l_same (n : Nat) : ∀ ds P, A_l_same (n + 1) ds P → a_l_same (A_l_same n) { nx := fun _ _ => P .non, rt := fun d _ => P d } (startG 5 ds) [] := by
  rintro ds P ⟨x, y, rfl, hx, hy, hd, hP⟩
  have tx := tyd_ty hx
  have ty := tyd_ty hy
  simp only [a_l_same, aSeq, aIfS, aB, aOp, aCall, aCons, aNil, aVar, aC, aRet, aNext, aNever, startG_2, List.getElem?_cons_zero, List.getElem?_cons_succ, List.append_nil, kind_1, tx, ty, true_and, wNe_ii, wEq_ii]
  by_cases hk : (kindM x : Int) = kindM y
  · simp only [hk, decide_true, Bool.not_true, Bool.false_eq_true, if_false]
    cases x <;> cases y <;> first
      | (cases hx; done)
      | (cases hy; done)
      | (simp [kindM] at hk; done)
      | skip
    case non.non => simpa [kindM, flD, sameM, wEq, sclD, eqD, pyD, PyData.eqv] using hP
    case bl.bl a b => cases a <;> cases b <;> simpa [kindM, flD, sameM, wEq, sclD] using hP
    case int.int => simpa [kindM, flD, sameM, wEq, sclD, Bool.beq_eq_decide_eq] using hP
    case str.str => simpa [kindM, flD, sameM, wEq, sclD, Bool.beq_eq_decide_eq] using hP
    case lst.lst xs ys =>
      have hx' : xs.length ≤ 1000000 ∧ tydA xs = true := by simpa [tyd] using hx
      have hy' : ys.length ≤ 1000000 ∧ tydA ys = true := by simpa [tyd] using hy
      have hd' : dptA ys ≤ n := by simpa [dpt] using hd
      have hP : P (.bl (sameA xs ys)) := by simpa [sameM] using hP
      simp [kindM, flD, wLen]
      by_cases hl : xs.length = ys.length
      · simp [hl]
        exact same_all hx'.2 hy'.2 hd' hl hx'.1 hP (fun Q q => by simpa [aZip] using q) rfl
      · rw [sameA_len xs ys hl] at hP
        have hl' : ¬ (xs.length : Int) = ys.length := by omega
        simpa [hl'] using hP
    case tup.tup xs ys =>
      have hx' : xs.length ≤ 1000000 ∧ tydA xs = true := by simpa [tyd] using hx
      have hy' : ys.length ≤ 1000000 ∧ tydA ys = true := by simpa [tyd] using hy
      have hd' : dptA ys ≤ n := by simpa [dpt] using hd
      have hP : P (.bl (sameA xs ys)) := by simpa [sameM] using hP
      simp [kindM, flD, wLen]
      by_cases hl : xs.length = ys.length
      · simp [hl]
        exact same_all hx'.2 hy'.2 hd' hl hx'.1 hP (fun Q q => by simpa [aZip] using q) rfl
      · rw [sameA_len xs ys hl] at hP
        have hl' : ¬ (xs.length : Int) = ys.length := by omega
        simpa [hl'] using hP
  · have : sameM x y = false := by
      cases x <;> cases y <;> first
        | rfl
        | exact absurd rfl hk
    rw [this] at hP
    simpa [hk] using hP
end Bd
namespace Bd
open PySem L2
/-! ### what the text's words are -/
abbrev kwS : List Str := ["proc", "if", "else", "while", "break", "return", "print", "and", "or", "not", "mod"]
abbrev sgS : List Str := ["+", "-", "*", "//", "mod", "<", "<=", "==", "and", "or"]
def c_KEYWORDS : List D := kwS.map .str
def c_SIGNS : List D := sgS.map .str
abbrev smallS : Str := "abcdefghijklmnopqrstuvwxyz"
abbrev greatS : Str := "ABCDEFGHIJKLMNOPQRSTUVWXYZ"
def inS (z : Str) (l : List Str) : Bool := l.any fun k => decide (k = z)
def wordM (z sg : Str) (m : Int) : Bool := decide (1 ≤ (z.length : Int)) && decide ((z.length : Int) ≤ m) && !inS z kwS && z.cps.toList.all fun c => subS ⟨#[c]⟩ sg
def wordD (v : D) (sg : Str) (m : Int) : Bool := match v with
  | .str z => wordM z sg m
  | _ => false
def ownM (v : D) : Bool := wordD v smallS 4
def sharedM (v : D) : Bool := wordD v greatS 4
def numM (v : D) : Bool := match v with
  | .int _ => true
  | _ => false
def rngM (v : D) : Bool := match v with
  | .int i => decide (0 ≤ i) && decide (i ≤ 999999)
  | _ => false
def sgM (v : D) : Bool := match v with
  | .str z => inS z sgS
  | _ => false
/-- an expression nested at most so deep -/
def fitsM : Nat → D → Bool
  | 0, _ => false
  | n + 1, v => match v with
    | .tup [.str w, x] => if w = "num" then rngM x else if w = "name" then ownM x || sharedM x else if w = "not" then fitsM n x else false
    | .tup [.str w, s, x, y] => if w = "num" ∨ w = "name" ∨ w = "not" then false else decide (w = "op") && sgM s && fitsM n x && fitsM n y
    | _ => false
def A_is_number (ds : List D) (P : D → Prop) : Prop := ∃ v, ds = [v] ∧ tyd v = true ∧ P (.bl (numM v))
def A_is_word (ds : List D) (P : D → Prop) : Prop := ∃ v sg m, ds = [v, .str sg, .int m] ∧ tyd v = true ∧ P (.bl (wordD v sg m))
def A_is_own (ds : List D) (P : D → Prop) : Prop := ∃ v, ds = [v] ∧ tyd v = true ∧ P (.bl (ownM v))
def A_is_shared (ds : List D) (P : D → Prop) : Prop := ∃ v, ds = [v] ∧ tyd v = true ∧ P (.bl (sharedM v))
def A_fits (n : Nat) (ds : List D) (P : D → Prop) : Prop := ∃ v d, ds = [v, .int (d : Nat)] ∧ d < n ∧ tyd v = true ∧ P (.bl (fitsM d v))
def A_is_expression (ds : List D) (P : D → Prop) : Prop := ∃ v, ds = [v] ∧ tyd v = true ∧ P (.bl (fitsM 6 v))
/-- slots: 0 value -/
def a_is_number : ATS :=
  aRet (aAndV (aCB wIsi (aCons (aVar 0) (aCons (aC (.ty "int")) (aNil)))) (aV (aNot (aB (aCB wIsi (aCons (aVar 0) (aCons (aC (.ty "bool")) (aNil))))))))
/-- slots: 0 value, 1 signs, 2 most, 3 sign -/
def a_is_word : ATS :=
  aSeq (aIfS (aOr (aNot (aB (aCB wIsi (aCons (aVar 0) (aCons (aC (.ty "str")) (aNil)))))) (aOr (aNot (aB (aChain wLe wLe (aC (.int 1)) (aCB wLen (aCons (aVar 0) (aNil))) (aVar 2)))) (aB (aOp wIn (aVar 0) (aC (.ktu c_KEYWORDS)))))) (aRet (aC (.bl false))) (aNext))
  (aRet (aCB wAll (aCons (aLc (aItems (aVar 0)) (gmN 3) (aYes) (aOp wIn (aVar 3) (aVar 1)) [3]) (aNil))))
/-- slots: 0 value -/
def a_is_own : ATS :=
  aRet (aCall A_is_word [] (aCons (aVar 0) (aCons (aC (.str "abcdefghijklmnopqrstuvwxyz")) (aCons (aC (.int 4)) (aNil)))))
/-- slots: 0 value -/
def a_is_shared : ATS :=
  aRet (aCall A_is_word [] (aCons (aVar 0) (aCons (aC (.str "ABCDEFGHIJKLMNOPQRSTUVWXYZ")) (aCons (aC (.int 4)) (aNil)))))
/-- slots: 0 value, 1 deep, 2 word -/
def a_fits (A : List D → (D → Prop) → Prop) : ATS :=
  aSeq (aIfS (aOr (aB (aOp wLt (aVar 1) (aC (.int 1)))) (aOr (aNot (aB (aCB wIsi (aCons (aVar 0) (aCons (aC (.ty "tuple")) (aNil)))))) (aOr (aB (aOp wLt (aCB wLen (aCons (aVar 0) (aNil))) (aC (.int 2)))) (aNot (aB (aCB wIsi (aCons (aOp wIx (aVar 0) (aC (.int 0))) (aCons (aC (.ty "str")) (aNil))))))))) (aRet (aC (.bl false))) (aNext))
  (aSeq (aAsg (aOp wIx (aVar 0) (aC (.int 0))) (gmN 2))
  (aSeq (aIfS (aB (aOp wEq (aVar 2) (aC (.str "num")))) (aRet (aAndV (aOp wEq (aCB wLen (aCons (aVar 0) (aNil))) (aC (.int 2))) (aAndV (aCall A_is_number [] (aCons (aOp wIx (aVar 0) (aC (.int 1))) (aNil))) (aChain wLe wLe (aC (.int 0)) (aOp wIx (aVar 0) (aC (.int 1))) (aC (.int 999999)))))) (aNext))
  (aSeq (aIfS (aB (aOp wEq (aVar 2) (aC (.str "name")))) (aRet (aAndV (aOp wEq (aCB wLen (aCons (aVar 0) (aNil))) (aC (.int 2))) (aOrV (aCall A_is_own [] (aCons (aOp wIx (aVar 0) (aC (.int 1))) (aNil))) (aCall A_is_shared [] (aCons (aOp wIx (aVar 0) (aC (.int 1))) (aNil)))))) (aNext))
  (aSeq (aIfS (aB (aOp wEq (aVar 2) (aC (.str "not")))) (aRet (aAndV (aOp wEq (aCB wLen (aCons (aVar 0) (aNil))) (aC (.int 2))) (aCall A [] (aCons (aOp wIx (aVar 0) (aC (.int 1))) (aCons (aOp wSub (aVar 1) (aC (.int 1))) (aNil)))))) (aNext))
  (aSeq (aIfS (aOr (aB (aOp wNe (aVar 2) (aC (.str "op")))) (aOr (aB (aOp wNe (aCB wLen (aCons (aVar 0) (aNil))) (aC (.int 4)))) (aOr (aNot (aB (aCB wIsi (aCons (aOp wIx (aVar 0) (aC (.int 1))) (aCons (aC (.ty "str")) (aNil)))))) (aB (aOp wNotIn (aOp wIx (aVar 0) (aC (.int 1))) (aC (.ktu c_SIGNS))))))) (aRet (aC (.bl false))) (aNext))
  (aRet (aAndV (aCall A [] (aCons (aOp wIx (aVar 0) (aC (.int 2))) (aCons (aOp wSub (aVar 1) (aC (.int 1))) (aNil)))) (aCall A [] (aCons (aOp wIx (aVar 0) (aC (.int 3))) (aCons (aOp wSub (aVar 1) (aC (.int 1))) (aNil)))))))))))
/-- slots: 0 value -/
def a_is_expression : ATS :=
  aRet (aCall (A_fits 7) [] (aCons (aVar 0) (aCons (aC (.int 6)) (aNil))))

/-! ### the law's draws -/
def lowS (z : Str) : Bool := z.cps.toList.all fun c => decide (97 ≤ c) && decide (c ≤ 122)
def A_l_keywords (ds : List D) (P : D → Prop) : Prop := ds = [] ∧ P (.lst c_KEYWORDS)
def A_l_signs (ds : List D) (P : D → Prop) : Prop := ds = [] ∧ P (.lst c_SIGNS)
def A_l_word (ds : List D) (P : D → Prop) : Prop := ∃ m : Int, ds = [.hdl 0, .int m] ∧ 1 ≤ m ∧ m ≤ 100 ∧ ∀ z : Str, lowS z = true → 1 ≤ (z.length : Int) → (z.length : Int) ≤ m → inS z kwS = false → P (.str z)
def A_l_constant (ds : List D) (P : D → Prop) : Prop := ds = [.hdl 0] ∧ ∀ k : Int, 0 ≤ k → k ≤ 999999 → P (.int k)
def nameM (v : D) : Bool := ownM v || sharedM v
/-- slots:  -/
def a_l_keywords : ATS :=
  aRet (aLst (aCons (aC (.str "proc")) (aCons (aC (.str "if")) (aCons (aC (.str "else")) (aCons (aC (.str "while")) (aCons (aC (.str "break")) (aCons (aC (.str "return")) (aCons (aC (.str "print")) (aCons (aC (.str "and")) (aCons (aC (.str "or")) (aCons (aC (.str "not")) (aCons (aC (.str "mod")) (aNil)))))))))))))
/-- slots: 0 _law_bag_here, 1 _law_most, 2 _law_letters, 3 _law_word_here, 4 _law_k -/
def a_l_word : ATS :=
  aSeq (aAsg (aC (.str "abcdefghijklmnopqrstuvwxyz")) (gmN 2))
  (aSeq (aAsg (aMs wJoin (aC (.str "")) (aCons (aLc (aRng1 (aCons (aOp wAdd (aC (.int 1)) (aCall A_l_pull [] (aCons (aVar 0) (aCons (aVar 1) (aNil))))) (aNil))) (gmN 4) (aYes) (aOp wIx (aVar 2) (aCall A_l_pull [] (aCons (aVar 0) (aCons (aC (.int 26)) (aNil))))) [4]) aNil)) (gmN 3))
  (aRet (aIf (aB (aOp wIn (aVar 3) (aCall A_l_keywords [] aNil))) (aSl (aVar 3) (aNoPart) (aPart (aC (.int 1)))) (aVar 3))))
/-- slots:  -/
def a_l_signs : ATS :=
  aRet (aLst (aCons (aC (.str "+")) (aCons (aC (.str "-")) (aCons (aC (.str "*")) (aCons (aC (.str "//")) (aCons (aC (.str "mod")) (aCons (aC (.str "<")) (aCons (aC (.str "<=")) (aCons (aC (.str "==")) (aCons (aC (.str "and")) (aCons (aC (.str "or")) (aNil))))))))))))
/-- slots: 0 _law_bag_here -/
def a_l_constant : ATS :=
  aRet (aCall A_l_pick [] (aCons (aVar 0) (aCons (aLst (aCons (aC (.int 0)) (aCons (aC (.int 1)) (aCons (aC (.int 2)) (aCons (aC (.int 3)) (aCons (aCall A_l_pull [] (aCons (aVar 0) (aCons (aC (.int 10)) (aNil)))) (aCons (aCall A_l_pull [] (aCons (aVar 0) (aCons (aOp wPow (aC (.int 10)) (aC (.int 6))) (aNil)))) (aCons (aC (.int 999999)) (aNil))))))))) (aNil))))
end Bd
namespace Bd
open PySem L2
theorem sub1 (c : Nat) (z : Str) : subS ⟨#[c]⟩ z = decide (c ∈ z.cps.toList) := PySem.StrLaws.found_one z c
@[simp] theorem at0 {α : Type} {x : α} {xs : List α} : atI (x :: xs) 0 = some x := atI_nat (j := 0) rfl
@[simp] theorem at1 {α : Type} {x y : α} {xs : List α} : atI (x :: y :: xs) 1 = some y := atI_nat (j := 1) rfl
@[simp] theorem at2 {α : Type} {x y z : α} {xs : List α} : atI (x :: y :: z :: xs) 2 = some z := atI_nat (j := 2) rfl
@[simp] theorem at3 {α : Type} {x y z u : α} {xs : List α} : atI (x :: y :: z :: u :: xs) 3 = some u := atI_nat (j := 3) rfl
theorem any_strs (z : Str) : ∀ l : List Str, ((l.map D.str).any fun d => eqD d (.str z)) = inS z l
  | [] => rfl
  | k :: l => by
    have := any_strs z l
    unfold inS at this ⊢
    rw [List.map_cons, List.any_cons, List.any_cons, this, eqD_ss]
theorem all_fl : ∀ l : List Str, (l.map D.str).all flD = true
  | [] => rfl
  | k :: l => by rw [List.map_cons, List.all_cons, all_fl l]; rfl
theorem len_is_number : ∀ ds P, A_is_number ds P → ds.length = 1 := by rintro ds P ⟨v, rfl, _⟩; rfl
theorem pure_is_number : ∀ ds P, A_is_number ds P → a_is_number { nx := fun _ _ => P .non, rt := fun d _ => P d } (startG 1 ds) [] := by
  rintro ds P ⟨v, rfl, hv, hP⟩
  cases v <;> first
    | (simpa [a_is_number, isD, okTy, tyN, numM] using hP)
    | cases hv
theorem len_is_word : ∀ ds P, A_is_word ds P → ds.length = 3 := by rintro ds P ⟨v, _, _, rfl, _⟩; rfl
theorem pure_is_word : ∀ ds P, A_is_word ds P → a_is_word { nx := fun _ _ => P .non, rt := fun d _ => P d } (startG 4 ds) [] := by
  rintro ds P ⟨v, sg, m, rfl, hv, hP⟩
  cases v with
  | str z =>
    have hz : z.length ≤ 1000000 := by simpa [tyd] using hv
    have hz2 : z.length ≤ 16000000 := by omega
    have hz3 : z.cps.size ≤ 1000000 := hz
    have hmem : ((c_KEYWORDS.any fun d => eqD d (.str z)) = inS z kwS) := any_strs z kwS
    have hfl : c_KEYWORDS.all flD = true := all_fl kwS
    simp only [a_is_word, aSeq, aIfS, aOr, aNot, aB, aCB, aCons, aVar, aC, aNil, aChain, aOp, aRet, aNext, startG_3, List.getElem?_cons_zero, List.getElem?_cons_succ, wIsi, okTy, tyN, isD, wLen, wLe, wInt0, wIn, memD, flD, hfl, hmem, hz2]
    simp only [wordD, wordM] at hP
    by_cases h1 : 1 ≤ (z.length : Int)
    · by_cases h2 : (z.length : Int) ≤ m
      · cases h3 : inS z kwS with
        | true => simpa [h1, h2, h3] using hP
        | false =>
          simp [h1, h2, h3]
          simp [h1, h2, h3] at hP
          refine ⟨by simpa using by omega, ?_⟩
          refine goA_map (fun d => .bl (match d with | .str y => subS y sg | _ => false)) (fun d hm acc k hk => ?_) ?_
          · obtain ⟨c, _, rfl⟩ := List.mem_map.mp hm
            simpa [lcB, wipeG] using hk
          · rw [List.nil_append]
            dsimp only
            rw [blsOf_map, List.map_map]
            have e : (List.map ((fun (d : D) => match d with | .str y => subS y sg | _ => false) ∘ fun c => D.str ⟨#[c]⟩) z.cps.toList).all id = z.cps.toList.all fun c => subS ⟨#[c]⟩ sg := by
              rw [List.all_map]; rfl
            show P (.bl (List.all _ id))
            rw [e]
            simpa using hP
      · simpa [h1, h2] using hP
    · simpa [h1] using hP
  | _ => first
    | (simpa [a_is_word, isD, okTy, tyN, wordD] using hP)
    | cases hv
theorem len_is_own : ∀ ds P, A_is_own ds P → ds.length = 1 := by rintro ds P ⟨v, rfl, _⟩; rfl
theorem len_is_shared : ∀ ds P, A_is_shared ds P → ds.length = 1 := by rintro ds P ⟨v, rfl, _⟩; rfl
theorem pure_is_own : ∀ ds P, A_is_own ds P → a_is_own { nx := fun _ _ => P .non, rt := fun d _ => P d } (startG 1 ds) [] := by
  rintro ds P ⟨v, rfl, hv, hP⟩
  simp only [a_is_own, aRet, aCall, aCons, aVar, aC, aNil, startG_1, List.getElem?_cons_zero, List.append_nil]
  exact ⟨v, smallS, 4, rfl, hv, hP⟩
theorem pure_is_shared : ∀ ds P, A_is_shared ds P → a_is_shared { nx := fun _ _ => P .non, rt := fun d _ => P d } (startG 1 ds) [] := by
  rintro ds P ⟨v, rfl, hv, hP⟩
  simp only [a_is_shared, aRet, aCall, aCons, aVar, aC, aNil, startG_1, List.getElem?_cons_zero, List.append_nil]
  exact ⟨v, greatS, 4, rfl, hv, hP⟩
@[simp] theorem A_is_number_1 {v : D} {P : D → Prop} : A_is_number [v] P ↔ tyd v = true ∧ P (.bl (numM v)) := ⟨fun ⟨_, h, a, b⟩ => by cases h; exact ⟨a, b⟩, fun ⟨a, b⟩ => ⟨v, rfl, a, b⟩⟩
@[simp] theorem A_is_own_1 {v : D} {P : D → Prop} : A_is_own [v] P ↔ tyd v = true ∧ P (.bl (ownM v)) := ⟨fun ⟨_, h, a, b⟩ => by cases h; exact ⟨a, b⟩, fun ⟨a, b⟩ => ⟨v, rfl, a, b⟩⟩
@[simp] theorem A_is_shared_1 {v : D} {P : D → Prop} : A_is_shared [v] P ↔ tyd v = true ∧ P (.bl (sharedM v)) := ⟨fun ⟨_, h, a, b⟩ => by cases h; exact ⟨a, b⟩, fun ⟨a, b⟩ => ⟨v, rfl, a, b⟩⟩
theorem len_fits (n : Nat) : ∀ ds P, A_fits n ds P → ds.length = 2 := by rintro ds P ⟨v, d, rfl, _⟩; rfl
theorem fitsM_no {v : D} (h : ∀ xs, v ≠ .tup xs) (d : Nat) : fitsM d v = false := by
  cases d with
  | zero => rfl
  | succ n =>
    cases v <;> first
      | rfl
      | exact absurd rfl (h _)
theorem any_sg (z : Str) : (c_SIGNS.any fun d => eqD d (.str z)) = inS z sgS := any_strs z sgS
theorem all_sg : c_SIGNS.all flD = true := all_fl sgS
theorem kw5 (w : Str) : (w = "num" ∧ ¬ w = "name" ∧ ¬ w = "not" ∧ ¬ w = "op") ∨ (¬ w = "num" ∧ w = "name" ∧ ¬ w = "not" ∧ ¬ w = "op") ∨ (¬ w = "num" ∧ ¬ w = "name" ∧ w = "not" ∧ ¬ w = "op") ∨ (¬ w = "num" ∧ ¬ w = "name" ∧ ¬ w = "not" ∧ w = "op") ∨ (¬ w = "num" ∧ ¬ w = "name" ∧ ¬ w = "not" ∧ ¬ w = "op") := by
  by_cases h1 : w = "num"
  · subst h1; exact .inl ⟨rfl, by decide +kernel, by decide +kernel, by decide +kernel⟩
  · by_cases h2 : w = "name"
    · subst h2; exact .inr (.inl ⟨h1, rfl, by decide +kernel, by decide +kernel⟩)
    · by_cases h3 : w = "not"
      · subst h3; exact .inr (.inr (.inl ⟨h1, h2, rfl, by decide +kernel⟩))
      · by_cases h4 : w = "op"
        · exact .inr (.inr (.inr (.inl ⟨h1, h2, h3, h4⟩)))
        · exact .inr (.inr (.inr (.inr ⟨h1, h2, h3, h4⟩)))
theorem A_fits_go {n d : Nat} {v : D} {P : D → Prop} (hd : d < n) (hv : tyd v = true) (h : P (.bl (fitsM d v))) : A_fits n [v, .int (d : Int)] P := ⟨v, d, rfl, hd, hv, h⟩
theorem pure_fits (n : Nat) : ∀ ds P, A_fits (n + 1) ds P → a_fits (A_fits n) { nx := fun _ _ => P .non, rt := fun d _ => P d } (startG 3 ds) [] := by
  rintro ds P ⟨v, d, rfl, hd, hv, hP⟩
  cases v with
  | tup xs =>
    cases d with
    | zero =>
      have hP : P (.bl false) := hP
      simpa [a_fits] using hP
    | succ d =>
      have hd' : d < n := by omega
      have hpos : ¬ ((d : Int) + 1 < 1) := by omega
      match xs, hv, hP with
      | [], hv, hP => simpa [a_fits, isD, okTy, tyN, hpos, fitsM] using hP
      | [a], hv, hP => simpa [a_fits, isD, okTy, tyN, hpos, fitsM] using hP
      | a :: b :: rest, hv, hP =>
        have hv' : (rest.length + 1 + 1 ≤ 1000000) ∧ tyd a = true ∧ tyd b = true ∧ tydA rest = true := by simpa [tyd, tydA] using hv
        obtain ⟨hlen, ha, hb, hr⟩ := hv'
        cases a with
        | str w =>
          match rest, hr, hP with
          | [], _, hP =>
            rcases kw5 w with ⟨h1, h2, h3, h4⟩ | ⟨h1, h2, h3, h4⟩ | ⟨h1, h2, h3, h4⟩ | ⟨h1, h2, h3, h4⟩ | ⟨h1, h2, h3, h4⟩
            · have hP : P (.bl (rngM b)) := by simpa [fitsM, h1] using hP
              simp [a_fits, isD, okTy, tyN, hpos, h1, hb]
              cases b with
              | int i =>
                by_cases h0 : 0 ≤ i
                · simpa [numM, rngM, h0] using hP
                · simpa [numM, rngM, h0] using hP
              | _ => first
                | (simpa [numM, rngM] using hP)
                | cases hb
            · have hP : P (.bl (ownM b || sharedM b)) := by simpa [fitsM, h1, h2] using hP
              simp [a_fits, isD, okTy, tyN, hpos, h1, h2, hb]
              cases ho : ownM b <;> simpa [ho] using hP
            · have hP : P (.bl (fitsM d b)) := by simpa [fitsM, h1, h2, h3] using hP
              simp [a_fits, isD, okTy, tyN, hpos, h1, h2, h3, hb]
              exact A_fits_go hd' hb hP
            · have hP : P (.bl false) := by simpa [fitsM, h1, h2, h3] using hP
              simpa [a_fits, isD, okTy, tyN, hpos, h1, h2, h3, h4] using hP
            · have hP : P (.bl false) := by simpa [fitsM, h1, h2, h3] using hP
              simpa [a_fits, isD, okTy, tyN, hpos, h1, h2, h3, h4] using hP
          | [c], _, hP =>
            have hP : P (.bl false) := by simpa [fitsM] using hP
            rcases kw5 w with ⟨h1, h2, h3, h4⟩ | ⟨h1, h2, h3, h4⟩ | ⟨h1, h2, h3, h4⟩ | ⟨h1, h2, h3, h4⟩ | ⟨h1, h2, h3, h4⟩ <;>
              simpa [a_fits, isD, okTy, tyN, hpos, h1, h2, h3, h4] using hP
          | [c, e], hr, hP =>
            have hr' : tyd c = true ∧ tyd e = true := by simpa [tydA] using hr
            rcases kw5 w with ⟨h1, h2, h3, h4⟩ | ⟨h1, h2, h3, h4⟩ | ⟨h1, h2, h3, h4⟩ | ⟨h1, h2, h3, h4⟩ | ⟨h1, h2, h3, h4⟩
            · have hP : P (.bl false) := by simpa [fitsM, h1] using hP
              simpa [a_fits, isD, okTy, tyN, hpos, h1, h2, h3, h4] using hP
            · have hP : P (.bl false) := by simpa [fitsM, h1, h2] using hP
              simpa [a_fits, isD, okTy, tyN, hpos, h1, h2, h3, h4] using hP
            · have hP : P (.bl false) := by simpa [fitsM, h1, h2, h3] using hP
              simpa [a_fits, isD, okTy, tyN, hpos, h1, h2, h3, h4] using hP
            · have hP : P (.bl (sgM b && fitsM d c && fitsM d e)) := by simpa [fitsM, h1, h2, h3, h4] using hP
              cases b with
              | str z =>
                simp [a_fits, isD, okTy, tyN, hpos, h1, h2, h3, h4, flD, all_sg, any_sg]
                cases hs : inS z sgS with
                | false => simpa [sgM, hs] using hP
                | true =>
                  simp
                  refine ⟨c, d, rfl, hd', hr'.1, ?_⟩
                  cases hf : fitsM d c with
                  | false => simpa [sgM, hs, hf] using hP
                  | true =>
                    simp
                    exact A_fits_go hd' hr'.2 (by simpa [sgM, hs, hf] using hP)
              | _ => first
                | (simpa [a_fits, isD, okTy, tyN, hpos, h1, h2, h3, h4, sgM] using hP)
                | cases hb
            · have hP : P (.bl false) := by simpa [fitsM, h1, h2, h3, h4] using hP
              simpa [a_fits, isD, okTy, tyN, hpos, h1, h2, h3, h4] using hP
          | c :: e :: f :: r, _, hP =>
            have hP : P (.bl false) := by simpa [fitsM] using hP
            have l2 : ¬ ((r.length : Int) + 1 + 1 + 1 + 1 + 1 = 2) := by omega
            have l4 : ¬ ((r.length : Int) + 1 + 1 + 1 + 1 + 1 = 4) := by omega
            have l1 : ¬ ((r.length : Int) + 1 + 1 + 1 + 1 + 1 < 2) := by omega
            rcases kw5 w with ⟨h1, h2, h3, h4⟩ | ⟨h1, h2, h3, h4⟩ | ⟨h1, h2, h3, h4⟩ | ⟨h1, h2, h3, h4⟩ | ⟨h1, h2, h3, h4⟩ <;>
              simpa [a_fits, isD, okTy, tyN, hpos, h1, h2, h3, h4, l1, l2, l4] using hP
        | _ => first
          | (simpa [a_fits, isD, okTy, tyN, hpos, fitsM] using hP)
          | cases ha
  | _ =>
    first
      | (rw [fitsM_no (by intro xs h; cases h)] at hP
         by_cases h0 : (d : Int) < 1
         · simpa [a_fits, isD, okTy, tyN, h0] using hP
         · simpa [a_fits, isD, okTy, tyN, h0] using hP)
      | cases hv
end Bd
namespace Bd
open PySem L2
theorem len_is_expression : ∀ ds P, A_is_expression ds P → ds.length = 1 := by rintro ds P ⟨v, rfl, _⟩; rfl
theorem pure_is_expression : ∀ ds P, A_is_expression ds P → a_is_expression { nx := fun _ _ => P .non, rt := fun d _ => P d } (startG 1 ds) [] := by
  rintro ds P ⟨v, rfl, hv, hP⟩
  simp only [a_is_expression, aRet, aCall, aCons, aVar, aC, aNil, startG_1, List.getElem?_cons_zero, List.append_nil]
  exact ⟨v, 6, rfl, by decide, hv, hP⟩
@[simp] theorem A_is_expression_1 {v : D} {P : D → Prop} : A_is_expression [v] P ↔ tyd v = true ∧ P (.bl (fitsM 6 v)) := ⟨fun ⟨_, h, a, b⟩ => by cases h; exact ⟨a, b⟩, fun ⟨a, b⟩ => ⟨v, rfl, a, b⟩⟩
theorem len_l_keywords : ∀ ds P, A_l_keywords ds P → ds.length = 0 := by rintro ds P ⟨rfl, _⟩; rfl
theorem len_l_signs : ∀ ds P, A_l_signs ds P → ds.length = 0 := by rintro ds P ⟨rfl, _⟩; rfl
theorem pure_l_keywords : ∀ ds P, A_l_keywords ds P → a_l_keywords { nx := fun _ _ => P .non, rt := fun d _ => P d } (startG 0 ds) [] := by
  rintro ds P ⟨rfl, hP⟩
  exact ⟨by decide, hP⟩
theorem pure_l_signs : ∀ ds P, A_l_signs ds P → a_l_signs { nx := fun _ _ => P .non, rt := fun d _ => P d } (startG 0 ds) [] := by
  rintro ds P ⟨rfl, hP⟩
  exact ⟨by decide, hP⟩
@[simp] theorem A_l_keywords_0 {P : D → Prop} : A_l_keywords [] P ↔ P (.lst c_KEYWORDS) := ⟨fun ⟨_, h⟩ => h, fun h => ⟨rfl, h⟩⟩
@[simp] theorem A_l_signs_0 {P : D → Prop} : A_l_signs [] P ↔ P (.lst c_SIGNS) := ⟨fun ⟨_, h⟩ => h, fun h => ⟨rfl, h⟩⟩
/-- drawing a number -/
theorem A_pull_go {m : Int} {P : D → Prop} (h : 0 < m) (h1 : m < 2 ^ 100) (hP : ∀ k : Int, 0 ≤ k → k < m → P (.int k)) : A_l_pull [.hdl 0, .int m] P := ⟨m, rfl, h, log_small h h1, hP⟩
theorem A_pick_go {xs : List D} {P : D → Prop} (h : xs ≠ []) (h1 : xs.length < 1000000) (hP : ∀ d ∈ xs, P d) : A_l_pick [.hdl 0, .lst xs] P := ⟨xs, .inl rfl, h, h1, hP⟩
theorem small_codes : smallS.cps.toList = List.range' 97 26 := by decide +kernel
theorem great_codes : greatS.cps.toList = List.range' 65 26 := by decide +kernel
theorem len_l_word : ∀ ds P, A_l_word ds P → ds.length = 2 := by rintro ds P ⟨m, rfl, _⟩; rfl
/-- joined single signs -/
theorem join1 : ∀ cs : List Nat, Txt.join "" (cs.map fun c => (⟨#[c]⟩ : Str)) = ⟨cs.toArray⟩ := fun cs => by
  rw [TL.join_eq]
  refine TL.ext_tl ?_
  rw [TL.tl_join]
  have e : ∀ l : List Nat, TL.joinL [] (l.map fun c => [c]) = l := by
    intro l
    induction l with
    | nil => rfl
    | cons a r ih =>
      cases r with
      | nil => rfl
      | cons b r => 
        show [a] ++ ([] ++ TL.joinL [] ((b :: r).map fun c => [c])) = a :: b :: r
        rw [ih]; rfl
  rw [List.map_map]
  exact e cs
theorem strsOf_one : ∀ cs : List Nat, strsOf (cs.map fun c => D.str ⟨#[c]⟩) = some (cs.map fun c => (⟨#[c]⟩ : Str)) := fun cs => by
  have := strsOf_map (cs.map fun c => (⟨#[c]⟩ : Str))
  rw [List.map_map] at this
  exact this
theorem sum_ones : ∀ cs : List Nat, ((cs.map fun c => (⟨#[c]⟩ : Str)).map (·.length)).sum = cs.length := fun cs => by
  induction cs with
  | nil => rfl
  | cons a r ih =>
    rw [List.map_cons, List.map_cons, List.sum_cons, ih]
    show 1 + r.length = r.length + 1
    omega
theorem inS_len1 (c : Nat) : inS ⟨#[c]⟩ kwS = false := by
  unfold inS
  rw [List.any_eq_false]
  intro k hk
  have hl : ∀ k ∈ kwS, k.length ≠ 1 := by decide +kernel
  have := hl k hk
  simp only [decide_eq_true_eq]
  intro e
  rw [e] at this
  exact this rfl
theorem okD_low {z : Str} (h : lowS z = true) : okD (.str z) = true := by
  have : z.cps.all (· < 0x110000) = true := by
    rw [Array.all_eq_true_iff_forall_mem]
    intro c hc
    have h2 := List.all_eq_true.mp h c (Array.mem_toList_iff.mpr hc)
    simp at h2
    simp
    omega
  simp [okD, pureD, pyD, SeqAt.shaped, PyData.canLay0, PyData.depth, PyData.strOk, this]
theorem pure_l_word : ∀ ds P, A_l_word ds P → a_l_word { nx := fun _ _ => P .non, rt := fun d _ => P d } (startG 5 ds) [] := by
  rintro ds P ⟨m, rfl, hm, hm2, hP⟩
  have hfl : c_KEYWORDS.all flD = true := all_fl kwS
  have hmem : ∀ z, ((c_KEYWORDS.any fun d => eqD d (.str z)) = inS z kwS) := fun z => any_strs z kwS
  simp only [a_l_word, aSeq, aAsg, aC, gmN, aMs, aCons, aNil, aRet, startG_2, List.replicate, List.set_cons_succ, List.set_cons_zero, aLc, aRng1, aOp, aCall, aVar, List.getElem?_cons_succ, List.getElem?_cons_zero, List.append_nil]
  refine A_pull_go (by omega) (by omega) fun k k0 k1 => ?_
  simp only [wAdd]
  refine ⟨by omega, ?_, ?_⟩
  · simp
    omega
  -- the signs
  refine goA_all (fun _ y => ∃ c, y = .str ⟨#[c]⟩ ∧ 97 ≤ c ∧ c ≤ 122) (fun d _ acc kk hk => ?_) fun ys hl hy => ?_
  · simp only [lcB, wipeG, List.set_cons_succ, List.set_cons_zero, aYes, if_true]
    refine A_pull_go (by omega) (by omega) fun j j0 j1 => ?_
    simp only [wIx]
    refine ⟨by decide, ?_⟩
    obtain ⟨n, rfl⟩ := Int.eq_ofNat_of_zero_le j0
    have hn : n < 26 := by omega
    have e : atI smallS.cps.toList (n : Int) = some (97 + n) := by
      refine atI_nat ?_
      rw [small_codes, List.getElem?_range' hn]
      simp
    rw [e]
    exact hk _ ⟨97 + n, rfl, by omega, by omega⟩
  · -- the text of these
    have hcs : ∃ cs : List Nat, ys = cs.map (fun c => D.str ⟨#[c]⟩) ∧ ∀ c ∈ cs, 97 ≤ c ∧ c ≤ 122 := by
      clear hl
      induction ys with
      | nil => exact ⟨[], rfl, by simp⟩
      | cons y ys ih =>
        obtain ⟨cs, e1, e2⟩ := ih fun z hz => hy z (by simp [hz])
        obtain ⟨_, _, c, e3, e4⟩ := hy y (by simp)
        exact ⟨c :: cs, by rw [e1, e3]; rfl, fun x hx => by
          rcases List.mem_cons.mp hx with e | e
          · rw [e]; exact e4
          · exact e2 x e⟩
    obtain ⟨cs, rfl, hb⟩ := hcs
    have hlen : cs.length = (1 + k).toNat := by simpa using hl
    rw [List.nil_append]
    simp only [wJoin, strsOf_one, sum_ones, join1]
    have h0 : (Str.ofString "").length = 0 := by decide
    refine ⟨by rw [h0, List.length_map]; omega, ?_⟩
    have hlow : lowS ⟨cs.toArray⟩ = true := by
      unfold lowS
      rw [List.all_eq_true]
      intro c hc
      have := hb c (by simpa using hc)
      simp
      omega
    have hzl : (⟨cs.toArray⟩ : Str).length = cs.length := by show cs.toArray.size = _; simp
    have hne : cs ≠ [] := by
      intro e
      rw [e] at hlen
      simp at hlen
      omega
    simp only [aIf, aB, aOp, aVar, aSl, aNoPart, aPart, aC, aCall, aNil, List.append_nil, A_l_keywords_0, List.getElem?_cons_succ, List.getElem?_cons_zero, List.set_cons_succ, List.set_cons_zero, wIn, memD, flD, hfl, hmem, Bool.true_and, Bool.true_or, true_and, wSl]
    cases hk : inS ⟨cs.toArray⟩ kwS with
    | false =>
      simp only [Bool.false_eq_true, if_false]
      refine hP _ hlow ?_ ?_ hk
      · rw [hzl]; omega
      · rw [hzl]; omega
    | true =>
      simp only [if_true]
      refine ⟨by rw [hzl]; omega, ?_⟩
      obtain ⟨c, r, rfl⟩ := List.exists_cons_of_ne_nil hne
      have ec : cutS ⟨(c :: r).toArray⟩ none (some 1) = ⟨#[c]⟩ := by
        unfold cutS
        rw [hzl]
        have h1 : HT.sIx (r.length + 1) 0 none = 0 := rfl
        have h2 : HT.sIx (r.length + 1) (r.length + 1) (some 1) = 1 := by
          rw [show (1 : Int) = ((1 : Nat) : Int) from rfl, HT.sIx_nat]
          omega
        rw [List.length_cons, h1, h2]
        simp
      rw [ec]
      have hc := hb c (by simp)
      refine hP _ ?_ ?_ ?_ (inS_len1 c)
      · simp [lowS]; omega
      · show (1 : Int) ≤ ((1 : Nat) : Int); omega
      · show ((1 : Nat) : Int) ≤ m; omega
theorem len_l_constant : ∀ ds P, A_l_constant ds P → ds.length = 1 := by rintro ds P ⟨rfl, _⟩; rfl
theorem pure_l_constant : ∀ ds P, A_l_constant ds P → a_l_constant { nx := fun _ _ => P .non, rt := fun d _ => P d } (startG 1 ds) [] := by
  rintro ds P ⟨rfl, hP⟩
  simp only [a_l_constant, aRet, aCall, aCons, aVar, aC, aNil, aLst, aOp, wPow, wInt, startG_1, List.getElem?_cons_zero, List.append_nil]
  refine A_pull_go (by omega) (by omega) fun k k0 k1 => ⟨⟨by decide, by decide, by decide⟩, ?_⟩
  refine A_pull_go (by decide) (by decide) fun j j0 j1 => ⟨by simp, ?_⟩
  have j1 : j < 1000000 := j1
  refine A_pick_go (by simp) (by simp) fun d hd => ?_
  simp at hd
  rcases hd with rfl | rfl | rfl | rfl | rfl | rfl | rfl <;> exact hP _ (by omega) (by omega)
end Bd
/-! BgF: rules in the printer's form for raising defs, _law_fields, _law_try. -/
namespace Bd
open PySem L2 L2H
theorem hu65H {k : Nat} {A : Around} (hr : RoomH k A) : A.units + 65 < cLine := by have := hr.un; omega
section
variable {P : Program} {w : World} {K : PySem.W.Frag} {mg : Str → Option Value} {base : Heap} {x : Str} {st : Stmt} {N ps : List Str} {k : Nat} {C : WC}
theorem fncW_mk {Ab : AW} {a : Addr → Str → List Str → List D → ATS}
    (hF : ∃ fd, FnS K x x st [] (He.ga K x) fd) (hm : mg x = some (.ref (He.ga K x))) (S : FnScope N ps (defScope st))
    (hb : ∀ (kV doc pm : Value) (an : Option Addr) (cdv ct : Value) (us : List Value), us.length = ps.length → bindArgs (PySem.W.fnOf x x (defArgs st) (defBody st) (defScope st) .none kV doc pm an cdv ct) ⟨us, []⟩ = pure (ps.zip us))
    (hlen : ∀ b cn ns es ds P, Ab b cn ns es ds P → ds.length = ps.length) (hA : ∀ b cn ns es ds P, Ab b cn ns es ds P → a b cn ns es { nx := fun _ _ => P .non, rt := fun d _ => P d } (startG N.length ds) [])
    (hJ : ∀ (Fm : Fr) (fd : FuncData) (cdv : Value) (A : Around) (outer : List Env) (s : Shared) (H : Hp) (E : XK) (p : Addr × Obj) (dd : Addr) (cn : Str) (ns : List Str) (ws : List V) (es : List D), PinX K (Fm.w.plus Fm.os0) Fm.H0 p dd cn ns ws es → p ∈ (cxH CX0 P w K mg base N x (defScope st) (He.ga K x) cdv A outer s H E p).nox.pn → C Fm.w →
      RoomH k (A.deeper (PyProof.Rows.envOfC x (defScope st) s.heap.objs.size (He.ga K x) cdv)) → ∃ t, JSs (cxH CX0 P w K mg base N x (defScope st) (He.ga K x) cdv A outer s H E p).nox Fm (defBody st) t (a p.1 cn ns es)) :
    FncW P w K mg base x (k + 1) ps C Ab := by
  obtain ⟨fd, F⟩ := hF
  exact ⟨⟨fd, fn_ruleW F S hlen hA (fun Fm cdv A outer s H E p dd cn ns ws es hp hc hr => hJ Fm fd cdv A outer s H E p dd cn ns ws es hp (List.mem_singleton.mpr rfl) hc hr), F.bindsN hb⟩, hm, F.kp⟩
end
/-- any sound reading -/
def tEx (X : Cx) (Fm : Fr) (e : Expr) (a : ATE) : TE := fun σ H Q => ∃ t, JE X Fm e t a ∧ t σ H Q
theorem je_ex {X : Cx} {Fm : Fr} {e : Expr} {a : ATE} (h : ∃ t, JE X Fm e t a) : JE X Fm e (tEx X Fm e a) a := by
  refine ⟨⟨fun pins s σ H Q I ⟨t, j, q⟩ => j.p.run pins s σ H Q I q⟩, ?_⟩
  obtain ⟨t, j⟩ := h
  intro gs pv os cs σ H Γ P Q r ha hq
  exact ⟨t, j, j.s gs pv os cs σ H Γ P Q r ha hq⟩
section
variable {X : Cx} {Fm : Fr} {K : PySem.W.Frag} {C : WC} {A : AW} {cs : List Str} {T : List (Addr × Str)} {c P : Addr} {j k : Nat} {st : Stmt} {params : Arguments} {body : Expr} {scope : Scope} {t : Fr → XD → TE} {ae : XD → ATE} {p lpos pos : Pos}
theorem je_tryS (hK : X.K = K) (F : TryF X.prog X.w K X.mg X.base st j A cs) (hL : LamH X T c P) (tw : TabW T Fm.w) (hr : Room (k + 2) X.A) (hj : j ≤ k + 1) (hC : FP K Fm C)
    (hb : ∀ (G : Fr) (xd : XD) (A : Around) (outer : List Env) (s : Shared) (H : Hp) (f c' : Addr), C G.w → Room k (A.deeper (LamX.lamEnv X scope s.heap.objs.size f c')) → TakesX (LamX.lamCx X A outer s H (EXK K G xd) scope f c') K G xd →
      JE (LamX.lamCx X A outer s H (EXK K G xd) scope f c') G body (t G xd) (ae xd))
    (L : LamX.LamS X.env.scope scope := by exact LamX.lamS_by (by rfl)) (hdef : defaultsOf params X.env = ([], []) := by rfl)
    (hbind : ∀ (q : Str) (cl : List (Str × Addr)) (pm cv ctv : Value), bindArgs (PySem.W.kla_fn "<lambda>" q params body scope cl pm cv ctv) ⟨[], []⟩ = pure [] := by exact fun _ _ _ _ _ => rfl) (hg : Gl X "_law_try" := by rfl) :
    JE X Fm (.Call (.Name "_law_try" p) [.Lambda params body scope lpos] [] pos) (tEx X Fm (.Call (.Name "_law_try" p) [.Lambda params body scope lpos] [] pos) (aTry ae (xtT A cs))) (aTry ae (xtT A cs)) :=
  je_ex (je_try (p := p) (lpos := lpos) (pos := pos) hK F hL tw hr hj L hdef hbind hg hC hb)
end
/-! ### _law_fields, over data -/
abbrev fldOf : List (Str × Str) := [("InvalidRatio", "given"), ("InvalidCount", "given"), ("InvalidLine", "given"), ("InvalidWeight", "given"), ("InvalidProcedure", "at"), ("InvalidForm", "at"), ("InvalidBody", "at"), ("InvalidPlace", "at"),
  ("TooGreat", "many"), ("TooMany", "most"), ("InvalidText", "row"), ("InvalidPage", "row"), ("InvalidCommand", "index"), ("InvalidName", "name"), ("DuplicateName", "name"), ("WrongCount", "name"), ("MissingBody", "name"), ("InvalidRoom", "name"), ("InvalidToll", "name"), ("Barred", "name"), ("UnknownName", "name")]
def A_l_fields : AW := fun a cn ns es ds P => ds = [.adr a] ∧ ∃ (tg fld : Str) (g : D), (tg, fld) ∈ fldOf ∧ ns = [("tag" : Str), fld] ∧ es = [.str tg, g] ∧ P (.tup [g])
end Bd
/-! BgH: the Hook with one more root: where the model keeps its own names. -/
namespace Bd
open PySem PySem.Spec PyProof.Rows L2
/-- what an object leads to: a dict's values, a sequence's items, a function's code, defaults, cells, a class's names; not what a code object names -/
def kidsZ (o : Obj) : List Addr := match o.data with
  | .seq its _ => its.toList.flatMap He.refV
  | .dict es _ => es.toList.flatMap fun e => He.refV e.val
  | .func fd => He.refV fd.code ++ (He.refV fd.defaults ++ (He.refV fd.kwdefaults ++ fd.closure.map (·.2)))
  | .cls cd => [cd.ns]
  | .fields vs => (match Nat.blt 8 vs.size with
    | true => []
    | false => vs.toList.flatMap He.refV)
  | _ => []
/-- level by level, from the frontier alone -/
def lvZ (g : Addr → Option Obj) : Nat → List Addr → List Addr
  | 0, as => as
  | n + 1, as => as ++ lvZ g n (as.flatMap fun a => match g a with
    | some o => kidsZ o
    | none => [])
abbrev addrsY (g : Addr → Option Obj) (n : Nat) : List Addr := cStatics :: lvZ g n [mainGlobals]
abbrev fragY (g : Addr → Option Obj) (n : Nat) : PySem.W.Frag := He.frT g (addrsY g n)
def obsY (n : Nat) (fa : List He.Fa) (fn : List He.DefD) (tf : List He.Defn) (ex : PySem.W.Frag → Bool) (g : Addr → Option Obj) : He.AlX :=
  (He.obsT fa fn [] (fragY g n), ex (fragY g n) && He.tabsB g tf (fragY g n))
theorem saysY {n : Nat} {fa : List He.Fa} {fn : List He.DefD} {tf : List He.Defn} {ex : PySem.W.Frag → Bool} {w : World} {h : Heap} (e : obsY n fa fn tf ex h.get? = He.valX fn [] w) : He.SaysX fa fn [] tf ex w h (fragY h.get? n) := by
  have e1 : He.obsT fa fn [] (fragY h.get? n) = He.valT fn [] w := by
    have := congrArg Prod.fst e
    exact this
  have e2 : (ex (fragY h.get? n) && He.tabsB h.get? tf (fragY h.get? n)) = true := by
    have := congrArg Prod.snd e
    exact this
  obtain ⟨q1, q2⟩ := He.ba e2
  have each : ∀ d ∈ tf, PySem.W.codeHdIn (fragY h.get? n) (He.cT (fragY h.get? n) d).1 (He.cT (fragY h.get? n) d).2 = true ∧ ∃ o, h.get? (He.cT (fragY h.get? n) d).2 = some o ∧ He.emptyTab o = true := by
    intro d hd
    obtain ⟨r1, r2⟩ := He.ba (List.all_eq_true.mp q2 d hd)
    refine ⟨r1, ?_⟩
    cases z : h.get? (He.cT (fragY h.get? n) d).2 with
    | none => rw [z] at r2; cases r2
    | some u => rw [z] at r2; exact ⟨u, rfl, r2⟩
  refine ⟨e1, q1, fun d hd => (each d hd).1, fun d hd => ?_, fun d hd => ?_⟩
  · obtain ⟨_, u, z, t⟩ := each d hd
    exact He.frT_none z t
  · obtain ⟨_, u, z, t⟩ := each d hd
    rw [z, He.emptyTab_eq t]
def hookY (n : Nat) (fa : List He.Fa) (fn : List He.DefD) (tf : List He.Defn) (ex : PySem.W.Frag → Bool) : PySem.W.Hook where
  α := He.AlX
  obs := fun s => obsY n fa fn tf ex s.heap.get?
  val := fun w => He.valX fn [] w
  says := fun w h => ∃ K : PySem.W.Frag, K.In h ∧ He.SaysX fa fn [] tf ex w h K
  of := fun _ _ e => ⟨_, He.frT_in, saysY e⟩
  keeps := fun _ _ _ ⟨K, hK, c⟩ k => ⟨K, PySem.W.Frag.In.keeps hK k, { t := c.t, more := c.more, hd := c.hd, out := c.out, empty := fun d hd => k _ _ (c.empty d hd) }⟩
theorem obsY_eq {n : Nat} {fa : List He.Fa} {fn : List He.DefD} {tf : List He.Defn} {ex : PySem.W.Frag → Bool} {g : Addr → Option Obj} {s : Shared} (h : ∀ a, g a = s.heap.get? a) : obsY n fa fn tf ex g = (hookY n fa fn tf ex).obs s := by
  obtain rfl : g = s.heap.get? := funext h
  rfl
end Bd
/-! BgI: bool(o), o == number, x is True, an __init__ that may raise. -/
namespace Bd
open PySem L2
section
variable {prog : Program} {w : World} {A : Around} {E : Value → Shared → Prop} {s : Shared}
/-- a type called, what its __new__ does told of this very run -/
theorem type_by {T newId : String} {Bn : Builtin} {args : List Value} {Q : Value → Shared → Prop} (ft : TypeCalled T newId "object.__init__") (hne : (some newId != some "object.__new__") = true) (hct : checkTypeCall T ⟨args, []⟩ = pure ()) (hcn : checkBuiltinCall newId ⟨.type T :: args, []⟩ = pure ())
    (hok : ∀ obj, argsOk "object.__init__" ⟨obj :: args, []⟩) (en : entryFor table newId = some Bn)
    (new : wpAny (model prog w) A.in1.in1 (Bn ⟨.type T :: args, []⟩) (fun fin s' => match fin with | .done f => ∃ obj, f = .ret obj ∧ s'.TypeIs obj T ∧ Q obj s' | .again _ => False) E s) : wpAny (model prog w) A (call (.type T) args) Q E s := by
  obtain ⟨c, tl, hm⟩ := ft.mro
  have (hd) := ft.made; have (hs) := ft.sub; have (h1) := ft.notType; have (h2) := ft.canCreate
  refine wpAny_call (codeAny_of_tree (show wpAny _ _ (callAny (.type T) _) _ _ _ from wpAny_pure ⟨Code.quiet_builtin _ (by decide +kernel), codeAny_builtin F.entry_type_call ?_⟩))
  rw [Around.under_plain (weight_type_call_type T args []) (units_type_call_type T args [])]
  repeat (any_goals (first | assumption | with_reducible assumption | wp_step))
  let R : Result → Shared → Prop := fun r s' => match r with
    | .ok (.ret v) => s'.TypeIs v T ∧ Q v s'
    | .ok _ => False
    | .error e => E e s'
  have made : codeAny (model prog w) A.in1 (.call (.builtin newId) ⟨.type T :: args, []⟩) R s :=
    codeAny_call_builtin ft.plain en (wpAny_of_eq hcn (wpAny_mono new (fun fin s' hf => by
      cases fin with
      | done f => obtain ⟨b, rfl, hq⟩ := hf; exact hq
      | again c' => exact hf.elim) fun _ _ e => e))
  refine codeAny_mono made fun r s1 hr => ?_
  cases r with
  | error e => exact hr
  | ok fl =>
    cases fl with
    | ret obj =>
      obtain ⟨hT, hq⟩ := hr
      have (hli) := ft.init.lookup; have (hbi) := ft.init.bind obj
      repeat (any_goals (first | assumption | wp_step))
      refine codeAny_mono (codeAny_call_builtin ft.init.plain F.entry_object_init (ft.init.check _ _ _ _ _ _ _ _ hT (hok obj) (object_init_meets (rest := args) ft.init.lookup ft.made hne prog w A.in1 _ s1 ⟨hT, (show wants (fun r s' => r = .none ∧ Q obj s') E _ _ from ⟨rfl, hq⟩)⟩))) fun r2 s2 h2' => ?_
      cases r2 with
      | error e => exact h2'
      | ok f2 =>
        cases f2 with
        | ret r =>
          obtain ⟨rfl, hq2⟩ := h2'
          repeat (any_goals (first | assumption | wp_step))
        | _ => exact h2'.elim
    | _ => exact hr.elim
/-- bool(x) by the truth of x -/
theorem bool_by {x : Value} {Q : Value → Shared → Prop} (h : wpAny (model prog w) A.in1.in1 (truthy x) (fun b s' => Q (.bool b) s') E s) : wpAny (model prog w) A (call (.type "bool") [x]) Q E s := by
  refine type_by F.called_bool F.newNe_bool (F.typeCall_bool_1 x) (F.newCall_bool_1 x) (fun obj => F.args_object_init_2 obj x) F.entry_bool_new ?_
  obtain ⟨hp, g, d, tk, os⟩ := s
  have f1 := F.conv_sub_bool
  repeat (any_goals (first | assumption | (with_reducible refine wpAny_bind (m := truthy x) (wpAny_mono h (fun b s' hq => ?_) fun _ _ e => e)) | wp_step))
  all_goals first | exact ⟨_, rfl, rfl, hq⟩ | skip
end
section
variable {X : Cx} {k : Nat} {f C : Addr} {fd : FuncData} {ps : List Str} {sp : Sp}
/-- bool(o) by an own __bool__ -/
def rBoolO (C : Addr) (sp : Sp) : V → Hp → VK → Prop := fun x H Q => rUno C sp x H fun v H' => ∃ b, v = .bl b ∧ Q v H'
theorem call_boolO (hf : PySem.W.findIn X.K (.ref C) "__bool__" = some (some (.ref f))) (hn : PySem.W.isFn X.K (.ref f) = true) (F : FnOk X.prog X.w X.K X.mg X.base CX0 k f fd ps sp) (hb : Binds X.K fd ps []) (hr : Room (k + 2) X.A) :
    CallR X (.type "bool") (fun xs H Q => ∃ x, xs = [x] ∧ rBoolO C sp x H Q) := by
  intro pins s σ H xs us Q I r ⟨x, e, a, dx, fs, e1, ha, hq⟩
  subst e e1
  cases r with
  | cons r1 r2 =>
    cases r2
    cases r1
    obtain ⟨mA, J, _⟩ := ins_get I.hok ha
    obtain ⟨od, J, _⟩ := J.look
    obtain ⟨m, hF⟩ := I.fr
    have go := run_sub ((sub0 hr).in1.in1) F hb I (.cons (show RelV (.ref a) (.ref a) from rfl) .nil) hq
    refine bool_by (PySem.W.truthy_K hF I.ok.mod.kin J hf hn (wpAny_mono go (fun v s' q => ?_) fun _ _ q => q))
    obtain ⟨v', H', I', rv, b, rfl, q⟩ := q
    obtain rfl : v = Value.bool b := rv
    exact ⟨.bl b, H', I', rfl, q⟩
end
section
variable {X : Cx} {k : Nat} {f C : Addr} {fd : FuncData} {ps : List Str} {sp : Sp}
/-- o == a number, by an own __eq__ -/
def rEqI (C : Addr) (sp : Sp) : R2 := fun x y H Q => ∃ a dx fs i, x = .ref a ∧ y = .int i ∧ H a = some (.ins C dx fs) ∧ sp [x, y] H Q E0
theorem op_eqOI (h1 : PySem.W.findIn X.K (.ref C) "__eq__" = some (some (.ref f))) (h2 : PySem.W.isFn X.K (.ref f) = true) (h3 : PySem.W.notFirst X.K C (.type "int") = true) (F : FnOk X.prog X.w X.K X.mg X.base CX0 k f fd ps sp) (hb : Binds X.K fd ps []) (hr : Room k X.A) : OpR X (compareOp .Eq) (rEqI C sp) := by
  intro pins s σ H x y v u Q I rx ry ⟨a, dx, fs, i, e1, e2, ha, hq⟩
  subst e1 e2
  cases rx
  obtain ⟨t, rfl⟩ := ry
  obtain ⟨mA, J, _⟩ := ins_get I.hok ha
  obtain ⟨od, J, _⟩ := J.look
  obtain ⟨m, hF⟩ := I.fr
  have go := run_sub (sub0 hr) F hb I (.cons (show RelV (.ref a) (.ref a) from rfl) (.cons (show RelV (.int i) (.int i t) from ⟨t, rfl⟩) .nil)) hq
  show wpAny (model X.prog X.w) X.A (richCompare .Eq (.ref a) (.int i t)) _ _ _
  exact PySem.W.cmp_K (op := .Eq) (tb := .type "int") hr.units0 hF I.ok.mod.kin J (PySem.W.Looks.of_pure rfl) h3 h1 h2 (wpAny_mono go (fun v s' q => cmp_back q) fun _ _ q => q)
theorem op_isB : OpR X (compareOp .Is) (fun x y H Q => ∃ a b, x = .bl a ∧ y = .bl b ∧ Q (.bl (decide (a = b))) H) := by
  intro pins s σ H x y v u Q I rx ry ⟨a, b, e1, e2, q⟩
  subst e1 e2
  cases rx
  cases ry
  refine wpAny_is_plain rfl ⟨.bl (decide (a = b)), H, I, ?_, q⟩
  cases a <;> cases b <;> rfl
end
/-! ### over data -/
@[simp] def gBoolO (cn : Str) (A : List D → (D → Prop) → Prop) (xs : List D) (P : D → Prop) : Prop := match xs with
  | [x] => gUno cn A x fun d => match d with
    | .bl b => P (.bl b)
    | _ => False
  | _ => False
@[simp] def gEqI (cn : Str) (A : List D → (D → Prop) → Prop) (x y : D) (P : D → Prop) : Prop := match x, y with
  | .obj c ns ds, .int i => c = cn ∧ A [.obj c ns ds, .int i] P
  | _, _ => False
@[simp] def wIsB (x y : D) (P : D → Prop) : Prop := match x, y with
  | .bl a, .bl b => P (.bl (decide (a = b)))
  | _, _ => False
section
variable {K : PySem.W.Frag} {A : List D → (D → Prop) → Prop} {cn : Str}
theorem s_boolO : SndRs K Any (fun xs H Q => ∃ x, xs = [x] ∧ rBoolO (He.ga K cn) (spOf K Any A) x H Q) (gBoolO cn A) := by
  intro w H xs ds P Q hw hI r hf hq
  unfold gBoolO at hf
  split at hf
  · cases r with
    | cons r1 r2 =>
      cases r2
      refine ⟨_, rfl, s_uno w H _ _ _ _ hw hI r1 hf fun v H' d s r p => ?_⟩
      split at p
      · exact ⟨_, r_bl r, hq _ H' _ s r p⟩
      · exact p.elim
  · exact hf.elim
theorem s_eqI : SndR2 K Any (rEqI (He.ga K cn) (spOf K Any A)) (gEqI cn A) := by
  intro w H x y dx dy P Q _ hI r1 r2 hf hq
  unfold gEqI at hf
  split at hf
  · obtain ⟨rfl, p⟩ := hf
    obtain ⟨a, dxa, xs, rfl, h1, _, _⟩ := obj_inj r1
    exact ⟨a, _, _, _, rfl, r_int r2, h1, w, _, P, trivial, hI, .cons r1 (.cons r2 .nil), p, fun v H' d s r p => hq v H' d s r p⟩
  · exact hf.elim
theorem s_isB : SndR2 K Any (fun x y H Q => ∃ a b, x = .bl a ∧ y = .bl b ∧ Q (.bl (decide (a = b))) H) wIsB := by
  intro w H x y dx dy P Q _ hI r1 r2 hf hq
  unfold wIsB at hf
  split at hf
  · exact ⟨_, _, r_bl r1, r_bl r2, hq _ H _ (Step.refl hI) (.bl _) hf⟩
  · exact hf.elim
end
section
variable {X : Cx} {Kf : PySem.W.Frag} {cn : Str} {k j : Nat} {ps : List Str} {A : List D → (D → Prop) → Prop}
theorem cr_boolO (hK : X.K = Kf) (F : FncM X.prog X.w Kf X.mg X.base cn "__bool__" k ps Any A) (hr : Room j X.A) (hk : k + 2 ≤ j) : CallR X (.type "bool") (fun xs H Q => ∃ x, xs = [x] ∧ rBoolO (He.ga Kf cn) (spOf Kf Any A) x H Q) := by
  subst hK
  obtain ⟨fd, F1, b⟩ := F.ex
  exact call_boolO F.mt.at_ F.mt.fn F1 b (hr.mono hk)
theorem s_boolK (hK : X.K = Kf) : SndRs X.K Any (fun xs H Q => ∃ x, xs = [x] ∧ rBoolO (He.ga Kf cn) (spOf Kf Any A) x H Q) (gBoolO cn A) := by
  subst hK
  exact s_boolO
theorem jo_eqI (hK : X.K = Kf) (F : FncM X.prog X.w Kf X.mg X.base cn "__eq__" k ps Any A) (B : PySem.W.notFirst Kf (He.ga Kf cn) (.type "int") = true) (hr : Room j X.A) (hk : k ≤ j) : JO X (compareOp .Eq) (rEqI (He.ga Kf cn) (spOf Kf Any A)) (gEqI cn A) := by
  subst hK
  obtain ⟨fd, F1, b⟩ := F.ex
  exact ⟨op_eqOI F.mt.at_ F.mt.fn B F1 b (hr.mono hk), s_eqI⟩
theorem jo_isB : JO X (compareOp .Is) (fun x y H Q => ∃ a b, x = .bl a ∧ y = .bl b ∧ Q (.bl (decide (a = b))) H) wIsB := ⟨op_isB, s_isB⟩
end
section
variable {P : Program} {w : World} {K : PySem.W.Frag} {mg : Str → Option Value} {base : Heap} {cn q : Str} {st : Stmt} {N ps : List Str} {k : Nat} {C : WC} {a : XD → ATS}
theorem fncIX_mk {dvs : List V} {kn : List Nat} {Ab : AXS}
    (hF : ∃ fd, FnS K "__init__" q st dvs (ma' K cn "__init__") fd) (made : Mk K (He.ga K cn) (ma' K cn "__init__")) (hm : mg cn = some (.ref (He.ga K cn))) (S : FnScope N ps (defScope st))
    (hb : ∀ fd, FnS K "__init__" q st dvs (ma' K cn "__init__") fd → ∀ n, n ≤ dvs.length → ∃ ds, Vals (dvs.drop n) ds ∧ Binds K fd ps ds)
    (hkb : ∀ fd, FnS K "__init__" q st dvs (ma' K cn "__init__") fd → ∀ n, n ∈ kn → KBn K fd ps n (ps.drop n) (fun us ws => us ++ ws) (fun us ws => us ++ ws))
    (hlen : ∀ ds c P Xc, Ab ds c P Xc → ds.length = ps.length) (hA : ∀ ds c P Xc, Ab ds c P Xc → a Xc { nx := fun _ c' => ∃ n, P .non (c'.drop n), rt := fun d c' => ∃ n, P d (c'.drop n) } (startG N.length ds) c)
    (hJ : ∀ (Fm : Fr) (xd : XD) (fd : FuncData) (cdv : Value) (A : Around) (outer : List Env) (s : Shared) (H : Hp) (E : XK), TakesX (cxOf (L2.CX P w) P w K mg base N q (defScope st) (ma' K cn "__init__") cdv A outer s H E) K Fm xd → C Fm.w → Room k (A.deeper (PyProof.Rows.envOfC q (defScope st) s.heap.objs.size (ma' K cn "__init__") cdv)) →
      ∃ t, JSs (cxOf (L2.CX P w) P w K mg base N q (defScope st) (ma' K cn "__init__") cdv A outer s H E) Fm (defBody st) t (a xd)) :
    FncIX P w K mg base cn (k + 1) ps dvs kn C Ab := by
  obtain ⟨fd, F⟩ := hF
  exact ⟨⟨fd, fn_ruleSX F S hlen hA (fun Fm xd => hJ Fm xd fd), hb fd F, hkb fd F⟩, made, hm⟩
end
section
variable {K : PySem.W.Frag} {q : Str} {st : Stmt} {f : Addr} {fd : FuncData} {ps : List Str} {dvs : List V} {x : Str}
/-- keywords for all parameters behind the first n, where there are defaults -/
theorem ik_dfl (n : Nat) (F : FnS K x q st dvs f fd) (hd : dvs ≠ [])
    (h : ∀ (T : Addr) (kV doc pm : Value) (an : Option Addr) (cdv ct : Value) (us its ws : List Value), us.length = n → its.length = dvs.length → ws.length = (ps.drop n).length →
      ∃ k, bindArgs (PySem.W.fnOf x q (defArgs st) (defBody st) (defScope st) (.ref T) kV doc pm an cdv ct) ⟨us, (ps.drop n).zip ws⟩ = seqItems? (.ref T) >>= k ∧ k (some its.toArray) = pure (ps.zip (us ++ ws))) :
    KBn K fd ps n (ps.drop n) (fun us ws => us ++ ws) (fun us ws => us ++ ws) := by
  obtain ⟨oc, od, dV, kV, doc, pm, an, cdv, ct, osl, rfl, lk, hcd, hD, hK⟩ := F.ex
  rcases hD with ⟨e, _⟩ | ⟨_, T, o, its, m, rfl, lT, oT, rT⟩
  · exact (hd e).elim
  · refine ⟨fun s us ws X l1 l2 => ?_, fun r1 r2 => r1.append r2⟩
    obtain ⟨k, e1, e2⟩ := h T kV doc pm an cdv ct us its ws l1 rT.length.symm l2
    exact BindsTo.of_looks fun M => by rw [e1]; exact looks_items X lT oT (.of_pure e2)
end
@[simp] def wToBool (xs : List D) (P : D → Prop) : Prop := match xs with
  | [.int i] => P (.bl (i != 0))
  | [.bl k] => P (.bl k)
  | _ => False
theorem s_toBool {K : PySem.W.Frag} {C : WC} : SndRs K C (fun xs H Q => (∃ i, xs = [.int i] ∧ Q (.bl (i != 0)) H) ∨ ∃ k, xs = [.bl k] ∧ Q (.bl k) H) wToBool := by
  intro w H xs ds P Q hw hI r hf hq
  unfold wToBool at hf
  split at hf
  · cases r with
    | cons r1 r2 =>
      cases r2
      exact .inl ⟨_, by rw [r_int r1], hq _ H _ (Step.refl hI) (.bl _) hf⟩
  · cases r with
    | cons r1 r2 =>
      cases r2
      exact .inr ⟨_, by rw [r_bl r1], hq _ H _ (Step.refl hI) (.bl _) hf⟩
  · exact hf.elim
end Bd
/-! BgJ: _law_fields over data -/
namespace Bd
open PySem L2
/-- slots: 0 _law_e -/
def a_l_fields (b : Addr) (cn : Str) (ns : List Str) (es : List D) : ATS :=
  aSeq (aIfS (aB (aOp wIn (aXf b ns es "tag" (aVar 0)) (aTup (aCons (aC (.str "InvalidRatio")) (aCons (aC (.str "InvalidCount")) (aCons (aC (.str "InvalidLine")) (aCons (aC (.str "InvalidWeight")) (aNil)))))))) (aRet (aTup (aCons (aXf b ns es "given" (aVar 0)) (aNil)))) (aNext))
  (aSeq (aIfS (aB (aOp wIn (aXf b ns es "tag" (aVar 0)) (aTup (aCons (aC (.str "InvalidProcedure")) (aCons (aC (.str "InvalidForm")) (aCons (aC (.str "InvalidBody")) (aCons (aC (.str "InvalidPlace")) (aNil)))))))) (aRet (aTup (aCons (aXf b ns es "at" (aVar 0)) (aNil)))) (aNext))
  (aSeq (aIfS (aB (aOp wIn (aXf b ns es "tag" (aVar 0)) (aTup (aCons (aC (.str "TooGreat")) (aCons (aC (.str "TooMany")) (aNil)))))) (aRet (aTup (aCons (aIf (aB (aOp wEq (aXf b ns es "tag" (aVar 0)) (aC (.str "TooGreat")))) (aXf b ns es "many" (aVar 0)) (aXf b ns es "most" (aVar 0))) (aNil)))) (aNext))
  (aSeq (aIfS (aB (aOp wIn (aXf b ns es "tag" (aVar 0)) (aTup (aCons (aC (.str "InvalidText")) (aCons (aC (.str "InvalidPage")) (aNil)))))) (aRet (aTup (aCons (aXf b ns es "row" (aVar 0)) (aNil)))) (aNext))
  (aRet (aIf (aB (aOp wEq (aXf b ns es "tag" (aVar 0)) (aC (.str "InvalidCommand")))) (aTup (aCons (aXf b ns es "index" (aVar 0)) (aNil))) (aIf (aB (aOp wEq (aXf b ns es "tag" (aVar 0)) (aC (.str "NothingLeft")))) (aTup (aNil)) (aTup (aCons (aXf b ns es "name" (aVar 0)) (aNil)))))))))

theorem fl_str (s : Str) : flD (.str s) = true := rfl
theorem ntag_given : (("given" : Str) == "tag") = false := by decide
theorem ntag_at : (("at" : Str) == "tag") = false := by decide
theorem ntag_many : (("many" : Str) == "tag") = false := by decide
theorem ntag_most : (("most" : Str) == "tag") = false := by decide
theorem ntag_row : (("row" : Str) == "tag") = false := by decide
theorem ntag_index : (("index" : Str) == "tag") = false := by decide
theorem ntag_name : (("name" : Str) == "tag") = false := by decide
theorem len_l_fields : ∀ b cn ns es ds P, A_l_fields b cn ns es ds P → ds.length = 1 := by rintro b cn ns es ds P ⟨rfl, _⟩; rfl
theorem pure_l_fields : ∀ b cn ns es ds P, A_l_fields b cn ns es ds P → a_l_fields b cn ns es { nx := fun _ _ => P .non, rt := fun d _ => P d } (startG 1 ds) [] := by
  rintro b cn ns es ds P ⟨rfl, tg, fld, g, hm, rfl, rfl, hP⟩
  simp only [List.mem_cons, List.not_mem_nil, or_false, Prod.mk.injEq] at hm
  rcases hm with ⟨rfl, rfl⟩ | ⟨rfl, rfl⟩ | ⟨rfl, rfl⟩ | ⟨rfl, rfl⟩ | ⟨rfl, rfl⟩ | ⟨rfl, rfl⟩ | ⟨rfl, rfl⟩ | ⟨rfl, rfl⟩ | ⟨rfl, rfl⟩ | ⟨rfl, rfl⟩ | ⟨rfl, rfl⟩ | ⟨rfl, rfl⟩ | ⟨rfl, rfl⟩ | ⟨rfl, rfl⟩ | ⟨rfl, rfl⟩ | ⟨rfl, rfl⟩ | ⟨rfl, rfl⟩ | ⟨rfl, rfl⟩ | ⟨rfl, rfl⟩ | ⟨rfl, rfl⟩ | ⟨rfl, rfl⟩ <;>
    simpa [a_l_fields, memD, fl_str, List.lookup_cons, BEq.rfl, ntag_given, ntag_at, ntag_many, ntag_most, ntag_row, ntag_index, ntag_name] using hP
end Bd
/-! BhA: dicts as data (locked for good) and as cells; keys ints and texts. -/
namespace Bd
open PySem L2
def keyD : D → Option Key
  | .int i => some (.inl i)
  | .str x => some (.inr x)
  | _ => none
def kD : Key → D
  | .inl i => .int i
  | .inr x => .str x
theorem keyD_kD (k : Key) : keyD (kD k) = some k := by cases k <;> rfl
section
variable {κ : Type} [DecidableEq κ]
def getK : List κ → List D → κ → Option D
  | k :: ks, d :: ds, q => if k = q then some d else getK ks ds q
  | _, _, _ => none
/-- in its place, or at the end -/
def setKs (ks : List κ) (q : κ) : List κ := if q ∈ ks then ks else ks ++ [q]
def setDs : List κ → List D → κ → D → List D
  | k :: ks, d :: ds, q, e => if k = q then e :: ds else d :: setDs ks ds q e
  | _, _, _, e => [e]
theorem valV_cons {k q : κ} {v : V} {kvs : List (κ × V)} : valV ((k, v) :: kvs) q = if k = q then some v else valV kvs q := by
  unfold valV
  rw [List.find?_cons]
  by_cases h : k = q
  · simp [h]
  · simp [h]
theorem get_rw {K : PySem.W.Frag} {w : Wd} {H : Hp} : ∀ {ks : List κ} {xs : List V} {ds : List D} (q : κ), ks.length = xs.length → RA K w H xs ds → (valV (ks.zip xs) q = none ∧ getK ks ds q = none) ∨ ∃ v d, valV (ks.zip xs) q = some v ∧ getK ks ds q = some d ∧ R K w H v d
  | [], _, _, _, e, r => by
    cases r with
    | nil => exact .inl ⟨rfl, rfl⟩
    | cons _ _ => cases e
  | k :: ks, _, _, q, e, r => by
    cases r with
    | nil => cases e
    | cons r1 r2 =>
      rw [List.zip_cons_cons, valV_cons]
      unfold getK
      by_cases h : k = q
      · rw [if_pos h, if_pos h]; exact .inr ⟨_, _, rfl, rfl, r1⟩
      · rw [if_neg h, if_neg h]; exact get_rw q (by simpa using e) r2
end
def keysD : List D → Option (List Key)
  | [] => some []
  | d :: ds => match keyD d, keysD ds with
    | some k, some ks => some (k :: ks)
    | _, _ => none
/-- a tuple as a key -/
def keyT : D → Option (List Key)
  | .tup ds => keysD ds
  | _ => none
/-- what a dict holds at a key -/
def dfind (x y : D) : Option (Option D) := match x with
  | .dic _ ks ds => (keyD y).map fun k => getK ks ds k
  | .dcl ks ds => (keyD y).map fun k => getK ks ds k
  | .dit _ ks ds => (keyT y).map fun k => getK ks ds k
  | .dct ks ds => (keyT y).map fun k => getK ks ds k
  | _ => none
theorem rd_view {w : Wd} {H : Hp} {a : Addr} {o : HO} (h : w.v H a = some o) : H a = some o := (vis_some h).2
theorem key_rw {K : PySem.W.Frag} {w : Wd} {H : Hp} {v : V} {d : D} {k : Key} (r : R K w H v d) (e : keyD d = some k) : v = kV k := by
  cases d <;> simp [keyD] at e
  · subst e; exact r_int r
  · subst e; exact r_str r
theorem keys_rw {K : PySem.W.Frag} {w : Wd} {H : Hp} : ∀ {vs : List V} {ds : List D} {ks : List Key}, RA K w H vs ds → keysD ds = some ks → vs = ks.map kV
  | _, _, ks, .nil, e => by cases e; rfl
  | _, _, ks, .cons (d := d) (ds := ds) r t, e => by
    unfold keysD at e
    cases e1 : keyD d with
    | none => rw [e1] at e; simp at e
    | some k =>
      cases e2 : keysD ds with
      | none => rw [e1, e2] at e; simp at e
      | some ks' =>
        rw [e1, e2] at e
        cases e
        rw [key_rw r e1, keys_rw t e2]
        rfl
theorem keyT_rw {K : PySem.W.Frag} {w : Wd} {H : Hp} {v : V} {d : D} {k : List Key} (r : R K w H v d) (e : keyT d = some k) : ∃ b, v = .ref b ∧ H b = some (.tup (k.map kV)) := by
  cases d with
  | tup ds =>
    cases r with
    | @tup b xs _ h ra => exact ⟨b, rfl, by rw [← keys_rw (w := w) ra e]; exact (vis_some h).2⟩
  | _ => cases e
theorem dfind_ok {K : PySem.W.Frag} {w : Wd} {H : Hp} {x y : V} {dx dy : D} {o : Option D} (r1 : R K w H x dx) (r2 : R K w H y dy) (e : dfind dx dy = some o) :
    ∃ a ov, x = .ref a ∧ DGet H a y ov ∧ ((o = none ∧ ov = none) ∨ ∃ v d, ov = some v ∧ o = some d ∧ R K w H v d) := by
  cases dx with
  | dic ob ks ds =>
    cases r1 with
    | @dic a _ _ xs _ h l ra =>
      unfold dfind at e
      cases ek : keyD dy with
      | none => rw [ek] at e; cases e
      | some k =>
        rw [ek] at e
        obtain rfl : getK ks ds k = o := by simpa using e
        refine ⟨a, valV (ks.zip xs) k, rfl, .inl ⟨_, k, .inr ⟨ob, rd_view h⟩, key_rw r2 ek, rfl⟩, ?_⟩
        rcases get_rw k l ra with ⟨h1, h2⟩ | ⟨v, d, h1, h2, h3⟩
        · exact .inl ⟨h2, h1⟩
        · exact .inr ⟨v, d, h1, h2, h3⟩
  | dcl ks ds =>
    cases r1 with
    | @dcl a _ xs _ h l ra =>
      unfold dfind at e
      cases ek : keyD dy with
      | none => rw [ek] at e; cases e
      | some k =>
        rw [ek] at e
        obtain rfl : getK ks ds k = o := by simpa using e
        refine ⟨a, valV (ks.zip xs) k, rfl, .inl ⟨_, k, .inl (rd_view h), key_rw r2 ek, rfl⟩, ?_⟩
        rcases get_rw k l ra with ⟨h1, h2⟩ | ⟨v, d, h1, h2, h3⟩
        · exact .inl ⟨h2, h1⟩
        · exact .inr ⟨v, d, h1, h2, h3⟩
  | dit ob ks ds =>
    cases r1 with
    | @dit a _ _ xs _ h l ra =>
      unfold dfind at e
      cases ek : keyT dy with
      | none => rw [ek] at e; cases e
      | some k =>
        rw [ek] at e
        obtain rfl : getK ks ds k = o := by simpa using e
        obtain ⟨b, rfl, eb⟩ := keyT_rw r2 ek
        refine ⟨a, valV (ks.zip xs) k, rfl, .inr ⟨_, k, b, .inr ⟨ob, rd_view h⟩, rfl, eb, rfl⟩, ?_⟩
        rcases get_rw k l ra with ⟨h1, h2⟩ | ⟨v, d, h1, h2, h3⟩
        · exact .inl ⟨h2, h1⟩
        · exact .inr ⟨v, d, h1, h2, h3⟩
  | dct ks ds =>
    cases r1 with
    | @dct a _ xs _ h l ra =>
      unfold dfind at e
      cases ek : keyT dy with
      | none => rw [ek] at e; cases e
      | some k =>
        rw [ek] at e
        obtain rfl : getK ks ds k = o := by simpa using e
        obtain ⟨b, rfl, eb⟩ := keyT_rw r2 ek
        refine ⟨a, valV (ks.zip xs) k, rfl, .inr ⟨_, k, b, .inl (rd_view h), rfl, eb, rfl⟩, ?_⟩
        rcases get_rw k l ra with ⟨h1, h2⟩ | ⟨v, d, h1, h2, h3⟩
        · exact .inl ⟨h2, h1⟩
        · exact .inr ⟨v, d, h1, h2, h3⟩
  | _ => cases e
/-! ### k in d, k not in d -/
section
variable {X : Cx}
def rInD : R2 := fun y x H Q => ∃ a o, x = .ref a ∧ DGet H a y o ∧ Q (.bl o.isSome) H
def rNotInD : R2 := fun y x H Q => ∃ a o, x = .ref a ∧ DGet H a y o ∧ Q (.bl (!o.isSome)) H
theorem op_inDic (hu : X.A.units + 65 < cLine) : OpR X (compareOp .In) rInD := by
  intro pins s σ H x y v u Q I rx ry ⟨a, o, e, g, q⟩
  subst e
  cases ry
  exact d_in (by omega) I g rx fun s' I' => ⟨.bl o.isSome, H, I', rfl, q⟩
theorem op_notInDic (hu : X.A.units + 65 < cLine) : OpR X (compareOp .NotIn) rNotInD := by
  intro pins s σ H x y v u Q I rx ry ⟨a, o, e, g, q⟩
  subst e
  cases ry
  exact d_notIn (by omega) I g rx fun s' I' => ⟨.bl (!o.isSome), H, I', rfl, q⟩
end
@[simp] def wInD (y x : D) (P : D → Prop) : Prop := match dfind x y with
  | some o => P (.bl o.isSome)
  | none => False
@[simp] def wNotInD (y x : D) (P : D → Prop) : Prop := match dfind x y with
  | some o => P (.bl (!o.isSome))
  | none => False
section
variable {K : PySem.W.Frag} {C : WC}
theorem s_inD : SndR2 K C rInD wInD := by
  intro w H x y dx dy P Q _ hI r1 r2 hf hq
  unfold wInD at hf
  split at hf
  · rename_i o e
    obtain ⟨a, ov, rfl, g, h⟩ := dfind_ok r2 r1 e
    have eq : ov.isSome = o.isSome := by rcases h with ⟨rfl, rfl⟩ | ⟨v, d, rfl, rfl, _⟩ <;> rfl
    exact ⟨a, ov, rfl, g, by rw [eq]; exact hq _ H _ (Step.refl hI) (.bl _) hf⟩
  · exact hf.elim
theorem s_notInD : SndR2 K C rNotInD wNotInD := by
  intro w H x y dx dy P Q _ hI r1 r2 hf hq
  unfold wNotInD at hf
  split at hf
  · rename_i o e
    obtain ⟨a, ov, rfl, g, h⟩ := dfind_ok r2 r1 e
    have eq : ov.isSome = o.isSome := by rcases h with ⟨rfl, rfl⟩ | ⟨v, d, rfl, rfl, _⟩ <;> rfl
    exact ⟨a, ov, rfl, g, by rw [eq]; exact hq _ H _ (Step.refl hI) (.bl _) hf⟩
  · exact hf.elim
end
section
variable {X : Cx}
theorem jo_inD (hu : X.A.units + 65 < cLine) : JO X (compareOp .In) rInD wInD := ⟨op_inDic hu, s_inD⟩
theorem jo_notInD (hu : X.A.units + 65 < cLine) : JO X (compareOp .NotIn) rNotInD wNotInD := ⟨op_notInDic hu, s_notInD⟩
end
/-! ### d[k] -/
/-- d[k], d data or a cell -/
@[simp] abbrev aDGet (a b : ATE) : ATE := fun Γ c P => a Γ c fun x c1 => b Γ c1 fun y c2 => match x with
  | .adr p => match c2.lookup p with
    | some dd => match dfind dd y with
      | some (some d) => P d c2
      | _ => False
    | none => False
  | x => match dfind x y with
    | some (some d) => P d c2
    | _ => False
section
variable {K : PySem.W.Frag} {F : Fr}
/-- what a cell that is a dict holds stands outside of it -/
theorem cell_find {gs : List (V × D)} {pv os : Os} {cs : Cs} {σ : L2.St} {H : Hp} {Γ : Gs} (r : Rel K F gs pv os cs σ H Γ) {p : Addr} {dd y : D} {o : Option D} {v : V} (el : cs.lookup p = some dd) (ry : R K (F.at pv os) H v y) (ef : dfind dd y = some o) :
    ∃ ov, DGet H p v ov ∧ ((o = none ∧ ov = none) ∨ ∃ u d, ov = some u ∧ o = some d ∧ R K (F.at pv os) H u d) := by
  obtain ⟨o0, hm, ho⟩ := r.st.cel.get el
  have hp : H p = some o0 := (at_inv.mp r.st.inv).2 (p, o0) (List.mem_append_right _ hm)
  cases o0 with
  | dK kvs =>
    cases dd with
    | dcl ks ds =>
      obtain ⟨xs, rfl, l, ra⟩ := ho
      unfold dfind at ef
      cases ek : keyD y with
      | none => rw [ek] at ef; cases ef
      | some k =>
        rw [ek] at ef
        obtain rfl : getK ks ds k = o := by simpa using ef
        refine ⟨valV (ks.zip xs) k, .inl ⟨_, k, .inl hp, key_rw ry ek, rfl⟩, ?_⟩
        rcases get_rw k l ra with ⟨h1, h2⟩ | ⟨u, d', h1, h2, h3⟩
        · exact .inl ⟨h2, h1⟩
        · exact .inr ⟨u, d', h1, h2, h3⟩
    | _ => exact ho.elim
  | dT kvs =>
    cases dd with
    | dct ks ds =>
      obtain ⟨xs, rfl, l, ra⟩ := ho
      unfold dfind at ef
      cases ek : keyT y with
      | none => rw [ek] at ef; cases ef
      | some k =>
        rw [ek] at ef
        obtain rfl : getK ks ds k = o := by simpa using ef
        obtain ⟨b, rfl, eb⟩ := keyT_rw ry ek
        refine ⟨valV (ks.zip xs) k, .inr ⟨_, k, b, .inl hp, rfl, eb, rfl⟩, ?_⟩
        rcases get_rw k l ra with ⟨h1, h2⟩ | ⟨u, d', h1, h2, h3⟩
        · exact .inl ⟨h2, h1⟩
        · exact .inr ⟨u, d', h1, h2, h3⟩
    | _ => exact ho.elim
  | lst xs => cases dd <;> first | exact ho.elim | cases ef
  | ins c dx fs => cases dd <;> first | exact ho.elim | cases ef
  | _ => cases dd <;> exact ho.elim
theorem cell_get {gs : List (V × D)} {pv os : Os} {cs : Cs} {σ : L2.St} {H : Hp} {Γ : Gs} (r : Rel K F gs pv os cs σ H Γ) {p : Addr} {dd y d : D} {v : V} (el : cs.lookup p = some dd) (ry : R K (F.at pv os) H v y) (ef : dfind dd y = some (some d)) :
    ∃ u, DGet H p v (some u) ∧ R K (F.at pv os) H u d := by
  obtain ⟨ov, g, h⟩ := cell_find r el ry ef
  rcases h with ⟨h1, _⟩ | ⟨u, d', rfl, h2, h3⟩
  · cases h1
  · cases h2; exact ⟨u, g, h3⟩
theorem snd_dget {ta tb : TE} {a b : ATE} (h1 : SndE K F ta a) (h2 : SndE K F tb b) : SndE K F (tDGet ta tb) (aDGet a b) := by
  intro gs pv os cs σ H Γ P Q r0 ha hq
  refine h1 gs pv os cs σ H Γ _ _ r0 ha fun v H1 d os1 c1 r1 ha1 => ?_
  refine h2 _ pv os1 c1 σ H1 Γ _ _ r1 ha1 fun u H2 e os2 c2 r2 ha2 => ?_
  have flat : (match dfind d e with
    | some (some d) => P d c2
    | _ => False) → ∃ a z, v = .ref a ∧ DGet H2 a u (some z) ∧ Q z H2 := fun h => by
    split at h
    · rename_i dd ef
      obtain ⟨a, ov, rfl, g, h3⟩ := dfind_ok r2.tail.head r2.head ef
      rcases h3 with ⟨h3, _⟩ | ⟨z, d', rfl, h4, h5⟩
      · cases h3
      · cases h4
        exact ⟨a, z, rfl, g, hq z H2 _ os2 c2 (r2.tail.tail.gcons h5) h⟩
    · exact h.elim
  split at ha2
  · rename_i p
    split at ha2
    · rename_i dd el
      split at ha2
      · rename_i dv ef
        cases r_adr r2.tail.head
        obtain ⟨z, g, rz⟩ := cell_get r2 el r2.head ef
        exact ⟨p, z, rfl, g, hq z H2 dv os2 c2 (r2.tail.tail.gcons rz) ha2⟩
      · exact ha2.elim
    · exact ha2.elim
  · exact flat ha2
end
theorem je_dget {X : Cx} {Fm : Fr} {a b : Expr} {ta tb : TE} {aa ab : ATE} {pos : Pos} (hu : X.A.units + 65 < cLine) (ha : JE X Fm a ta aa) (hb : JE X Fm b tb ab) (hs : NoSl b := by exact fun _ _ => rfl) : JE X Fm (.Subscript a b pos) (tDGet ta tb) (aDGet aa ab) :=
  ⟨pe_dget (by omega) ha.p hb.p hs, snd_dget ha.s hb.s⟩
/-! ### len(d), list(d) -/
def rLenD : List V → Hp → VK → Prop := fun xs H Q => ∃ a kvs, xs = [V.ref a] ∧ Rd H a (.dK kvs) ∧ Q (.int kvs.length) H
theorem call_lenDR {X : Cx} : CallR X (.builtin "len") rLenD := by
  intro pins s σ H xs us Q I r ⟨a, kvs, e, ha, q⟩
  subst e
  obtain ⟨u, rfl, ru⟩ := vals1 r
  cases ru
  exact d_len I ha fun t s' I' => ⟨.int kvs.length, H, I', ⟨t, rfl⟩, q⟩
def dkeys : D → Option (List Key)
  | .dic _ ks _ => some ks
  | .dcl ks _ => some ks
  | _ => none
@[simp] def wLenD (xs : List D) (P : D → Prop) : Prop := match xs with
  | [x] => match dkeys x with
    | some ks => P (.int ks.length)
    | none => False
  | _ => False
@[simp] def wListD (xs : List D) (P : D → Prop) : Prop := match xs with
  | [x] => match dkeys x with
    | some ks => P (.lst (ks.map kD))
    | none => False
  | _ => False
theorem dkeys_ok {K : PySem.W.Frag} {w : Wd} {H : Hp} {x : V} {dx : D} {ks : List Key} (r : R K w H x dx) (e : dkeys dx = some ks) : ∃ a xs, x = .ref a ∧ Rd H a (.dK (ks.zip xs)) ∧ ks.length = xs.length := by
  cases dx with
  | dic ob ks' ds =>
    cases e
    cases r with
    | dic h l _ => exact ⟨_, _, rfl, .inr ⟨_, rd_view h⟩, l⟩
  | dcl ks' ds =>
    cases e
    cases r with
    | dcl h l _ => exact ⟨_, _, rfl, .inl (rd_view h), l⟩
  | _ => cases e
theorem kD_rw {K : PySem.W.Frag} {w : Wd} {H : Hp} : ∀ (ks : List Key), RA K w H (ks.map kV) (ks.map kD)
  | [] => .nil
  | .inl i :: ks => .cons (.int i) (kD_rw ks)
  | .inr x :: ks => .cons (.str x) (kD_rw ks)
theorem zip_keys {xs : List V} : ∀ {ks : List Key} {xs : List V}, ks.length = xs.length → (ks.zip xs).map (fun kv => kV kv.1) = ks.map kV
  | [], _, _ => rfl
  | k :: ks, [], e => by cases e
  | k :: ks, x :: xs, e => by
    rw [List.zip_cons_cons, List.map_cons, List.map_cons, zip_keys (xs := xs) (by simpa using e)]
section
variable {K : PySem.W.Frag} {C : WC}
theorem s_lenD : SndRs K C rLenD wLenD := by
  intro w H xs ds P Q _ hI r hf hq
  unfold wLenD at hf
  split at hf
  · split at hf
    · rename_i ks e
      cases r with
      | cons r1 r2 =>
        cases r2
        obtain ⟨a, ys, rfl, h, l⟩ := dkeys_ok r1 e
        refine ⟨a, _, rfl, h, ?_⟩
        rw [List.length_zip, l, Nat.min_self, ← l]
        exact hq _ H _ (Step.refl hI) (.int _) hf
    · exact hf.elim
  · exact hf.elim
theorem s_listD : SndRs K C (fun xs H Q => ∃ (a : Addr) (kvs : List (Key × V)), xs = [.ref a] ∧ Rd H a (.dK kvs) ∧ ∀ p, H p = none → Q (.ref p) (upd H p (.lst (kvs.map fun kv => kV kv.1)))) wListD := by
  intro w H xs ds P Q _ hI r hf hq
  unfold wListD at hf
  split at hf
  · split at hf
    · rename_i ks e
      cases r with
      | cons r1 r2 =>
        cases r2
        obtain ⟨a, ys, rfl, h, l⟩ := dkeys_ok r1 e
        refine ⟨a, _, rfl, h, fun p hp => ?_⟩
        rw [zip_keys (xs := ys) l]
        obtain ⟨s, rr⟩ := new_lst (K := K) (w := w) hI hp (kD_rw ks)
        exact hq _ _ _ s rr hf
    · exact hf.elim
  · exact hf.elim
end
end Bd
/-! BhB: walks over dicts and enumerate. -/
namespace Bd
open PySem L2
/-- one walk of many -/
abbrev anyIt {ι : Type} (J : ι → It) : It := ⟨fun i H => ∃ x, (J x).go i H, fun i H v H' => ∃ x, (J x).go i H ∧ (J x).yld i H v H', fun i H => ∃ x, (J x).stop i H⟩
theorem turn_any {ι : Type} {P : Program} {w : World} {K : PySem.W.Frag} {tg : Expr} {J : ι → It} {fp : List Addr} {it : Addr} {tn : Nat → Heap → Prop} (x0 : ι) (h : ∀ x, Turn P w K tg (J x) fp it tn) : Turn P w K tg (anyIt J) fp it tn where
  mem := (h x0).mem
  obj := (h x0).obj
  keep := (h x0).keep
  item := by
    intro X hP hw hK hc i pins s σ H E I hf st ⟨x, hg⟩
    refine wpAny_mono ((h x).item X hP hw hK hc i pins s σ H E I hf st hg) (fun r s1 ⟨u, e, hu⟩ => ⟨u, e, wpAny_mono hu (fun _ s2 ⟨v, H', a, b, c, d⟩ => ⟨v, H', a, b, ⟨x, hg, c⟩, d⟩) fun _ _ q => q⟩) fun _ _ q => q
  done := by
    intro X hP hw hK hc i pins s σ H E I hf st ⟨x, hg⟩
    exact (h x).done X hP hw hK hc i pins s σ H E I hf st hg
  self := (h x0).self
section
variable {K : PySem.W.Frag} {F : Fr}
theorem dic_inj {w : Wd} {H : Hp} {a : Addr} {o : Obj} {ks : List Key} {ds : List D} (h : R K w H (.ref a) (.dic o ks ds)) : ∃ xs, H a = some (.frz o (.dK (ks.zip xs))) ∧ ks.length = xs.length ∧ RA K w H xs ds := by
  cases h with
  | dic h l r => exact ⟨_, rd_view h, l, r⟩
theorem dic_ref {w : Wd} {H : Hp} {v : V} {o : Obj} {ks : List Key} {ds : List D} (h : R K w H v (.dic o ks ds)) : ∃ a, v = .ref a := by
  cases h with
  | dic h l r => exact ⟨_, rfl⟩
theorem zip_at {ks : List Key} {xs : List V} {i : Nat} {k : Key} {v : V} (h : (ks.zip xs)[i]? = some (k, v)) : ks[i]? = some k ∧ xs[i]? = some v := by
  rw [List.getElem?_zip_eq_some] at h
  exact h
theorem kD_get {ks : List Key} {i : Nat} {k : Key} (h : ks[i]? = some k) : (ks.map kD)[i]? = some (kD k) := by rw [List.getElem?_map, h]; rfl
theorem kD_r {w : Wd} {H : Hp} (k : Key) : R K w H (kV k) (kD k) := by cases k <;> constructor
theorem zip_inj : ∀ {ks : List Key} {xs ys : List V}, ks.length = xs.length → ks.length = ys.length → ks.zip xs = ks.zip ys → xs = ys
  | [], xs, ys, h1, h2, _ => by rw [List.length_eq_zero_iff.mp h1.symm, List.length_eq_zero_iff.mp h2.symm]
  | k :: ks, [], _, h1, _, _ => by cases h1
  | k :: ks, _ :: _, [], _, h2, _ => by cases h2
  | k :: ks, x :: xs, y :: ys, h1, h2, e => by
    rw [List.zip_cons_cons, List.zip_cons_cons] at e
    injection e with e1 e2
    injection e1 with _ e3
    rw [e3, zip_inj (by simpa using h1) (by simpa using h2) e2]
/-- values for the keys -/
abbrev VsOf (ks : List Key) : Type := { xs : List V // ks.length = xs.length }
abbrev ItkA (d : Addr) (o : Obj) (ks : List Key) : It := anyIt fun xs : VsOf ks => Itk d o (ks.zip xs.1)
abbrev ItiA (d : Addr) (o : Obj) (ks : List Key) : It := anyIt fun xs : VsOf ks => Iti d o (ks.zip xs.1)
theorem zlen {ks : List Key} (xs : VsOf ks) : (ks.zip xs.1).length = ks.length := by rw [List.length_zip, ← xs.2, Nat.min_self]
theorem walkA_keys {a : Addr} {o : Obj} {ks : List Key} {ds : List D} : WalkA K (ItkA a o ks) [(.ref a, .dic o ks ds)] (ks.map kD) := by
  intro w H hI hg
  obtain ⟨xs, h, l, _⟩ := dic_inj (hg (V.ref a, D.dic o ks ds) (by simp))
  refine ⟨fun i hi => ⟨⟨xs, l⟩, h, by rw [zlen ⟨xs, l⟩]; simpa using hi⟩, ⟨⟨xs, l⟩, h, by rw [zlen ⟨xs, l⟩]; simp⟩, fun i x H' hi y => ?_⟩
  obtain ⟨ys, _, rfl, k, v, e, rfl⟩ := y
  exact ⟨Step.refl hI, kD k, kD_get (zip_at e).1, kD_r k⟩
/-- the pairs of a dict -/
def pairsD (ks : List Key) (ds : List D) : List D := List.zipWith (fun k d => .tup [kD k, d]) ks ds
theorem walkA_items {a : Addr} {o : Obj} {ks : List Key} {ds : List D} : WalkA K (ItiA a o ks) [(.ref a, .dic o ks ds)] (pairsD ks ds) := by
  intro w H hI hg
  obtain ⟨xs, h, l, ra⟩ := dic_inj (hg (V.ref a, D.dic o ks ds) (by simp))
  have lp : (pairsD ks ds).length = ks.length := by unfold pairsD; rw [List.length_zipWith, ← ra.length, l, Nat.min_self]
  refine ⟨fun i hi => ⟨⟨xs, l⟩, h, by rw [zlen ⟨xs, l⟩]; omega⟩, ⟨⟨xs, l⟩, h, by rw [zlen ⟨xs, l⟩]; omega⟩, fun i x H' hi y => ?_⟩
  obtain ⟨ys, hy, T, k, v, e, rfl, hT, rfl⟩ := y
  have h2 := hy.1
  rw [h] at h2
  have e2 : ks.zip xs = ks.zip ys.1 := by
    injection h2 with h2
    injection h2 with _ h2
    injection h2
  have e3 := zip_inj l ys.2 e2
  rw [← e3] at e
  obtain ⟨q1, q2⟩ := zip_at e
  obtain ⟨d, hd, rd⟩ := ra.get q2
  obtain ⟨s, r⟩ := pair_new (K := K) (w := w) hI hT (kD_r k) rd
  refine ⟨s, _, ?_, r⟩
  unfold pairsD
  rw [List.getElem?_zipWith, q1, hd]
/-- for k in d -/
def iKeysD (td : TE) : TI := fun σ H R => td σ H fun x H1 => ∃ (d : Addr) (o : Obj) (ks : List Key), x = .ref d ∧ (∃ xs : VsOf ks, H1 d = some (.frz o (.dK (ks.zip xs.1)))) ∧ R (ItkA d o ks) H1
def iItemsD (td : TE) : TI := fun σ H R => td σ H fun x H1 => ∃ (d : Addr) (o : Obj) (ks : List Key), x = .ref d ∧ (∃ xs : VsOf ks, H1 d = some (.frz o (.dK (ks.zip xs.1)))) ∧ R (ItiA d o ks) H1
def aKeys (a : ATE) : ATA := fun Γ c P => a Γ c fun x c1 => match x with
  | .dic _ ks _ => P (ks.map kD) c1
  | _ => False
def aItemsD (a : ATE) : ATA := fun Γ c P => a Γ c fun x c1 => match x with
  | .dic _ ks ds => P (pairsD ks ds) c1
  | _ => False
theorem snd_keys {t : TE} {a : ATE} (h : SndE K F t a) : SndI K F (iKeysD t) (aKeys a) := by
  intro gs pv os cs σ H Γ P Q r ha hq
  refine h gs pv os cs σ H Γ _ _ r ha fun v H1 d os1 c1 r1 p1 => ?_
  cases d with
  | dic o ks ds =>
    obtain ⟨b, rfl⟩ := dic_ref r1.head
    obtain ⟨xs, hx, l, _⟩ := dic_inj r1.head
    exact ⟨b, o, ks, rfl, ⟨⟨xs, l⟩, hx⟩, hq _ H1 [_] _ os1 c1 r1 walkA_keys p1⟩
  | _ => exact False.elim p1
theorem snd_items {t : TE} {a : ATE} (h : SndE K F t a) : SndI K F (iItemsD t) (aItemsD a) := by
  intro gs pv os cs σ H Γ P Q r ha hq
  refine h gs pv os cs σ H Γ _ _ r ha fun v H1 d os1 c1 r1 p1 => ?_
  cases d with
  | dic o ks ds =>
    obtain ⟨b, rfl⟩ := dic_ref r1.head
    obtain ⟨xs, hx, l, _⟩ := dic_inj r1.head
    exact ⟨b, o, ks, rfl, ⟨⟨xs, l⟩, hx⟩, hq _ H1 [_] _ os1 c1 r1 walkA_items p1⟩
  | _ => exact False.elim p1
end
section
variable {X : Cx} {tg e : Expr} {td : TE} {apos cpos : Pos}
theorem pi_keysD (he : PE X e td) : PI X tg e (iKeysD td) := by
  refine ⟨fun pins s σ H R I h => ?_⟩
  refine thn (he.run pins s σ H _ I h) fun u s1 ⟨x, H1, I1, rx, d, o, ks, ex, ⟨xs, hd⟩, q⟩ => ?_
  subst ex
  obtain rfl : u = Value.ref d := rx
  obtain ⟨hs, hgd, hx, es, ep, vs, hdt, hsz, kv, hm⟩ := I1.frzK hd
  have T : Turn X.prog X.w X.K tg (ItkA d o ks) [s1.heap.objs.size] s1.heap.objs.size (fun i h => h.IsKeyIter s1.heap.objs.size d i ks.length ep) := turn_any xs fun ys => by
    have := turn_keys (P := X.prog) (w := X.w) (K := X.K) (tg := tg) (kvs := ks.zip ys.1) (d := d) s1.heap.objs.size hdt
    rw [zlen ys] at this
    exact this
  refine iter_keys hs hgd hx hdt (pi_one (tk := s1.toks) I1 _ T ⟨_, Heap.get?_push_size _ rfl, rfl, ?_⟩ q)
  rw [hsz, zlen xs] <;> rfl
theorem pi_itemsD {elts : List Expr} {kk : Nat} {tpos : Pos} (he : PE X e td) (hbase : attributeBase e "items" X.env (eval e X.env) = eval e X.env := by rfl) (hline : (apos.endLine == cpos.line) = true := by rfl) :
    PI X (.Tuple elts kk tpos) (.Call (.Attribute e "items" apos) [] [] cpos) (iItemsD td) := by
  refine ⟨fun pins s σ H R I h => ?_⟩
  refine wpAny_Call_method (T := "dict") (id := "dict.items") hbase rfl hline F.plainAttrs_dict F.slot_dict_items F.type_dict_items (thn (he.run pins s σ H _ I h) fun u s1 ⟨x, H1, I1, rx, d, o, ks, ex, ⟨xs, hd⟩, q⟩ => ?_)
  subst ex
  obtain rfl : u = Value.ref d := rx
  obtain ⟨hs, hgd, hx, es, ep, vs, hdt, hsz, kv, hm⟩ := I1.frzK hd
  have hl : (ks.zip xs.1).length = vs.length := Paired.length kv
  refine ⟨hm.dictOf.typeIs, hm.dictOf.mapOf.noDict, ?_⟩
  have I2 : Inv X pins σ H1 { s1 with heap := s1.heap.push { cls := .type "dict_items", data := .fields #[.ref d] } } := I1.kept (t' := s1.toks) fun b ob q => Heap.get?_push_of_some _ q
  have T : Turn X.prog X.w X.K (.Tuple elts kk tpos) (ItiA d o ks) [s1.heap.objs.size + 1] (s1.heap.objs.size + 1) (fun i h => ∃ ok ov, IsItemIter h (s1.heap.objs.size + 1) d i ks.length ep ok ov) := turn_any xs fun ys => by
    have := turn_items (P := X.prog) (w := X.w) (K := X.K) (kvs := ks.zip ys.1) (d := d) (elts := elts) (kk := kk) (tpos := tpos) (s1.heap.objs.size + 1) hdt
    rw [zlen ys] at this
    exact this
  have hsz2 : (s1.heap.push { cls := .type "dict_items", data := .fields #[.ref d] }).objs.size = s1.heap.objs.size + 1 := Heap.size_push _ _
  have (fin) : wpAny (model X.prog X.w) X.A (pyIter (.ref s1.heap.objs.size)) (PIE X pins σ (.Tuple elts kk tpos) R) X.xe { s1 with heap := s1.heap.push { cls := .type "dict_items", data := .fields #[.ref d] } } := by
    rw [← hsz2] at T
    refine wpAny_pyIter_items (d := d) (knd := mixKind X.prog X.w) ⟨_, Heap.get?_push_size _ rfl, rfl, rfl⟩ (hm.push _) (pi_one (tk := s1.toks) I2 _ T ⟨.none, .none, ?_⟩ q)
    rw [← zlen xs, hl]
    exact Heap.get?_push_size _ rfl
  exact (show wpAny _ _ (callWith cpos (.builtin "dict.items") [.ref d] [] []) _ X.xe s1 from method_meetsIn F.slot_dict_items F.entry_dict_items rfl (PySem.evalArgs_none ⟨rfl, hm.dictOf.typeIs, F.args_dict_items_1 _, _, meets_dict_items (mixKind X.prog X.w) d hs, ⟨vs, hm.dictOf⟩, fin⟩))
end
section
variable {X : Cx} {Fm : Fr} {tg e : Expr} {te : TE} {ae : ATE} {pos apos cpos tpos : Pos} {elts : List Expr} {kk : Nat} {t : TA} {ag : ATA}
theorem ji_keys (h : JE X Fm e te ae) : JI X Fm tg e (iKeysD te) (aKeys ae) := ⟨pi_keysD h.p, snd_keys h.s⟩
theorem ji_items (h : JE X Fm e te ae) (hbase : attributeBase e "items" X.env (eval e X.env) = eval e X.env := by rfl) (hline : (apos.endLine == cpos.line) = true := by rfl) :
    JI X Fm (.Tuple elts kk tpos) (.Call (.Attribute e "items" apos) [] [] cpos) (iItemsD te) (aItemsD ae) := ⟨pi_itemsD h.p hbase hline, snd_items h.s⟩
end
/-! ### enumerate of a list -/
def enumD (ds : List D) : List D := List.zipWith (fun i d => .tup [.int (i : Nat), d]) (List.range ds.length) ds
def aEnum (a : ATA) : ATA := fun Γ c P => a Γ c fun xs c1 => match xs with
  | [.lst ds] => P (enumD ds) c1
  | _ => False
section
variable {K : PySem.W.Frag} {F : Fr}
theorem enum_len (ds : List D) : (enumD ds).length = ds.length := by unfold enumD; rw [List.length_zipWith, List.length_range, Nat.min_self]
theorem enum_get {ds : List D} {i : Nat} {d : D} (h : ds[i]? = some d) : (enumD ds)[i]? = some (.tup [.int (i : Nat), d]) := by
  have hi : i < ds.length := (List.getElem?_eq_some_iff.mp h).1
  unfold enumD
  rw [List.getElem?_zipWith, List.getElem?_range hi, h]
end
end Bd
/-! BhC: enumerate of a list or of a tuple. -/
namespace Bd
open PySem L2
open Sem (wp)
open PyProof.Rows
theorem meets_enumerate_newT (l : Addr) (items : Array Value) :
    Meets (Builtin.«enumerate.__new__» ⟨[.type "enumerate", .ref l], []⟩) (fun _ R s => s.heap.IsTuple l items ∧
      R (.ok (.ret (.ref (s.heap.push { cls := .type "tuple_iterator", data := .fields #[.ref l, .int 0 0] }).objs.size)))
        { s with heap := (s.heap.push { cls := .type "tuple_iterator", data := .fields #[.ref l, .int 0 0] }).push { cls := .type "enumerate", data := .fields #[.none, .bool false, .ref s.heap.objs.size, rawInt 0, .none, .none] } }) :=
  .of_wp fun prog w A R s h => by
    obtain ⟨hp, g, d, tk, os⟩ := s; obtain ⟨hL, h⟩ := h
    have hsub := sub_enumerate
    have hL : Heap.IsTuple (Shared.heap ⟨hp, g, d, tk, os⟩) l items := hL
    obtain ⟨o, hl, hc, hd⟩ := id hL
    wp_walk using AutoSeq1.wpAny_loadPart' hl
    refine wpAny_stack_any fun st => wpAny_pure ?_
    split
    · rename_i c _ _ _ _ _
      cases (c == Value.type "enumerate")
      · wp_walk using AutoSeq1.wpAny_loadPart' hl, wpAny_pyIter_tuple hL
        exact ⟨_, rfl, h⟩
      · wp_walk using AutoSeq1.wpAny_loadPart' hl, wpAny_pyIter_tuple hL
        exact ⟨_, rfl, h⟩
    · wp_walk using AutoSeq1.wpAny_loadPart' hl, wpAny_pyIter_tuple hL
      exact ⟨_, rfl, h⟩
section
variable {prog : Program} {w : World} {A : Around} {E : Value → Shared → Prop} {s : Shared}
theorem call_enumerate_tuple {l : Addr} {items : Array Value} {Q : Value → Shared → Prop} (hL : s.heap.IsTuple l items)
    (h : ∀ h', IsEnum h' (s.heap.objs.size + 1) s.heap.objs.size 0 .none → h'.IsTupleIter s.heap.objs.size l 0 → h'.objs.size = s.heap.objs.size + 2 →
      (∀ b o, s.heap.get? b = some o → h'.get? b = some o) → Q (.ref (s.heap.objs.size + 1)) { s with heap := h' }) :
    wpAny (model prog w) A (call (.type "enumerate") [.ref l]) Q E s := by
  refine callType_new F.called_enumerate (by decide) (F.typeCall_enumerate_1 _) (F.newCall_enumerate_1 _) (fun obj => F.args_object_init_2 obj _) F.entry_enumerate_new
    (meets_enumerate_newT l items) ⟨hL, ?_⟩
  have hz : (s.heap.push { cls := .type "tuple_iterator", data := .fields #[.ref l, .int 0 0] }).objs.size = s.heap.objs.size + 1 := Heap.size_push ..
  show _ ∧ _
  rw [hz]
  have he : IsEnum ((s.heap.push { cls := .type "tuple_iterator", data := .fields #[.ref l, .int 0 0] }).push
      { cls := .type "enumerate", data := .fields #[.none, .bool false, .ref s.heap.objs.size, rawInt 0, .none, .none] }) (s.heap.objs.size + 1) s.heap.objs.size 0 .none := by
    have := Heap.get?_push_size (s.heap.push { cls := .type "tuple_iterator", data := .fields #[.ref l, .int 0 0] })
      (o := { cls := .type "enumerate", data := .fields #[.none, .bool false, .ref s.heap.objs.size, rawInt 0, .none, .none] }) rfl
    rw [hz] at this; exact this
  refine ⟨⟨_, he, rfl⟩, h _ he ⟨_, Heap.get?_push_of_some _ (Heap.get?_push_size _ rfl), rfl, rfl⟩ (by rw [Heap.size_push, hz]) fun b o x => Heap.get?_push_of_some _ (Heap.get?_push_of_some _ x)⟩
end
/-- the tuple at a, each item in a new pair -/
def IteT (K : PySem.W.Frag) (a : Addr) : It :=
  ⟨fun i H => ∃ (xs : List V) (x : V), SqT K H a xs ∧ xs[i]? = some x, fun i H v H' => ∃ T x, v = .ref T ∧ H T = none ∧ H' = upd H T (.tup [.int (i : Nat), x]) ∧ ∀ xs, SqT K H a xs → xs[i]? = some x, fun i H => ∃ xs : List V, SqT K H a xs ∧ i = xs.length⟩
theorem turn_enumT {P : Program} {w : World} {K : PySem.W.Frag} {elts : List Expr} {kk : Nat} {tpos : Pos} (a e it : Addr) :
    Turn P w K (.Tuple elts kk tpos) (IteT K a) [e, it] e (fun i h => (∃ old, IsEnum h e it ((i : Nat) : Int) old) ∧ h.IsTupleIter it a i ∧ e ≠ it ∧ a ≠ e ∧ a ≠ it) where
  mem := by simp
  obj := fun i h st b hb => by
    obtain ⟨⟨old, he⟩, ⟨o, ho, hc, hd⟩, _⟩ := st
    have e' : b = e ∨ b = it := by simpa using hb
    rcases e' with z | z
    · rw [z]; exact ⟨_, he, fun v q => nomatch q⟩
    · rw [z]; exact ⟨o, ho, fun v q => by rw [hd] at q; cases q⟩
  keep := fun i h h' st k => let ⟨⟨old, he⟩, hi, hne⟩ := st; ⟨⟨old, k e (by simp) _ he⟩, hi.at fun o q => k it (by simp) o q, hne⟩
  item := by
    intro X hP hw hK hc i pins s σ H E I hf st hg
    subst hP hw hK
    obtain ⟨⟨old, he⟩, hit, hne, hae, hai⟩ := st
    obtain ⟨xs, x, hq, hx⟩ := hg
    obtain ⟨its, rv, p, hz⟩ := I.tuple hq
    obtain ⟨u, hu, ru⟩ := rv.get hx
    have p : s.heap.IsTuple a its.toArray := p
    have hel : e < s.heap.objs.size := Heap.lt_size he
    have hil : it < s.heap.objs.size := by obtain ⟨_, q, _⟩ := hit; exact Heap.lt_size q
    have hl := (List.getElem?_eq_some_iff.mp hu).1
    refine wpAny_pyNext_enum_itemD (Draws.tuple (A := X.A.in1) (show X.A.in1.handled = none from I.ok.hd hc) it a hai its.toArray) he ⟨hit, p⟩ (by simpa using hl) hne (by simp [hne, Ne.symm hae]) fun u' h' tk hu' ho hst hT hsz hk => ?_
    obtain rfl : u' = u := by
      have : its[i]? = some u' := by simpa using hu'
      rw [hu] at this; cases this; rfl
    refine ⟨_, rfl, wpAny_letOwnedTupleGo_enum (s := { s with heap := h', toks := tk + 1 }) ho fun h'' he' sb => ?_⟩
    have hT2 : h''.get? s.heap.objs.size = some { cls := .type "tuple", data := .seq #[.int i tk, u'] } := (sb.2 _ (Nat.ne_of_gt hel)).trans hT
    have new : ObjOk X.prog X.w (upd H s.heap.objs.size (.tup [.int (i : Nat), x])) h'' s.heap.objs.size (.tup [.int (i : Nat), x]) :=
      ⟨by show 2 ≤ sizeLine; decide, [.int i tk, u'], .cons ⟨_, rfl⟩ (.cons ru .nil), ⟨_, hT2, rfl, _, rfl⟩⟩
    have I1 : Inv X pins σ (upd H s.heap.objs.size (.tup [.int (i : Nat), x])) { s with heap := h'', toks := tk + 1 } :=
      I.turnedNew (ch := [e, it]) (fun b ob hb q => (sb.2 b (fun z => hb (by simp [z]))).trans (hk b ob (fun z => hb (by simp [z])) (fun z => hb (by simp [z])) q)) hf (Nat.le_refl _) new
    refine ⟨.ref s.heap.objs.size, _, I1, rfl, ⟨_, x, rfl, I.hok.fresh (Nat.le_refl _), rfl, fun ys hy => by rw [I.tuple_inj hy hq]; exact hx⟩, ⟨⟨u', ?_⟩, hst.1.at fun o q => (sb.2 it (Ne.symm hne)).trans q, hne, hae, hai⟩, fun b hb => ?_⟩
    · have e1 : ((i + 1 : Nat) : Int) = (i : Int) + 1 := by omega
      rw [e1]; exact he'
    · have hb' : b < s.heap.objs.size := by
        have e' : b = e ∨ b = it := by simpa using hb
        rcases e' with z | z
        · rw [z]; exact hel
        · rw [z]; exact hil
      rw [upd_ne (Nat.ne_of_lt hb')]
      exact (hf b hb).1
  done := by
    intro X hP hw hK hc i pins s σ H E I hf st hg
    subst hP hw hK
    obtain ⟨⟨old, he⟩, hit, hne, hae, hai⟩ := st
    obtain ⟨xs, hq, hx⟩ := hg
    obtain ⟨its, rv, p, hz⟩ := I.tuple hq
    obtain ⟨f0, f1, f2, f3, f4, f5⟩ := hf it (by simp)
    have hl := rv.length
    have hn : its.toArray.size = i := by rw [List.size_toArray]; omega
    refine wpAny_pyNext_enum_endD (n := its.toArray.size) (Draws.tuple (A := X.A.in1) (show X.A.in1.handled = none from I.ok.hd hc) it a hai its.toArray) he ⟨by rw [hn]; exact hit, p⟩ fun h' eb => ⟨rfl, I.turned (t' := s.toks) (fun b o hb q => eb b o hb q) f0 f1 f3 f4 f5⟩
  self := fun A i s Q E st h => let ⟨⟨_, he⟩, _⟩ := st; wpAny_pyIter_enum he h
def iEnumA (K : PySem.W.Frag) (ta : TA) : TI := fun σ H R => ta σ H fun vs H1 => (∃ a, vs = [.ref a] ∧ (∃ xs, SqL K H1 a xs) ∧ R (Ite K a) H1) ∨ ∃ a, vs = [.ref a] ∧ (∃ xs, SqT K H1 a xs) ∧ R (IteT K a) H1
theorem pi_enumA {X : Cx} {e : Expr} {ta : TA} {p pos tpos : Pos} {elts : List Expr} {kk : Nat} (hg : Gl X "enumerate") (hm : X.mg "enumerate" = none) (ha : PA X [e] ta) (hs : starEach [e] X.env = [(false, eval e X.env)] := by rfl) :
    PI X (.Tuple elts kk tpos) (.Call (.Name "enumerate" p) [e] [] pos) (iEnumA X.K ta) := by
  refine ⟨fun pins s σ H R I h => ?_⟩
  refine Call_ (ld_blt I hg hm boot_enumerate (PyProof.Rows.callWith_type1 (thn (ha.run pos pins s σ H _ I h) fun us s1 ⟨vs, H1, I1, r1, q1⟩ => ?_) hs rfl))
  rcases q1 with ⟨a, ex, ⟨xs, hq⟩, q⟩ | ⟨a, ex, ⟨xs, hq⟩, q⟩
  · subst ex
    cases r1 with
    | cons r rr =>
      cases rr
      cases r
      obtain ⟨its, rv, p', hz⟩ := I1.list hq
      refine call_enumerate_list p'.isList fun h' he hit hsz hk => wpAny_pyIter_enum he ?_
      have I2 : Inv X pins σ H1 { s1 with heap := h' } := I1.kept (t' := s1.toks) hk
      refine ⟨s1.heap.objs.size + 1, [s1.heap.objs.size + 1, s1.heap.objs.size], _, _, H1, rfl, I2, turn_enum a (s1.heap.objs.size + 1) s1.heap.objs.size, ⟨⟨.none, he⟩, hit, Nat.succ_ne_self _⟩, fun b hb => ?_, q⟩
      have e' : b = s1.heap.objs.size + 1 ∨ b = s1.heap.objs.size := by simpa using hb
      have hle : s1.heap.objs.size ≤ b := by
        rcases e' with z | z
        · rw [z]; exact Nat.le_add_right _ _
        · rw [z]; exact Nat.le_refl _
      exact I1.fpOk hle (I1.hok.fresh hle)
  · subst ex
    cases r1 with
    | cons r rr =>
      cases rr
      cases r
      obtain ⟨its, rv, p', hz⟩ := I1.tuple hq
      have hlt : a < s1.heap.objs.size := by obtain ⟨o, e, _⟩ := p'; exact Heap.lt_size e
      refine call_enumerate_tuple (show s1.heap.IsTuple a its.toArray from p') fun h' he hit hsz hk => wpAny_pyIter_enum he ?_
      have I2 : Inv X pins σ H1 { s1 with heap := h' } := I1.kept (t' := s1.toks) hk
      refine ⟨s1.heap.objs.size + 1, [s1.heap.objs.size + 1, s1.heap.objs.size], _, _, H1, rfl, I2, turn_enumT a (s1.heap.objs.size + 1) s1.heap.objs.size, ⟨⟨.none, he⟩, hit, Nat.succ_ne_self _, Nat.ne_of_lt (Nat.lt_succ_of_lt hlt), Nat.ne_of_lt hlt⟩, fun b hb => ?_, q⟩
      have e' : b = s1.heap.objs.size + 1 ∨ b = s1.heap.objs.size := by simpa using hb
      have hle : s1.heap.objs.size ≤ b := by
        rcases e' with z | z
        · rw [z]; exact Nat.le_add_right _ _
        · rw [z]; exact Nat.le_refl _
      exact I1.fpOk hle (I1.hok.fresh hle)
section
variable {K : PySem.W.Frag} {F : Fr}
theorem walkA_enumL {a : Addr} {ds : List D} : WalkA K (Ite K a) [(.ref a, .lst ds)] (enumD ds) := by
  intro w H hI hg
  obtain ⟨xs, hx, rx⟩ := rd_inj (hg (V.ref a, D.lst ds) (by simp))
  have hl := rx.length
  rw [enum_len]
  refine ⟨fun i hi => ⟨xs, xs[i]'(by omega), SqL.of hx, by simp [show i < xs.length by omega]⟩, ⟨xs, SqL.of hx, by omega⟩, fun i x H' hi y => ?_⟩
  obtain ⟨T, v, rfl, hT, rfl, h1⟩ := y
  obtain ⟨d, a1, a2⟩ := rx.get (h1 xs (SqL.of hx))
  obtain ⟨s, r⟩ := pair_new (K := K) (w := w) hI hT (Rw.int (i : Nat)) a2
  exact ⟨s, _, enum_get a1, r⟩
theorem walkA_enumT {a : Addr} {ds : List D} : WalkA K (IteT K a) [(.ref a, .tup ds)] (enumD ds) := by
  intro w H hI hg
  obtain ⟨xs, hx, rx⟩ := rt_inj (hg (V.ref a, D.tup ds) (by simp))
  have hl := rx.length
  rw [enum_len]
  refine ⟨fun i hi => ⟨xs, xs[i]'(by omega), hx, by simp [show i < xs.length by omega]⟩, ⟨xs, hx, by omega⟩, fun i x H' hi y => ?_⟩
  obtain ⟨T, v, rfl, hT, rfl, h1⟩ := y
  obtain ⟨d, a1, a2⟩ := rx.get (h1 xs hx)
  obtain ⟨s, r⟩ := pair_new (K := K) (w := w) hI hT (Rw.int (i : Nat)) a2
  exact ⟨s, _, enum_get a1, r⟩
end
def aEnumA (a : ATA) : ATA := fun Γ c P => a Γ c fun xs c1 => match xs with
  | [.lst ds] => P (enumD ds) c1
  | [.tup ds] => P (enumD ds) c1
  | _ => False
theorem snd_enumA {K : PySem.W.Frag} {F : Fr} {t : TA} {a : ATA} (h : SndA K F t a) : SndI K F (iEnumA K t) (aEnumA a) := by
  intro gs pv os cs σ H Γ P Q r ha hq
  refine h gs pv os cs σ H Γ _ _ r ha fun vs H1 ds os1 c1 rr r1 p1 => ?_
  split at p1
  · cases r1 with
    | cons r1 r2 =>
      cases r2
      cases id r1 with
      | lst hx rx => exact .inl ⟨_, rfl, ⟨_, SqL.of (vis_some hx).2⟩, hq _ H1 [_] _ os1 c1 (rr.gcons r1) walkA_enumL p1⟩
  · cases r1 with
    | cons r1 r2 =>
      cases r2
      cases id r1 with
      | tup hx rx => exact .inr ⟨_, rfl, ⟨_, tup_sq hx⟩, hq _ H1 [_] _ os1 c1 (rr.gcons r1) walkA_enumT p1⟩
  · exact p1.elim
theorem ji_enum {X : Cx} {Fm : Fr} {e : Expr} {ta : TA} {aa : ATA} {p pos tpos : Pos} {elts : List Expr} {kk : Nat} (hm : X.mg "enumerate" = none) (ha : JA X Fm [e] ta aa) (hg : Gl X "enumerate" := by rfl) (hs : starEach [e] X.env = [(false, eval e X.env)] := by rfl) :
    JI X Fm (.Tuple elts kk tpos) (.Call (.Name "enumerate" p) [e] [] pos) (iEnumA X.K ta) (aEnumA aa) := ⟨pi_enumA hg hm ha.p hs, snd_enumA ha.s⟩
theorem ji_enumK {Kf : PySem.W.Frag} {X : Cx} {Fm : Fr} {e : Expr} {ta : TA} {aa : ATA} {p pos tpos : Pos} {elts : List Expr} {kk : Nat} (hK : X.K = Kf) (hm : X.mg "enumerate" = none) (ha : JA X Fm [e] ta aa) (hg : Gl X "enumerate" := by rfl) (hs : starEach [e] X.env = [(false, eval e X.env)] := by rfl) :
    JI X Fm (.Tuple elts kk tpos) (.Call (.Name "enumerate" p) [e] [] pos) (iEnumA Kf ta) (aEnumA aa) := by subst hK; exact ji_enum hm ha hg hs
end Bd
/-! BhD: dict comprehensions whose dict is data from then on. -/
namespace Bd
open PySem L2
section
variable {κ α : Type} [DecidableEq κ]
/-- the values when one key is put -/
def putG (ks : List κ) (xs : List α) (q : κ) (v : α) : List α := if q ∈ ks then List.zipWith (fun k x => if k = q then v else x) ks xs else xs ++ [v]
theorem any_mem {q : κ} : ∀ {ks : List κ} {xs : List V}, ks.length = xs.length → ((ks.zip xs).any fun kv => decide (kv.1 = q)) = decide (q ∈ ks)
  | [], _, _ => by simp
  | k :: ks, [], e => by cases e
  | k :: ks, x :: xs, e => by
    rw [List.zip_cons_cons, List.any_cons, any_mem (by simpa using e)]
    by_cases h : k = q
    · simp [h]
    · simp [h, Ne.symm h, List.mem_cons, show ¬ q = k from fun z => h z.symm]
theorem map_put {q : κ} {v : V} : ∀ {ks : List κ} {xs : List V}, ks.length = xs.length → (ks.zip xs).map (fun kv => if kv.1 = q then (kv.1, v) else kv) = ks.zip (List.zipWith (fun k x => if k = q then v else x) ks xs)
  | [], _, _ => by simp
  | k :: ks, [], e => by cases e
  | k :: ks, x :: xs, e => by
    rw [List.zip_cons_cons, List.map_cons, map_put (by simpa using e), List.zipWith_cons_cons, List.zip_cons_cons]
    by_cases h : k = q
    · simp [h]
    · simp [h]
theorem put_zip {ks : List κ} {xs : List V} {q : κ} {v : V} (e : ks.length = xs.length) : putK (ks.zip xs) q v = (setKs ks q).zip (putG ks xs q v) := by
  unfold putK setKs putG
  rw [any_mem e]
  by_cases h : q ∈ ks
  · simp only [h, decide_true, if_true]
    exact map_put e
  · simp only [h, decide_false, if_false, Bool.false_eq_true]
    rw [List.zip_append e]
    rfl
theorem put_len {ks : List κ} {xs : List α} {q : κ} {v : α} (e : ks.length = xs.length) : (setKs ks q).length = (putG ks xs q v).length := by
  unfold setKs putG
  by_cases h : q ∈ ks
  · simp [h, e]
  · simp [h, e]
theorem set_le {ks : List κ} {q : κ} : (setKs ks q).length ≤ ks.length + 1 := by
  unfold setKs
  by_cases h : q ∈ ks
  · simp [h]
  · simp [h]
theorem zipput_ra {K : PySem.W.Frag} {w : Wd} {H : Hp} {v : V} {d : D} {q : κ} (r : R K w H v d) : ∀ {ks : List κ} {xs : List V} {ds : List D}, RA K w H xs ds → RA K w H (List.zipWith (fun k x => if k = q then v else x) ks xs) (List.zipWith (fun k x => if k = q then d else x) ks ds)
  | [], _, _, _ => .nil
  | k :: ks, _, _, .nil => .nil
  | k :: ks, _, _, .cons r1 t => by
    rw [List.zipWith_cons_cons, List.zipWith_cons_cons]
    refine .cons ?_ (zipput_ra r t)
    by_cases h : k = q
    · rw [if_pos h, if_pos h]; exact r
    · rw [if_neg h, if_neg h]; exact r1
theorem put_ra {K : PySem.W.Frag} {w : Wd} {H : Hp} {v : V} {d : D} {q : κ} {ks : List κ} {xs : List V} {ds : List D} (r : R K w H v d) (h : RA K w H xs ds) : RA K w H (putG ks xs q v) (putG ks ds q d) := by
  unfold putG
  by_cases m : q ∈ ks
  · rw [if_pos m, if_pos m]; exact zipput_ra r h
  · rw [if_neg m, if_neg m]; exact RwA.append h (.cons r .nil)
end
/-! ### the comprehension -/
section
variable {X : Cx}
/-- the dict that comes out is locked for good -/
def tFrz (t : TE) : TE := fun σ H Q => t σ H fun v H' => ∃ a u, v = .ref a ∧ H' a = some u ∧ Mut (some u) ∧ ∀ o, Q v (upd H' a (.frz o u))
theorem pe_frz {e : Expr} {t : TE} (h : PE X e t) : PE X e (tFrz t) := by
  refine ⟨fun pins s σ H Q I hw => ?_⟩
  refine thn (h.run pins s σ H _ I hw) fun v s1 ⟨x, H1, I1, r, a, u, ex, hd, mu, q⟩ => ?_
  subst ex
  obtain ⟨od, I2⟩ := I1.lock hd mu
  exact ⟨.ref a, _, I2, r, q od⟩
end
def goD (body : D → List Key → List D → Cs → (List Key → List D → Cs → Prop) → Prop) : List D → List Key → List D → Cs → (List Key → List D → Cs → Prop) → Prop
  | [], ks, es, c, P => P ks es c
  | d :: ds, ks, es, c, P => body d ks es c fun ks' es' c' => goD body ds ks' es' c' P
abbrev dcB (g : ATG) (tt : ATT) (tk tv : ATE) (Γ : Gs) : D → List Key → List D → Cs → (List Key → List D → Cs → Prop) → Prop := fun d ks es c k => g d Γ c fun Γ2 c1 => tt Γ2 c1 fun b c2 => if b = true then tk Γ2 c2 fun y c3 => tv Γ2 c3 fun z c4 => match keyD y with
    | some q => k (setKs ks q) (putG ks es q z) c4
    | none => False
  else k ks es c2
def aDc (ai : ATA) (g : ATG) (tt : ATT) (tk tv : ATE) (vs : List Nat) : ATE := fun Γ c P => ai Γ c fun ds c1 => ds.length ≤ 1000000 ∧ goD (dcB g tt tk tv (wipeG Γ vs)) ds [] [] c1 fun ks es c2 => ∀ o, P (.dic o ks es) c2
section
variable {K : PySem.W.Frag} {F : Fr}
theorem snd_dc {js vs : List Nat} {wi : TI} {ai : ATA} {g : TG} {ag : ATG} {tt : TT} {at' : ATT} {tk tv : TE} {ak av : ATE} (hi : SndI K F wi ai) (hg : SndG K F js g ag) (hjs : ∀ j ∈ js, j ∈ vs) (ht : SndT K F tt at') (hk : SndE K F tk ak) (he : SndE K F tv av) :
    SndE K F (tFrz (tDc wi g tt tk tv vs)) (aDc ai ag at' ak av vs) := by
  intro gs pv os cs σ H Γ P Q r ha hq
  refine hi gs pv os cs σ H Γ _ _ r ha fun J H1 gs2 ds os1 c1 r1 wk ⟨hz, p1⟩ => fun Dl hD => ?_
  have r0 := r1.allocP (o := .dK []) hD
  let Pv (i : Nat) (Hc : Hp) : Prop := ∃ (ks : List Key) (xs : List V) (acc : List D) (os' : Os) (c' : Cs), ks.length ≤ i ∧ ks.length = xs.length ∧ Rel K F (gs2 ++ gs) ((Dl, .dK (ks.zip xs)) :: pv) os' c' σ Hc Γ ∧ RA K (F.at ((Dl, .dK (ks.zip xs)) :: pv) os') Hc xs acc ∧
    goD (dcB ag at' ak av (wipeG Γ vs)) (ds.drop i) ks acc c' fun ks es c2 => ∀ o, P (.dic o ks es) c2
  refine ⟨fun i m Hc => m = ds.length - i ∧ i ≤ ds.length ∧ Pv i Hc, ⟨_, rfl, Nat.zero_le _, [], [], [], os1, c1, Nat.le_refl _, rfl, r0, .nil, by rw [List.drop_zero]; exact p1⟩, ?_⟩
  rintro i m Hc ⟨rfl, hil, ks, xs, acc, os', c', hl, hlx, rc, ra, go⟩
  obtain ⟨g1, g2, g3⟩ := wk (F.at ((Dl, .dK (ks.zip xs)) :: pv) os') Hc rc.st.inv fun p hp => rc.gh p (List.mem_append_left _ hp)
  by_cases hlt : i < ds.length
  · refine .inr ⟨g1 i hlt, Pv (i + 1), fun Hn h => ⟨ds.length - (i + 1), by omega, rfl, hlt, h⟩, fun x H2 y => ?_⟩
    obtain ⟨s2, d, hd, rx⟩ := g3 i x H2 hlt y
    have ed : ds.drop i = d :: ds.drop (i + 1) := by
      rw [List.drop_eq_getElem_cons hlt]
      obtain ⟨_, e⟩ := List.getElem?_eq_some_iff.mp hd
      rw [e]
    rw [ed] at go
    have r2 := ((rc.step s2).gapp (s2.ra ra)).ghost
    refine hg _ _ os' c' (wipe σ vs) H2 (wipeG Γ vs) x d _ _ ((r2.wipe vs).gcons rx) go fun σ2 H3 os3 c3 Γ2 r3 k3 p3 => ⟨(k3 vs hjs).trans wipe_idem, ?_⟩
    refine ht _ _ os3 c3 σ2 H3 Γ2 _ _ r3 p3 fun b H4 os4 c4 r4 p4 => ?_
    have fin : ∀ {H5 : Hp} {os5 : Os} {c5 : Cs} {σ5 : St} {Γ5 : Gs}, Rel K F (slotsOf σ Γ ++ (xs.zip acc ++ (gs2 ++ gs))) ((Dl, .dK (ks.zip xs)) :: pv) os5 c5 σ5 H5 Γ5 → Rel K F (gs2 ++ gs) ((Dl, .dK (ks.zip xs)) :: pv) os5 c5 σ H5 Γ ∧ RA K (F.at ((Dl, .dK (ks.zip xs)) :: pv) os5) H5 xs acc := fun {H5 os5 c5 σ5 Γ5} r5 => by
      have q := ((rc.step s2).gapp (s2.ra ra)).back r5
      refine ⟨q.weak fun p hp => List.mem_append_right _ hp, ?_⟩
      have : ∀ {us : List V} {es : List D}, us.length = es.length → (∀ p, p ∈ us.zip es → R K (F.at ((Dl, .dK (ks.zip xs)) :: pv) os5) H5 p.1 p.2) → RA K (F.at ((Dl, .dK (ks.zip xs)) :: pv) os5) H5 us es := by
        intro us
        induction us with
        | nil => intro es e _; cases es with
          | nil => exact .nil
          | cons _ _ => cases e
        | cons u us ih => intro es e h; cases es with
          | nil => cases e
          | cons z es => exact .cons (h (u, z) List.mem_cons_self) (ih (by simpa using e) fun p hp => h p (List.mem_cons_of_mem _ hp))
      exact this ra.length fun p hp => q.gh p (List.mem_append_left _ hp)
    cases b with
    | true =>
      refine hk _ _ os4 c4 σ2 H4 Γ2 _ _ r4 p4 fun y H5 dy os5 c5 r5 p5 => ?_
      refine he _ _ os5 c5 σ2 H5 Γ2 _ _ r5 p5 fun v H6 z os6 c6 r6 p6 => ?_
      cases ek : keyD dy with
      | none => rw [ek] at p6; exact p6.elim
      | some q =>
        rw [ek] at p6
        obtain ⟨q1, q2⟩ := fin r6.tail.tail
        refine ⟨ks.zip xs, q, key_rw r5.head ek, (at_inv.mp r6.st.inv).2 (Dl, .dK (ks.zip xs)) List.mem_cons_self, Nat.lt_of_le_of_lt (by rw [List.length_zip, ← hlx, Nat.min_self]; omega : (ks.zip xs).length ≤ 1000000) (by decide), setKs ks q, putG ks xs q v, putG ks acc q z, os6, c6, ?_, put_len hlx, ?_⟩
        · exact Nat.le_trans set_le (by omega)
        · rw [put_zip hlx]
          obtain ⟨e, q3⟩ := q1.putP (o' := .dK ((setKs ks q).zip (putG ks xs q v)))
          exact ⟨q3, put_ra (Rw.mono e r6.head) (q2.mono e), p6⟩
    | false =>
      obtain ⟨q1, q2⟩ := fin r4
      exact ⟨ks, xs, acc, os4, c4, by omega, hlx, q1, q2, p4⟩
  · have ei : i = ds.length := by omega
    subst ei
    rw [List.drop_length] at go
    refine .inl ⟨g2, Dl, .dK (ks.zip xs), rfl, (at_inv.mp rc.st.inv).2 (Dl, .dK (ks.zip xs)) List.mem_cons_self, True.intro, fun o => ?_⟩
    obtain ⟨e1, q1⟩ := rc.putP (o' := .frz o (.dK (ks.zip xs)))
    obtain ⟨e, hv, q⟩ := q1.dropP
    exact hq _ _ _ os' c' ((q.weak fun p hp => List.mem_append_right _ hp).gcons (.dic hv hlx (RwA.mono e (RwA.mono e1 ra)))) (go o)
end
section
variable {X : Cx} {Fm : Fr} {tg iter kx vx : Expr} {tk tv : TE} {ak av : ATE} {pos : Pos}
theorem je_dc {js : List Nat} {ifs : List Expr} {scope : Scope} {own : List (Str × Nat)} {wi : TI} {ai : ATA} {g : TG} {agt : ATG} {tt : TT} {at' : ATT} (hc : X.calm = true) (hN : X.N.Nodup) (hi : JI X Fm tg iter wi ai) (ok : BlkOk X.N X.env.scope scope own)
    (hg : ∀ (s : Shared) (H : Hp) (Ca : Addr) (cl : List (Str × Addr)) (fp : List Addr), JG (X.blk s H scope (PySem.compEnvC scope cl Ca X.env) fp) Fm js tg g agt) (hjs : ∀ j ∈ js, j ∈ own.map (·.2))
    (ht : ∀ (s : Shared) (H : Hp) (Ca : Addr) (cl : List (Str × Addr)) (fp : List Addr), JTs (X.blk s H scope (PySem.compEnvC scope cl Ca X.env) fp) Fm ifs tt at')
    (hk : ∀ (s : Shared) (H : Hp) (Ca : Addr) (cl : List (Str × Addr)) (fp : List Addr), JE (X.blk s H scope (PySem.compEnvC scope cl Ca X.env) fp) Fm kx tk ak)
    (he : ∀ (s : Shared) (H : Hp) (Ca : Addr) (cl : List (Str × Addr)) (fp : List Addr), JE (X.blk s H scope (PySem.compEnvC scope cl Ca X.env) fp) Fm vx tv av) (hs : ∀ x, foldedSetIterable iter X.env x = pure x := by intro _; rfl) :
    JE X Fm (.DictComp kx vx [⟨tg, iter, ifs, 0⟩] scope pos) (tFrz (tDc wi g tt tk tv (own.map (·.2)))) (aDc ai agt at' ak av (own.map (·.2))) :=
  ⟨pe_frz (pe_dc hc hN hi.p ok (fun s H Ca cl fp => (hg s H Ca cl fp).p) (fun s H Ca cl fp => (ht s H Ca cl fp).p) (fun s H Ca cl fp => (hk s H Ca cl fp).p) (fun s H Ca cl fp => (he s H Ca cl fp).p) hs),
    snd_dc hi.s (hg X.s_0 X.H_0 0 [] []).s hjs (ht X.s_0 X.H_0 0 [] []).s (hk X.s_0 X.H_0 0 [] []).s (he X.s_0 X.H_0 0 [] []).s⟩
end
end Bd
/-! BhE: list comprehensions with two sources. -/
namespace Bd
open PySem L2
abbrev lc2B (g : ATG) (tt : ATT) (ai1 : ATA) (g1 : ATG) (tt1 : ATT) (te : ATE) (Γ : Gs) (vs1 : List Nat) : D → List D → Cs → (List D → Cs → Prop) → Prop := fun d acc c k => g d Γ c fun Γ2 c1 => tt Γ2 c1 fun b c2 =>
  if b = true then ai1 Γ2 c2 fun es c3 => es.length ≤ 1000 ∧ goA (lcB g1 tt1 te (wipeG Γ2 vs1)) es acc c3 k else k acc c2
def aLc2 (ai : ATA) (g : ATG) (tt : ATT) (ai1 : ATA) (g1 : ATG) (tt1 : ATT) (te : ATE) (vs vs1 : List Nat) : ATE := fun Γ c P => ai Γ c fun ds c1 => ds.length ≤ 1000 ∧ goA (lc2B g tt ai1 g1 tt1 te (wipeG Γ vs) vs1) ds [] c1 fun acc c2 => P (.lst acc) c2
section
variable {K : PySem.W.Frag} {F : Fr}
theorem ra_of_zip {w : Wd} {H : Hp} : ∀ {us : List V} {es : List D}, us.length = es.length → (∀ p, p ∈ us.zip es → R K w H p.1 p.2) → RA K w H us es
  | [], [], _, _ => .nil
  | [], _ :: _, e, _ => by cases e
  | _ :: _, [], e, _ => by cases e
  | u :: us, z :: es, e, h => .cons (h (u, z) List.mem_cons_self) (ra_of_zip (by simpa using e) fun p hp => h p (List.mem_cons_of_mem _ hp))
theorem drop_at {ds : List D} {i : Nat} {d : D} (hlt : i < ds.length) (hd : ds[i]? = some d) : ds.drop i = d :: ds.drop (i + 1) := by
  rw [List.drop_eq_getElem_cons hlt]
  obtain ⟨_, e⟩ := List.getElem?_eq_some_iff.mp hd
  rw [e]
theorem snd_lc2 {js js1 vs vs1 : List Nat} {wi wi1 : TI} {ai ai1 : ATA} {g g1 : TG} {ag ag1 : ATG} {tt tt1 : TT} {at' at1 : ATT} {te : TE} {ae : ATE} (hi : SndI K F wi ai) (hg : SndG K F js g ag) (hjs : ∀ j ∈ js, j ∈ vs) (ht : SndT K F tt at')
    (hi1 : SndI K F wi1 ai1) (hg1 : SndG K F js1 g1 ag1) (hjs1 : ∀ j ∈ js1, j ∈ vs1) (ht1 : SndT K F tt1 at1) (he : SndE K F te ae) :
    SndE K F (tLc2 wi g tt wi1 g1 tt1 te vs vs1) (aLc2 ai ag at' ai1 ag1 at1 ae vs vs1) := by
  intro gs pv os cs σ H Γ P Q r ha hq
  refine hi gs pv os cs σ H Γ _ _ r ha fun J H1 gs2 ds os1 c1 r1 wk ⟨hz, p1⟩ => fun Dl hD => ?_
  have r0 := r1.allocP (o := .lst []) hD
  let B := lc2B ag at' ai1 ag1 at1 ae (wipeG Γ vs) vs1
  let Fin : List D → Cs → Prop := fun acc c2 => P (.lst acc) c2
  let Pv (i : Nat) (Hc : Hp) : Prop := ∃ (xs : List V) (acc : List D) (os' : Os) (c' : Cs), acc.length ≤ 1000 * i ∧ Rel K F (gs2 ++ gs) ((Dl, .lst xs) :: pv) os' c' σ Hc Γ ∧ RA K (F.at ((Dl, .lst xs) :: pv) os') Hc xs acc ∧
    goA B (ds.drop i) acc c' Fin
  refine ⟨fun i m Hc => m = ds.length - i ∧ i ≤ ds.length ∧ Pv i Hc, ⟨_, rfl, Nat.zero_le _, [], [], os1, c1, Nat.le_refl _, r0, .nil, by rw [List.drop_zero]; exact p1⟩, ?_⟩
  rintro i m Hc ⟨rfl, hil, xs, acc, os', c', hl, rc, ra, go⟩
  obtain ⟨g1', g2, g3⟩ := wk (F.at ((Dl, .lst xs) :: pv) os') Hc rc.st.inv fun p hp => rc.gh p (List.mem_append_left _ hp)
  by_cases hlt : i < ds.length
  · refine .inr ⟨g1' i hlt, Pv (i + 1), fun Hn h => ⟨ds.length - (i + 1), by omega, rfl, hlt, h⟩, fun x H2 y => ?_⟩
    obtain ⟨s2, d, hd, rx⟩ := g3 i x H2 hlt y
    rw [drop_at hlt hd] at go
    have rs := rc.step s2
    have r2 := (rs.gapp (s2.ra ra)).ghost
    refine hg _ _ os' c' (wipe σ vs) H2 (wipeG Γ vs) x d _ _ ((r2.wipe vs).gcons rx) go fun σ2 H3 os3 c3 Γ2 r3 k3 p3 => ⟨(k3 vs hjs).trans wipe_idem, ?_⟩
    refine ht _ _ os3 c3 σ2 H3 Γ2 _ _ r3 p3 fun b H4 os4 c4 r4 p4 => ?_
    cases b with
    | false =>
      have q := (rs.gapp (s2.ra ra)).back r4
      exact ⟨xs, acc, os4, c4, by omega, q.weak fun p hp => List.mem_append_right _ hp, ra_of_zip ra.length fun p hp => q.gh p (List.mem_append_left _ hp), p4⟩
    | true =>
      refine hi1 _ _ os4 c4 σ2 H4 Γ2 _ _ r4 p4 fun J1 H5 gs3 es os5 c5 r5 wk1 ⟨hz1, p5⟩ => ?_
      let Pv1 (j : Nat) (Hc : Hp) : Prop := ∃ (xs : List V) (acc : List D) (os' : Os) (c' : Cs), acc.length ≤ 1000 * i + j ∧ Rel K F (gs3 ++ (slotsOf σ Γ ++ (gs2 ++ gs))) ((Dl, .lst xs) :: pv) os' c' σ2 Hc Γ2 ∧ RA K (F.at ((Dl, .lst xs) :: pv) os') Hc xs acc ∧
        goA (lcB ag1 at1 ae (wipeG Γ2 vs1)) (es.drop j) acc c' fun acc c => goA B (ds.drop (i + 1)) acc c Fin
      have base : Pv1 0 H5 := by
        refine ⟨xs, acc, os5, c5, by omega, r5.weak fun p hp => ?_, ra_of_zip ra.length fun p hp => r5.gh p (List.mem_append_right _ (List.mem_append_right _ (List.mem_append_left _ hp))), by rw [List.drop_zero]; exact p5⟩
        rcases List.mem_append.mp hp with m | m
        · exact List.mem_append_left _ m
        · rcases List.mem_append.mp m with m | m
          · exact List.mem_append_right _ (List.mem_append_left _ m)
          · exact List.mem_append_right _ (List.mem_append_right _ (List.mem_append_right _ m))
      refine ⟨fun j k Hc => k = es.length - j ∧ j ≤ es.length ∧ Pv1 j Hc, ⟨_, rfl, Nat.zero_le _, base⟩, ?_⟩
      rintro j k Hd ⟨rfl, hjl, ys, acc1, os6, c6, hl6, r6, ra6, go6⟩
      obtain ⟨k1, k2, k3'⟩ := wk1 (F.at ((Dl, .lst ys) :: pv) os6) Hd r6.st.inv fun p hp => r6.gh p (List.mem_append_left _ hp)
      by_cases hlt1 : j < es.length
      · refine .inr ⟨k1 j hlt1, Pv1 (j + 1), fun Hn h => ⟨es.length - (j + 1), by omega, rfl, hlt1, h⟩, fun x' H7 y' => ?_⟩
        obtain ⟨s7, d7, hd7, rx7⟩ := k3' j x' H7 hlt1 y'
        rw [drop_at hlt1 hd7] at go6
        have rs7 := r6.step s7
        have r7 := (rs7.gapp (s7.ra ra6)).ghost
        refine hg1 _ _ os6 c6 (wipe σ2 vs1) H7 (wipeG Γ2 vs1) x' d7 _ _ ((r7.wipe vs1).gcons rx7) go6 fun σ3 H8 os8 c8 Γ3 r8 k8 p8 => ⟨(k8 vs1 hjs1).trans wipe_idem, ?_⟩
        refine ht1 _ _ os8 c8 σ3 H8 Γ3 _ _ r8 p8 fun b9 H9 os9 c9 r9 p9 => ?_
        cases b9 with
        | false =>
          have q := (rs7.gapp (s7.ra ra6)).back r9
          exact ⟨ys, acc1, os9, c9, by omega, q.weak fun p hp => List.mem_append_right _ hp, ra_of_zip ra6.length fun p hp => q.gh p (List.mem_append_left _ hp), p9⟩
        | true =>
          refine he _ _ os9 c9 σ3 H9 Γ3 _ _ r9 p9 fun v H10 z os10 c10 r10 p10 => ?_
          have q := (rs7.gapp (s7.ra ra6)).back r10.tail
          have hx := ra6.length
          refine ⟨ys, (at_inv.mp r10.st.inv).2 (Dl, .lst ys) List.mem_cons_self, Nat.lt_of_le_of_lt (by omega : ys.length ≤ 1000 * 1000 + 1000) (by decide), ys ++ [v], acc1 ++ [z], os10, c10, ?_, ?_⟩
          · rw [List.length_append, List.length_singleton]
            omega
          · obtain ⟨e, q3⟩ := (q.weak fun p hp => List.mem_append_right _ hp : Rel K F (gs3 ++ (slotsOf σ Γ ++ (gs2 ++ gs))) ((Dl, .lst ys) :: pv) os10 c10 σ2 H10 Γ2).putP (o' := .lst (ys ++ [v]))
            exact ⟨q3, RwA.append ((ra_of_zip ra6.length fun p hp => q.gh p (List.mem_append_left _ hp)).mono e) (.cons (Rw.mono e r10.head) .nil), p10⟩
      · have ej : j = es.length := by omega
        subst ej
        rw [List.drop_length] at go6
        have q : Rel K F (gs2 ++ gs) ((Dl, .lst ys) :: pv) os6 c6 σ Hd Γ := rs.back (r6.weak fun p hp => List.mem_append_right _ hp)
        exact .inl ⟨k2, ys, acc1, os6, c6, by omega, q, ra6, go6⟩
  · have ei : i = ds.length := by omega
    subst ei
    rw [List.drop_length] at go
    obtain ⟨e, hv, q⟩ := rc.dropP
    exact .inl ⟨g2, hq _ Hc _ os' c' ((q.weak fun p hp => List.mem_append_right _ hp).gcons (.lst hv (RwA.mono e ra))) go⟩
end
section
variable {X : Cx} {Fm : Fr} {tg iter tg1 iter1 elt : Expr} {te : TE} {ae : ATE} {pos : Pos}
theorem je_lc2 (vs1 : List Nat) {js js1 : List Nat} {ifs ifs1 : List Expr} {scope : Scope} {own : List (Str × Nat)} {wi wi1 : TI} {ai ai1 : ATA} {g g1 : TG} {agt ag1 : ATG} {tt tt1 : TT} {at' at1 : ATT} (hc : X.calm = true) (hN : X.N.Nodup) (hi : JI X Fm tg iter wi ai) (ok : BlkOk X.N X.env.scope scope own) (hv : ∀ i ∈ vs1, i ∈ own.map (·.2))
    (hg : ∀ (s : Shared) (H : Hp) (Ca : Addr) (cl : List (Str × Addr)) (fp : List Addr), JG (X.blk s H scope (PySem.compEnvC scope cl Ca X.env) fp) Fm js tg g agt) (hjs : ∀ j ∈ js, j ∈ own.map (·.2))
    (ht : ∀ (s : Shared) (H : Hp) (Ca : Addr) (cl : List (Str × Addr)) (fp : List Addr), JTs (X.blk s H scope (PySem.compEnvC scope cl Ca X.env) fp) Fm ifs tt at')
    (hi1 : ∀ (s : Shared) (H : Hp) (Ca : Addr) (cl : List (Str × Addr)) (fp : List Addr), JI (X.blk s H scope (PySem.compEnvC scope cl Ca X.env) fp) Fm tg1 iter1 wi1 ai1)
    (hg1 : ∀ (s : Shared) (H : Hp) (Ca : Addr) (cl : List (Str × Addr)) (fp : List Addr), JG (X.blk s H scope (PySem.compEnvC scope cl Ca X.env) fp) Fm js1 tg1 g1 ag1) (hjs1 : ∀ j ∈ js1, j ∈ vs1)
    (ht1 : ∀ (s : Shared) (H : Hp) (Ca : Addr) (cl : List (Str × Addr)) (fp : List Addr), JTs (X.blk s H scope (PySem.compEnvC scope cl Ca X.env) fp) Fm ifs1 tt1 at1)
    (he : ∀ (s : Shared) (H : Hp) (Ca : Addr) (cl : List (Str × Addr)) (fp : List Addr), JE (X.blk s H scope (PySem.compEnvC scope cl Ca X.env) fp) Fm elt te ae) (hs : ∀ x, foldedSetIterable iter X.env x = pure x := by intro _; rfl) (hs1 : ∀ env x, foldedSetIterable iter1 env x = pure x := by intro _ _; rfl) :
    JE X Fm (.ListComp elt [⟨tg, iter, ifs, 0⟩, ⟨tg1, iter1, ifs1, 0⟩] scope pos) (tLc2 wi g tt wi1 g1 tt1 te (own.map (·.2)) vs1) (aLc2 ai agt at' ai1 ag1 at1 ae (own.map (·.2)) vs1) :=
  ⟨pe_lc2 hc hN hi.p ok hv (fun s H Ca cl fp => (hg s H Ca cl fp).p) (fun s H Ca cl fp => (ht s H Ca cl fp).p) (fun s H Ca cl fp => (hi1 s H Ca cl fp).p) (fun s H Ca cl fp => (hg1 s H Ca cl fp).p) (fun s H Ca cl fp => (ht1 s H Ca cl fp).p) (fun s H Ca cl fp => (he s H Ca cl fp).p) hs hs1,
    snd_lc2 hi.s (hg X.s_0 X.H_0 0 [] []).s hjs (ht X.s_0 X.H_0 0 [] []).s (hi1 X.s_0 X.H_0 0 [] []).s (hg1 X.s_0 X.H_0 0 [] []).s hjs1 (ht1 X.s_0 X.H_0 0 [] []).s (he X.s_0 X.H_0 0 [] []).s⟩
theorem js_setLc2 (i : Nat) (vs1 : List Nat) {y : Str} {py spos : Pos} {js js1 : List Nat} {ifs ifs1 : List Expr} {scope : Scope} {own : List (Str × Nat)} {wi wi1 : TI} {ai ai1 : ATA} {g g1 : TG} {agt ag1 : ATG} {tt tt1 : TT} {at' at1 : ATT} (hc : X.calm = true) (hN : X.N.Nodup) (hy : X.N[i]? = some y) (hyl : X.env.scope.names.lookup y = some .local)
    (hsw : swapsWith (.ListComp elt [⟨tg, iter, ifs, 0⟩, ⟨tg1, iter1, ifs1, 0⟩] scope pos) (some (.Name y py)) spos.line X.env = pure true) (hi : JI X Fm tg iter wi ai) (ok : BlkOk X.N X.env.scope scope own) (hv : ∀ i ∈ vs1, i ∈ own.map (·.2))
    (hg : ∀ (s : Shared) (H : Hp) (Ca : Addr) (cl : List (Str × Addr)) (fp : List Addr), JG (X.blk s H scope (PySem.compEnvC scope cl Ca X.env) fp) Fm js tg g agt) (hjs : ∀ j ∈ js, j ∈ own.map (·.2))
    (ht : ∀ (s : Shared) (H : Hp) (Ca : Addr) (cl : List (Str × Addr)) (fp : List Addr), JTs (X.blk s H scope (PySem.compEnvC scope cl Ca X.env) fp) Fm ifs tt at')
    (hi1 : ∀ (s : Shared) (H : Hp) (Ca : Addr) (cl : List (Str × Addr)) (fp : List Addr), JI (X.blk s H scope (PySem.compEnvC scope cl Ca X.env) fp) Fm tg1 iter1 wi1 ai1)
    (hg1 : ∀ (s : Shared) (H : Hp) (Ca : Addr) (cl : List (Str × Addr)) (fp : List Addr), JG (X.blk s H scope (PySem.compEnvC scope cl Ca X.env) fp) Fm js1 tg1 g1 ag1) (hjs1 : ∀ j ∈ js1, j ∈ vs1)
    (ht1 : ∀ (s : Shared) (H : Hp) (Ca : Addr) (cl : List (Str × Addr)) (fp : List Addr), JTs (X.blk s H scope (PySem.compEnvC scope cl Ca X.env) fp) Fm ifs1 tt1 at1)
    (he : ∀ (s : Shared) (H : Hp) (Ca : Addr) (cl : List (Str × Addr)) (fp : List Addr), JE (X.blk s H scope (PySem.compEnvC scope cl Ca X.env) fp) Fm elt te ae) (hs : ∀ x, foldedSetIterable iter X.env x = pure x := by intro _; rfl) (hs1 : ∀ env x, foldedSetIterable iter1 env x = pure x := by intro _ _; rfl) :
    JS X Fm (.Assign [.Name y py] (.ListComp elt [⟨tg, iter, ifs, 0⟩, ⟨tg1, iter1, ifs1, 0⟩] scope pos) spos) (tAsg (tLc2 wi g tt wi1 g1 tt1 te (own.map (·.2)) vs1) (gName i)) (aAsg (aLc2 ai agt at' ai1 ag1 at1 ae (own.map (·.2)) vs1) (gmN i)) :=
  ⟨ps_setLc2 hc hN hy hyl hsw hi.p ok hv (fun s H Ca cl fp => (hg s H Ca cl fp).p) (fun s H Ca cl fp => (ht s H Ca cl fp).p) (fun s H Ca cl fp => (hi1 s H Ca cl fp).p) (fun s H Ca cl fp => (hg1 s H Ca cl fp).p) (fun s H Ca cl fp => (ht1 s H Ca cl fp).p) (fun s H Ca cl fp => (he s H Ca cl fp).p) hs hs1,
    snd_asg (snd_lc2 hi.s (hg X.s_0 X.H_0 0 [] []).s hjs (ht X.s_0 X.H_0 0 [] []).s (hi1 X.s_0 X.H_0 0 [] []).s (hg1 X.s_0 X.H_0 0 [] []).s hjs1 (ht1 X.s_0 X.H_0 0 [] []).s (he X.s_0 X.H_0 0 [] []).s) (snd_gName i)⟩
end
end Bd
/-! BhF: len(o), y in o by own methods, isinstance with several built-in types, constants of a class. -/
namespace Bd
open PySem L2 ClX
section
variable {X : Cx} {k : Nat} {f C : Addr} {fd : FuncData} {ps : List Str} {sp : Sp}
/-- len(o) by an own __len__ -/
def rLenO (C : Addr) (sp : Sp) : V → Hp → VK → Prop := fun x H Q => rUno C sp x H fun v H' => ∃ n : Int, v = .int n ∧ (0 ≤ n ∧ n < 2 ^ 63) ∧ Q v H'
theorem call_lenO (hf : PySem.W.findIn X.K (.ref C) "__len__" = some (some (.ref f))) (hn : PySem.W.isFn X.K (.ref f) = true) (F : FnOk X.prog X.w X.K X.mg X.base CX0 k f fd ps sp) (hb : Binds X.K fd ps []) (hr : Room (k + 1) X.A) :
    CallR X (.builtin "len") (fun xs H Q => ∃ x, xs = [x] ∧ rLenO C sp x H Q) := by
  intro pins s σ H xs us Q I r ⟨x, e, a, dx, fs, e1, ha, hq⟩
  subst e e1
  cases r with
  | cons r1 r2 =>
    cases r2
    cases r1
    obtain ⟨mA, J, _⟩ := ins_get I.hok ha
    obtain ⟨od, J, _⟩ := J.look
    obtain ⟨m, hF⟩ := I.fr
    have go := run_sub ((sub0 hr).in1) F hb I (.cons (show RelV (.ref a) (.ref a) from rfl) .nil) hq
    refine PySem.W.len_K hF I.ok.mod.kin J hf hn (wpAny_mono go (fun v s' q => ?_) fun _ _ q => q)
    obtain ⟨v', H', I', rv, n, rfl, hn, q⟩ := q
    obtain ⟨t, rfl⟩ := rv
    exact ⟨hn, .int n, H', I'.tok _, ⟨_, rfl⟩, q⟩
/-- y in o by an own __contains__ that tells True or False -/
def rInO (C : Addr) (sp : Sp) (neg : Bool) : R2 := fun y x H Q => ∃ a dx fs, x = .ref a ∧ H a = some (.ins C dx fs) ∧ sp [x, y] H (fun v H' => ∃ b, v = .bl b ∧ Q (.bl (if neg then !b else b)) H') E0
theorem op_inO (hf : PySem.W.findIn X.K (.ref C) "__contains__" = some (some (.ref f))) (hn : PySem.W.isFn X.K (.ref f) = true) (F : FnOk X.prog X.w X.K X.mg X.base CX0 k f fd ps sp) (hb : Binds X.K fd ps []) (hr : Room k X.A) :
    OpR X (compareOp .In) (rInO C sp false) := by
  intro pins s σ H y x v u Q I ry rx ⟨a, dx, fs, e, ha, hq⟩
  subst e
  cases rx
  obtain ⟨mA, J, _⟩ := ins_get I.hok ha
  obtain ⟨od, J, _⟩ := J.look
  obtain ⟨m, hF⟩ := I.fr
  have go := run_sub (sub0 hr) F hb I (.cons (show RelV (.ref a) (.ref a) from rfl) (.cons ry .nil)) hq
  refine PySem.W.in_K hF I.ok.mod.kin J hf hn (wpAny_mono go (fun r s' q => ?_) fun _ _ q => q)
  obtain ⟨v', H', I', rv, b, rfl, q⟩ := q
  obtain rfl : r = Value.bool b := rv
  exact wpAny_pure ⟨.bl b, H', I', rfl, q⟩
theorem op_notInO (hf : PySem.W.findIn X.K (.ref C) "__contains__" = some (some (.ref f))) (hn : PySem.W.isFn X.K (.ref f) = true) (F : FnOk X.prog X.w X.K X.mg X.base CX0 k f fd ps sp) (hb : Binds X.K fd ps []) (hr : Room k X.A) :
    OpR X (compareOp .NotIn) (rInO C sp true) := by
  intro pins s σ H y x v u Q I ry rx ⟨a, dx, fs, e, ha, hq⟩
  subst e
  cases rx
  obtain ⟨mA, J, _⟩ := ins_get I.hok ha
  obtain ⟨od, J, _⟩ := J.look
  obtain ⟨m, hF⟩ := I.fr
  have go := run_sub (sub0 hr) F hb I (.cons (show RelV (.ref a) (.ref a) from rfl) (.cons ry .nil)) hq
  refine PySem.W.notIn_K hF I.ok.mod.kin J hf hn (wpAny_mono go (fun r s' q => ?_) fun _ _ q => q)
  obtain ⟨v', H', I', rv, b, rfl, q⟩ := q
  obtain rfl : r = Value.bool b := rv
  exact wpAny_pure ⟨.bl (!b), H', I', rfl, q⟩
end
/-! ### over data -/
@[simp] def gLenO (cn : Str) (A : List D → (D → Prop) → Prop) (xs : List D) (P : D → Prop) : Prop := match xs with
  | [x] => gUno cn A x fun d => match d with
    | .int n => (0 ≤ n ∧ n < 2 ^ 63) ∧ P (.int n)
    | _ => False
  | _ => False
@[simp] def gInO (cn : Str) (A : List D → (D → Prop) → Prop) (neg : Bool) (y x : D) (P : D → Prop) : Prop := match x with
  | .obj c ns ds => c = cn ∧ A [.obj c ns ds, y] fun d => match d with
    | .bl b => P (.bl (if neg then !b else b))
    | _ => False
  | _ => False
section
variable {K : PySem.W.Frag} {A : List D → (D → Prop) → Prop} {cn : Str}
theorem s_lenO : SndRs K Any (fun xs H Q => ∃ x, xs = [x] ∧ rLenO (He.ga K cn) (spOf K Any A) x H Q) (gLenO cn A) := by
  intro w H xs ds P Q hw hI r hf hq
  unfold gLenO at hf
  split at hf
  · cases r with
    | cons r1 r2 =>
      cases r2
      refine ⟨_, rfl, s_uno w H _ _ _ _ hw hI r1 hf fun v H' d s r p => ?_⟩
      split at p
      · exact ⟨_, r_int r, p.1, hq _ H' _ s r p.2⟩
      · exact p.elim
  · exact hf.elim
theorem s_inO {neg : Bool} : SndR2 K Any (rInO (He.ga K cn) (spOf K Any A) neg) (gInO cn A neg) := by
  intro w H y x dy dx P Q _ hI r1 r2 hf hq
  unfold gInO at hf
  split at hf
  · obtain ⟨rfl, p⟩ := hf
    obtain ⟨a, dxa, xs, rfl, h1, _, _⟩ := obj_inj r2
    refine ⟨a, _, _, rfl, h1, w, _, _, trivial, hI, .cons r2 (.cons r1 .nil), p, fun v H' d s r p => ?_⟩
    split at p
    · rename_i b
      cases r_bl r
      exact ⟨b, rfl, hq _ H' _ s (.bl _) p⟩
    · exact p.elim
  · exact hf.elim
end
section
variable {X : Cx} {Kf : PySem.W.Frag} {cn : Str} {k j : Nat} {ps : List Str} {A : List D → (D → Prop) → Prop}
theorem cr_lenO (hK : X.K = Kf) (F : FncM X.prog X.w Kf X.mg X.base cn "__len__" k ps Any A) (hr : Room j X.A) (hk : k + 1 ≤ j) : CallR X (.builtin "len") (fun xs H Q => ∃ x, xs = [x] ∧ rLenO (He.ga Kf cn) (spOf Kf Any A) x H Q) := by
  subst hK
  obtain ⟨fd, F1, b⟩ := F.ex
  exact call_lenO F.mt.at_ F.mt.fn F1 b (hr.mono hk)
theorem s_lenK (hK : X.K = Kf) : SndRs X.K Any (fun xs H Q => ∃ x, xs = [x] ∧ rLenO (He.ga Kf cn) (spOf Kf Any A) x H Q) (gLenO cn A) := by
  subst hK
  exact s_lenO
theorem jo_inO (hK : X.K = Kf) (F : FncM X.prog X.w Kf X.mg X.base cn "__contains__" k ps Any A) (hr : Room j X.A) (hk : k ≤ j) : JO X (compareOp .In) (rInO (He.ga Kf cn) (spOf Kf Any A) false) (gInO cn A false) := by
  subst hK
  obtain ⟨fd, F1, b⟩ := F.ex
  exact ⟨op_inO F.mt.at_ F.mt.fn F1 b (hr.mono hk), s_inO⟩
theorem jo_notInO (hK : X.K = Kf) (F : FncM X.prog X.w Kf X.mg X.base cn "__contains__" k ps Any A) (hr : Room j X.A) (hk : k ≤ j) : JO X (compareOp .NotIn) (rInO (He.ga Kf cn) (spOf Kf Any A) true) (gInO cn A true) := by
  subst hK
  obtain ⟨fd, F1, b⟩ := F.ex
  exact ⟨op_notInO F.mt.at_ F.mt.fn F1 b (hr.mono hk), s_inO⟩
end
/-! ### isinstance(x, (int, str, ..)) -/
def tysOf : List D → Option (List String)
  | [] => some []
  | .ty n :: r => (tysOf r).map (n :: ·)
  | _ :: _ => none
theorem tysOf_rw {K : PySem.W.Frag} {w : Wd} {H : Hp} : ∀ {vs : List V} {ds : List D} {ns : List String}, RA K w H vs ds → tysOf ds = some ns → vs = ns.map V.ty ∧ ds = ns.map D.ty
  | _, _, _, .nil, e => by cases e; exact ⟨rfl, rfl⟩
  | _, _, _, .cons r t, e => by
    cases r <;> simp [tysOf] at e
    obtain ⟨ns, e1, rfl⟩ := e
    obtain ⟨h1, h2⟩ := tysOf_rw t e1
    rw [h1, h2]
    exact ⟨rfl, rfl⟩
theorem cls_tys : ∀ ns : List String, Paired ClsV (ns.map V.ty) (ns.map Value.type)
  | [] => .nil
  | n :: r => .cons (.ty n) (cls_tys r)
theorem any_tys {K : PySem.W.Frag} {x : D} {a : String} (hx : tyN x = some a) : ∀ ns : List String, ns.all okTy = true → PySem.W.kitAny K (.type a) (ns.map Value.type) = some (ns.any fun n => isD n x)
  | [], _ => rfl
  | n :: r, e => by
    rw [List.all_cons] at e
    obtain ⟨h1, h2⟩ := Bool.and_eq_true_iff.mp e
    rw [List.map_cons, List.any_cons]
    unfold PySem.W.kitAny
    rw [kit_ty (kitB_is h1 hx)]
    cases isD n x with
    | true => rfl
    | false => exact any_tys hx r h2
def aIsiT (a : ATE) (b : ATA) : ATE := fun Γ c P => a Γ c fun x c1 => b Γ c1 fun ts c2 => match tysOf ts with
  | some ns => (ns.all okTy = true ∧ (tyN x).isSome = true ∧ ts.length ≤ 100000) ∧ P (.bl (ns.any fun n => isD n x)) c2
  | none => False
theorem snd_isiT {K : PySem.W.Frag} {F : Fr} {te : TE} {ae : ATE} {t : TA} {ag : ATA} (h1 : SndE K F te ae) (h2 : SndA K F t ag) : SndE K F (tCB (rIsiT K) (tCons te (tCons (tTup t) tNil))) (aIsiT ae ag) := by
  intro gs pv os cs σ H Γ P Q r ha hq
  refine h1 gs pv os cs σ H Γ _ _ r ha fun v H1 d os1 c1 r1 p1 => ?_
  refine h2 _ pv os1 c1 σ H1 Γ _ _ r1 p1 fun vs H2 ds os2 c2 r2 ra p2 => ?_
  split at p2
  · rename_i ns e
    obtain ⟨⟨q1, q2, q3⟩, p2⟩ := p2
    obtain ⟨e1, e2⟩ := tysOf_rw ra e
    obtain ⟨a, ha⟩ := Option.isSome_iff_exists.mp q2
    refine ⟨by rw [ra.length]; exact size_ok q3, fun p hp => ?_⟩
    obtain ⟨s2, rt⟩ := new_tup r2.st.inv hp ra
    have r3 := r2.step s2
    exact ⟨v, p, vs, .type a, ns.map Value.type, ns.any fun n => isD n d, rfl, upd_same, by rw [e1]; exact cls_tys ns, ty_rw r3.head ha, any_tys ha ns q1, hq _ _ _ os2 c2 (r3.tail.gcons (.bl _)) p2⟩
  · exact p2.elim
theorem je_isiT {X : Cx} {Fm : Fr} {e : Expr} {es : List Expr} {te : TE} {ae : ATE} {t : TA} {ag : ATA} {p pos tpos : Pos} {kk : Nat} (hm : X.mg "isinstance" = none) (h : JE X Fm e te ae) (ha : JA X Fm es t ag) (hg : Gl X "isinstance" := by rfl)
    (hs : starEach [.Tuple es kk tpos] X.env = (false, eval (.Tuple es kk tpos) X.env) :: starEach [] X.env := by rfl)
    (he : starEach [e, .Tuple es kk tpos] X.env = (false, eval e X.env) :: starEach [.Tuple es kk tpos] X.env := by rfl) (hpl : (backTo pos (starEach [.Tuple es kk tpos] X.env)).any (·.1) = false := by rfl) :
    JE X Fm (.Call (.Name "isinstance" p) [e, .Tuple es kk tpos] [] pos) (tCB (rIsiT X.K) (tCons te (tCons (tTup t) tNil))) (aIsiT ae ag) :=
  ⟨pe_callB call_isiT hg hm PyProof.Rows.boot_isinstance (pa_cons (hs := he) h.p (pa_cons (hs := hs) (pe_tup ha.p) pa_nil)) (by decide) (by decide) he hpl, snd_isiT h.s ha.s⟩
/-! ### a constant of a class -/
def cvalB (K : PySem.W.Frag) (cn f : Str) (i : Int) : Bool := PySem.W.readsIn K (He.ga K cn) (.type "type") && (He.eqO (PySem.W.specialIn K (.ref (He.ga K cn)) "__getattribute__") (some (some (.builtin "type.__getattribute__"))) &&
  (match PySem.W.findCls K (.ref (He.ga K cn)) (.type "type") f with
    | some (.val (.int j _)) => decide (j = i)
    | _ => false))
structure CvF (K : PySem.W.Frag) (cn f : Str) (i : Int) : Prop where
  r : CRead K (He.ga K cn) (.type "type")
  v : ∃ t, CVal K (He.ga K cn) (.type "type") f (.int i) (.int i t)
theorem cvalB_ok {K : PySem.W.Frag} {cn f : Str} {i : Int} (h : cvalB K cn f i = true) : CvF K cn f i := by
  obtain ⟨h1, h⟩ := He.ba h
  obtain ⟨h2, h3⟩ := He.ba h
  refine ⟨⟨h1, He.eqO_ok h2⟩, ?_⟩
  split at h3
  · rename_i j t e
    obtain rfl := of_decide_eq_true h3
    exact ⟨t, e, ⟨t, rfl⟩⟩
  · cases h3
@[simp] abbrev aCVal (cn : Str) (i : Int) (a : ATE) : ATE := fun Γ c P => a Γ c fun x c1 => match x with
  | .cls d => d = cn ∧ P (.int i) c1
  | _ => False
theorem je_cval {X : Cx} {Fm : Fr} {Kf : PySem.W.Frag} {e : Expr} {te : TE} {ae : ATE} {cn f : Str} {i : Int} {pos : Pos} (hK : X.K = Kf) (F : CvF Kf cn f i) (h : JE X Fm e te ae) (hb : attributeBase e f X.env (eval e X.env) = eval e X.env := by rfl) : JE X Fm (.Attribute e f pos) (tCVal Kf te f) (aCVal cn i ae) := by
  subst hK
  refine ⟨pe_cval h.p hb, ?_⟩
  intro gs pv os cs σ H Γ P Q r ha hq
  refine h.s gs pv os cs σ H Γ _ _ r ha fun v H1 d os1 c1 r1 p1 => ?_
  split at p1
  · rename_i dn
    obtain ⟨rfl, p⟩ := p1
    have rh := r1.head
    cases rh
    obtain ⟨t, cv⟩ := F.v
    exact ⟨_, _, _, _, rfl, F.r, cv, hq _ H1 _ os1 c1 (r1.tail.gcons (.int i)) p⟩
  · exact p1.elim
end Bd
/-! BhG: list(x) as a new cell. -/
namespace Bd
open PySem L2
def aListN (a : ATA) : ATE := fun Γ c P => a Γ c fun xs c1 => match xs with
  | [.lst ds] => ∀ p : Addr, c1.lookup p = none → P (.adr p) ((p, .lst ds) :: c1)
  | [.tup ds] => ∀ p : Addr, c1.lookup p = none → P (.adr p) ((p, .lst ds) :: c1)
  | _ => False
theorem snd_listN {K : PySem.W.Frag} {F : Fr} {t : TA} {a : ATA} (h : SndA K F t a) : SndE K F (tCB (fun xs H Q => ∃ p ys, xs = [.ref p] ∧ (SqL K H p ys ∨ SqT K H p ys) ∧ ∀ l, H l = none → Q (.ref l) (upd H l (.lst ys))) t) (aListN a) := by
  intro gs pv os cs σ H Γ P Q r ha hq
  refine h gs pv os cs σ H Γ _ _ r ha fun vs H1 ds os1 c1 rr ra p1 => ?_
  split at p1
  · cases ra with
    | cons r1 r2 =>
      cases r2
      cases r1 with
      | lst hx rx =>
        refine ⟨_, _, rfl, .inl (SqL.of (vis_some hx).2), fun l hl => ?_⟩
        obtain ⟨k, r3⟩ := rr.alloc (o := .lst _) (d := .lst _) hl rx
        exact hq _ _ _ _ _ (r3.gcons (.adr l)) (p1 l k)
  · cases ra with
    | cons r1 r2 =>
      cases r2
      cases r1 with
      | tup hx rx =>
        refine ⟨_, _, rfl, .inr (tup_sq hx), fun l hl => ?_⟩
        obtain ⟨k, r3⟩ := rr.alloc (o := .lst _) (d := .lst _) hl rx
        exact hq _ _ _ _ _ (r3.gcons (.adr l)) (p1 l k)
  · exact p1.elim
theorem je_listN {X : Cx} {Fm : Fr} {e : Expr} {es : List Expr} {t : TA} {ag : ATA} {p pos : Pos} (hm : X.mg "list" = none) (ha : JA X Fm (e :: es) t ag) (hg : Gl X "list" := by rfl)
    (he : starEach (e :: es) X.env = (false, eval e X.env) :: starEach es X.env := by rfl) (hpl : (backTo pos (starEach es X.env)).any (·.1) = false := by rfl) :
    JE X Fm (.Call (.Name "list" p) (e :: es) [] pos) (tCB (fun xs H Q => ∃ p ys, xs = [.ref p] ∧ (SqL X.K H p ys ∨ SqT X.K H p ys) ∧ ∀ l, H l = none → Q (.ref l) (upd H l (.lst ys))) t) (aListN ag) :=
  ⟨pe_callTy call_list_of hg hm PyProof.Rows.boot_list ha.p (by decide) (by decide) he hpl, snd_listN ha.s⟩
/-! ### a, b, c = x, y, z -/
@[simp] abbrev aPar3 (i j l : Nat) (a : ATA) : ATS := fun A Γ c => a Γ c fun ds c1 => match ds with
  | [d, e, f] => A.nx (((Γ.set i (some d)).set j (some e)).set l (some f)) c1
  | _ => False
theorem snd_par3 {K : PySem.W.Frag} {F : Fr} {i j l : Nat} {t : TA} {a : ATA} (h : SndA K F t a) : SndS K F (tPar3 i j l t) (aPar3 i j l a) := by
  intro gs os cs σ H Γ A D' r ha e
  refine h gs [] os cs σ H Γ _ _ r ha fun vs H1 ds os1 c1 rr r1 p => ?_
  split at p
  · cases r1 with
    | cons r1 r2 =>
      cases r2 with
      | cons r2 r3 =>
        cases r3 with
        | cons r3 r4 =>
          cases r4
          exact ⟨_, _, _, rfl, e.nx os1 c1 _ H1 _ (((rr.set r1).set r2).set r3) p⟩
  · exact p.elim
theorem js_par3 {X : Cx} {Fm : Fr} {a b d : Expr} {t : TA} {ag : ATA} (i j l : Nat) {px py pz pt pos : Pos} {kt k2 : Nat} {pt2 : Pos} {x y z : Str} (hN : X.N.Nodup) (ha : JA X Fm [a, b, d] t ag) (hc : X.calm = true := by rfl) (hi : X.N[i]? = some x := by rfl) (hj : X.N[j]? = some y := by rfl) (hl : X.N[l]? = some z := by rfl)
    (hij : i ≠ j := by decide) (hil : i ≠ l := by decide) (hjl : j ≠ l := by decide)
    (hx : X.env.scope.names.lookup x = some .local := by rfl) (hy : X.env.scope.names.lookup y = some .local := by rfl) (hz : X.env.scope.names.lookup z = some .local := by rfl)
    (hw : swappedStores [.Tuple [.Name x px, .Name y py, .Name z pz] kt pt] (.Tuple [a, b, d] k2 pt2) X.env = pure (some [x, y, z]) := by rfl)
    (hs : swapsWithSole [.Tuple [.Name x px, .Name y py, .Name z pz] kt pt] (.Tuple [a, b, d] k2 pt2) pos.line X.env = pure false := by rfl) :
    JS X Fm (.Assign [.Tuple [.Name x px, .Name y py, .Name z pz] kt pt] (.Tuple [a, b, d] k2 pt2) pos) (tPar3 i j l t) (aPar3 i j l ag) := ⟨ps_par3 hc hN hi hj hl hij hil hjl hx hy hz ha.p hw hs, snd_par3 ha.s⟩
theorem je_lenK {X : Cx} {Fm : Fr} {Kf : PySem.W.Frag} {e : Expr} {es : List Expr} {t : TA} {ag : ATA} {p pos : Pos} (hK : X.K = Kf) (hm : X.mg "len" = none) (ha : JA X Fm (e :: es) t ag) (hg : Gl X "len" := by rfl)
    (he : starEach (e :: es) X.env = (false, eval e X.env) :: starEach es X.env := by rfl) (hpl : (backTo pos (starEach es X.env)).any (·.1) = false := by rfl) :
    JE X Fm (.Call (.Name "len" p) (e :: es) [] pos) (tCB (fun xs H Q => ∃ x n, xs = [x] ∧ LenV Kf x H n ∧ Q (.int n) H) t) (aCB wLen ag) := by
  subst hK
  exact je_callB call_len s_len hm PySem.boot_len ha hg (by decide) (by decide) he hpl
theorem je_tupleK {X : Cx} {Fm : Fr} {Kf : PySem.W.Frag} {e : Expr} {es : List Expr} {t : TA} {ag : ATA} {p pos : Pos} (hK : X.K = Kf) (hm : X.mg "tuple" = none) (ha : JA X Fm (e :: es) t ag) (hg : Gl X "tuple" := by rfl)
    (he : starEach (e :: es) X.env = (false, eval e X.env) :: starEach es X.env := by rfl) (hpl : (backTo pos (starEach es X.env)).any (·.1) = false := by rfl) :
    JE X Fm (.Call (.Name "tuple" p) (e :: es) [] pos) (tCB (fun xs H Q => ∃ p ys, xs = [.ref p] ∧ ((SqL Kf H p ys ∧ ∀ l, H l = none → Q (.ref l) (upd H l (.tup ys))) ∨ (SqT Kf H p ys ∧ Q (.ref p) H))) t) (aCB wTuple ag) := by
  subst hK
  exact je_callTy call_tuple_of s_tuple hm PyProof.Rows.boot_tuple ha hg (by decide) (by decide) he hpl
end Bd
/-! BhH: tuple * 1, tuple * 0. -/
namespace Bd
open PySem L2
open PyProof.Rows
theorem tuple_mul1 (l : Addr) (items : Array Value) (n : Nat) (dd : Option Addr) (sl : Array (Option Value)) (u : Tok) :
    Meets (Builtin.«tuple.__mul__» ⟨[.ref l, .int 1 u], []⟩) (fun _ R s => s.heap.get? l = some { cls := .type "tuple", dict := dd, data := .seq items n, slots := sl } ∧ R (.ok (.ret (Value.ref l))) s) :=
  .of_wp fun prog w A R s h => by
    obtain ⟨hp, g, d, tk, os⟩ := s
    obtain ⟨hl, h⟩ := h
    have f1 := AutoSeq1.idx_int
    have c0 : (decide ((1 : Int) < -(2 ^ 63)) || decide ((1 : Int) ≥ 2 ^ 63)) = false := by decide
    have c1 : (items.isEmpty || (1 : Int) == 1) = true := by simp
    wp_walk using wpAny_loadPart' hl
    repeat (first
      | (refine wpAny_ite_false (decide_eq_false (by rw [c0]; exact Bool.false_ne_true)) ?_; wp_walk using wpAny_loadPart' hl)
      | (refine wpAny_ite_true (decide_eq_true c1) ?_; wp_walk using wpAny_loadPart' hl))
    exact ⟨_, rfl, h⟩
theorem tuple_mul0 (l : Addr) (items : Array Value) (n : Nat) (dd : Option Addr) (sl : Array (Option Value)) (u : Tok) (hi : items.isEmpty = false) :
    Meets (Builtin.«tuple.__mul__» ⟨[.ref l, .int 0 u], []⟩) (fun _ R s => s.heap.get? l = some { cls := .type "tuple", dict := dd, data := .seq items n, slots := sl } ∧
      R (.ok (.ret (Value.ref s.heap.objs.size))) { s with heap := s.heap.push { cls := Value.type "tuple", data := Data.seq #[] }, toks := s.toks }) :=
  .of_wp fun prog w A R s h => by
    obtain ⟨hp, g, d, tk, os⟩ := s
    obtain ⟨hl, h⟩ := h
    have f1 := AutoSeq1.idx_int
    have c0 : (decide ((0 : Int) < -(2 ^ 63)) || decide ((0 : Int) ≥ 2 ^ 63)) = false := by decide
    have c1 : (items.isEmpty || (0 : Int) == 1) = false := by rw [hi]; decide
    have c2 : (decide ((0 : Int) ≤ 0) || items.isEmpty) = true := by simp
    wp_walk using wpAny_loadPart' hl
    repeat (first
      | (refine wpAny_ite_false (decide_eq_false (by rw [c0]; exact Bool.false_ne_true)) ?_; wp_walk using wpAny_loadPart' hl)
      | (refine wpAny_ite_false (decide_eq_false (by rw [c1]; exact Bool.false_ne_true)) ?_; wp_walk using wpAny_loadPart' hl)
      | (refine wpAny_ite_true (decide_eq_true c2) ?_; wp_walk using wpAny_loadPart' hl))
    exact ⟨_, rfl, h⟩
def rRepT1 (K : PySem.W.Frag) : R2 := fun x y H Q => ∃ l xs, x = .ref l ∧ y = .int 1 ∧ SqT K H l xs ∧ Q (.ref l) H
def rRepT0 (K : PySem.W.Frag) : R2 := fun x y H Q => ∃ l xs, x = .ref l ∧ y = .int 0 ∧ SqT K H l xs ∧ xs ≠ [] ∧ ∀ p, H p = none → Q (.ref p) (upd H p (.tup []))
section
variable {X : Cx}
theorem op_repT1 : OpR X (binaryOp .Mult) (rRepT1 X.K) := by
  intro pins s σ H x y v u Q I rx ry h
  obtain ⟨l, xs, rfl, rfl, hT, q⟩ := h
  cases rx
  obtain ⟨t, rfl⟩ := ry
  obtain ⟨its, r, ⟨⟨cls, dd, data, sl⟩, ho, hc, n, hd⟩, hs⟩ := I.tuple hT
  simp only at hc hd
  subst hc hd
  refine wpAny_binaryOp_repeat_ref (T := "tuple") (U := "int") (by decide) ⟨_, ho, rfl⟩ (fun s' => typeIs_int s' 1 t) noFill_tuple_mul F.fills_int_mul F.slot_int_rmul repeat_tuple F.slot_int_index.lookup
    (call_meets F.slot_int_rmul (typeIs_int s 1 t) F.entry_int_rmul (F.args_int_rmul_2 _ _) (int_rmul_tuple 1 t l its.toArray n dd sl)
      ⟨ho, rfl, ⟨_, ho, rfl⟩, call_meets F.slot_tuple_mul ⟨_, ho, rfl⟩ F.entry_tuple_mul (F.args_tuple_mul_2 _ _) (tuple_mul1 l its.toArray n dd sl t) ⟨ho, ?_⟩⟩)
  exact ⟨.ref l, H, I, rfl, q⟩
theorem op_repT0 : OpR X (binaryOp .Mult) (rRepT0 X.K) := by
  intro pins s σ H x y v u Q I rx ry h
  obtain ⟨l, xs, rfl, rfl, hT, hne, q⟩ := h
  cases rx
  obtain ⟨t, rfl⟩ := ry
  obtain ⟨its, r, ⟨⟨cls, dd, data, sl⟩, ho, hc, n, hd⟩, hs⟩ := I.tuple hT
  simp only at hc hd
  subst hc hd
  have hn : its ≠ [] := fun e => hne (by
    have hle := r.length
    rw [e] at hle
    exact List.eq_nil_of_length_eq_zero hle)
  have hi : its.toArray.isEmpty = false := by
    cases its with
    | nil => exact absurd rfl hn
    | cons a b => rfl
  refine wpAny_binaryOp_repeat_ref (T := "tuple") (U := "int") (by decide) ⟨_, ho, rfl⟩ (fun s' => typeIs_int s' 0 t) noFill_tuple_mul F.fills_int_mul F.slot_int_rmul repeat_tuple F.slot_int_index.lookup
    (call_meets F.slot_int_rmul (typeIs_int s 0 t) F.entry_int_rmul (F.args_int_rmul_2 _ _) (int_rmul_tuple 0 t l its.toArray n dd sl)
      ⟨ho, rfl, ⟨_, ho, rfl⟩, call_meets F.slot_tuple_mul ⟨_, ho, rfl⟩ F.entry_tuple_mul (F.args_tuple_mul_2 _ _) (tuple_mul0 l its.toArray n dd sl t hi) ⟨ho, ?_⟩⟩)
  refine ⟨.ref s.heap.objs.size, _, I.laid (t' := s.toks) (o := .tup []) (fun b ob q => Heap.get?_push_of_some _ q) (Nat.le_refl _) ?_, rfl, q _ (I.hok.fresh (Nat.le_refl _))⟩
  exact ⟨by show 0 ≤ sizeLine; exact Nat.zero_le _, [], .nil, IsTup.new _ _⟩
end
def rMulT (K : PySem.W.Frag) : R2 := fun x y H Q => rRepT K x y H Q ∨ rRepT1 K x y H Q ∨ rRepT0 K x y H Q
@[simp] def wMulT (x y : D) (P : D → Prop) : Prop := match x, y with
  | .tup ds, .int n => (ds ≠ [] ∧ 0 ≤ n ∧ n ≤ 1000 ∧ ds.length ≤ 1000) ∧ P (.tup (List.replicate n.toNat ds).flatten)
  | _, _ => False
theorem s_mulT {K : PySem.W.Frag} : SndR2 K Any (rMulT K) wMulT := by
  intro w H x y dx dy P Q hc hI r1 r2 hf hq
  unfold wMulT at hf
  split at hf
  · rename_i ds n
    cases r1 with
    | tup hx rx =>
      cases r_int r2
      obtain ⟨⟨h1, h2, h3, h4⟩, h5⟩ := hf
      have ne : ∀ {xs : List V} {ds : List D}, RA K w H xs ds → ds ≠ [] → xs ≠ [] := fun r h e => by subst e; cases r; exact h rfl
      by_cases e0 : n = 0
      · subst e0
        refine .inr (.inr ⟨_, _, rfl, rfl, tup_sq hx, ne rx h1, fun p hp => ?_⟩)
        obtain ⟨s, r⟩ := new_tup (w := w) hI hp (.nil : RA K w H [] [])
        exact hq _ _ _ s r h5
      · by_cases e1 : n = 1
        · subst e1
          refine .inr (.inl ⟨_, _, rfl, rfl, tup_sq hx, hq _ _ _ (Step.refl hI) (.tup hx rx) ?_⟩)
          simpa using h5
        · refine .inl ⟨_, _, _, rfl, rfl, tup_sq hx, ne rx h1, by omega, h3, by rw [rx.length]; exact h4, fun p hp => ?_⟩
          obtain ⟨s, r⟩ := new_tup (w := w) hI hp (ra_rep rx _)
          exact hq _ _ _ s r h5
  · exact hf.elim
theorem jo_mulT {X : Cx} : JO X (binaryOp .Mult) (rMulT X.K) wMulT := ⟨op_repT.or (op_repT1.or op_repT0), s_mulT⟩
end Bd
/-! CaA: defs and methods over the caller's cells, which may raise. -/
namespace Bd
open PySem L2
section
variable {K : PySem.W.Frag} {F : Fr} {gs : List (V × D)} {pv os os1 os2 : Os} {cs c1 c2 : Cs} {σ : L2.St} {H H1 H' : Hp} {Γ : Gs}
/-- at a call: the callee's state -/
theorem Stt.call (st : Stt K F pv os1 c1 H1) : Stt K ⟨F.w.plus pv, os1, H1⟩ [] os1 c1 H1 := by
  have nd := st.nd
  rw [List.map_append, List.nodup_append] at nd
  refine ⟨Ext.rfl' _, ⟨⟨st.inv.1, fun p hp => (by cases hp)⟩, st.inv.2⟩, fun p hp => ?_, nd.2.1, st.cel.mono (w := F.at pv os1) (w' := Fr.at ⟨F.w.plus pv, os1, H1⟩ [] os1) rfl (Ext.rfl' _), fun p hp => by cases hp⟩
  have hp : p ∈ os1 := hp
  refine ⟨fun m => ?_, vis_in (List.mem_append_left _ (List.mem_map_of_mem hp))⟩
  rcases List.mem_append.mp m with m | m
  · exact nd.2.2 p.1 m p.1 (List.mem_map_of_mem hp) rfl
  · exact (st.fr p (List.mem_append_right _ hp)).1 m
/-- .. and back -/
theorem Stt.ret (st : Stt K F pv os1 c1 H1) (s2 : Stt K ⟨F.w.plus pv, os1, H1⟩ [] os2 c2 H') : Ext ((F.at pv os1).v H1) ((F.at pv os2).v H') ∧ Stt K F pv os2 c2 H' := by
  have nd := st.nd
  rw [List.map_append, List.nodup_append] at nd
  have e : Ext ((F.at pv os1).v H1) ((F.at pv os2).v H') := s2.ext
  have iv : (F.at pv os2).I H' := ⟨s2.inv.1.1, s2.inv.2⟩
  have fr2 : ∀ p, p ∈ os2 → p.1 ∉ (F.w.plus pv).ms ∧ (F.at pv os1).v H1 p.1 = none := s2.fr
  refine ⟨e, ⟨st.ext.tr e, iv, fun p hp => ?_, ?_, s2.cel.mono (w := Fr.at ⟨F.w.plus pv, os1, H1⟩ [] os2) (w' := F.at pv os2) rfl (Ext.rfl' _), st.pk⟩⟩
  · rcases List.mem_append.mp hp with m | m
    · exact st.fr p (List.mem_append_left _ m)
    · obtain ⟨f1, f2⟩ := fr2 p m
      refine ⟨fun z => f1 (List.mem_append_right _ z), ?_⟩
      cases q : (F.w.plus F.os0).v F.H0 p.1 with
      | none => rfl
      | some u =>
        have := st.ext p.1 u q
        rw [f2] at this
        cases this
  · rw [List.map_append, List.nodup_append]
    refine ⟨nd.1, s2.nd, fun a ha b hb z => ?_⟩
    obtain ⟨q, hq, e⟩ := List.mem_map.mp hb
    exact (fr2 q hq).1 (List.mem_append_left _ (by rw [e, ← z]; exact ha))
theorem callSX_core {C' : WC} {A : AXS} {x : XD} {P : D → Cs → Prop} {Q : VK} {vs : List V} {ds : List D} (hC : FP K F C') (r1 : Rel K F gs pv os1 c1 σ H1 Γ) (ra : RA K (F.at pv os1) H1 vs ds) (p1 : A ds c1 P x)
    (hq : ∀ v H' d os' cs', Rel K F ((v, d) :: gs) pv os' cs' σ H' Γ → P d cs' → Q v H') : spSX K C' A vs H1 Q (EXK K F x) := by
  refine ⟨F.w.plus pv, os1, c1, ds, P, x, hC _ _ _ _ r1.st, r1.st.call, ra, p1, fun v H' d os2 c2 s2 r p => ?_, ?_⟩
  · obtain ⟨e, s3⟩ := r1.st.ret s2
    exact hq v H' d os2 c2 ((r1.mv s3 e).gcons r) p
  · rintro cls d H' ⟨c, ns, dd, vs', ds', os2, c2, rfl, rfl, hv, hl, s2, rv, hx⟩
    obtain ⟨e, s3⟩ := r1.st.ret s2
    obtain ⟨e2, s4⟩ := s3.nopv
    exact ⟨c, ns, dd, vs', ds', os2, c2, rfl, rfl, e2 _ _ hv, hl, s4, RwA.mono e2 rv, hx⟩
end
/-- no exception is wished -/
abbrev xNo : XD := fun _ _ _ _ => False
theorem tkF {X : Cx} {Kf : PySem.W.Frag} {Fm : Fr} : TakesX X Kf Fm xNo := fun u s' ⟨_, _, _, _, _, _, _, _, _, _, _, _, _, _, _, _, ⟨_, _, _, _, _, _, _, _, _, _, _, _, _, h⟩⟩ => h.elim
@[simp] abbrev aCallSX (A : AXS) (dds : List D) (x : XD) (a : ATA) : ATE := fun Γ c P => a Γ c fun ds c1 => A (ds ++ dds) c1 P x
/-- o.m(..), o a cell or data -/
@[simp] abbrev aMethSX (cn m : Str) (A : AXS) (x : XD) (o : ATE) (a : ATA) : ATE := fun Γ c P => o Γ c fun v c1 => match v with
  | .adr p => match c1.lookup p with
    | some (.obj c' ns ds) => (c' = cn ∧ (ns.zip ds).lookup m = none) ∧ a Γ c1 fun xs c2 => A (.adr p :: xs) c2 P x
    | _ => False
  | .obj c' ns ds => (c' = cn ∧ (ns.zip ds).lookup m = none) ∧ a Γ c1 fun xs c2 => A (.obj c' ns ds :: xs) c2 P x
  | _ => False
section
variable {K : PySem.W.Frag} {F : Fr} {C' : WC} {A : AXS} {x : XD}
theorem snd_callSX {dvs : List V} {dds : List D} {t : TA} {a : ATA} (hC : FP K F C') (hd : ∀ (w : Wd) H, RA K w H dvs dds) (h : SndA K F t a) : SndE K F (tCall (spSX K C' A) dvs (EXK K F x) t) (aCallSX A dds x a) := by
  intro gs pv os cs σ H Γ P Q r0 ha hq
  refine h gs pv os cs σ H Γ _ _ r0 ha fun vs H1 ds os1 c1 r1 ra p1 => ?_
  exact callSX_core hC r1 (ra.append (hd _ H1)) p1 hq
theorem snd_methSX {cn m : Str} {to : TE} {o : ATE} {t : TA} {a : ATA} (hC : FP K F C') (h1 : SndE K F to o) (h2 : SndA K F t a) : SndE K F (tMeth (He.ga K cn) m (spSX K C' A) [] (EXK K F x) to t) (aMethSX cn m A x o a) := by
  intro gs pv os cs σ H Γ P Q r0 ha hq
  refine h1 gs pv os cs σ H Γ _ _ r0 ha fun v H1 d os1 c1 r1 p1 => ?_
  split at p1
  · split at p1
    · rename_i e0
      obtain ⟨⟨rfl, hl⟩, p1⟩ := p1
      cases r_adr r1.head
      obtain ⟨dx, xs, _, g1, _, g3⟩ := cell_obj r1 e0
      refine ⟨_, dx, _, rfl, g1, zip_none g3 hl, ?_⟩
      refine h2 _ pv os1 c1 σ H1 Γ _ _ r1 p1 fun vs H2 es os2 c2 r2 ra p2 => ?_
      rw [List.append_nil]
      exact callSX_core hC r2.tail (.cons (.adr _) ra) p2 hq
    · exact p1.elim
  · obtain ⟨⟨rfl, hl⟩, p1⟩ := p1
    obtain ⟨b, dx, xs, rfl, g1, g2, g3⟩ := obj_inj r1.head
    refine ⟨b, dx, _, rfl, g1, zip_none g3 hl, ?_⟩
    refine h2 _ pv os1 c1 σ H1 Γ _ _ r1 p1 fun vs H2 es os2 c2 r2 ra p2 => ?_
    rw [List.append_nil]
    exact callSX_core hC r2.tail (.cons r2.head ra) p2 hq
  · exact p1.elim
end
/-- a def over the caller's cells -/
structure FncSX (P : Program) (w : World) (K : PySem.W.Frag) (mg : Str → Option Value) (base : Heap) (x : Str) (k : Nat) (ps : List Str) (C : WC) (Ab : AXS) : Prop where
  ex : ∃ fd, FnOk P w K mg base (L2.CX P w) k (He.ga K x) fd ps (spSX K C Ab) ∧ Binds K fd ps []
  m : mg x = some (.ref (He.ga K x))
  k : PySem.W.keepIn K (.ref (He.ga K x)) = true
/-- a method over the caller's cells -/
structure FncMSX (P : Program) (w : World) (K : PySem.W.Frag) (mg : Str → Option Value) (base : Heap) (cn m : Str) (k : Nat) (ps : List Str) (C : WC) (Ab : AXS) : Prop where
  ex : ∃ fd, FnOk P w K mg base (L2.CX P w) k (ma' K cn m) fd ps (spSX K C Ab) ∧ Binds K fd ps []
  mt : Meth K (He.ga K cn) m (ma' K cn m)
  cl : Cls K (He.ga K cn)
section
variable {X : Cx} {Fm : Fr} {C' : WC} {e o : Expr} {es : List Expr} {pos apos p : Pos} {te to : TE} {ae ao : ATE} {t : TA} {ag : ATA} {cn m x : Str} {k j : Nat} {ps : List Str} {A : AXS} {Kf : PySem.W.Frag} {xd : XD}
theorem je_fnsx (hK : X.K = Kf) (tk : TakesX X Kf Fm xd) (F : FncSX X.prog X.w Kf X.mg X.base x k ps C' A) (hr : Room j X.A) (hk : k ≤ j) (hC : FP Kf Fm C') (ha : JA X Fm (e :: es) t ag) (hg : Gl X x := by rfl) (hdb : (x == ("__debug__" : Str)) = false := by decide) (he : starEach (e :: es) X.env = (false, eval e X.env) :: starEach es X.env := by rfl) (hpl : (backTo pos (starEach es X.env)).any (·.1) = false := by rfl) :
    JE X Fm (.Call (.Name x p) (e :: es) [] pos) (tCall (spSX Kf C' A) [] (EXK Kf Fm xd) t) (aCallSX A [] xd ag) := by
  subst hK
  obtain ⟨fd, F1, b⟩ := F.ex
  exact ⟨pe_call F1 (hr.mono hk) hg F.m F.k b .nil (passes_call tk fun _ _ _ _ h => h) ha.p hdb he hpl, snd_callSX hC (fun _ _ => .nil) ha.s⟩
theorem je_methSX {pl : Sem Bool} (hK : X.K = Kf) (tk : TakesX X Kf Fm xd) (F : FncMSX X.prog X.w Kf X.mg X.base cn m k ps C' A) (hr : Room j X.A) (hk : k ≤ j) (hC : FP Kf Fm C') (ho : JE X Fm o to ao) (ha : JA X Fm (e :: es) t ag)
    (hst : starEach (e :: es) X.env = (false, eval e X.env) :: starEach es X.env := by rfl) (hpl : (backTo pos (starEach es X.env)).any (·.1) = false := by rfl)
    (ht : eval (.Call (.Attribute o m apos) (e :: es) [] pos) X.env = (do
      let ov ← eval o X.env
      standAt apos.atName
      let (f, first) ← holding [ov] (getMethod ov m pl)
      callWith pos f first (backTo pos (starEach (e :: es) X.env)) (backToKw pos (keywordEach [] X.env))) := by rfl) :
    JE X Fm (.Call (.Attribute o m apos) (e :: es) [] pos) (tMeth (He.ga Kf cn) m (spSX Kf C' A) [] (EXK Kf Fm xd) to t) (aMethSX cn m A xd ao ag) := by
  subst hK
  obtain ⟨fd, F1, b⟩ := F.ex
  exact ⟨pe_meth ho.p F.cl F.mt F1 (hr.mono hk) b .nil (passes_call tk fun _ _ _ _ h => h) ha.p hst hpl ht, snd_methSX hC ho.s ha.s⟩
theorem je_methSX0 {pl : Sem Bool} (hK : X.K = Kf) (tk : TakesX X Kf Fm xd) (F : FncMSX X.prog X.w Kf X.mg X.base cn m k ps C' A) (hr : Room j X.A) (hk : k ≤ j) (hC : FP Kf Fm C') (ho : JE X Fm o to ao)
    (ht : eval (.Call (.Attribute o m apos) [] [] pos) X.env = (do
      let ov ← eval o X.env
      standAt apos.atName
      let (f, first) ← holding [ov] (getMethod ov m pl)
      callWith pos f first (backTo pos (starEach [] X.env)) (backToKw pos (keywordEach [] X.env))) := by rfl) :
    JE X Fm (.Call (.Attribute o m apos) [] [] pos) (tMeth (He.ga Kf cn) m (spSX Kf C' A) [] (EXK Kf Fm xd) to tNil) (aMethSX cn m A xd ao aNil) := by
  subst hK
  obtain ⟨fd, F1, b⟩ := F.ex
  exact ⟨pe_meth0 ho.p F.cl F.mt F1 (hr.mono hk) b .nil (passes_call tk fun _ _ _ _ h => h) ht, snd_methSX hC ho.s snd_nil⟩
end
section
variable {P : Program} {w : World} {K : PySem.W.Frag} {mg : Str → Option Value} {base : Heap} {x cn m q : Str} {st : Stmt} {N ps : List Str} {k : Nat} {C : WC} {a : XD → ATS}
theorem fncSX_mk {Ab : AXS}
    (hF : ∃ fd, FnS K x x st [] (He.ga K x) fd) (hm : mg x = some (.ref (He.ga K x))) (S : FnScope N ps (defScope st))
    (hb : ∀ (kV doc pm : Value) (an : Option Addr) (cdv ct : Value) (us : List Value), us.length = ps.length → bindArgs (PySem.W.fnOf x x (defArgs st) (defBody st) (defScope st) .none kV doc pm an cdv ct) ⟨us, []⟩ = pure (ps.zip us))
    (hlen : ∀ ds c P Xc, Ab ds c P Xc → ds.length = ps.length) (hA : ∀ ds c P Xc, Ab ds c P Xc → a Xc { nx := fun _ c' => ∃ n, P .non (c'.drop n), rt := fun d c' => ∃ n, P d (c'.drop n) } (startG N.length ds) c)
    (hJ : ∀ (Fm : Fr) (xd : XD) (fd : FuncData) (cdv : Value) (A : Around) (outer : List Env) (s : Shared) (H : Hp) (E : XK), TakesX (cxOf (L2.CX P w) P w K mg base N x (defScope st) (He.ga K x) cdv A outer s H E) K Fm xd → C Fm.w → Room k (A.deeper (PyProof.Rows.envOfC x (defScope st) s.heap.objs.size (He.ga K x) cdv)) →
      ∃ t, JSs (cxOf (L2.CX P w) P w K mg base N x (defScope st) (He.ga K x) cdv A outer s H E) Fm (defBody st) t (a xd)) :
    FncSX P w K mg base x (k + 1) ps C Ab := by
  obtain ⟨fd, F⟩ := hF
  exact ⟨⟨fd, fn_ruleSX F S hlen hA (fun Fm xd => hJ Fm xd fd), F.bindsN hb⟩, hm, F.kp⟩
theorem fncMSX_mk {Ab : AXS}
    (hF : ∃ fd, FnS K m q st [] (ma' K cn m) fd) (mt : Meth K (He.ga K cn) m (ma' K cn m)) (cl : Cls K (He.ga K cn)) (S : FnScope N ps (defScope st))
    (hb : ∀ (kV doc pm : Value) (an : Option Addr) (cdv ct : Value) (us : List Value), us.length = ps.length → bindArgs (PySem.W.fnOf m q (defArgs st) (defBody st) (defScope st) .none kV doc pm an cdv ct) ⟨us, []⟩ = pure (ps.zip us))
    (hlen : ∀ ds c P Xc, Ab ds c P Xc → ds.length = ps.length) (hA : ∀ ds c P Xc, Ab ds c P Xc → a Xc { nx := fun _ c' => ∃ n, P .non (c'.drop n), rt := fun d c' => ∃ n, P d (c'.drop n) } (startG N.length ds) c)
    (hJ : ∀ (Fm : Fr) (xd : XD) (fd : FuncData) (cdv : Value) (A : Around) (outer : List Env) (s : Shared) (H : Hp) (E : XK), TakesX (cxOf (L2.CX P w) P w K mg base N q (defScope st) (ma' K cn m) cdv A outer s H E) K Fm xd → C Fm.w → Room k (A.deeper (PyProof.Rows.envOfC q (defScope st) s.heap.objs.size (ma' K cn m) cdv)) →
      ∃ t, JSs (cxOf (L2.CX P w) P w K mg base N q (defScope st) (ma' K cn m) cdv A outer s H E) Fm (defBody st) t (a xd)) :
    FncMSX P w K mg base cn m (k + 1) ps C Ab := by
  obtain ⟨fd, F⟩ := hF
  exact ⟨⟨fd, fn_ruleSX F S hlen hA (fun Fm xd => hJ Fm xd fd), F.bindsN hb⟩, mt, cl⟩
/-- a promise that never holds: at the bottom of a recursion -/
theorem fncMSX_false {Ab : AXS} (hF : ∃ fd, FnS K m q st [] (ma' K cn m) fd) (mt : Meth K (He.ga K cn) m (ma' K cn m)) (cl : Cls K (He.ga K cn))
    (hb : ∀ (kV doc pm : Value) (an : Option Addr) (cdv ct : Value) (us : List Value), us.length = ps.length → bindArgs (PySem.W.fnOf m q (defArgs st) (defBody st) (defScope st) .none kV doc pm an cdv ct) ⟨us, []⟩ = pure (ps.zip us))
    (h : ∀ ds c P Xc, ¬ Ab ds c P Xc) : FncMSX P w K mg base cn m k ps C Ab := by
  obtain ⟨fd, F⟩ := hF
  refine ⟨⟨fd, ?_, F.bindsN hb⟩, mt, cl⟩
  exact ⟨fun vs H Q E ⟨_, _, _, _, _, _, _, _, _, z, _⟩ => (h _ _ _ _ z).elim, fun A outer s H args us vs Q E hr he hb hv ⟨_, _, _, _, _, _, _, _, _, z, _⟩ => (h _ _ _ _ z).elim⟩
end
end Bd
/-! CaB: dicts as cells. -/
namespace L2
open PySem PySem.Spec PyProof.Rows
section
variable {X : Cx} {pins : List (Addr × Obj)} {σ : St} {H : Hp} {s : Shared} {a b : Addr} {r : Value} {d : V} {k : List Key} {A : Around} {E : Value → Shared → Prop}
/-- d.setdefault(k, x), k a tuple -/
theorem d_setdT {kvs : List (List Key × V)} {Q : Value → Shared → Prop} (hu : A.units + 1 < cLine) (I : Inv X pins σ H s) (e : H a = some (.dT kvs)) (eb : H b = some (.tup (k.map kV))) (rd : RelV d r) (hl : kvs.length < sizeLine)
    (h1 : ∀ v, valV kvs k = some v → ∀ (w' : Value) (s' : Shared), Inv X pins σ H s' → RelV v w' → Q w' s') (h2 : valV kvs k = none → ∀ (w' : Value) (s' : Shared), Inv X pins σ (upd H a (.dT (putK kvs k d))) s' → RelV d w' → Q w' s') :
    wpAny (model X.prog X.w) A (call (.builtin "dict.setdefault") [.ref a, .ref b, r]) Q E s := by
  obtain ⟨z, hd, xs, rel, dd⟩ := dt_of I.hok e
  have hz : xs.length ≤ sizeLine := by rw [← Paired.length rel]; exact z
  refine call_meetsIn PySem.F.slot_dict_setdefault dd.typeIs PySem.F.entry_dict_setdefault (PySem.F.args_dict_setdefault_3 _ _ _) (meetsH_dict_setdefault (tupleKind (mixKind X.prog X.w)) a b hd r) ⟨tupleKind_room_in1 hu, k, xs, key_of I.hok eb, dd, hz, fun p hp => ?_, fun hn h' dd' hs => ?_⟩
  · have q := rel.val k
    rw [hp] at q
    cases q0 : valV kvs k with
    | none =>
      rw [q0] at q
      exact (show False from q).elim
    | some v0 =>
      rw [q0] at q
      exact h1 v0 q0 _ _ (I.tok _) q
  · have q := rel.val k
    rw [hn] at q
    cases q0 : valV kvs k with
    | some v0 =>
      rw [q0] at q
      exact (show False from q).elim
    | none =>
      have hl2 : (putK kvs k d).length ≤ sizeLine := by
        have := length_putK kvs k d
        omega
      obtain ⟨q, es, ep, hq, g2, g3, g4, _, g5⟩ := dd'
      refine h2 q0 _ _ (d_write I (by rw [e]; exact True.intro) hs ⟨q, hq⟩ ⟨hl2, hd, _, (rel.put k eb rd).keeps fun c ys ec => ?_, q, es, ep, hq, g2, g3, g4, g5⟩) rd
      rw [upd_ne (ne_of ec e (fun z => nomatch z))]
      exact ec
end
/-- d.setdefault(y, z), whatever the keys -/
def tDSetdT (td ty tx : TE) : TE := fun σ H Q => td σ H fun x H1 => ∃ a, x = .ref a ∧ IsD H1 a ∧ ty σ H1 fun y H2 => tx σ H2 fun z H3 => ∃ (kvs : List (List Key × V)) (k : List Key) (b : Addr), H3 a = some (.dT kvs) ∧ y = .ref b ∧ H3 b = some (.tup (k.map kV)) ∧ kvs.length < sizeLine ∧
  (∀ v, valV kvs k = some v → Q v H3) ∧ (valV kvs k = none → Q z (upd H3 a (.dT (putK kvs k z))))
section
variable {X : Cx} {o e f : Expr} {td ty tx : TE} {apos cpos : Pos}
theorem pe_dsetdT (hu : X.A.units + 1 < cLine) (ho : PE X o td) (he : PE X e ty) (hf : PE X f tx) (m : M2 X o "setdefault" apos e f cpos) : PE X (.Call (.Attribute o "setdefault" apos) [e, f] [] cpos) (tDSetdT td ty tx) := by
  refine ⟨fun pins s σ H Q I h => ?_⟩
  refine wpAny_Call_method m.base m.few m.line PySem.F.plainAttrs_dict PySem.F.slot_dict_setdefault PySem.F.type_dict_setdefault (thn (ho.run pins s σ H _ I h) fun u s1 ⟨x, H1, I1, rx, a, ex, d, q1⟩ => ?_)
  subst ex
  obtain rfl : u = Value.ref a := rx
  obtain ⟨t1, t2, _⟩ := isD_at I1 d
  refine ⟨t1, t2, ?_⟩
  rw [m.trees]
  refine Calls.callWith_builtin rfl (Calls.evalArgs_plain (Calls.spliced_cons (thn (he.run pins s1 σ H1 _ I1 q1) fun iv s2 ⟨y, H2, I2, ry, q2⟩ =>
    Calls.spliced_cons (thn (hf.run pins s2 σ H2 _ I2 q2) fun fv s3 ⟨z, H3, I3, rz, kvs, k, b, ea, ey, eb, hl, q3, q4⟩ => Calls.spliced_nil ?_))))
  subst ey
  obtain rfl : iv = Value.ref b := ry
  exact d_setdT hu I3 ea eb rz hl (fun v hv w' s4 I4 rw' => ⟨v, _, I4, rw', q3 v hv⟩) fun hn w' s4 I4 rw' => ⟨z, _, I4, rw', q4 hn⟩
/-- {k: v}, k a tuple -/
def tDisp1T (tk tv : TE) : TE := fun σ H Q => ∀ p, H p = none → tk σ (upd H p (.dT [])) fun x H1 => tv σ H1 fun y H2 => H2 p = some (.dT []) ∧ ∃ (k : List Key) (b : Addr), x = .ref b ∧ H2 b = some (.tup (k.map kV)) ∧ Q (.ref p) (upd H2 p (.dT [(k, y)]))
end
end L2
namespace Bd
open PySem L2
/-- k in d, d data or a cell -/
@[simp] abbrev aInDC (a b : ATE) : ATE := fun Γ c P => a Γ c fun y c1 => b Γ c1 fun x c2 => match x with
  | .adr p => match c2.lookup p with
    | some dd => match dfind dd y with
      | some o => P (.bl o.isSome) c2
      | none => False
    | none => False
  | x => match dfind x y with
    | some o => P (.bl o.isSome) c2
    | none => False
@[simp] abbrev aNotInDC (a b : ATE) : ATE := fun Γ c P => a Γ c fun y c1 => b Γ c1 fun x c2 => match x with
  | .adr p => match c2.lookup p with
    | some dd => match dfind dd y with
      | some o => P (.bl (!o.isSome)) c2
      | none => False
    | none => False
  | x => match dfind x y with
    | some o => P (.bl (!o.isSome)) c2
    | none => False
/-- d[k] = v, d a cell -/
@[simp] abbrev aDPut (o i e : ATE) : ATS := fun A Γ c => e Γ c fun v c1 => o Γ c1 fun x c2 => i Γ c2 fun y c3 => match x with
  | .adr p => match c3.lookup p with
    | some (.dcl ks ds) => match keyD y with
      | some k => ks.length ≤ 1000000 ∧ A.nx Γ (cset c3 p (.dcl (setKs ks k) (putG ks ds k v)))
      | none => False
    | some (.dct ks ds) => match keyT y with
      | some k => ks.length ≤ 1000000 ∧ A.nx Γ (cset c3 p (.dct (setKs ks k) (putG ks ds k v)))
      | none => False
    | _ => False
  | _ => False
/-- {} as a new cell, keys ints and texts, or tuples -/
@[simp] abbrev aDNewK : ATE := fun _ c P => ∀ p : Addr, c.lookup p = none → P (.adr p) ((p, .dcl [] []) :: c)
@[simp] abbrev aDNewT : ATE := fun _ c P => ∀ p : Addr, c.lookup p = none → P (.adr p) ((p, .dct [] []) :: c)
/-- d.get(k, z) -/
@[simp] abbrev aDGet2 (o e f : ATE) : ATE := fun Γ c P => o Γ c fun x c1 => match x with
  | .adr p => match c1.lookup p with
    | some (.dcl _ _) => e Γ c1 fun y c2 => f Γ c2 fun z c3 => match c3.lookup p with
      | some dd => match dfind dd y with
        | some o => P (o.getD z) c3
        | none => False
      | none => False
    | some (.dct _ _) => e Γ c1 fun y c2 => f Γ c2 fun z c3 => match c3.lookup p with
      | some dd => match dfind dd y with
        | some o => P (o.getD z) c3
        | none => False
      | none => False
    | _ => False
  | .dic ob ks ds => e Γ c1 fun y c2 => f Γ c2 fun z c3 => match dfind (.dic ob ks ds) y with
    | some o => P (o.getD z) c3
    | none => False
  | .dcl ks ds => e Γ c1 fun y c2 => f Γ c2 fun z c3 => match dfind (.dcl ks ds) y with
    | some o => P (o.getD z) c3
    | none => False
  | _ => False
/-- d.setdefault(k, z), keys tuples, d a cell -/
@[simp] abbrev aDSetdT (o e f : ATE) : ATE := fun Γ c P => o Γ c fun x c1 => match x with
  | .adr p => match c1.lookup p with
    | some (.dct _ _) => e Γ c1 fun y c2 => f Γ c2 fun z c3 => match c3.lookup p with
      | some (.dct ks ds) => match keyT y with
        | some k => ks.length ≤ 1000000 ∧ match getK ks ds k with
          | some v => P v c3
          | none => P z (cset c3 p (.dct (setKs ks k) (putG ks ds k z)))
        | none => False
      | _ => False
    | _ => False
  | _ => False
section
variable {K : PySem.W.Frag} {F : Fr}
theorem snd_inDC {neg : Bool} {r : R2} (hr : ∀ y x H Q, (∃ a o, x = .ref a ∧ DGet H a y o ∧ Q (.bl (if neg = true then !o.isSome else o.isSome)) H) → r y x H Q) {ta tb : TE} {a b f : ATE} (hf : f = if neg = true then aNotInDC a b else aInDC a b) (h1 : SndE K F ta a) (h2 : SndE K F tb b) : SndE K F (tOp r ta tb) f := by
  subst hf
  intro gs pv os cs σ H Γ P Q r0 ha hq
  have key : ∀ (v u : V) (H2 : Hp) (d e : D) (os2 : Os) (c2 : Cs), Rel K F ((u, e) :: (v, d) :: gs) pv os2 c2 σ H2 Γ → (match e with
      | .adr p => match c2.lookup p with
        | some dd => match dfind dd d with
          | some o => P (.bl (if neg = true then !o.isSome else o.isSome)) c2
          | none => False
        | none => False
      | x => match dfind x d with
        | some o => P (.bl (if neg = true then !o.isSome else o.isSome)) c2
        | none => False) → r v u H2 Q := by
    intro v u H2 d e os2 c2 r2 ha2
    split at ha2
    · rename_i p
      split at ha2
      · rename_i dd el
        split at ha2
        · rename_i o ef
          cases r_adr r2.head
          obtain ⟨ov, g, h⟩ := cell_find r2 el r2.tail.head ef
          have eq : ov.isSome = o.isSome := by rcases h with ⟨rfl, rfl⟩ | ⟨v, d, rfl, rfl, _⟩ <;> rfl
          exact hr _ _ _ _ ⟨p, ov, rfl, g, by rw [eq]; exact hq _ H2 _ os2 c2 (r2.tail.tail.gcons (.bl _)) ha2⟩
        · exact ha2.elim
      · exact ha2.elim
    · split at ha2
      · rename_i o ef
        obtain ⟨a, ov, rfl, g, h⟩ := dfind_ok r2.head r2.tail.head ef
        have eq : ov.isSome = o.isSome := by rcases h with ⟨rfl, rfl⟩ | ⟨v, d, rfl, rfl, _⟩ <;> rfl
        exact hr _ _ _ _ ⟨a, ov, rfl, g, by rw [eq]; exact hq _ H2 _ os2 c2 (r2.tail.tail.gcons (.bl _)) ha2⟩
      · exact ha2.elim
  cases neg with
  | false =>
    refine h1 gs pv os cs σ H Γ _ _ r0 ha fun v H1 d os1 c1 r1 ha1 => ?_
    refine h2 _ pv os1 c1 σ H1 Γ _ _ r1 ha1 fun u H2 e os2 c2 r2 ha2 => key v u H2 d e os2 c2 r2 ha2
  | true =>
    refine h1 gs pv os cs σ H Γ _ _ r0 ha fun v H1 d os1 c1 r1 ha1 => ?_
    refine h2 _ pv os1 c1 σ H1 Γ _ _ r1 ha1 fun u H2 e os2 c2 r2 ha2 => key v u H2 d e os2 c2 r2 ha2
theorem snd_inC {ta tb : TE} {a b : ATE} (h1 : SndE K F ta a) (h2 : SndE K F tb b) : SndE K F (tOp rInD ta tb) (aInDC a b) := snd_inDC (neg := false) (fun _ _ _ _ h => h) rfl h1 h2
theorem snd_notInC {ta tb : TE} {a b : ATE} (h1 : SndE K F ta a) (h2 : SndE K F tb b) : SndE K F (tOp rNotInD ta tb) (aNotInDC a b) := snd_inDC (neg := true) (fun _ _ _ _ h => h) rfl h1 h2
/-- what a cell holds, by its kind -/
theorem cell_dcl {gs : List (V × D)} {pv os : Os} {cs : Cs} {σ : L2.St} {H : Hp} {Γ : Gs} (r : Rel K F gs pv os cs σ H Γ) {p : Addr} {ks : List Key} {ds : List D} (e : cs.lookup p = some (.dcl ks ds)) : ∃ xs, H p = some (.dK (ks.zip xs)) ∧ ks.length = xs.length ∧ RA K (F.at pv os) H xs ds := by
  obtain ⟨o0, hm, ho⟩ := r.st.cel.get e
  have hp : H p = some o0 := (at_inv.mp r.st.inv).2 (p, o0) (List.mem_append_right _ hm)
  cases o0 with
  | dK kvs => obtain ⟨xs, rfl, l, ra⟩ := ho; exact ⟨xs, hp, l, ra⟩
  | _ => exact ho.elim
theorem cell_dct {gs : List (V × D)} {pv os : Os} {cs : Cs} {σ : L2.St} {H : Hp} {Γ : Gs} (r : Rel K F gs pv os cs σ H Γ) {p : Addr} {ks : List (List Key)} {ds : List D} (e : cs.lookup p = some (.dct ks ds)) : ∃ xs, H p = some (.dT (ks.zip xs)) ∧ ks.length = xs.length ∧ RA K (F.at pv os) H xs ds := by
  obtain ⟨o0, hm, ho⟩ := r.st.cel.get e
  have hp : H p = some o0 := (at_inv.mp r.st.inv).2 (p, o0) (List.mem_append_right _ hm)
  cases o0 with
  | dT kvs => obtain ⟨xs, rfl, l, ra⟩ := ho; exact ⟨xs, hp, l, ra⟩
  | _ => exact ho.elim
theorem zlt {κ : Type} {ks : List κ} {xs : List V} (h : ks.length ≤ 1000000) : (ks.zip xs).length < sizeLine := by
  have : (ks.zip xs).length ≤ 1000000 := by rw [List.length_zip]; omega
  exact Nat.lt_of_le_of_lt this (by decide)
theorem snd_dput {to ti te : TE} {o i e : ATE} (h1 : SndE K F to o) (h2 : SndE K F ti i) (h3 : SndE K F te e) : SndS K F (sDPut to ti te) (aDPut o i e) := by
  intro gs os cs σ H Γ A D' r0 ha eo
  refine h3 gs [] os cs σ H Γ _ _ r0 ha fun v H1 d os1 c1 r1 p1 => ?_
  refine h1 _ [] os1 c1 σ H1 Γ _ _ r1 p1 fun x H2 dx os2 c2 r2 p2 => ?_
  refine h2 _ [] os2 c2 σ H2 Γ _ _ r2 p2 fun y H3 dy os3 c3 r3 p3 => ?_
  have rv := r3.tail.tail.head
  split at p3
  · rename_i p
    cases r_adr r3.tail.head
    split at p3
    · rename_i ks ds el
      split at p3
      · rename_i k ek
        obtain ⟨hl, p3⟩ := p3
        obtain ⟨xs, hx, l, ra⟩ := cell_dcl r3 el
        refine ⟨p, _, rfl, .inl ⟨_, k, hx, key_rw r3.head ek, zlt hl, rfl⟩, ?_⟩
        rw [put_zip l]
        exact eo.nx _ _ σ _ Γ (r3.tail.tail.tail.put (o := .dK ((setKs ks k).zip (putG ks xs k v))) (d := .dcl (setKs ks k) (putG ks ds k d)) el ⟨_, rfl, put_len l, put_ra rv ra⟩) p3
      · exact p3.elim
    · rename_i ks ds el
      split at p3
      · rename_i k ek
        obtain ⟨hl, p3⟩ := p3
        obtain ⟨xs, hx, l, ra⟩ := cell_dct r3 el
        obtain ⟨b, rfl, eb⟩ := keyT_rw r3.head ek
        refine ⟨p, _, rfl, .inr ⟨_, k, b, hx, rfl, eb, zlt hl, rfl⟩, ?_⟩
        rw [put_zip l]
        exact eo.nx _ _ σ _ Γ (r3.tail.tail.tail.put (o := .dT ((setKs ks k).zip (putG ks xs k v))) (d := .dct (setKs ks k) (putG ks ds k d)) el ⟨_, rfl, put_len l, put_ra rv ra⟩) p3
      · exact p3.elim
    · exact p3.elim
  · exact p3.elim
theorem snd_dnewK : SndE K F tDNewK aDNewK := by
  intro gs pv os cs σ H Γ P Q r ha hq p hp
  obtain ⟨k, r2⟩ := r.alloc (o := .dK []) (d := .dcl [] []) hp ⟨[], rfl, rfl, .nil⟩
  exact hq _ _ _ _ _ (r2.gcons (.adr p)) (ha p k)
theorem snd_dnewT : SndE K F tDNewT aDNewT := by
  intro gs pv os cs σ H Γ P Q r ha hq p hp
  obtain ⟨k, r2⟩ := r.alloc (o := .dT []) (d := .dct [] []) hp ⟨[], rfl, rfl, .nil⟩
  exact hq _ _ _ _ _ (r2.gcons (.adr p)) (ha p k)
theorem snd_dget2 {to te tf : TE} {o e f : ATE} (h1 : SndE K F to o) (h2 : SndE K F te e) (h3 : SndE K F tf f) : SndE K F (tDGet2 to te tf) (aDGet2 o e f) := by
  intro gs pv os cs σ H Γ P Q r0 ha hq
  refine h1 gs pv os cs σ H Γ _ _ r0 ha fun x H1 dx os1 c1 r1 p1 => ?_
  have cell : ∀ (p : Addr), dx = .adr p → IsD H1 p → (e Γ c1 fun y c2 => f Γ c2 fun z c3 => match c3.lookup p with
      | some dd => match dfind dd y with
        | some o => P (o.getD z) c3
        | none => False
      | none => False) → ∃ a, x = .ref a ∧ IsD H1 a ∧ te σ H1 fun y H2 => tf σ H2 fun z H3 => ∃ o, DGet H3 a y o ∧ Q (o.getD z) H3 := by
    rintro p rfl hd p2
    cases r_adr r1.head
    refine ⟨p, rfl, hd, ?_⟩
    refine h2 _ pv os1 c1 σ H1 Γ _ _ r1 p2 fun y H2 dy os2 c2 r2 p2 => ?_
    refine h3 _ pv os2 c2 σ H2 Γ _ _ r2 p2 fun z H3 dz os3 c3 r3 p3 => ?_
    split at p3
    · rename_i dd el
      split at p3
      · rename_i od ef
        obtain ⟨ov, g, h⟩ := cell_find r3 el r3.tail.head ef
        refine ⟨ov, g, ?_⟩
        rcases h with ⟨rfl, rfl⟩ | ⟨u, d, rfl, rfl, ru⟩
        · exact hq z H3 dz os3 c3 (r3.tail.tail.tail.gcons r3.head) p3
        · exact hq u H3 d os3 c3 (r3.tail.tail.tail.gcons ru) p3
      · exact p3.elim
    · exact p3.elim
  have flat : IsD H1 (match x with | .ref a => a | _ => 0) → (∃ a, x = .ref a) → (e Γ c1 fun y c2 => f Γ c2 fun z c3 => match dfind dx y with
      | some o => P (o.getD z) c3
      | none => False) → ∃ a, x = .ref a ∧ IsD H1 a ∧ te σ H1 fun y H2 => tf σ H2 fun z H3 => ∃ o, DGet H3 a y o ∧ Q (o.getD z) H3 := by
    rintro hd ⟨a, rfl⟩ p2
    refine ⟨a, rfl, hd, ?_⟩
    refine h2 _ pv os1 c1 σ H1 Γ _ _ r1 p2 fun y H2 dy os2 c2 r2 p2 => ?_
    refine h3 _ pv os2 c2 σ H2 Γ _ _ r2 p2 fun z H3 dz os3 c3 r3 p3 => ?_
    split at p3
    · rename_i od ef
      obtain ⟨a', ov, ea, g, h⟩ := dfind_ok r3.tail.tail.head r3.tail.head ef
      cases ea
      refine ⟨ov, g, ?_⟩
      rcases h with ⟨rfl, rfl⟩ | ⟨u, d, rfl, rfl, ru⟩
      · exact hq z H3 dz os3 c3 (r3.tail.tail.tail.gcons r3.head) p3
      · exact hq u H3 d os3 c3 (r3.tail.tail.tail.gcons ru) p3
    · exact p3.elim
  cases dx with
  | adr p =>
    have p1 : (match c1.lookup p with
      | some (.dcl _ _) => e Γ c1 fun y c2 => f Γ c2 fun z c3 => match c3.lookup p with
        | some dd => match dfind dd y with
          | some o => P (o.getD z) c3
          | none => False
        | none => False
      | some (.dct _ _) => e Γ c1 fun y c2 => f Γ c2 fun z c3 => match c3.lookup p with
        | some dd => match dfind dd y with
          | some o => P (o.getD z) c3
          | none => False
        | none => False
      | _ => False) := p1
    split at p1
    · rename_i ks ds el
      obtain ⟨xs, hx, _, _⟩ := cell_dcl r1 el
      exact cell p rfl (.inl ⟨_, .inl hx⟩) p1
    · rename_i ks ds el
      obtain ⟨xs, hx, _, _⟩ := cell_dct r1 el
      exact cell p rfl (.inr ⟨_, .inl hx⟩) p1
    · exact p1.elim
  | dic ob ks ds =>
    have rr := r1.head
    cases rr with
    | @dic a _ _ xs _ h l ra => exact flat (.inl ⟨_, .inr ⟨ob, rd_view h⟩⟩) ⟨a, rfl⟩ p1
  | dcl ks ds =>
    have rr := r1.head
    cases rr with
    | @dcl a _ xs _ h l ra => exact flat (.inl ⟨_, .inl (rd_view h)⟩) ⟨a, rfl⟩ p1
  | _ => exact False.elim p1
theorem get_valV {ks : List (List Key)} {xs : List V} {ds : List D} {w : Wd} {H : Hp} (q : List Key) (l : ks.length = xs.length) (ra : RA K w H xs ds) {v : V} (h : valV (ks.zip xs) q = some v) : ∃ d, getK ks ds q = some d ∧ R K w H v d := by
  rcases get_rw q l ra with ⟨h1, h2⟩ | ⟨u, d, h1, h2, h3⟩
  · rw [h1] at h; cases h
  · rw [h1] at h; cases h; exact ⟨d, h2, h3⟩
theorem snd_dsetdT {to te tf : TE} {o e f : ATE} (h1 : SndE K F to o) (h2 : SndE K F te e) (h3 : SndE K F tf f) : SndE K F (tDSetdT to te tf) (aDSetdT o e f) := by
  intro gs pv os cs σ H Γ P Q r0 ha hq
  refine h1 gs pv os cs σ H Γ _ _ r0 ha fun x H1 dx os1 c1 r1 p1 => ?_
  split at p1
  · rename_i p
    split at p1
    · rename_i ks0 ds0 el
      obtain ⟨xs0, hx0, _, _⟩ := cell_dct r1 el
      cases r_adr r1.head
      refine ⟨p, rfl, .inr ⟨_, .inl hx0⟩, ?_⟩
      refine h2 _ pv os1 c1 σ H1 Γ _ _ r1 p1 fun y H2 dy os2 c2 r2 p2 => ?_
      refine h3 _ pv os2 c2 σ H2 Γ _ _ r2 p2 fun z H3 dz os3 c3 r3 p3 => ?_
      split at p3
      · rename_i ks ds el3
        split at p3
        · rename_i k ek
          obtain ⟨hl, p3⟩ := p3
          obtain ⟨xs, hx, l, ra⟩ := cell_dct r3 el3
          obtain ⟨b, rfl, eb⟩ := keyT_rw r3.tail.head ek
          refine ⟨_, k, b, hx, rfl, eb, zlt hl, fun v hv => ?_, fun hn => ?_⟩
          · obtain ⟨d, g, rd⟩ := get_valV k l ra hv
            rw [g] at p3
            exact hq v H3 d os3 c3 (r3.tail.tail.tail.gcons rd) p3
          · have g : getK ks ds k = none := by
              rcases get_rw k l ra with ⟨h1, h2⟩ | ⟨u, d, h1, h2, h3⟩
              · exact h2
              · rw [h1] at hn; cases hn
            rw [g] at p3
            rw [put_zip l]
            have r4 := r3.put (o := .dT ((setKs ks k).zip (putG ks xs k z))) (d := .dct (setKs ks k) (putG ks ds k dz)) el3 ⟨_, rfl, put_len l, put_ra r3.head ra⟩
            exact hq z _ dz _ _ (r4.tail.tail.tail.gcons r4.head) p3
        · exact p3.elim
      · exact p3.elim
    · exact p1.elim
  · exact p1.elim
end
section
variable {X : Cx} {Fm : Fr} {a b o e f : Expr} {ta tb to te tf : TE} {aa ab ao ae af : ATE} {pos apos pos' : Pos}
theorem je_inC (hu : X.A.units + 65 < cLine) (ha : JE X Fm a ta aa) (hb : JE X Fm b tb ab) (hm : behindInMarks .In b = false := by rfl) : JE X Fm (.Compare a [.In] [b] pos) (tOp rInD ta tb) (aInDC aa ab) := ⟨pe_cmpR (op_inDic hu) ha.p hb.p hm, snd_inC ha.s hb.s⟩
theorem je_notInC (hu : X.A.units + 65 < cLine) (ha : JE X Fm a ta aa) (hb : JE X Fm b tb ab) (hm : behindInMarks .NotIn b = false := by rfl) : JE X Fm (.Compare a [.NotIn] [b] pos) (tOp rNotInD ta tb) (aNotInDC aa ab) := ⟨pe_cmpR (op_notInDic hu) ha.p hb.p hm, snd_notInC ha.s hb.s⟩
theorem jt_inC (hu : X.A.units + 65 < cLine) (ha : JE X Fm a ta aa) (hb : JE X Fm b tb ab) (hm : behindInMarks .In b = false := by rfl) : JT X Fm (.Compare a [.In] [b] pos) (tTest (tOp rInD ta tb)) (aB (aInDC aa ab)) := ⟨pt_cmpR (op_inDic hu) ha.p hb.p hm, snd_test (snd_inC ha.s hb.s)⟩
theorem jt_notInC (hu : X.A.units + 65 < cLine) (ha : JE X Fm a ta aa) (hb : JE X Fm b tb ab) (hm : behindInMarks .NotIn b = false := by rfl) : JT X Fm (.Compare a [.NotIn] [b] pos) (tTest (tOp rNotInD ta tb)) (aB (aNotInDC aa ab)) := ⟨pt_cmpR (op_notInDic hu) ha.p hb.p hm, snd_test (snd_notInC ha.s hb.s)⟩
theorem js_dput (hu : X.A.units + 65 < cLine) (ho : JE X Fm o to ao) (hi : JE X Fm e te ae) (hv : JE X Fm f tf af) (hs : swapsWith f (some (.Subscript o e pos')) pos.line X.env = pure false := by rfl) :
    JS X Fm (.Assign [.Subscript o e pos'] f pos) (sDPut to te tf) (aDPut ao ae af) := ⟨ps_dput (by omega) ho.p hi.p hv.p hs, snd_dput ho.s hi.s hv.s⟩
theorem je_dnewK : JE X Fm (.Dict [] [] pos) tDNewK aDNewK := ⟨pe_dnewK, snd_dnewK⟩
theorem je_dnewT : JE X Fm (.Dict [] [] pos) tDNewT aDNewT := ⟨pe_dnewT, snd_dnewT⟩
theorem je_dget2 (hu : X.A.units + 65 < cLine) (ho : JE X Fm o to ao) (he : JE X Fm e te ae) (hf : JE X Fm f tf af) (m : M2 X o "get" apos e f pos := by exact ⟨rfl, rfl, rfl, rfl⟩) :
    JE X Fm (.Call (.Attribute o "get" apos) [e, f] [] pos) (tDGet2 to te tf) (aDGet2 ao ae af) := ⟨pe_dget2 (by omega) ho.p he.p hf.p m, snd_dget2 ho.s he.s hf.s⟩
theorem je_dsetdT (hu : X.A.units + 65 < cLine) (ho : JE X Fm o to ao) (he : JE X Fm e te ae) (hf : JE X Fm f tf af) (m : M2 X o "setdefault" apos e f pos := by exact ⟨rfl, rfl, rfl, rfl⟩) :
    JE X Fm (.Call (.Attribute o "setdefault" apos) [e, f] [] pos) (tDSetdT to te tf) (aDSetdT ao ae af) := ⟨pe_dsetdT (by omega) ho.p he.p hf.p m, snd_dsetdT ho.s he.s hf.s⟩
end
end Bd
/-! CaC: x == [], o.f op= e, x op= e, pop, isupper, stars in tuples and lists. -/
namespace Bd
open PySem L2
/-! ### a list against [] -/
def rLen (K : PySem.W.Frag) (b : Bool) : R2 := fun x y H Q => ∃ p q xs ys, x = .ref p ∧ y = .ref q ∧ SqL K H p xs ∧ SqL K H q ys ∧ xs.length ≠ ys.length ∧ Q (.bl b) H
section
variable {X : Cx}
theorem op_eqLen (hu : X.A.units + 65 < cLine) : OpR X (compareOp .Eq) (rLen X.K false) := by
  rintro pins s σ H x y v u Q I rx ry ⟨p, q, xs, ys, rfl, rfl, h1, h2, hn, hq⟩
  cases rx
  cases ry
  obtain ⟨i1, r1, ⟨o1, n1, g1, c1, _, d1⟩, _⟩ := I.list h1
  obtain ⟨i2, r2, ⟨o2, n2, g2, c2, _, d2⟩, _⟩ := I.list h2
  have l1 := r1.length
  have l2 := r2.length
  exact SeqAt.eq_list_lengthsAt ⟨o1, g1, c1, n1, d1⟩ ⟨o2, g2, c2, n2, d2⟩ (by simp; omega) (by omega) ⟨.bl false, H, I, rfl, hq⟩
theorem op_neLen (hu : X.A.units + 65 < cLine) : OpR X (compareOp .NotEq) (rLen X.K true) := by
  rintro pins s σ H x y v u Q I rx ry ⟨p, q, xs, ys, rfl, rfl, h1, h2, hn, hq⟩
  cases rx
  cases ry
  obtain ⟨i1, r1, ⟨o1, n1, g1, c1, _, d1⟩, _⟩ := I.list h1
  obtain ⟨i2, r2, ⟨o2, n2, g2, c2, _, d2⟩, _⟩ := I.list h2
  have l1 := r1.length
  have l2 := r2.length
  exact SeqAt.RcNeAt.lists_lengths ⟨o1, g1, c1, n1, d1⟩ ⟨o2, g2, c2, n2, d2⟩ (by simp; omega) (by omega) X.prog X.w _ _ ⟨.bl true, H, I, rfl, hq⟩
end
def wEqE (x y : D) (P : D → Prop) : Prop := match x, y with
  | .lst ds, .lst [] => P (.bl ds.isEmpty)
  | _, _ => False
def wNeE (x y : D) (P : D → Prop) : Prop := match x, y with
  | .lst ds, .lst [] => P (.bl (!ds.isEmpty))
  | _, _ => False
section
variable {K : PySem.W.Frag} {C : WC}
theorem dp_nil {w : Wd} {H : Hp} {v : V} (r : R K w H v (.lst [])) : Dp K H v (.list []) := by
  cases r with
  | lst h ra => cases ra; exact .lst (SqL.of (vis_some h).2) .nil
theorem s_eqE : SndR2 K C (fun x y H Q => rEqG K x y H Q ∨ rLen K false x y H Q) wEqE := by
  intro w H x y dx dy P Q _ hI rx ry hf hq
  unfold wEqE at hf
  split at hf
  · rename_i ds
    cases ds with
    | nil => exact .inl (.inr ⟨_, _, dp_nil rx, dp_nil ry, rfl, rfl, hq _ H _ (Step.refl hI) (.bl _) hf⟩)
    | cons d ds =>
      cases rx with
      | lst h1 ra =>
        cases ry with
        | lst h2 rb => exact .inr ⟨_, _, _, _, rfl, rfl, SqL.of (vis_some h1).2, SqL.of (vis_some h2).2, by rw [ra.length, rb.length]; simp, hq _ H _ (Step.refl hI) (.bl _) hf⟩
  · exact hf.elim
theorem s_neE : SndR2 K C (fun x y H Q => rNeG K x y H Q ∨ rLen K true x y H Q) wNeE := by
  intro w H x y dx dy P Q _ hI rx ry hf hq
  unfold wNeE at hf
  split at hf
  · rename_i ds
    cases ds with
    | nil => exact .inl (.inr ⟨_, _, dp_nil rx, dp_nil ry, rfl, rfl, hq _ H _ (Step.refl hI) (.bl _) hf⟩)
    | cons d ds =>
      cases rx with
      | lst h1 ra =>
        cases ry with
        | lst h2 rb => exact .inr ⟨_, _, _, _, rfl, rfl, SqL.of (vis_some h1).2, SqL.of (vis_some h2).2, by rw [ra.length, rb.length]; simp, hq _ H _ (Step.refl hI) (.bl _) hf⟩
  · exact hf.elim
end
theorem jo_eqE {X : Cx} (hu : X.A.units + 65 < cLine) : JO X (compareOp .Eq) (fun x y H Q => rEqG X.K x y H Q ∨ rLen X.K false x y H Q) wEqE := ⟨(jo_eq hu).p.or (op_eqLen hu), s_eqE⟩
theorem jo_neE {X : Cx} (hu : X.A.units + 65 < cLine) : JO X (compareOp .NotEq) (fun x y H Q => rNeG X.K x y H Q ∨ rLen X.K true x y H Q) wNeE := ⟨(jo_ne hu).p.or (op_neLen hu), s_neE⟩
theorem jo_eqEK {X : Cx} {Kf : PySem.W.Frag} (hK : X.K = Kf) (hu : X.A.units + 65 < cLine) : JO X (compareOp .Eq) (fun x y H Q => rEqG Kf x y H Q ∨ rLen Kf false x y H Q) wEqE := by subst hK; exact jo_eqE hu
theorem jo_neEK {X : Cx} {Kf : PySem.W.Frag} (hK : X.K = Kf) (hu : X.A.units + 65 < cLine) : JO X (compareOp .NotEq) (fun x y H Q => rNeG Kf x y H Q ∨ rLen Kf true x y H Q) wNeE := by subst hK; exact jo_neE hu
/-! ### o.f += e, o a cell; x += e -/
@[simp] abbrev aAugF (cn f : Str) (op : Int → Int → Int) (o e : ATE) : ATS := fun A Γ c => o Γ c fun x c1 => match x with
  | .adr p => match c1.lookup p with
    | some (.obj c' ns ds) => c' = cn ∧ match (ns.zip ds).lookup f with
      | some (.int i) => e Γ c1 fun y c2 => match y with
        | .int j => match c2.lookup p with
          | some (.obj c'' ns2 ds2) => c'' = cn ∧ ns2.length < 500 ∧ A.nx Γ (cset c2 p (.obj c'' (putN f ns2) (putL f (.int (op i j)) ns2 ds2)))
          | _ => False
        | _ => False
      | _ => False
    | _ => False
  | _ => False
@[simp] abbrev aAugN (i : Nat) (op : Int → Int → Int) (e : ATE) : ATS := fun A Γ c => match Γ[i]? with
  | some (some (.int a)) => e Γ c fun y c1 => match y with
    | .int b => A.nx (Γ.set i (some (.int (op a b)))) c1
    | _ => False
  | _ => False
section
variable {K : PySem.W.Frag} {F : Fr}
theorem snd_augF {cn f : Str} {op : Int → Int → Int} {rd : V → V → Hp → VK → Prop} (hrd : ∀ (i j : Int) (H : Hp) (Q : VK), Q (.int (op i j)) H → rd (.int i) (.int j) H Q) {to te : TE} {ao ae : ATE} (hc : Cls K (He.ga K cn)) (hn : NoAttr K (He.ga K cn) f) (h1 : SndE K F to ao) (h2 : SndE K F te ae) : SndS K F (sFldAug K to te rd f) (aAugF cn f op ao ae) := by
  intro gs os cs σ H Γ A D' r ha e
  refine h1 gs [] os cs σ H Γ _ _ r ha fun u H1 d os1 c1 r1 p1 => ?_
  split at p1
  · rename_i p
    split at p1
    · rename_i c' ns ds el
      obtain ⟨rfl, p1⟩ := p1
      split at p1
      · rename_i i ef
        cases r_adr r1.head
        obtain ⟨dx, xs, hm, hx, hlen, rx⟩ := cell_obj r1 el
        obtain ⟨v, ev, rv⟩ := zip_look rx ef
        cases r_int (w := F.at [] os1) rv
        refine ⟨p, _, dx, _, _, rfl, hx, hc, hn, ev, ?_⟩
        refine h2 _ [] os1 c1 σ H1 Γ _ _ r1 p1 fun y H2 dy os2 c2 r2 p2 => ?_
        split at p2
        · rename_i j
          cases r_int r2.head
          split at p2
          · rename_i c'' ns2 ds2 el2
            obtain ⟨rfl, hl, p2⟩ := p2
            obtain ⟨dx2, xs2, hm2, hx2, hlen2, rx2⟩ := cell_obj r2 el2
            obtain ⟨z1, z2⟩ := putF_zip (f := f) (v := V.int (op i j)) hlen2
            refine hrd i j H2 _ ⟨dx2, _, hx2, by rw [List.length_zip]; omega, ?_⟩
            rw [z1]
            exact e.nx _ _ σ _ Γ (r2.tail.tail.put (o := .ins (He.ga K c'') dx2 ((putN f ns2).zip (putL f (.int (op i j)) ns2 xs2))) (d := .obj c'' (putN f ns2) (putL f (.int (op i j)) ns2 ds2)) el2 ⟨rfl, _, rfl, z2, putL_rw (.int _) rx2⟩) p2
          · exact p2.elim
        · exact p2.elim
      · exact p1.elim
    · exact p1.elim
  · exact p1.elim
theorem snd_augN {i : Nat} {op : Int → Int → Int} {ti : TIp} (hti : ∀ (a b : Int) (H : Hp) (Q : VK), Q (.int (op a b)) H → ti (.int a) (.int b) H Q) {te : TE} {ae : ATE} (h : SndE K F te ae) : SndS K F (tAug i te ti) (aAugN i op ae) := by
  intro gs os cs σ H Γ A D' r ha e
  unfold aAugN at ha
  split at ha
  · rename_i a ea
    obtain ⟨v, e1, rv⟩ := r.at_ i _ ea
    cases r_int rv
    refine ⟨_, e1, h gs [] os cs σ H Γ _ _ r ha fun y H1 dy os1 c1 r1 p1 => ?_⟩
    split at p1
    · rename_i b
      cases r_int r1.head
      exact hti a b H1 _ (e.nx _ _ _ _ _ (r1.tail.set (.int _)) p1)
    · exact p1.elim
  · exact ha.elim
end
section
variable {X : Cx} {Fm : Fr} {e o : Expr} {pos tpos : Pos} {te to : TE} {ae ao : ATE} {cn f : Str}
theorem js_augF (hc : Cls X.K (He.ga X.K cn)) (hn : NoAttr X.K (He.ga X.K cn) f) (ho : JE X Fm o to ao) (he : JE X Fm e te ae) :
    JS X Fm (.AugAssign (.Attribute o f tpos) .Add e pos) (sFldAug X.K to te rAdd f) (aAugF cn f (fun i j => i + j) ao ae) := ⟨ps_fldaug ho.p he.p in_add, snd_augF (fun i j H Q q => ⟨i, j, rfl, rfl, q⟩) hc hn ho.s he.s⟩
theorem js_augN (i : Nat) {x : Str} {pos' : Pos} (hN : X.N.Nodup) (he : JE X Fm e te ae) (hi : X.N[i]? = some x := by rfl) (hx : Loc X.env.scope x := by first | exact .inl rfl | exact .inr rfl) (hf : X.fn x = true ∨ X.env.scope.names.lookup x = some .local := by first | exact .inl rfl | exact .inr rfl) :
    JS X Fm (.AugAssign (.Name x pos') .Add e pos) (tAug i te (ipI fun i j => i + j)) (aAugN i (fun i j => i + j) ae) := ⟨ps_aug hN hi hx he.p ip_add hf, snd_augN (fun a b H Q q => ⟨a, b, rfl, rfl, q⟩) he.s⟩
theorem js_augNs (i : Nat) {x : Str} {pos' : Pos} (hN : X.N.Nodup) (he : JE X Fm e te ae) (hi : X.N[i]? = some x := by rfl) (hx : Loc X.env.scope x := by first | exact .inl rfl | exact .inr rfl) (hf : X.fn x = true ∨ X.env.scope.names.lookup x = some .local := by first | exact .inl rfl | exact .inr rfl) :
    JS X Fm (.AugAssign (.Name x pos') .Sub e pos) (tAug i te (ipI fun i j => i - j)) (aAugN i (fun i j => i - j) ae) := ⟨ps_aug hN hi hx he.p ip_sub hf, snd_augN (fun a b H Q q => ⟨a, b, rfl, rfl, q⟩) he.s⟩
end
/-! ### pop -/
@[simp] abbrev aPop (o : ATE) : ATE := fun Γ c P => o Γ c fun x c1 => match x with
  | .adr p => match c1.lookup p with
    | some (.lst ds) => match ds.getLast? with
      | some d => P d (cset c1 p (.lst ds.dropLast))
      | none => False
    | _ => False
  | _ => False
theorem snd_pop {K : PySem.W.Frag} {F : Fr} {to : TE} {o : ATE} (h1 : SndE K F to o) : SndE K F (tBM0 K "list" rPop to) (aPop o) := by
  intro gs pv os cs σ H Γ P Q r0 ha hq
  refine h1 gs pv os cs σ H Γ _ _ r0 ha fun v H1 d os1 c1 r1 p1 => ?_
  split at p1
  · rename_i p
    split at p1
    · rename_i ds el
      split at p1
      · rename_i d ed
        cases r_adr r1.head
        obtain ⟨xs, hx, rx⟩ := cell_lst r1 el
        have ed2 : ds[ds.length - 1]? = some d := by rw [← List.getLast?_eq_getElem?]; exact ed
        obtain ⟨y, hy, ry⟩ := rx.getD ed2
        rw [← rx.length] at hy
        refine ⟨.inl ⟨rfl, _, SqL.of hx⟩, p, xs, y, rfl, rfl, hx, hy, ?_⟩
        have r2 := (r1.tail.gcons ry).put (o := .lst xs.dropLast) (d := .lst ds.dropLast) el rx.dropLast
        exact hq y _ d _ _ (r2.tail.gcons r2.head) p1
      · exact p1.elim
    · exact p1.elim
  · exact p1.elim
section
variable {X : Cx} {Fm : Fr} {o e : Expr} {es : List Expr} {pos apos p : Pos} {to te : TE} {ao ae : ATE} {t : TA} {ag : ATA}
theorem je_pop (ho : JE X Fm o to ao) (hbase : attributeBase o "pop" X.env (eval o X.env) = eval o X.env := by rfl) (hline : (apos.endLine == pos.line) = true := by rfl) :
    JE X Fm (.Call (.Attribute o "pop" apos) [] [] pos) (tBM0 X.K "list" rPop to) (aPop ao) := ⟨pe_bm0 PySem.F.plainAttrs_list PySem.F.slot_list_pop PySem.F.type_list_pop mt_pop ho.p hbase hline, snd_pop ho.s⟩
end
/-! ### texts: isupper -/
@[simp] def wIsUpper (z : Str) (xs : List D) (P : D → Prop) : Prop := match xs with
  | [] => P (.bl (Txt.isupper z))
  | _ => False
theorem s_isupper {K : PySem.W.Frag} {C : WC} (z : Str) : SndRs K C ((fun x xs H Q => ∃ a, x = .str a ∧ xs = [] ∧ True ∧ Q (.bl (Txt.isupper a)) H) (V.str z)) (wIsUpper z) := by
  intro w H xs ds P Q _ hI r hf hq
  cases r with
  | nil => exact ⟨z, rfl, rfl, trivial, hq _ H _ (Step.refl hI) (.bl _) hf⟩
  | cons _ _ => exact False.elim hf
/-! ### stars -/
@[simp] abbrev aStar (a : ATE) (b : ATA) : ATA := fun Γ c P => a Γ c fun x c1 => match x with
  | .lst ds => b Γ c1 fun xs c2 => P (ds ++ xs) c2
  | .tup ds => b Γ c1 fun xs c2 => P (ds ++ xs) c2
  | .adr p => match c1.lookup p with
    | some (.lst ds) => b Γ c1 fun xs c2 => P (ds ++ xs) c2
    | _ => False
  | _ => False
theorem snd_star {K : PySem.W.Frag} {F : Fr} {te : TE} {t : TA} {a : ATE} {b : ATA} (h1 : SndE K F te a) (h2 : SndA K F t b) : SndA K F (StX.tStar K te t) (aStar a b) := by
  intro gs pv os cs σ H Γ P Q r0 ha hq
  refine h1 gs pv os cs σ H Γ _ _ r0 ha fun v H1 d os1 c1 r1 p1 => ?_
  split at p1
  · rename_i ds
    have rr := r1.head
    cases rr with
    | @lst q xs _ hx rx =>
      refine ⟨q, xs, rfl, .inr (SqL.of (vis_some hx).2), ?_⟩
      have hl := RwA.length rx
      refine h2 _ pv os1 c1 σ H1 Γ _ _ (r1.tail.gall rx) p1 fun ys H2 es os2 c2 r2 ra p2 => ?_
      obtain ⟨rb, r3⟩ := r2.gback hl
      exact hq _ H2 _ os2 c2 r3 (rb.append ra) p2
  · rename_i ds
    have rr := r1.head
    cases rr with
    | @tup q xs _ hx rx =>
      refine ⟨q, xs, rfl, .inl (tup_sq hx), ?_⟩
      have hl := RwA.length rx
      refine h2 _ pv os1 c1 σ H1 Γ _ _ (r1.tail.gall rx) p1 fun ys H2 es os2 c2 r2 ra p2 => ?_
      obtain ⟨rb, r3⟩ := r2.gback hl
      exact hq _ H2 _ os2 c2 r3 (rb.append ra) p2
  · rename_i p
    split at p1
    · rename_i ds el
      cases r_adr r1.head
      obtain ⟨xs, hx, rx⟩ := cell_lst r1 el
      refine ⟨p, xs, rfl, .inr (SqL.of hx), ?_⟩
      have hl := RwA.length rx
      refine h2 _ pv os1 c1 σ H1 Γ _ _ (r1.tail.gall rx) p1 fun ys H2 es os2 c2 r2 ra p2 => ?_
      obtain ⟨rb, r3⟩ := r2.gback hl
      exact hq _ H2 _ os2 c2 r3 (rb.append ra) p2
    · exact p1.elim
  · exact p1.elim
end Bd
namespace Bd
open PySem L2
/-! RaA: fractions in lowest terms, without any program -/
abbrev IP := Int × Int
def Sm (k : Nat) (x : Int) : Prop := x.natAbs < 2 ^ k
theorem Sm.mono {k l : Nat} {x : Int} (h : Sm k x) (e : k ≤ l) : Sm l x := Nat.lt_of_lt_of_le h (Nat.pow_le_pow_right (by decide) e)
theorem Sm.mul {k l : Nat} {x y : Int} (h : Sm k x) (g : Sm l y) : Sm (k + l) (x * y) := by
  unfold Sm
  rw [Int.natAbs_mul, Nat.pow_add]
  exact Nat.mul_lt_mul'' h g
theorem Sm.add {k : Nat} {x y : Int} (h : Sm k x) (g : Sm k y) : Sm (k + 1) (x + y) := by
  have h' : x.natAbs < 2 ^ k := h
  have g' : y.natAbs < 2 ^ k := g
  have := Int.natAbs_add_le x y
  show (x + y).natAbs < 2 ^ (k + 1)
  rw [Nat.pow_succ]
  omega
theorem Sm.div {k : Nat} {x g : Int} (h : Sm k x) : Sm k (x / g) := Nat.lt_of_le_of_lt (Int.natAbs_ediv_le_natAbs x g) h
theorem Sm.log {k n : Nat} {x : Int} (h : Sm k x) (e : k ≤ n) (hn : 0 < n) : x.natAbs.log2 < n := by
  by_cases z : x.natAbs = 0
  · rw [z]; simpa using hn
  · have := (Nat.log2_lt z).mpr h
    omega
theorem Sm.abs {k : Nat} {x : Int} (h : Sm k x) : Sm k (if x < 0 then -x else x) := by
  unfold Sm at h ⊢
  split <;> omega
def gcdI (a b : Int) : Int := (Int.gcd a b : Nat)
def red (a b : Int) : IP := (a / gcdI a b, b / gcdI a b)
def addR (x y : IP) : IP := red (x.1 * y.2 + y.1 * x.2) (x.2 * y.2)
def mulR (x y : IP) : IP := red (x.1 * y.1) (x.2 * y.2)
def lessR (x y : IP) : Bool := decide (x.1 * y.2 < y.1 * x.2)
def pr (x : IP) : D := .tup [.int x.1, .int x.2]
def rt (x : IP) : D := .obj "Ratio" ["own_top", "own_bottom"] [.int x.1, .int x.2]
def st (h s : IP) : D := .obj "Straight" ["own_height", "own_slope"] [rt h, rt s]
def tI (i : Int) : Str := (toString i : String)
def frT (x : IP) : Str := if x.2 = 1 then tI x.1 else tI x.1 ++ "/" ++ tI x.2
structure Good (k : Nat) (x : IP) : Prop where
  pos : 0 < x.2
  a : Sm k x.1
  b : Sm k x.2
theorem Good.mono {k l : Nat} {x : IP} (h : Good k x) (e : k ≤ l) : Good l x := ⟨h.pos, h.a.mono e, h.b.mono e⟩
theorem gcdI_pos {a b : Int} (h : 0 < b) : 0 < gcdI a b := by
  have := Int.gcd_pos_of_ne_zero_right a (by omega : b ≠ 0)
  show 0 < ((Int.gcd a b : Nat) : Int)
  omega
theorem gcdI_le {a b : Int} (h : 0 < b) : gcdI a b ≤ b := Int.le_of_dvd h (Int.gcd_dvd_right a b)
theorem gcdI_sm {k : Nat} {a b : Int} (h : 0 < b) (s : Sm k b) : Sm k (gcdI a b) := by
  have h1 := gcdI_pos (a := a) h
  have h2 := gcdI_le (a := a) h
  unfold Sm at s ⊢
  omega
theorem red_good {k : Nat} {a b : Int} (h : 0 < b) (ha : Sm k a) (hb : Sm k b) : Good k (red a b) := by
  refine ⟨?_, ha.div, hb.div⟩
  have h1 := gcdI_pos (a := a) h
  exact Int.ediv_pos_of_pos_of_dvd h (by omega) (Int.gcd_dvd_right a b)
theorem addR_good {k : Nat} {x y : IP} (h : Good k x) (g : Good k y) : Good (k + k + 1) (addR x y) :=
  red_good (Int.mul_pos h.pos g.pos) ((h.a.mul g.b).add (g.a.mul h.b)) ((h.b.mul g.b).mono (by omega))
theorem mulR_good {k : Nat} {x y : IP} (h : Good k x) (g : Good k y) : Good (k + k) (mulR x y) :=
  red_good (Int.mul_pos h.pos g.pos) (h.a.mul g.a) (h.b.mul g.b)
/-- lowest terms -/
def Low (x : IP) : Prop := gcdI x.1 x.2 = 1
theorem red_low {a b : Int} (h : 0 < b) : Low (red a b) := by
  unfold Low red gcdI
  have h1 : 0 < Int.gcd a b := Int.gcd_pos_of_ne_zero_right a (by omega : b ≠ 0)
  have := Int.gcd_ediv_gcd_ediv_gcd h1
  show ((Int.gcd (a / (Int.gcd a b : Nat)) (b / (Int.gcd a b : Nat)) : Nat) : Int) = 1
  rw [this]
  rfl
theorem low_red {x : IP} (h : Low x) : red x.1 x.2 = x := by
  unfold red
  rw [show gcdI x.1 x.2 = 1 from h, Int.ediv_one, Int.ediv_one]
theorem gcdI_step {a b : Int} (h0 : 0 ≤ a) (hb : 0 < b) : gcdI b (a.fmod b) = gcdI a b ∧ 0 ≤ a.fmod b ∧ a.fmod b < b := by
  rw [Int.fmod_eq_emod_of_nonneg a (by omega)]
  refine ⟨?_, Int.emod_nonneg _ (by omega), Int.emod_lt_of_pos _ hb⟩
  obtain ⟨x, rfl⟩ := Int.eq_ofNat_of_zero_le h0
  obtain ⟨y, rfl⟩ := Int.eq_ofNat_of_zero_le (by omega : 0 ≤ b)
  show ((Nat.gcd y (x % y) : Nat) : Int) = ((Nat.gcd x y : Nat) : Int)
  rw [Nat.gcd_comm x y, Nat.gcd_rec y x, Nat.gcd_comm]
theorem gcdI_zero {x : Int} (h : 0 ≤ x) : gcdI x 0 = x := by
  unfold gcdI
  rw [Int.gcd_zero_right]
  omega
theorem divA {a g : Int} (h : 0 < g) (s : Sm 8000 g) : CDivA a g := .inr ⟨h, s.log (by decide) (by decide)⟩
theorem mulA {k l : Nat} {a b : Int} (h : Sm k a) (g : Sm l b) (e : k + l < 900000) (h1 : 0 < k) (h2 : 0 < l) : CMulA a b := .inr (by
  have h3 := h.log (Nat.le_refl _) h1
  have h4 := g.log (Nat.le_refl _) h2
  show a.natAbs.log2 + b.natAbs.log2 < 1000000
  omega)
theorem fdiv_e {a g : Int} (h : 0 < g) : a.fdiv g = a / g := Int.fdiv_eq_ediv_of_nonneg a (by omega)
theorem abs_nat (a : Int) : (if a < 0 then -a else a) = (a.natAbs : Int) := by split <;> omega
theorem gcdI_abs (a b : Int) : gcdI (a.natAbs : Int) b = gcdI a b := by
  show ((Nat.gcd (a.natAbs : Int).natAbs b.natAbs : Nat) : Int) = ((Nat.gcd a.natAbs b.natAbs : Nat) : Int)
  rw [Int.natAbs_natCast]
theorem gcdI_abs2 (a b : Int) : gcdI a (b.natAbs : Int) = gcdI a b := by
  show ((Nat.gcd a.natAbs (b.natAbs : Int).natAbs : Nat) : Int) = ((Nat.gcd a.natAbs b.natAbs : Nat) : Int)
  rw [Int.natAbs_natCast]
theorem putN1 (f : Str) : putN f [] = [f] := rfl
theorem len_app (a b : Str) : (a ++ b).length = a.length + b.length := by
  show (a.cps ++ b.cps).size = a.cps.size + b.cps.size
  exact Array.size_append
theorem emp_app (a : Str) : Str.empty ++ a = a := by
  show (⟨#[] ++ a.cps⟩ : Str) = a
  simp
theorem emp_len : Str.empty.length = 0 := rfl
theorem sl_len : (Str.ofString "/").length = 1 := by decide
theorem tI_len {i : Int} (h : i.natAbs.log2 < 1920) : (tI i).length ≤ 1921 := by
  unfold tI
  rw [ofString_length]
  exact int_text_length_le (by decide) h
theorem frT_len {x : IP} (g : Good 1900 x) : (frT x).length ≤ 4000 := by
  have l1 := tI_len (g.a.log (n := 1920) (by decide) (by decide))
  have l2 := tI_len (g.b.log (n := 1920) (by decide) (by decide))
  unfold frT
  split
  · omega
  · rw [len_app, len_app, sl_len]; omega
theorem lk_top (x : IP) : ((["own_top", "own_bottom"] : List Str).zip [D.int x.1, D.int x.2]).lookup ("own_top" : Str) = some (.int x.1) := rfl
theorem lk_bot (x : IP) : ((["own_top", "own_bottom"] : List Str).zip [D.int x.1, D.int x.2]).lookup ("own_bottom" : Str) = some (.int x.2) := by
  with_unfolding_all rfl
theorem ip_eq (x y : IP) : (x = y) ↔ (x.1 = y.1 ∧ x.2 = y.2) := by
  constructor
  · rintro rfl; exact ⟨rfl, rfl⟩
  · rintro ⟨a, b⟩; exact Prod.ext a b
@[simp] theorem isn_i {i : Int} {P : D → Prop} : A_is_number [.int i] P ↔ P (.bl true) := by
  constructor
  · rintro ⟨v, h, a, b⟩
    cases h
    exact b
  · exact fun h => ⟨.int i, rfl, rfl, h⟩
end Bd
namespace Bd
open PySem L2
/-! RaB: class Ratio where nothing is raised by making -/
def redS (a b : Int) : IP := if b < 0 then red (-a) (-b) else red a b
def subR (x y : IP) : IP := red (x.1 * y.2 - y.1 * x.2) (x.2 * y.2)
def negR (x : IP) : IP := red (0 - x.1) x.2
def overR (x y : IP) : IP := redS (x.1 * y.2) (x.2 * y.1)
theorem redS_pos {a b : Int} (h : 0 < b) : redS a b = red a b := by unfold redS; rw [if_neg (by omega)]
theorem Sm.neg {k : Nat} {x : Int} (h : Sm k x) : Sm k (-x) := by unfold Sm at h ⊢; omega
theorem Sm.sub {k : Nat} {x y : Int} (h : Sm k x) (g : Sm k y) : Sm (k + 1) (x - y) := by
  have := h.add g.neg
  rwa [← Int.sub_eq_add_neg] at this
theorem redS_good {k : Nat} {a b : Int} (h : b ≠ 0) (ha : Sm k a) (hb : Sm k b) : Good k (redS a b) := by
  unfold redS
  split
  · exact red_good (by omega) ha.neg hb.neg
  · exact red_good (by omega) ha hb
theorem redS_low {a b : Int} (h : b ≠ 0) : Low (redS a b) := by
  unfold redS
  split
  · exact red_low (by omega)
  · exact red_low (by omega)
theorem subR_good {k : Nat} {x y : IP} (h : Good k x) (g : Good k y) : Good (k + k + 1) (subR x y) :=
  red_good (Int.mul_pos h.pos g.pos) ((h.a.mul g.b).sub (g.a.mul h.b)) ((h.b.mul g.b).mono (by omega))
theorem gcdI_negs (a b : Int) : gcdI (-a) (-b) = gcdI a b := by unfold gcdI; rw [Int.gcd_neg, Int.neg_gcd]
theorem gcdI_pos' {a b : Int} (h : b ≠ 0) : 0 < gcdI a b := by
  have := Int.gcd_pos_of_ne_zero_right a h
  show 0 < ((Int.gcd a b : Nat) : Int)
  omega
theorem gcdI_sm' {k : Nat} {a b : Int} (h : b ≠ 0) (s : Sm k b) : Sm k (gcdI a b) := by
  have h1 := gcdI_pos' (a := a) h
  have h2 : gcdI a b ∣ b := Int.gcd_dvd_right a b
  have h3 : (gcdI a b).natAbs ≤ b.natAbs := Nat.le_of_dvd (by omega) (Int.natAbs_dvd_natAbs.mpr h2)
  unfold Sm at s ⊢
  omega
theorem fdiv_neg_e {a g : Int} (h : 0 < g) : a.fdiv (-g) = (-a) / g := by
  have e : a.fdiv (-g) = (-(-a)).fdiv (-g) := by rw [Int.neg_neg]
  rw [e, Int.neg_fdiv_neg, fdiv_e h]
theorem divM {a g : Int} (h : g ≠ 0) (s : Sm 8000 g) : CDivM a g := ⟨h, s.log (by decide) (by decide)⟩
/-! ### promises -/
def A_common_divisor (ds : List D) (P : D → Prop) : Prop := ∃ a b : Int, ds = [.int a, .int b] ∧ 0 ≤ a ∧ 0 ≤ b ∧ P (.int (gcdI a b))
def A_Ratio_init (ds : List D) (c : Cs) (P : D → Cs → Prop) : Prop := ∃ (p : Addr) (a b : Int), ds = [.adr p, .int a, .int b] ∧ c = [(p, .obj "Ratio" [] [])] ∧ b ≠ 0 ∧ Sm 8000 a ∧ Sm 8000 b ∧ P .non [(p, rt (redS a b))]
def A_Ratio_below (ds : List D) (P : D → Prop) : Prop := ∃ x y : IP, ds = [rt x, rt y] ∧ Good 2000 x ∧ Good 2000 y ∧ P (.bl (lessR x y))
def A_Ratio_add (ds : List D) (P : D → Prop) : Prop := ∃ x y : IP, ds = [rt x, rt y] ∧ Good 2000 x ∧ Good 2000 y ∧ P (rt (addR x y))
def A_Ratio_sub (ds : List D) (P : D → Prop) : Prop := ∃ x y : IP, ds = [rt x, rt y] ∧ Good 2000 x ∧ Good 2000 y ∧ P (rt (subR x y))
def A_Ratio_mul (ds : List D) (P : D → Prop) : Prop := ∃ x y : IP, ds = [rt x, rt y] ∧ Good 2000 x ∧ Good 2000 y ∧ P (rt (mulR x y))
def A_Ratio_neg (ds : List D) (P : D → Prop) : Prop := ∃ x : IP, ds = [rt x] ∧ Good 2000 x ∧ P (rt (negR x))
def A_Ratio_eq (ds : List D) (P : D → Prop) : Prop := (∃ x y : IP, ds = [rt x, rt y] ∧ P (.bl (decide (x = y)))) ∨ ∃ (x : IP) (i : Int), ds = [rt x, .int i] ∧ P (.bl false)
def A_Ratio_over : AX := fun ds P Xc => ∃ x y : IP, ds = [rt x, rt y] ∧ Good 2000 x ∧ Good 2000 y ∧ if y.1 = 0 then Xc "InvalidRatio" ["tag", "given"] [.str "InvalidRatio", rt y] else P (rt (overR x y))
/-- slots: 0 one, 1 other -/
def a_common_divisor : ATS :=
  aSeq (aWhile (aB (aOp wGt (aVar 1) (aC (.int 0)))) (aPar 0 1 (aCons (aVar 1) (aCons (aOp wMod (aVar 0) (aVar 1)) (aNil)))))
  (aRet (aVar 0))
/-- slots: 0 self, 1 top, 2 bottom, 3 by -/
def a_Ratio_init : ATS :=
  aSeq (aIfS (aOr (aNot (aB (aCall A_is_number [] (aCons (aVar 1) (aNil))))) (aOr (aNot (aB (aCall A_is_number [] (aCons (aVar 2) (aNil))))) (aB (aOp wEq (aVar 2) (aC (.int 0)))))) (aNever) (aNext))
  (aSeq (aAsg (aCall A_common_divisor [] (aCons (aCB wAbs (aCons (aVar 1) (aNil))) (aCons (aCB wAbs (aCons (aVar 2) (aNil))) (aNil)))) (gmN 3))
  (aSeq (aIfS (aB (aOp wLt (aVar 2) (aC (.int 0)))) (aAsg (aUn wNeg (aVar 3)) (gmN 3)) (aNext))
  (aSeq (aSetF "Ratio" "own_top" (aVar 0) (aOp wDivM (aVar 1) (aVar 3)))
  (aSetF "Ratio" "own_bottom" (aVar 0) (aOp wDivM (aVar 2) (aVar 3))))))
/-- slots: 0 self, 1 other -/
def a_Ratio_over (x : XD) : ATS :=
  aSeq (aIfS (aB (aOp wEq (aFld "Ratio" "own_top" (aVar 1)) (aC (.int 0)))) (aRaise "InvalidRatio" "given" "InvalidRatio" x (aVar 1)) (aNext))
  (aRet (aMake "Ratio" A_Ratio_init [] (aCons (aOp wMulX (aFld "Ratio" "own_top" (aVar 0)) (aFld "Ratio" "own_bottom" (aVar 1))) (aCons (aOp wMulX (aFld "Ratio" "own_bottom" (aVar 0)) (aFld "Ratio" "own_top" (aVar 1))) (aNil)))))
/-- slots: 0 self, 1 other -/
def a_Ratio_eq : ATS :=
  aSeq (aIfS (aNot (aB (aCB (wIsiO ["Ratio"]) (aCons (aVar 1) (aCons (aC (.cls "Ratio")) (aNil)))))) (aRet (aC (.bl false))) (aNext))
  (aRet (aAndV (aOp wEq (aFld "Ratio" "own_top" (aVar 0)) (aFld "Ratio" "own_top" (aVar 1))) (aOp wEq (aFld "Ratio" "own_bottom" (aVar 0)) (aFld "Ratio" "own_bottom" (aVar 1)))))
/-- slots: 0 self, 1 other -/
def a_Ratio_below : ATS :=
  aRet (aOp wLt (aOp wMulX (aFld "Ratio" "own_top" (aVar 0)) (aFld "Ratio" "own_bottom" (aVar 1))) (aOp wMulX (aFld "Ratio" "own_top" (aVar 1)) (aFld "Ratio" "own_bottom" (aVar 0))))
/-- slots: 0 self, 1 other -/
def a_Ratio_add : ATS :=
  aRet (aMake "Ratio" A_Ratio_init [] (aCons (aOp wAdd (aOp wMulX (aFld "Ratio" "own_top" (aVar 0)) (aFld "Ratio" "own_bottom" (aVar 1))) (aOp wMulX (aFld "Ratio" "own_top" (aVar 1)) (aFld "Ratio" "own_bottom" (aVar 0)))) (aCons (aOp wMulX (aFld "Ratio" "own_bottom" (aVar 0)) (aFld "Ratio" "own_bottom" (aVar 1))) (aNil))))
/-- slots: 0 self, 1 other -/
def a_Ratio_sub : ATS :=
  aRet (aMake "Ratio" A_Ratio_init [] (aCons (aOp wSub (aOp wMulX (aFld "Ratio" "own_top" (aVar 0)) (aFld "Ratio" "own_bottom" (aVar 1))) (aOp wMulX (aFld "Ratio" "own_top" (aVar 1)) (aFld "Ratio" "own_bottom" (aVar 0)))) (aCons (aOp wMulX (aFld "Ratio" "own_bottom" (aVar 0)) (aFld "Ratio" "own_bottom" (aVar 1))) (aNil))))
/-- slots: 0 self, 1 other -/
def a_Ratio_mul : ATS :=
  aRet (aMake "Ratio" A_Ratio_init [] (aCons (aOp wMulX (aFld "Ratio" "own_top" (aVar 0)) (aFld "Ratio" "own_top" (aVar 1))) (aCons (aOp wMulX (aFld "Ratio" "own_bottom" (aVar 0)) (aFld "Ratio" "own_bottom" (aVar 1))) (aNil))))
/-- slots: 0 self -/
def a_Ratio_neg : ATS :=
  aRet (aMake "Ratio" A_Ratio_init [] (aCons (aOp wSub (aC (.int 0)) (aFld "Ratio" "own_top" (aVar 0))) (aCons (aFld "Ratio" "own_bottom" (aVar 0)) (aNil))))
/-! ### proofs -/
theorem len_common_divisor : ∀ ds P, A_common_divisor ds P → ds.length = 2 := by rintro ds P ⟨a, b, rfl, _⟩; rfl
theorem len_Ratio_init : ∀ ds c P, A_Ratio_init ds c P → ds.length = 3 := by rintro ds c P ⟨p, a, b, rfl, _⟩; rfl
theorem len_Ratio_below : ∀ ds P, A_Ratio_below ds P → ds.length = 2 := by rintro ds P ⟨a, b, rfl, _⟩; rfl
theorem len_Ratio_add : ∀ ds P, A_Ratio_add ds P → ds.length = 2 := by rintro ds P ⟨a, b, rfl, _⟩; rfl
theorem len_Ratio_sub : ∀ ds P, A_Ratio_sub ds P → ds.length = 2 := by rintro ds P ⟨a, b, rfl, _⟩; rfl
theorem len_Ratio_mul : ∀ ds P, A_Ratio_mul ds P → ds.length = 2 := by rintro ds P ⟨a, b, rfl, _⟩; rfl
theorem len_Ratio_neg : ∀ ds P, A_Ratio_neg ds P → ds.length = 1 := by rintro ds P ⟨a, rfl, _⟩; rfl
theorem len_Ratio_eq : ∀ ds P, A_Ratio_eq ds P → ds.length = 2 := by rintro ds P (⟨a, b, rfl, _⟩ | ⟨a, b, rfl, _⟩) <;> rfl
theorem len_Ratio_over : ∀ ds P Xc, A_Ratio_over ds P Xc → ds.length = 2 := by rintro ds P Xc ⟨a, b, rfl, _⟩; rfl
theorem pure_common_divisor : ∀ ds P, A_common_divisor ds P → a_common_divisor { nx := fun _ _ => P .non, rt := fun d _ => P d } (startG 2 ds) [] := by
  rintro ds P ⟨a, b, rfl, ha, hb, hP⟩
  simp only [a_common_divisor, aSeq, aWhile]
  refine ⟨fun m Γ c => ∃ x y : Int, Γ = [some (.int x), some (.int y)] ∧ 0 ≤ x ∧ 0 ≤ y ∧ m = y.toNat ∧ gcdI x y = gcdI a b, ⟨b.toNat, a, b, rfl, ha, hb, rfl, rfl⟩, ?_⟩
  rintro m Γ c ⟨x, y, rfl, hx, hy, rfl, hg⟩
  by_cases h : 0 < y
  · obtain ⟨e1, e2, e3⟩ := gcdI_step hx h
    simp [h]
    exact ⟨by omega, (x.fmod y).toNat, by omega, y, x.fmod y, ⟨rfl, rfl⟩, by omega, e2, rfl, by rw [e1, hg]⟩
  · have e : y = 0 := by omega
    subst e
    simp
    rw [gcdI_zero hx] at hg
    rw [hg]
    exact hP
theorem pure_Ratio_init : ∀ ds c P, A_Ratio_init ds c P → a_Ratio_init { nx := fun _ c' => ∃ n, P .non (c'.drop n), rt := fun d c' => ∃ n, P d (c'.drop n) } (startG 4 ds) c := by
  rintro ds c P ⟨p, a, b, rfl, rfl, hb, sa, sb, hP⟩
  have h1 := gcdI_pos' (a := a) hb
  have h3 := gcdI_sm' (a := a) hb sb
  simp only [aSeq, aIfS, aOr, aAnd, aNot, aB, aV, aCall, aCallS, aCons, aNil, aCB, aVar, aC, aOp, aUn, aAsg, aRet, aTup, aNext, aIf, aAndV, aOrV, aFld, aSetF, aMeth, gmN,
    startG_1, startG_2, startG_3, startG_4, List.replicate, List.getElem?_cons_zero, List.getElem?_cons_succ, List.append_nil, List.set_cons_succ, List.set_cons_zero, Bool.not_true, Bool.not_false, Bool.false_eq_true, if_false, if_true, decide_false, decide_true, wInt, wInt0, wLt, wDiv, wAbs, a_Ratio_init, isn_i, wEq_ii, hb]
  refine ⟨_, _, rfl, by rw [abs_nat]; omega, by rw [abs_nat]; omega, ?_⟩
  rw [abs_nat, abs_nat, gcdI_abs, gcdI_abs2]
  by_cases hn : b < 0
  · simp only [aSeq, aIfS, aOr, aAnd, aNot, aB, aV, aCall, aCallS, aCons, aNil, aCB, aVar, aC, aOp, aUn, aAsg, aRet, aTup, aNext, aIf, aAndV, aOrV, aFld, aSetF, aMeth, gmN,
    startG_1, startG_2, startG_3, startG_4, List.replicate, List.getElem?_cons_zero, List.getElem?_cons_succ, List.append_nil, List.set_cons_succ, List.set_cons_zero, Bool.not_true, Bool.not_false, Bool.false_eq_true, if_false, if_true, decide_false, decide_true, wInt, wInt0, wLt, wDiv, wAbs, hn, wNeg, wDivM]
    refine ⟨divM (by omega) h3.neg, ?_⟩
    simp only [aSeq, aIfS, aOr, aAnd, aNot, aB, aV, aCall, aCallS, aCons, aNil, aCB, aVar, aC, aOp, aUn, aAsg, aRet, aTup, aNext, aIf, aAndV, aOrV, aFld, aSetF, aMeth, gmN,
    startG_1, startG_2, startG_3, startG_4, List.replicate, List.getElem?_cons_zero, List.getElem?_cons_succ, List.append_nil, List.set_cons_succ, List.set_cons_zero, Bool.not_true, Bool.not_false, Bool.false_eq_true, if_false, if_true, decide_false, decide_true, wInt, wInt0, wLt, wDiv, wAbs, List.lookup_cons, BEq.rfl, cset, putN, putL]
    refine ⟨trivial, by decide, divM (by omega) h3.neg, ?_⟩
    rw [fdiv_neg_e h1, fdiv_neg_e h1]
    refine ⟨trivial, by decide, 0, ?_⟩
    have e : redS a b = ((-a) / gcdI a b, (-b) / gcdI a b) := by
      unfold redS red
      rw [if_pos hn, gcdI_negs]
    rw [e] at hP
    exact hP
  · simp only [aSeq, aIfS, aOr, aAnd, aNot, aB, aV, aCall, aCallS, aCons, aNil, aCB, aVar, aC, aOp, aUn, aAsg, aRet, aTup, aNext, aIf, aAndV, aOrV, aFld, aSetF, aMeth, gmN,
    startG_1, startG_2, startG_3, startG_4, List.replicate, List.getElem?_cons_zero, List.getElem?_cons_succ, List.append_nil, List.set_cons_succ, List.set_cons_zero, Bool.not_true, Bool.not_false, Bool.false_eq_true, if_false, if_true, decide_false, decide_true, wInt, wInt0, wLt, wDiv, wAbs, hn, wDivM]
    refine ⟨divM (by omega) h3, ?_⟩
    simp only [aSeq, aIfS, aOr, aAnd, aNot, aB, aV, aCall, aCallS, aCons, aNil, aCB, aVar, aC, aOp, aUn, aAsg, aRet, aTup, aNext, aIf, aAndV, aOrV, aFld, aSetF, aMeth, gmN,
    startG_1, startG_2, startG_3, startG_4, List.replicate, List.getElem?_cons_zero, List.getElem?_cons_succ, List.append_nil, List.set_cons_succ, List.set_cons_zero, Bool.not_true, Bool.not_false, Bool.false_eq_true, if_false, if_true, decide_false, decide_true, wInt, wInt0, wLt, wDiv, wAbs, List.lookup_cons, BEq.rfl, cset, putN, putL]
    refine ⟨trivial, by decide, divM (by omega) h3, ?_⟩
    rw [fdiv_e h1, fdiv_e h1]
    refine ⟨trivial, by decide, 0, ?_⟩
    have e : redS a b = (a / gcdI a b, b / gcdI a b) := by
      unfold redS red
      rw [if_neg hn]
    rw [e] at hP
    exact hP
theorem init_go {p : Addr} {a b : Int} {P : D → Cs → Prop} (hb : b ≠ 0) (sa : Sm 8000 a) (sb : Sm 8000 b) (h : P .non [(p, rt (redS a b))]) : A_Ratio_init [.adr p, .int a, .int b] [(p, .obj "Ratio" [] [])] P := ⟨p, a, b, rfl, rfl, hb, sa, sb, h⟩
theorem initP_go {p : Addr} {a b : Int} {P : D → Cs → Prop} (hb : 0 < b) (sa : Sm 8000 a) (sb : Sm 8000 b) (h : P .non [(p, rt (red a b))]) : A_Ratio_init [.adr p, .int a, .int b] [(p, .obj "Ratio" [] [])] P := init_go (by omega) sa sb (by rw [redS_pos hb]; exact h)
theorem pure_Ratio_below : ∀ ds P, A_Ratio_below ds P → a_Ratio_below { nx := fun _ _ => P .non, rt := fun d _ => P d } (startG 2 ds) [] := by
  rintro ds P ⟨x, y, rfl, gx, gy, hP⟩
  simp only [aSeq, aIfS, aOr, aAnd, aNot, aB, aV, aCall, aCallS, aCons, aNil, aCB, aVar, aC, aOp, aUn, aAsg, aRet, aTup, aNext, aIf, aAndV, aOrV, aFld, aSetF, aMeth, gmN,
    startG_1, startG_2, startG_3, startG_4, List.replicate, List.getElem?_cons_zero, List.getElem?_cons_succ, List.append_nil, List.set_cons_succ, List.set_cons_zero, Bool.not_true, Bool.not_false, Bool.false_eq_true, if_false, if_true, decide_false, decide_true, wInt, wInt0, wLt, wDiv, wAbs, a_Ratio_below, rt, lk_top, lk_bot, wMulX, wMul, true_and]
  exact ⟨mulA gx.a gy.b (by decide) (by decide) (by decide), mulA gy.a gx.b (by decide) (by decide) (by decide), hP⟩
theorem pure_Ratio_add : ∀ ds P, A_Ratio_add ds P → a_Ratio_add { nx := fun _ _ => P .non, rt := fun d _ => P d } (startG 2 ds) [] := by
  rintro ds P ⟨x, y, rfl, gx, gy, hP⟩
  simp only [aSeq, aIfS, aOr, aAnd, aNot, aB, aV, aCall, aCallS, aCons, aNil, aCB, aVar, aC, aOp, aUn, aAsg, aRet, aTup, aNext, aIf, aAndV, aOrV, aFld, aSetF, aMeth, gmN,
    startG_1, startG_2, startG_3, startG_4, List.replicate, List.getElem?_cons_zero, List.getElem?_cons_succ, List.append_nil, List.set_cons_succ, List.set_cons_zero, Bool.not_true, Bool.not_false, Bool.false_eq_true, if_false, if_true, decide_false, decide_true, wInt, wInt0, wLt, wDiv, wAbs, a_Ratio_add, rt, lk_top, lk_bot, wMulX, wMul, wAdd, true_and, aMake]
  refine ⟨mulA gx.a gy.b (by decide) (by decide) (by decide), mulA gy.a gx.b (by decide) (by decide) (by decide), mulA gx.b gy.b (by decide) (by decide) (by decide), fun p => ?_⟩
  exact initP_go (Int.mul_pos gx.pos gy.pos) (((gx.a.mul gy.b).add (gy.a.mul gx.b)).mono (by decide)) ((gx.b.mul gy.b).mono (by decide)) ⟨rfl, _, rfl, hP⟩
theorem pure_Ratio_sub : ∀ ds P, A_Ratio_sub ds P → a_Ratio_sub { nx := fun _ _ => P .non, rt := fun d _ => P d } (startG 2 ds) [] := by
  rintro ds P ⟨x, y, rfl, gx, gy, hP⟩
  simp only [aSeq, aIfS, aOr, aAnd, aNot, aB, aV, aCall, aCallS, aCons, aNil, aCB, aVar, aC, aOp, aUn, aAsg, aRet, aTup, aNext, aIf, aAndV, aOrV, aFld, aSetF, aMeth, gmN,
    startG_1, startG_2, startG_3, startG_4, List.replicate, List.getElem?_cons_zero, List.getElem?_cons_succ, List.append_nil, List.set_cons_succ, List.set_cons_zero, Bool.not_true, Bool.not_false, Bool.false_eq_true, if_false, if_true, decide_false, decide_true, wInt, wInt0, wLt, wDiv, wAbs, a_Ratio_sub, rt, lk_top, lk_bot, wMulX, wMul, wSub, true_and, aMake]
  refine ⟨mulA gx.a gy.b (by decide) (by decide) (by decide), mulA gy.a gx.b (by decide) (by decide) (by decide), mulA gx.b gy.b (by decide) (by decide) (by decide), fun p => ?_⟩
  exact initP_go (Int.mul_pos gx.pos gy.pos) (((gx.a.mul gy.b).sub (gy.a.mul gx.b)).mono (by decide)) ((gx.b.mul gy.b).mono (by decide)) ⟨rfl, _, rfl, hP⟩
theorem pure_Ratio_mul : ∀ ds P, A_Ratio_mul ds P → a_Ratio_mul { nx := fun _ _ => P .non, rt := fun d _ => P d } (startG 2 ds) [] := by
  rintro ds P ⟨x, y, rfl, gx, gy, hP⟩
  simp only [aSeq, aIfS, aOr, aAnd, aNot, aB, aV, aCall, aCallS, aCons, aNil, aCB, aVar, aC, aOp, aUn, aAsg, aRet, aTup, aNext, aIf, aAndV, aOrV, aFld, aSetF, aMeth, gmN,
    startG_1, startG_2, startG_3, startG_4, List.replicate, List.getElem?_cons_zero, List.getElem?_cons_succ, List.append_nil, List.set_cons_succ, List.set_cons_zero, Bool.not_true, Bool.not_false, Bool.false_eq_true, if_false, if_true, decide_false, decide_true, wInt, wInt0, wLt, wDiv, wAbs, a_Ratio_mul, rt, lk_top, lk_bot, wMulX, wMul, wAdd, true_and, aMake]
  refine ⟨mulA gx.a gy.a (by decide) (by decide) (by decide), mulA gx.b gy.b (by decide) (by decide) (by decide), fun p => ?_⟩
  exact initP_go (Int.mul_pos gx.pos gy.pos) ((gx.a.mul gy.a).mono (by decide)) ((gx.b.mul gy.b).mono (by decide)) ⟨rfl, _, rfl, hP⟩
theorem pure_Ratio_neg : ∀ ds P, A_Ratio_neg ds P → a_Ratio_neg { nx := fun _ _ => P .non, rt := fun d _ => P d } (startG 1 ds) [] := by
  rintro ds P ⟨x, rfl, gx, hP⟩
  simp only [aSeq, aIfS, aOr, aAnd, aNot, aB, aV, aCall, aCallS, aCons, aNil, aCB, aVar, aC, aOp, aUn, aAsg, aRet, aTup, aNext, aIf, aAndV, aOrV, aFld, aSetF, aMeth, gmN,
    startG_1, startG_2, startG_3, startG_4, List.replicate, List.getElem?_cons_zero, List.getElem?_cons_succ, List.append_nil, List.set_cons_succ, List.set_cons_zero, Bool.not_true, Bool.not_false, Bool.false_eq_true, if_false, if_true, decide_false, decide_true, wInt, wInt0, wLt, wDiv, wAbs, a_Ratio_neg, rt, lk_top, lk_bot, wSub, true_and, aMake]
  intro p
  have e : Sm 8000 (0 - x.1) := by rw [Int.zero_sub]; exact gx.a.neg.mono (by decide)
  exact initP_go gx.pos e (gx.b.mono (by decide)) ⟨rfl, _, rfl, hP⟩
theorem pure_Ratio_eq : ∀ ds P, A_Ratio_eq ds P → a_Ratio_eq { nx := fun _ _ => P .non, rt := fun d _ => P d } (startG 2 ds) [] := by
  rintro ds P (⟨x, y, rfl, hP⟩ | ⟨x, i, rfl, hP⟩)
  · simp only [aSeq, aIfS, aOr, aAnd, aNot, aB, aV, aCall, aCallS, aCons, aNil, aCB, aVar, aC, aOp, aUn, aAsg, aRet, aTup, aNext, aIf, aAndV, aOrV, aFld, aSetF, aMeth, gmN,
      startG_1, startG_2, startG_3, startG_4, List.replicate, List.getElem?_cons_zero, List.getElem?_cons_succ, List.append_nil, List.set_cons_succ, List.set_cons_zero, Bool.not_true, Bool.not_false, Bool.false_eq_true, if_false, if_true, decide_false, decide_true, wInt, wInt0, wLt, wDiv, wAbs, a_Ratio_eq, rt, lk_top, lk_bot, wIsiO, true_and, wEq_ii, List.mem_cons, true_or]
    by_cases h1 : x.1 = y.1
    · simp only [aSeq, aIfS, aOr, aAnd, aNot, aB, aV, aCall, aCallS, aCons, aNil, aCB, aVar, aC, aOp, aUn, aAsg, aRet, aTup, aNext, aIf, aAndV, aOrV, aFld, aSetF, aMeth, gmN,
      startG_1, startG_2, startG_3, startG_4, List.replicate, List.getElem?_cons_zero, List.getElem?_cons_succ, List.append_nil, List.set_cons_succ, List.set_cons_zero, Bool.not_true, Bool.not_false, Bool.false_eq_true, if_false, if_true, decide_false, decide_true, wInt, wInt0, wLt, wDiv, wAbs, h1]
      by_cases h2 : x.2 = y.2
      · simp only [aSeq, aIfS, aOr, aAnd, aNot, aB, aV, aCall, aCallS, aCons, aNil, aCB, aVar, aC, aOp, aUn, aAsg, aRet, aTup, aNext, aIf, aAndV, aOrV, aFld, aSetF, aMeth, gmN,
      startG_1, startG_2, startG_3, startG_4, List.replicate, List.getElem?_cons_zero, List.getElem?_cons_succ, List.append_nil, List.set_cons_succ, List.set_cons_zero, Bool.not_true, Bool.not_false, Bool.false_eq_true, if_false, if_true, decide_false, decide_true, wInt, wInt0, wLt, wDiv, wAbs, h2]
        rw [show decide (x = y) = true from decide_eq_true ((ip_eq x y).mpr ⟨h1, h2⟩)] at hP
        exact hP
      · simp only [aSeq, aIfS, aOr, aAnd, aNot, aB, aV, aCall, aCallS, aCons, aNil, aCB, aVar, aC, aOp, aUn, aAsg, aRet, aTup, aNext, aIf, aAndV, aOrV, aFld, aSetF, aMeth, gmN,
      startG_1, startG_2, startG_3, startG_4, List.replicate, List.getElem?_cons_zero, List.getElem?_cons_succ, List.append_nil, List.set_cons_succ, List.set_cons_zero, Bool.not_true, Bool.not_false, Bool.false_eq_true, if_false, if_true, decide_false, decide_true, wInt, wInt0, wLt, wDiv, wAbs, h2]
        rw [show decide (x = y) = false from decide_eq_false fun z => h2 ((ip_eq x y).mp z).2] at hP
        exact hP
    · simp only [aSeq, aIfS, aOr, aAnd, aNot, aB, aV, aCall, aCallS, aCons, aNil, aCB, aVar, aC, aOp, aUn, aAsg, aRet, aTup, aNext, aIf, aAndV, aOrV, aFld, aSetF, aMeth, gmN,
      startG_1, startG_2, startG_3, startG_4, List.replicate, List.getElem?_cons_zero, List.getElem?_cons_succ, List.append_nil, List.set_cons_succ, List.set_cons_zero, Bool.not_true, Bool.not_false, Bool.false_eq_true, if_false, if_true, decide_false, decide_true, wInt, wInt0, wLt, wDiv, wAbs, h1]
      rw [show decide (x = y) = false from decide_eq_false fun z => h1 ((ip_eq x y).mp z).1] at hP
      exact hP
  · simp only [aSeq, aIfS, aOr, aAnd, aNot, aB, aV, aCall, aCallS, aCons, aNil, aCB, aVar, aC, aOp, aUn, aAsg, aRet, aTup, aNext, aIf, aAndV, aOrV, aFld, aSetF, aMeth, gmN,
    startG_1, startG_2, startG_3, startG_4, List.replicate, List.getElem?_cons_zero, List.getElem?_cons_succ, List.append_nil, List.set_cons_succ, List.set_cons_zero, Bool.not_true, Bool.not_false, Bool.false_eq_true, if_false, if_true, decide_false, decide_true, wInt, wInt0, wLt, wDiv, wAbs, a_Ratio_eq, rt, wIsiO, true_and, tyN, Option.isSome_some, List.mem_cons, true_or]
    first | exact hP | exact ⟨by simp, hP⟩
theorem pure_Ratio_over : ∀ ds P Xc, A_Ratio_over ds P Xc → a_Ratio_over (fun c ns es _ => Xc c ns es) { nx := fun _ _ => P .non, rt := fun d _ => P d } (startG 2 ds) [] := by
  rintro ds P Xc ⟨x, y, rfl, gx, gy, hP⟩
  simp only [aSeq, aIfS, aOr, aAnd, aNot, aB, aV, aCall, aCallS, aCons, aNil, aCB, aVar, aC, aOp, aUn, aAsg, aRet, aTup, aNext, aIf, aAndV, aOrV, aFld, aSetF, aMeth, gmN,
    startG_1, startG_2, startG_3, startG_4, List.replicate, List.getElem?_cons_zero, List.getElem?_cons_succ, List.append_nil, List.set_cons_succ, List.set_cons_zero, Bool.not_true, Bool.not_false, Bool.false_eq_true, if_false, if_true, decide_false, decide_true, wInt, wInt0, wLt, wDiv, wAbs, a_Ratio_over, rt, lk_top, lk_bot, wMulX, wMul, true_and, aMake, aRaise, wEq_ii]
  by_cases h : y.1 = 0
  · rw [if_pos h] at hP
    simp only [aSeq, aIfS, aOr, aAnd, aNot, aB, aV, aCall, aCallS, aCons, aNil, aCB, aVar, aC, aOp, aUn, aAsg, aRet, aTup, aNext, aIf, aAndV, aOrV, aFld, aSetF, aMeth, gmN,
    startG_1, startG_2, startG_3, startG_4, List.replicate, List.getElem?_cons_zero, List.getElem?_cons_succ, List.append_nil, List.set_cons_succ, List.set_cons_zero, Bool.not_true, Bool.not_false, Bool.false_eq_true, if_false, if_true, decide_false, decide_true, wInt, wInt0, wLt, wDiv, wAbs, h]
    rw [show rt y = .obj "Ratio" ["own_top", "own_bottom"] [.int y.1, .int y.2] from rfl, h] at hP
    exact hP
  · rw [if_neg h] at hP
    simp only [aSeq, aIfS, aOr, aAnd, aNot, aB, aV, aCall, aCallS, aCons, aNil, aCB, aVar, aC, aOp, aUn, aAsg, aRet, aTup, aNext, aIf, aAndV, aOrV, aFld, aSetF, aMeth, gmN,
    startG_1, startG_2, startG_3, startG_4, List.replicate, List.getElem?_cons_zero, List.getElem?_cons_succ, List.append_nil, List.set_cons_succ, List.set_cons_zero, Bool.not_true, Bool.not_false, Bool.false_eq_true, if_false, if_true, decide_false, decide_true, wInt, wInt0, wLt, wDiv, wAbs, h, lk_top, lk_bot, true_and]
    refine ⟨mulA gx.a gy.b (by decide) (by decide) (by decide), mulA gx.b gy.a (by decide) (by decide) (by decide), fun p => ?_⟩
    exact init_go (Int.mul_ne_zero (by have := gx.pos; omega) h) ((gx.a.mul gy.b).mono (by decide)) ((gx.b.mul gy.a).mono (by decide)) ⟨rfl, _, rfl, hP⟩
def A_Ratio_str (ds : List D) (P : D → Prop) : Prop := ∃ x : IP, ds = [rt x] ∧ Good 1900 x ∧ P (.str (frT x))
def A_Ratio_repr (ds : List D) (P : D → Prop) : Prop := ∃ x : IP, ds = [rt x] ∧ Good 1900 x ∧ P (.str ("Ratio(" ++ frT x ++ ")"))
def A_Ratio_bool (ds : List D) (P : D → Prop) : Prop := ∃ x : IP, ds = [rt x] ∧ P (.bl (!decide (x.1 = 0)))
/-- slots: 0 self -/
def a_Ratio_bool : ATS :=
  aRet (aCB wToBool (aCons (aOp wNe (aFld "Ratio" "own_top" (aVar 0)) (aC (.int 0))) (aNil)))
/-- slots: 0 self -/
def a_Ratio_str : ATS :=
  aSeq (aIfS (aB (aOp wEq (aFld "Ratio" "own_bottom" (aVar 0)) (aC (.int 1)))) (aRet (aCB wStrI (aCons (aFld "Ratio" "own_top" (aVar 0)) (aNil)))) (aNext))
  (aRet (aJoined [aFmt (aFld "Ratio" "own_top" (aVar 0)), aC (.str "/"), aFmt (aFld "Ratio" "own_bottom" (aVar 0))]))
/-- slots: 0 self -/
def a_Ratio_repr : ATS :=
  aRet (aJoined [aC (.str "Ratio("), aUn (gTxt "Ratio" A_Ratio_str) (aVar 0), aC (.str ")")])
theorem len_Ratio_str : ∀ ds P, A_Ratio_str ds P → ds.length = 1 := by rintro ds P ⟨x, rfl, _⟩; rfl
theorem len_Ratio_repr : ∀ ds P, A_Ratio_repr ds P → ds.length = 1 := by rintro ds P ⟨x, rfl, _⟩; rfl
theorem len_Ratio_bool : ∀ ds P, A_Ratio_bool ds P → ds.length = 1 := by rintro ds P ⟨x, rfl, _⟩; rfl
theorem pure_Ratio_str : ∀ ds P, A_Ratio_str ds P → a_Ratio_str { nx := fun _ _ => P .non, rt := fun d _ => P d } (startG 1 ds) [] := by
  rintro ds P ⟨x, rfl, gx, hP⟩
  have l1 : x.1.natAbs.log2 < 1920 := gx.a.log (by decide) (by decide)
  have l2 : x.2.natAbs.log2 < 1920 := gx.b.log (by decide) (by decide)
  unfold frT at hP
  by_cases h : x.2 = 1
  · simp only [aSeq, aIfS, aOr, aAnd, aNot, aB, aV, aCall, aCallS, aCons, aNil, aCB, aVar, aC, aOp, aUn, aAsg, aRet, aTup, aNext, aIf, aAndV, aOrV, aFld, aSetF, aMeth, gmN,
    startG_1, startG_2, startG_3, startG_4, List.replicate, List.getElem?_cons_zero, List.getElem?_cons_succ, List.append_nil, List.set_cons_succ, List.set_cons_zero, Bool.not_true, Bool.not_false, Bool.false_eq_true, if_false, if_true, decide_false, decide_true, wInt, wInt0, wLt, wDiv, wAbs, a_Ratio_str, rt, lk_top, lk_bot, true_and, wEq_ii, wStrI]
    simp only [aSeq, aIfS, aOr, aAnd, aNot, aB, aV, aCall, aCallS, aCons, aNil, aCB, aVar, aC, aOp, aUn, aAsg, aRet, aTup, aNext, aIf, aAndV, aOrV, aFld, aSetF, aMeth, gmN,
    startG_1, startG_2, startG_3, startG_4, List.replicate, List.getElem?_cons_zero, List.getElem?_cons_succ, List.append_nil, List.set_cons_succ, List.set_cons_zero, Bool.not_true, Bool.not_false, Bool.false_eq_true, if_false, if_true, decide_false, decide_true, wInt, wInt0, wLt, wDiv, wAbs, h]
    rw [if_pos h] at hP
    exact ⟨l1, hP⟩
  · simp only [aSeq, aIfS, aOr, aAnd, aNot, aB, aV, aCall, aCallS, aCons, aNil, aCB, aVar, aC, aOp, aUn, aAsg, aRet, aTup, aNext, aIf, aAndV, aOrV, aFld, aSetF, aMeth, gmN,
    startG_1, startG_2, startG_3, startG_4, List.replicate, List.getElem?_cons_zero, List.getElem?_cons_succ, List.append_nil, List.set_cons_succ, List.set_cons_zero, Bool.not_true, Bool.not_false, Bool.false_eq_true, if_false, if_true, decide_false, decide_true, wInt, wInt0, wLt, wDiv, wAbs, a_Ratio_str, rt, lk_top, lk_bot, true_and, wEq_ii]
    simp only [aSeq, aIfS, aOr, aAnd, aNot, aB, aV, aCall, aCallS, aCons, aNil, aCB, aVar, aC, aOp, aUn, aAsg, aRet, aTup, aNext, aIf, aAndV, aOrV, aFld, aSetF, aMeth, gmN,
    startG_1, startG_2, startG_3, startG_4, List.replicate, List.getElem?_cons_zero, List.getElem?_cons_succ, List.append_nil, List.set_cons_succ, List.set_cons_zero, Bool.not_true, Bool.not_false, Bool.false_eq_true, if_false, if_true, decide_false, decide_true, wInt, wInt0, wLt, wDiv, wAbs, h, aJoined, aJs, aFmt, wFmt, lk_top, lk_bot, true_and]
    rw [if_neg h] at hP
    have t1 := tI_len l1
    have t2 := tI_len l2
    refine ⟨l1, ?_, ?_, l2, ?_, ?_⟩
    · show Str.empty.length + (tI x.1).length ≤ _
      rw [emp_len]; omega
    · rw [len_app, emp_len, sl_len]
      show 0 + (tI x.1).length + 1 ≤ _
      omega
    · rw [len_app, len_app, emp_len, sl_len]
      show 0 + (tI x.1).length + 1 + (tI x.2).length ≤ _
      omega
    · rw [emp_app]
      exact hP
theorem pure_Ratio_bool : ∀ ds P, A_Ratio_bool ds P → a_Ratio_bool { nx := fun _ _ => P .non, rt := fun d _ => P d } (startG 1 ds) [] := by
  rintro ds P ⟨x, rfl, hP⟩
  simp only [aSeq, aIfS, aOr, aAnd, aNot, aB, aV, aCall, aCallS, aCons, aNil, aCB, aVar, aC, aOp, aUn, aAsg, aRet, aTup, aNext, aIf, aAndV, aOrV, aFld, aSetF, aMeth, gmN,
    startG_1, startG_2, startG_3, startG_4, List.replicate, List.getElem?_cons_zero, List.getElem?_cons_succ, List.append_nil, List.set_cons_succ, List.set_cons_zero, Bool.not_true, Bool.not_false, Bool.false_eq_true, if_false, if_true, decide_false, decide_true, wInt, wInt0, wLt, wDiv, wAbs, a_Ratio_bool, rt, lk_top, true_and, wNe_ii, wToBool]
  exact hP
theorem pure_Ratio_repr : ∀ ds P, A_Ratio_repr ds P → a_Ratio_repr { nx := fun _ _ => P .non, rt := fun d _ => P d } (startG 1 ds) [] := by
  rintro ds P ⟨x, rfl, gx, hP⟩
  have l1 := frT_len gx
  have c1 : (Str.ofString "Ratio(").length = 6 := by decide
  have c2 : (Str.ofString ")").length = 1 := by decide
  simp only [aSeq, aIfS, aOr, aAnd, aNot, aB, aV, aCall, aCallS, aCons, aNil, aCB, aVar, aC, aOp, aUn, aAsg, aRet, aTup, aNext, aIf, aAndV, aOrV, aFld, aSetF, aMeth, gmN,
    startG_1, startG_2, startG_3, startG_4, List.replicate, List.getElem?_cons_zero, List.getElem?_cons_succ, List.append_nil, List.set_cons_succ, List.set_cons_zero, Bool.not_true, Bool.not_false, Bool.false_eq_true, if_false, if_true, decide_false, decide_true, wInt, wInt0, wLt, wDiv, wAbs, a_Ratio_repr, aJoined, aJs, gTxt, gUno, rt]
  refine ⟨by rw [emp_len]; omega, trivial, x, rfl, gx, ?_⟩
  refine ⟨by rw [emp_app]; omega, by rw [emp_app, len_app]; omega, ?_⟩
  rw [emp_app]
  exact hP
end Bd
/-! BgG -/
namespace Bd
open PySem L2
theorem dpt_pos : ∀ x, 1 ≤ dpt x := by intro x; cases x <;> simp [dpt]
theorem zero_l_same : ∀ ds P, ¬ A_l_same 0 ds P := by
  rintro ds P ⟨x, y, _, _, _, h, _⟩
  have := dpt_pos y
  omega
end Bd
namespace Bd
open PySem L2
/-! RaC: the laws' own fractions -/
def A_l_divisor (ds : List D) (P : D → Prop) : Prop := ∃ a b : Int, ds = [.int a, .int b] ∧ 0 ≤ a ∧ 0 ≤ b ∧ P (.int (gcdI a b))
def A_l_frac (ds : List D) (P : D → Prop) : Prop := ∃ a b : Int, ds = [.int a, .int b] ∧ 0 < b ∧ Sm 8000 a ∧ Sm 8000 b ∧ P (pr (red a b))
def A_l_plus (ds : List D) (P : D → Prop) : Prop := ∃ x y : IP, ds = [pr x, pr y] ∧ Good 2000 x ∧ Good 2000 y ∧ P (pr (addR x y))
def A_l_minus (ds : List D) (P : D → Prop) : Prop := ∃ x y : IP, ds = [pr x, pr y] ∧ Good 2000 x ∧ Good 2000 y ∧ P (pr (subR x y))
def A_l_times (ds : List D) (P : D → Prop) : Prop := ∃ x y : IP, ds = [pr x, pr y] ∧ Good 2000 x ∧ Good 2000 y ∧ P (pr (mulR x y))
def A_l_less (ds : List D) (P : D → Prop) : Prop := ∃ x y : IP, ds = [pr x, pr y] ∧ Good 2000 x ∧ Good 2000 y ∧ P (.bl (lessR x y))
def A_l_ratio (ds : List D) (P : D → Prop) : Prop := ∃ x : IP, ds = [pr x] ∧ Good 2000 x ∧ Low x ∧ P (rt x)
def A_l_number (ds : List D) (P : D → Prop) : Prop := ds = [.hdl 0] ∧ ∀ i : Int, Sm 84 i → P (.int i)
/-- slots: 0 _law_one, 1 _law_other -/
def a_l_divisor : ATS :=
  aSeq (aWhile (aB (aOp wGt (aVar 1) (aC (.int 0)))) (aPar 0 1 (aCons (aVar 1) (aCons (aOp wMod (aVar 0) (aVar 1)) (aNil)))))
  (aRet (aVar 0))
/-- slots: 0 _law_top, 1 _law_bottom, 2 _law_by -/
def a_l_frac : ATS :=
  aSeq (aAsg (aCall A_l_divisor [] (aCons (aCB wAbs (aCons (aVar 0) (aNil))) (aCons (aVar 1) (aNil)))) (gmN 2))
  (aRet (aTup (aCons (aOp wDiv (aVar 0) (aVar 2)) (aCons (aOp wDiv (aVar 1) (aVar 2)) (aNil)))))
/-- slots: 0 _law_one, 1 _law_other -/
def a_l_plus : ATS :=
  aRet (aCall A_l_frac [] (aCons (aOp wAdd (aOp wMulX (aOp wIx (aVar 0) (aC (.int 0))) (aOp wIx (aVar 1) (aC (.int 1)))) (aOp wMulX (aOp wIx (aVar 1) (aC (.int 0))) (aOp wIx (aVar 0) (aC (.int 1))))) (aCons (aOp wMulX (aOp wIx (aVar 0) (aC (.int 1))) (aOp wIx (aVar 1) (aC (.int 1)))) (aNil))))
/-- slots: 0 _law_one, 1 _law_other -/
def a_l_minus : ATS :=
  aRet (aCall A_l_frac [] (aCons (aOp wSub (aOp wMulX (aOp wIx (aVar 0) (aC (.int 0))) (aOp wIx (aVar 1) (aC (.int 1)))) (aOp wMulX (aOp wIx (aVar 1) (aC (.int 0))) (aOp wIx (aVar 0) (aC (.int 1))))) (aCons (aOp wMulX (aOp wIx (aVar 0) (aC (.int 1))) (aOp wIx (aVar 1) (aC (.int 1)))) (aNil))))
/-- slots: 0 _law_one, 1 _law_other -/
def a_l_times : ATS :=
  aRet (aCall A_l_frac [] (aCons (aOp wMulX (aOp wIx (aVar 0) (aC (.int 0))) (aOp wIx (aVar 1) (aC (.int 0)))) (aCons (aOp wMulX (aOp wIx (aVar 0) (aC (.int 1))) (aOp wIx (aVar 1) (aC (.int 1)))) (aNil))))
/-- slots: 0 _law_one, 1 _law_other -/
def a_l_less : ATS :=
  aRet (aOp wLt (aOp wMulX (aOp wIx (aVar 0) (aC (.int 0))) (aOp wIx (aVar 1) (aC (.int 1)))) (aOp wMulX (aOp wIx (aVar 1) (aC (.int 0))) (aOp wIx (aVar 0) (aC (.int 1)))))
/-- slots: 0 _law_pair_here -/
def a_l_ratio : ATS :=
  aRet (aMake "Ratio" A_Ratio_init [] (aCons (aOp wIx (aVar 0) (aC (.int 0))) (aCons (aOp wIx (aVar 0) (aC (.int 1))) (aNil))))
/-- slots: 0 _law_bag_here, 1 _law_way, 2 _law_number_here -/
def a_l_number : ATS :=
  aSeq (aAsg (aCall A_l_pull [] (aCons (aVar 0) (aCons (aC (.int 6)) (aNil)))) (gmN 1))
  (aSeq (aIfS (aB (aOp wEq (aVar 1) (aC (.int 0)))) (aRet (aC (.int 0))) (aNext))
  (aSeq (aAsg (aOp wIx (aLst (aCons (aCall A_l_pull [] (aCons (aVar 0) (aCons (aC (.int 4)) (aNil)))) (aCons (aCall A_l_pull [] (aCons (aVar 0) (aCons (aC (.int 50)) (aNil)))) (aCons (aCall A_l_pull [] (aCons (aVar 0) (aCons (aOp wPow (aC (.int 10)) (aC (.int 6))) (aNil)))) (aCons (aCall A_l_pull [] (aCons (aVar 0) (aCons (aOp wPow (aC (.int 10)) (aC (.int 25))) (aNil)))) (aNil)))))) (aOp wMod (aVar 1) (aC (.int 4)))) (gmN 2))
  (aRet (aIf (aB (aOp wEq (aCall A_l_pull [] (aCons (aVar 0) (aCons (aC (.int 2)) (aNil)))) (aC (.int 0)))) (aUn wNeg (aVar 2)) (aVar 2)))))
theorem len_l_divisor : ∀ ds P, A_l_divisor ds P → ds.length = 2 := by rintro ds P ⟨a, b, rfl, _⟩; rfl
theorem len_l_frac : ∀ ds P, A_l_frac ds P → ds.length = 2 := by rintro ds P ⟨a, b, rfl, _⟩; rfl
theorem len_l_plus : ∀ ds P, A_l_plus ds P → ds.length = 2 := by rintro ds P ⟨a, b, rfl, _⟩; rfl
theorem len_l_minus : ∀ ds P, A_l_minus ds P → ds.length = 2 := by rintro ds P ⟨a, b, rfl, _⟩; rfl
theorem len_l_times : ∀ ds P, A_l_times ds P → ds.length = 2 := by rintro ds P ⟨a, b, rfl, _⟩; rfl
theorem len_l_less : ∀ ds P, A_l_less ds P → ds.length = 2 := by rintro ds P ⟨a, b, rfl, _⟩; rfl
theorem len_l_ratio : ∀ ds P, A_l_ratio ds P → ds.length = 1 := by rintro ds P ⟨x, rfl, _⟩; rfl
theorem len_l_number : ∀ ds P, A_l_number ds P → ds.length = 1 := by rintro ds P ⟨rfl, _⟩; rfl
theorem pure_l_divisor : ∀ ds P, A_l_divisor ds P → a_l_divisor { nx := fun _ _ => P .non, rt := fun d _ => P d } (startG 2 ds) [] := by
  rintro ds P ⟨a, b, rfl, ha, hb, hP⟩
  simp only [a_l_divisor, aSeq, aWhile]
  refine ⟨fun m Γ c => ∃ x y : Int, Γ = [some (.int x), some (.int y)] ∧ 0 ≤ x ∧ 0 ≤ y ∧ m = y.toNat ∧ gcdI x y = gcdI a b, ⟨b.toNat, a, b, rfl, ha, hb, rfl, rfl⟩, ?_⟩
  rintro m Γ c ⟨x, y, rfl, hx, hy, rfl, hg⟩
  by_cases h : 0 < y
  · obtain ⟨e1, e2, e3⟩ := gcdI_step hx h
    simp [h]
    exact ⟨by omega, (x.fmod y).toNat, by omega, y, x.fmod y, ⟨rfl, rfl⟩, by omega, e2, rfl, by rw [e1, hg]⟩
  · have e : y = 0 := by omega
    subst e
    simp
    rw [gcdI_zero hx] at hg
    rw [hg]
    exact hP
theorem pure_l_frac : ∀ ds P, A_l_frac ds P → a_l_frac { nx := fun _ _ => P .non, rt := fun d _ => P d } (startG 3 ds) [] := by
  rintro ds P ⟨a, b, rfl, hb, sa, sb, hP⟩
  have h1 := gcdI_pos (a := a) hb
  have h3 := gcdI_sm (a := a) hb sb
  simp only [a_l_frac, aSeq, aAsg, aCall, aCons, aNil, aCB, aVar, wAbs, startG_2, List.replicate, List.getElem?_cons_zero, List.getElem?_cons_succ, List.append_nil, gmN, List.set_cons_succ, List.set_cons_zero, aRet, aTup, aOp, wDiv, wInt]
  refine ⟨_, b, rfl, by rw [abs_nat]; omega, by omega, ?_⟩
  rw [abs_nat, gcdI_abs]
  refine ⟨divA h1 h3, divA h1 h3, ?_⟩
  rw [fdiv_e h1, fdiv_e h1]
  first | exact hP | exact ⟨by simp, hP⟩
theorem lix0 (x : IP) {P : D → Prop} (h : P (.int x.1)) : wIx (pr x) (.int 0) P := h
theorem lix1 (x : IP) {P : D → Prop} (h : P (.int x.2)) : wIx (pr x) (.int 1) P := h
@[simp] theorem ix0 (x : IP) {P : D → Prop} : wIx (pr x) (.int 0) P ↔ P (.int x.1) := Iff.rfl
@[simp] theorem ix1 (x : IP) {P : D → Prop} : wIx (pr x) (.int 1) P ↔ P (.int x.2) := Iff.rfl
theorem frac_go {a b : Int} {P : D → Prop} (hb : 0 < b) (sa : Sm 8000 a) (sb : Sm 8000 b) (h : P (pr (red a b))) : A_l_frac [.int a, .int b] P := ⟨a, b, rfl, hb, sa, sb, h⟩
theorem pure_l_plus : ∀ ds P, A_l_plus ds P → a_l_plus { nx := fun _ _ => P .non, rt := fun d _ => P d } (startG 2 ds) [] := by
  rintro ds P ⟨x, y, rfl, gx, gy, hP⟩
  simp only [aSeq, aIfS, aOr, aAnd, aNot, aB, aV, aCall, aCallS, aCons, aNil, aCB, aVar, aC, aOp, aUn, aAsg, aRet, aTup, aNext, aIf, aAndV, aOrV, aFld, aSetF, aMeth, gmN,
    startG_1, startG_2, startG_3, startG_4, List.replicate, List.getElem?_cons_zero, List.getElem?_cons_succ, List.append_nil, List.set_cons_succ, List.set_cons_zero, Bool.not_true, Bool.not_false, Bool.false_eq_true, if_false, if_true, decide_false, decide_true, wInt, wInt0, wLt, wDiv, wAbs, a_l_plus, ix0, ix1, wMulX, wMul, wAdd]
  exact ⟨mulA gx.a gy.b (by decide) (by decide) (by decide), mulA gy.a gx.b (by decide) (by decide) (by decide), mulA gx.b gy.b (by decide) (by decide) (by decide),
    frac_go (Int.mul_pos gx.pos gy.pos) (((gx.a.mul gy.b).add (gy.a.mul gx.b)).mono (by decide)) ((gx.b.mul gy.b).mono (by decide)) hP⟩
theorem pure_l_minus : ∀ ds P, A_l_minus ds P → a_l_minus { nx := fun _ _ => P .non, rt := fun d _ => P d } (startG 2 ds) [] := by
  rintro ds P ⟨x, y, rfl, gx, gy, hP⟩
  simp only [aSeq, aIfS, aOr, aAnd, aNot, aB, aV, aCall, aCallS, aCons, aNil, aCB, aVar, aC, aOp, aUn, aAsg, aRet, aTup, aNext, aIf, aAndV, aOrV, aFld, aSetF, aMeth, gmN,
    startG_1, startG_2, startG_3, startG_4, List.replicate, List.getElem?_cons_zero, List.getElem?_cons_succ, List.append_nil, List.set_cons_succ, List.set_cons_zero, Bool.not_true, Bool.not_false, Bool.false_eq_true, if_false, if_true, decide_false, decide_true, wInt, wInt0, wLt, wDiv, wAbs, a_l_minus, ix0, ix1, wMulX, wMul, wSub]
  exact ⟨mulA gx.a gy.b (by decide) (by decide) (by decide), mulA gy.a gx.b (by decide) (by decide) (by decide), mulA gx.b gy.b (by decide) (by decide) (by decide),
    frac_go (Int.mul_pos gx.pos gy.pos) (((gx.a.mul gy.b).sub (gy.a.mul gx.b)).mono (by decide)) ((gx.b.mul gy.b).mono (by decide)) hP⟩
theorem pure_l_times : ∀ ds P, A_l_times ds P → a_l_times { nx := fun _ _ => P .non, rt := fun d _ => P d } (startG 2 ds) [] := by
  rintro ds P ⟨x, y, rfl, gx, gy, hP⟩
  simp only [aSeq, aIfS, aOr, aAnd, aNot, aB, aV, aCall, aCallS, aCons, aNil, aCB, aVar, aC, aOp, aUn, aAsg, aRet, aTup, aNext, aIf, aAndV, aOrV, aFld, aSetF, aMeth, gmN,
    startG_1, startG_2, startG_3, startG_4, List.replicate, List.getElem?_cons_zero, List.getElem?_cons_succ, List.append_nil, List.set_cons_succ, List.set_cons_zero, Bool.not_true, Bool.not_false, Bool.false_eq_true, if_false, if_true, decide_false, decide_true, wInt, wInt0, wLt, wDiv, wAbs, a_l_times, ix0, ix1, wMulX, wMul, wAdd]
  exact ⟨mulA gx.a gy.a (by decide) (by decide) (by decide), mulA gx.b gy.b (by decide) (by decide) (by decide),
    frac_go (Int.mul_pos gx.pos gy.pos) ((gx.a.mul gy.a).mono (by decide)) ((gx.b.mul gy.b).mono (by decide)) hP⟩
theorem pure_l_less : ∀ ds P, A_l_less ds P → a_l_less { nx := fun _ _ => P .non, rt := fun d _ => P d } (startG 2 ds) [] := by
  rintro ds P ⟨x, y, rfl, gx, gy, hP⟩
  simp only [aSeq, aIfS, aOr, aAnd, aNot, aB, aV, aCall, aCallS, aCons, aNil, aCB, aVar, aC, aOp, aUn, aAsg, aRet, aTup, aNext, aIf, aAndV, aOrV, aFld, aSetF, aMeth, gmN,
    startG_1, startG_2, startG_3, startG_4, List.replicate, List.getElem?_cons_zero, List.getElem?_cons_succ, List.append_nil, List.set_cons_succ, List.set_cons_zero, Bool.not_true, Bool.not_false, Bool.false_eq_true, if_false, if_true, decide_false, decide_true, wInt, wInt0, wLt, wDiv, wAbs, a_l_less, ix0, ix1, wMulX, wMul, wAdd]
  exact ⟨mulA gx.a gy.b (by decide) (by decide) (by decide), mulA gy.a gx.b (by decide) (by decide) (by decide), hP⟩
theorem pure_l_ratio : ∀ ds P, A_l_ratio ds P → a_l_ratio { nx := fun _ _ => P .non, rt := fun d _ => P d } (startG 1 ds) [] := by
  rintro ds P ⟨x, rfl, gx, lx, hP⟩
  simp only [aSeq, aIfS, aOr, aAnd, aNot, aB, aV, aCall, aCallS, aCons, aNil, aCB, aVar, aC, aOp, aUn, aAsg, aRet, aTup, aNext, aIf, aAndV, aOrV, aFld, aSetF, aMeth, gmN,
    startG_1, startG_2, startG_3, startG_4, List.replicate, List.getElem?_cons_zero, List.getElem?_cons_succ, List.append_nil, List.set_cons_succ, List.set_cons_zero, Bool.not_true, Bool.not_false, Bool.false_eq_true, if_false, if_true, decide_false, decide_true, wInt, wInt0, wLt, wDiv, wAbs, a_l_ratio, ix0, ix1, aMake]
  intro p
  refine initP_go gx.pos (gx.a.mono (by decide)) (gx.b.mono (by decide)) ⟨rfl, _, rfl, ?_⟩
  rw [low_red lx]
  exact hP
theorem pure_l_number : ∀ ds P, A_l_number ds P → a_l_number { nx := fun _ _ => P .non, rt := fun d _ => P d } (startG 3 ds) [] := by
  rintro ds P ⟨rfl, hP⟩
  have sm : ∀ k m : Int, 0 ≤ k → k < m → m ≤ 2 ^ 84 → Sm 84 k := fun k m a b c => by
    unfold Sm
    omega
  simp only [aSeq, aIfS, aOr, aAnd, aNot, aB, aV, aCall, aCallS, aCons, aNil, aCB, aVar, aC, aOp, aUn, aAsg, aRet, aTup, aNext, aIf, aAndV, aOrV, aFld, aSetF, aMeth, gmN,
    startG_1, startG_2, startG_3, startG_4, List.replicate, List.getElem?_cons_zero, List.getElem?_cons_succ, List.append_nil, List.set_cons_succ, List.set_cons_zero, Bool.not_true, Bool.not_false, Bool.false_eq_true, if_false, if_true, decide_false, decide_true, wInt, wInt0, wLt, wDiv, wAbs, a_l_number]
  refine A_pull_go (by decide) (by decide) fun way w0 w1 => ?_
  simp only [aSeq, aIfS, aOr, aAnd, aNot, aB, aV, aCall, aCallS, aCons, aNil, aCB, aVar, aC, aOp, aUn, aAsg, aRet, aTup, aNext, aIf, aAndV, aOrV, aFld, aSetF, aMeth, gmN,
    startG_1, startG_2, startG_3, startG_4, List.replicate, List.getElem?_cons_zero, List.getElem?_cons_succ, List.append_nil, List.set_cons_succ, List.set_cons_zero, Bool.not_true, Bool.not_false, Bool.false_eq_true, if_false, if_true, decide_false, decide_true, wInt, wInt0, wLt, wDiv, wAbs, wEq_ii]
  by_cases h : way = 0
  · simp only [aSeq, aIfS, aOr, aAnd, aNot, aB, aV, aCall, aCallS, aCons, aNil, aCB, aVar, aC, aOp, aUn, aAsg, aRet, aTup, aNext, aIf, aAndV, aOrV, aFld, aSetF, aMeth, gmN,
    startG_1, startG_2, startG_3, startG_4, List.replicate, List.getElem?_cons_zero, List.getElem?_cons_succ, List.append_nil, List.set_cons_succ, List.set_cons_zero, Bool.not_true, Bool.not_false, Bool.false_eq_true, if_false, if_true, decide_false, decide_true, wInt, wInt0, wLt, wDiv, wAbs, h]
    exact hP 0 (by unfold Sm; decide)
  · simp only [aSeq, aIfS, aOr, aAnd, aNot, aB, aV, aCall, aCallS, aCons, aNil, aCB, aVar, aC, aOp, aUn, aAsg, aRet, aTup, aNext, aIf, aAndV, aOrV, aFld, aSetF, aMeth, gmN,
    startG_1, startG_2, startG_3, startG_4, List.replicate, List.getElem?_cons_zero, List.getElem?_cons_succ, List.append_nil, List.set_cons_succ, List.set_cons_zero, Bool.not_true, Bool.not_false, Bool.false_eq_true, if_false, if_true, decide_false, decide_true, wInt, wInt0, wLt, wDiv, wAbs, h]
    refine A_pull_go (by decide) (by decide) fun k0 a0 b0 => ?_
    refine A_pull_go (by decide) (by decide) fun k1 a1 b1 => ?_
    simp only [aSeq, aIfS, aOr, aAnd, aNot, aB, aV, aCall, aCallS, aCons, aNil, aCB, aVar, aC, aOp, aUn, aAsg, aRet, aTup, aNext, aIf, aAndV, aOrV, aFld, aSetF, aMeth, gmN,
    startG_1, startG_2, startG_3, startG_4, List.replicate, List.getElem?_cons_zero, List.getElem?_cons_succ, List.append_nil, List.set_cons_succ, List.set_cons_zero, Bool.not_true, Bool.not_false, Bool.false_eq_true, if_false, if_true, decide_false, decide_true, wInt, wInt0, wLt, wDiv, wAbs, wPow]
    refine ⟨⟨by decide, by decide, by decide⟩, A_pull_go (by decide) (by decide) fun k2 a2 b2 => ⟨⟨by decide, by decide, by decide⟩, A_pull_go (by decide) (by decide) fun k3 a3 b3 => ⟨by simp, ?_⟩⟩⟩
    obtain ⟨f1, f2⟩ := fmod_b (x := way) (show (0 : Int) < 4 by decide)
    obtain ⟨d, hd, e⟩ := atI_of (xs := [D.int k0, D.int k1, D.int k2, D.int k3]) f1 (by simpa using f2)
    have q : ∃ i : Int, d = .int i ∧ Sm 84 i := by
      simp only [List.mem_cons, List.not_mem_nil, or_false] at hd
      rcases hd with rfl | rfl | rfl | rfl
      · exact ⟨_, rfl, sm _ _ a0 b0 (by decide)⟩
      · exact ⟨_, rfl, sm _ _ a1 b1 (by decide)⟩
      · exact ⟨_, rfl, sm _ _ a2 b2 (by decide)⟩
      · exact ⟨_, rfl, sm _ _ a3 b3 (by decide)⟩
    obtain ⟨i, rfl, si⟩ := q
    refine ⟨(by show (4 : Int) ≠ 0; decide), ?_⟩
    simp only [wIx, e]
    refine A_pull_go (by decide) (by decide) fun z a4 b4 => ?_
    simp only [aSeq, aIfS, aOr, aAnd, aNot, aB, aV, aCall, aCallS, aCons, aNil, aCB, aVar, aC, aOp, aUn, aAsg, aRet, aTup, aNext, aIf, aAndV, aOrV, aFld, aSetF, aMeth, gmN,
    startG_1, startG_2, startG_3, startG_4, List.replicate, List.getElem?_cons_zero, List.getElem?_cons_succ, List.append_nil, List.set_cons_succ, List.set_cons_zero, Bool.not_true, Bool.not_false, Bool.false_eq_true, if_false, if_true, decide_false, decide_true, wInt, wInt0, wLt, wDiv, wAbs, wEq_ii]
    split
    · exact hP _ (by unfold Sm at si ⊢; omega)
    · exact hP _ si
end Bd
set_option exponentiation.threshold 5000
/-! IxA: int(text), str(int) of up to 4300 figures. -/
namespace PySem.W.KIN
open PySem PySem.Calls PySem.NumText PyProof.Rows
def NoDig (h : Heap) : Prop := ∃ K : PySem.W.Frag, K.In h ∧ PySem.W.nsIn K cStatics "sys.int_max_str_digits" = some none
theorem wp_maxdig {M : Model} {A : Around} {E : Value → Shared → Prop} {s : Shared} {Q : Nat → Shared → Prop} (hd : NoDig s.heap) (h : Q 4300 s) : wpAny M A Builtin.intMaxStrDigits Q E s := by
  obtain ⟨K, hn, e⟩ := hd
  unfold Builtin.intMaxStrDigits
  exact wpAny_bind ((PySem.W.looks_nsIn hn e).here (wpAny_pure h))
theorem big_none {M : Model} {A : Around} {E : Value → Shared → Prop} {s : Shared} {Q : Option Nat → Shared → Prop} {i : Int} (hd : NoDig s.heap) (hi : i.natAbs < 10 ^ 4300) (h : Q none s) : wpAny M A (Builtin.overDigitLimit? i) Q E s := by
  generalize hP : 10 ^ 4300 = top at hi
  have up : top ≤ 2 ^ 30000 := hP ▸ pow_hi
  unfold Builtin.overDigitLimit?
  by_cases few : i.natAbs.log2 < 1920
  · rw [if_pos few]
    exact wpAny_pure h
  · rw [if_neg few]
    refine wpAny_bind (wp_maxdig hd ?_)
    rw [hP]
    dsimp only
    by_cases many : i.natAbs.log2 / 30 + 1 > 1000
    · have := le_of_log2 (n := i.natAbs) (k := 30000) (by decide) (by omega)
      omega
    · rw [if_neg many]
      by_cases mid : i.natAbs.log2 < 3 * 4300
      · rw [if_pos (by simp [mid])]
        exact wpAny_pure h
      · rw [if_neg (by simp [mid]), if_neg (by omega)]
        exact wpAny_pure h
theorem wp_text43 {M : Model} {A : Around} {E : Value → Shared → Prop} {s : Shared} {Q : Value → Shared → Prop} {v : Value} {text : List Nat} {n : Int} (hd : NoDig s.heap)
    (hs : ¬ (text.takeWhile (· != 0)).length ≤ 640) (hr : (int_private% "readNumeral") 4300 10 (text.takeWhile (· != 0)) = (int_private% "Numeral.value") n)
    (ha : ((text.takeWhile (· != 0)).length == text.length) = true) (h : Q (.int n s.toks) { s with toks := s.toks + 1 }) :
    wpAny M A ((int_private% "intFromText") v text 10) Q E s := by
  obtain ⟨hp, g, d, tk, os⟩ := s
  repeat (any_goals (first
    | assumption
    | (with_reducible refine wpAny_ite_false (decide_eq_false hs) ?_)
    | (with_reducible refine wpAny_ite_true (decide_eq_true ha) ?_)
    | ((with_reducible show wpAny _ _ Builtin.intMaxStrDigits _ _ _); refine wp_maxdig hd ?_)
    | wp_step))
  all_goals (try rw [hr])
  all_goals (try dsimp only)
  repeat (any_goals (first
    | assumption
    | (with_reducible refine wpAny_ite_true (decide_eq_true ha) ?_)
    | wp_step))
set_option maxHeartbeats 4000000 in
theorem meets_text43 {x : PySem.Str} {u : Tok} {n : Int} (hx : x.length ≤ 4300) (hl : ¬ (numSeenOf x).length ≤ 640) (hn : PySem.intText? x = some n) : Meets (Builtin.«int.__new__» ⟨[.type "int", .str x u], []⟩) (fun _ R s => NoDig s.heap ∧ R (.ok (.ret (.int n s.toks))) { s with toks := s.toks + 1 }) :=
  .of_wp fun prog w A R s ⟨hd, h⟩ => by
    have f1 := F.conv_sub_int
    have f2 := F.madeHere_int
    have f3 := str_int
    have f4 := str_idx
    have f5 := str_trunc
    have f6 : typeOf (.str x u) = pure (.type "str") := rfl
    have hr : (int_private% "readNumeral") 4300 10 (numSeenOf x) = (int_private% "Numeral.value") n ∧ ((numSeenOf x).length == (numTextOf x).length) = true := by
      rcases read4300 x (Nat.le_trans hx (by decide)) with ⟨m, h1, h2, h3⟩ | ⟨h1, _⟩
      · rw [hn] at h1
        injection h1 with h1
        subst h1
        exact ⟨h3, h2⟩
      · rw [hn] at h1
        cases h1
    have hk := Hid.mk (And.intro hl hr)
    have hdk := Hid.mk hd
    clear hl hr hn hx hd
    obtain ⟨hp, g, d, tk, os⟩ := s
    repeat (any_goals (first
      | assumption
      | ((with_reducible show wpAny _ _ ((int_private% "intFromText") _ _ _) _ _ _); refine wp_text43 hdk.out hk.out.1 hk.out.2.1 hk.out.2.2 ?_)
      | wp_step))
    all_goals first | exact ⟨_, rfl, h⟩ | skip
section
variable {prog : Program} {w : World} {A : Around} {E : Value → Shared → Prop} {s : Shared} {Q : Value → Shared → Prop} {x : PySem.Str} {t : Tok} {n : Int}
theorem call_text43 (hd : NoDig s.heap) (hn : PySem.intText? x = some n) (hl : x.length ≤ 4300) (hx : (numSeenOf x).length = x.length) (h : Q (.int n s.toks) { s with toks := s.toks + 1 }) : wpAny (model prog w) A (call (.type "int") [.str x t]) Q E s := by
  by_cases h6 : x.length ≤ 640
  · exact call_text hn h6 h
  · exact call_int_1 (meets_text43 hl (by omega) hn) ⟨hd, rfl, h⟩
variable {i : Int}
theorem repr43 (hd : NoDig s.heap) (hi : i.natAbs < 10 ^ 4300) (h : Q (.str (toString i) s.toks) { s with toks := s.toks + 1 }) : wpAny (model prog w) A (call (.builtin "int.__repr__") [.int i t]) Q E s := by
  refine wpAny_call_entry F.slot_int_repr (typeIs_int s i t) F.entry_int_repr ?_ (F.args_int_repr_1 _)
  unfold Builtin.«int.__repr__»
  show wpAny _ _ (do let r ← Builtin.overDigitLimit? i; _) _ _ s
  exact wpAny_bind (big_none hd hi (wpAny_bind (wpAny_mkStr (wpAny_pure ⟨_, rfl, h⟩) (int_text_fits10 hi))))
theorem strOf43 (hd : NoDig s.heap) (hi : i.natAbs < 10 ^ 4300) (h : Q (.str (toString i) s.toks) { s with toks := s.toks + 1 }) : wpAny (model prog w) A (PySem.Builtin.Str.strOf (.int i t)) Q E s := by
  unfold PySem.Builtin.Str.strOf
  rw [show PySem.Builtin.Str.isExactStr (.int i t) = false from rfl]
  try (have hv : [Value.int i t].any Value.onHeap = false := rfl; simp only [cRoomFor, hv, Bool.false_eq_true, if_false, pure_bind])
  refine wpAny_bind (m := callSpecial? (.int i t) (Str.ofString "__str__")) (wpAny_callSpecial?_slot (name := Str.ofString "__str__") (typeIs_int s i t) F.slot_int_str ?_)
  refine wpAny_call_entry F.slot_int_str (typeIs_int s i t) entry_object_str ?_ (args_object_str _)
  unfold Builtin.«object.__str__»
  refine wpAny_bind (m := slotArgs "__str__" 0 _) (wpAny_pure ?_)
  try (have hv : [Value.int i t].any Value.onHeap = false := rfl; simp only [cRoomFor, hv, Bool.false_eq_true, if_false, pure_bind])
  refine wpAny_bind (m := callSpecialIfBound? (.int i t) (Str.ofString "__repr__")) (wpAny_callSpecialIfBound?_slot (name := Str.ofString "__repr__") (typeIs_int s i t) F.slot_int_repr
    (repr43 hd hi ?_))
  exact wpAny_pure ⟨_, rfl, wpAny_pure h⟩
theorem str43 (hd : NoDig s.heap) (hi : i.natAbs < 10 ^ 4300) (h : Q (.str (toString i) s.toks) { s with toks := s.toks + 1 }) : wpAny (model prog w) A (call (.type "str") [.int i t]) Q E s :=
  callType_new F.called_str (by decide) (F.typeCall_str_1 _) (F.newCall_str_1 _) (fun obj => F.args_object_init_2 obj _) F.entry_str_new
    (meets_str_new (S := fun _ R s => NoDig s.heap ∧ i.natAbs < 10 ^ 4300 ∧ R (.ok (.ret (.str (toString i) s.toks))) { s with toks := s.toks + 1 })
      fun _ _ _ _ _ hq => strOf43 hq.1 hq.2.1 hq.2.2)
    ⟨hd, hi, typeIs_str _ _ _, h⟩
theorem field43 (hd : NoDig s.heap) (hi : i.natAbs < 10 ^ 4300) (h : Q (.str (toString i) (s.toks + 1)) { s with toks := s.toks + 1 + 1 }) : wpAny (model prog w) A (formatField (.int i t) Str.empty) Q E s := by
  show wpAny _ _ (holding [.int i t] (pyFormat (.int i t) Str.empty)) Q E s
  refine wpAny_holding ?_
  unfold pyFormat
  refine wpAny_bind (wpAny_mkStr ?_ (by decide))
  refine wpAny_bind (m := callSpecial? (.int i t) (Str.ofString "__format__") [.str Str.empty s.toks]) (wpAny_callSpecial?_slot (name := Str.ofString "__format__") (typeIs_int _ i t) slot_int_format ?_)
  refine wpAny_call (codeAny_call_builtin slot_int_format.plain entry_int_format (slot_int_format.check _ _ _ _ _ _ _ _ (typeIs_int _ i t) (args_int_format _ _) ?_))
  show wpAny _ _ (do let _kind ← PySem.typeNameOf (.str Str.empty s.toks); (do rule "int.format.empty"; again (.builtin "int.__repr__" ⟨[.int i t], []⟩))) _ _ _
  have hcode : ∀ (A' : Around) (R : Result → Shared → Prop) (s' : Shared), NoDig s'.heap → R (.ok (.ret (.str (toString i) s'.toks))) { s' with toks := s'.toks + 1 } → codeAny (model prog w) A' (.builtin "int.__repr__" ⟨[.int i t], []⟩) R s' := by
    intro A' R s' hd' h'
    refine codeAny_builtin entry_int_repr ?_
    rw [Around.under_plainId plain_int_repr _]
    unfold Builtin.«int.__repr__»
    show wpAny _ _ (do let r ← Builtin.overDigitLimit? i; _) _ _ s'
    exact wpAny_bind (big_none hd' hi (wpAny_bind (wpAny_mkStr (wpAny_pure h') (int_text_fits10 hi))))
  refine wpAny_bind (wpAny_typeNameOf (T := "str") (typeIs_str _ _ _) (by decide) fun _ => wpAny_bind (wpAny_rule (wpAny_pure ⟨plainId_quiet plain_int_repr _, hcode _ _ _ hd ?_⟩)))
  show wpAny _ _ (do if ← isInstance (.str (toString i) (s.toks + 1)) (.type "str") then return (.str (toString i) (s.toks + 1)) else _) Q E _
  exact wpAny_bind (wpAny_isInstance (typeIs_str _ _ _) isSubtype_str_str (wpAny_pure h))
end
end PySem.W.KIN
set_option exponentiation.threshold 5000
/-! IxB: int(text), str(int), f-strings of long numbers; partition; classmethods; cls(..). -/
namespace Bd
open PySem L2 ClX PyProof.Rows
/-- the digits' limit is the usual one -/
def DigOk (K : PySem.W.Frag) : Prop := PySem.W.nsIn K cStatics "sys.int_max_str_digits" = some none
theorem digOk {K : PySem.W.Frag} (h : He.eqO (PySem.W.nsIn K cStatics "sys.int_max_str_digits") (some none) = true) : DigOk K := He.eqO_ok h
def rStrB : List V → Hp → VK → Prop := fun xs H Q => ∃ i, xs = [.int i] ∧ i.natAbs < 10 ^ 4300 ∧ Q (.str (toString i)) H
def rIntT : List V → Hp → VK → Prop := fun xs H Q => ∃ x, xs = [.str x] ∧ (PySem.NumText.AllDigits x.cps.toList ∧ x.cps.toList ≠ [] ∧ x.length ≤ 4300) ∧ Q (.int ((PySem.NumText.digitsVal x.cps.toList : Nat) : Int)) H
section
variable {X : Cx}
theorem call_strB (hd : DigOk X.K) : CallR X (.type "str") rStrB := by
  intro pins s σ H xs us Q I r h
  obtain ⟨i, rfl, hz, q⟩ := h
  obtain ⟨u, rfl, t, rfl⟩ := vals1 r
  exact PySem.W.KIN.str43 ⟨X.K, I.kIn, hd⟩ hz ⟨.str _, H, I.tok _, ⟨_, rfl⟩, q⟩
theorem call_intT (hd : DigOk X.K) : CallR X (.type "int") rIntT := by
  intro pins s σ H xs us Q I r h
  obtain ⟨x, rfl, ⟨h1, h2, h3⟩, q⟩ := h
  obtain ⟨u, rfl, t, rfl⟩ := vals1 r
  obtain ⟨_, e2⟩ := numText_signs (x := x) fun c hc => Or.inr (h1 c hc)
  exact PySem.W.KIN.call_text43 ⟨X.K, I.kIn, hd⟩ (intText_digits h1 h2 h3) h3 (by rw [e2]; exact Array.length_toList) ⟨.int _, H, I.tok _, ⟨_, rfl⟩, q⟩
def tFmtB (te : TE) : TE := fun σ H Q => te σ H fun x H1 => (∃ y : Str, x = .str y ∧ y.length ≤ sizeLine ∧ Q (.str y) H1) ∨ ∃ i : Int, x = .int i ∧ i.natAbs < 10 ^ 4300 ∧ Q (.str (toString i)) H1
theorem pe_fmtB {e : Expr} {te : TE} {pos : Pos} (hd : DigOk X.K) (he : PE X e te) : PE X (.FormattedValue e (-1) none pos) (tFmtB te) := by
  refine ⟨fun pins s σ H Q I h => ?_⟩
  refine wpAny_FormattedValue_plain (thn (he.run pins s σ H _ I h) fun v s1 hv => ?_)
  obtain ⟨x, H1, I1, r1, q⟩ := hv
  rcases q with ⟨y, rfl, hz, q⟩ | ⟨i, rfl, hz, q⟩
  · obtain ⟨t, rfl⟩ := r1
    exact wpAny_formatField_str ⟨.str y, H1, I1, ⟨t, rfl⟩, q⟩ ⟨.str y, H1, I1.tok _, ⟨_, rfl⟩, q⟩ hz
  · obtain ⟨t, rfl⟩ := r1
    exact PySem.W.KIN.field43 ⟨X.K, I1.kIn, hd⟩ hz ⟨.str (toString i), H1, I1.tok _, ⟨_, rfl⟩, q⟩
end
@[simp] def wStrB (xs : List D) (P : D → Prop) : Prop := match xs with
  | [.int i] => i.natAbs < 10 ^ 4300 ∧ P (.str (toString i))
  | _ => False
@[simp] def wIntT (xs : List D) (P : D → Prop) : Prop := match xs with
  | [.str x] => (PySem.NumText.AllDigits x.cps.toList ∧ x.cps.toList ≠ [] ∧ x.length ≤ 4300) ∧ P (.int ((PySem.NumText.digitsVal x.cps.toList : Nat) : Int))
  | _ => False
@[simp] def wFmtB (x : D) (P : Str → Prop) : Prop := match x with
  | .str z => z.length ≤ 16000000 ∧ P z
  | .int i => i.natAbs < 10 ^ 4300 ∧ P (toString i)
  | _ => False
@[simp] def wPart (z : Str) (xs : List D) (P : D → Prop) : Prop := match xs with
  | [.str y] => ((y.length == 0) = false ∧ z.length ≤ 16000000) ∧ P (.tup [.str (Txt.partition z y).1, .str (Txt.partition z y).2.1, .str (Txt.partition z y).2.2])
  | _ => False
@[simp] abbrev aFmtB (a : ATE) : ATE := fun Γ c P => a Γ c fun x c1 => wFmtB x fun z => P (.str z) c1
def rPart : V → List V → Hp → VK → Prop := fun x xs H Q => ∃ a b, x = .str a ∧ xs = [.str b] ∧ (b.length == 0) = false ∧ a.length ≤ sizeLine ∧ ∀ p, H p = none → Q (.ref p) (upd H p (.tup [.str (Txt.partition a b).1, .str (Txt.partition a b).2.1, .str (Txt.partition a b).2.2]))
section
variable {K : PySem.W.Frag} {C : WC} {F : Fr}
theorem s_strB : SndRs K C rStrB wStrB := by
  intro w H xs ds P Q _ hI r hf hq
  unfold wStrB at hf
  split at hf
  · cases r with
    | cons r1 r2 => cases r2; cases r1; exact ⟨_, rfl, hf.1, hq _ H _ (Step.refl hI) (.str _) hf.2⟩
  · exact hf.elim
theorem s_intT : SndRs K C rIntT wIntT := by
  intro w H xs ds P Q _ hI r hf hq
  unfold wIntT at hf
  split at hf
  · cases r with
    | cons r1 r2 => cases r2; cases r1; exact ⟨_, rfl, hf.1, hq _ H _ (Step.refl hI) (.int _) hf.2⟩
  · exact hf.elim
theorem s_part (z : Str) : SndRs K C (rPart (V.str z)) (wPart z) := by
  intro w H xs ds P Q _ hI r hf hq
  unfold wPart at hf
  split at hf
  · cases r with
    | cons r1 r2 =>
      cases r2
      cases r1
      refine ⟨z, _, rfl, rfl, hf.1.1, Nat.le_trans hf.1.2 (by decide), fun p hp => ?_⟩
      obtain ⟨s, r⟩ := new_tup (w := w) hI hp (.cons (.str _) (.cons (.str _) (.cons (.str _) .nil)))
      exact hq _ _ _ s r hf.2
  · exact hf.elim
theorem snd_fmtB {t : TE} {a : ATE} (h : SndE K F t a) : SndE K F (tFmtB t) (aFmtB a) := by
  intro gs pv os cs σ H Γ P Q r ha hq
  refine h gs pv os cs σ H Γ _ _ r ha fun v H1 d os1 c1 r1 p1 => ?_
  cases d with
  | str z => cases r_str r1.head; exact .inl ⟨z, rfl, size_ok2 p1.1, hq _ H1 _ os1 c1 (r1.tail.gcons (.str _)) p1.2⟩
  | int i => cases r_int r1.head; exact .inr ⟨i, rfl, p1.1, hq _ H1 _ os1 c1 (r1.tail.gcons (.str _)) p1.2⟩
  | _ => exact False.elim p1
end
section
variable {X : Cx} {Fm : Fr} {o e : Expr} {pos apos : Pos} {to te : TE} {ao ae : ATE} {Kf : PySem.W.Frag}
theorem je_fmtB (hK : X.K = Kf) (hd : DigOk Kf) (h : JE X Fm e te ae) : JE X Fm (.FormattedValue e (-1) none pos) (tFmtB te) (aFmtB ae) := by
  subst hK
  exact ⟨pe_fmtB hd h.p, snd_fmtB h.s⟩
theorem je_part (ho : JE X Fm o to ao) (he : JE X Fm e te ae) (hs : starEach [e] X.env = [(false, eval e X.env)] := by rfl) (hbase : attributeBase o "partition" X.env (eval o X.env) = eval o X.env := by rfl) (hline : (apos.endLine == pos.line) = true := by rfl) :
    JE X Fm (.Call (.Attribute o "partition" apos) [e] [] pos) (tM1 rPart to te) (aMs wPart ao (aCons ae aNil)) := ⟨pe_partition ho.p he.p hs hbase hline, snd_M1 s_part ho.s he.s⟩
end
/-! ### a classmethod, cls(..) -/
structure FncC (P : Program) (w : World) (K : PySem.W.Frag) (mg : Str → Option Value) (base : Heap) (cn m : Str) (k : Nat) (ps : List Str) (C : WC) (Ab : AX) : Prop where
  ex : ∃ p g fd mc, CRead K (He.ga K cn) mc ∧ CMet K (He.ga K cn) mc m p g ∧ FnOk P w K mg base (L2.CX P w) k g fd ps (spX K C Ab) ∧ Binds K fd ps []
@[simp] abbrev aCMeth (cn : Str) (A : AX) (x : XD) (ao : ATE) (a : ATA) : ATE := fun Γ c P => ao Γ c fun d c0 => match d with
  | .cls dn => dn = cn ∧ a Γ c0 fun ds c1 => A (.cls cn :: ds) (fun d => P d c1) fun en ns es => x en ns es c1
  | _ => False
theorem snd_cmeth {K : PySem.W.Frag} {F : Fr} {C' : WC} {cn : Str} {A : AX} {x : XD} {to : TE} {o : ATE} {t : TA} {a : ATA} (hC : FC K F C') (h1 : SndE K F to o) (h2 : SndA K F t a) : SndE K F (tCMeth (He.ga K cn) (spX K C' A) (EXK K F x) to t) (aCMeth cn A x o a) := by
  intro gs pv os cs σ H Γ P Q r0 ha hq
  refine h1 gs pv os cs σ H Γ _ _ r0 ha fun v H1 d os1 c1 r1 p1 => ?_
  split at p1
  · obtain ⟨rfl, p1⟩ := p1
    have rh := r1.head
    cases rh
    refine ⟨rfl, ?_⟩
    refine h2 _ pv os1 c1 σ H1 Γ _ _ r1.tail p1 fun vs H2 es os2 c2 r2 ra p2 => ?_
    refine ⟨F.at pv os2, _, _, _, hC _ _ _ _ r2.st, r2.st.inv, .cons (.cls _) ra, p2, fun v' H' d' s r p => hq v' H' d' os2 c2 ((r2.step s).gcons r) p, fun H' c ns dd vs' ds' s hv hl rv hx => ?_⟩
    obtain ⟨e, s2⟩ := (r2.st.step s).nopv
    exact ⟨c, ns, dd, vs', ds', os2, c2, rfl, rfl, e _ _ hv, hl, s2, RwA.mono e rv, hx⟩
  · exact p1.elim
section
variable {X : Cx} {Fm : Fr} {C' : WC} {e o : Expr} {es : List Expr} {pos apos p : Pos} {te to : TE} {ae ao : ATE} {t : TA} {ag : ATA} {cn m : Str} {k j : Nat} {ps : List Str} {A : AX} {Kf : PySem.W.Frag} {xd : XD}
theorem je_cmethX {pl : Sem Bool} (hK : X.K = Kf) (tk : TakesX X Kf Fm xd) (F : FncC X.prog X.w Kf X.mg X.base cn m k ps C' A) (hr : Room j X.A) (hk : k ≤ j) (hC : FC Kf Fm C') (ho : JE X Fm o to ao) (ha : JA X Fm (e :: es) t ag)
    (hst : starEach (e :: es) X.env = (false, eval e X.env) :: starEach es X.env := by rfl) (hpl : (backTo pos (starEach es X.env)).any (·.1) = false := by rfl)
    (ht : eval (.Call (.Attribute o m apos) (e :: es) [] pos) X.env = (do
      let ov ← eval o X.env
      standAt apos.atName
      let (f, first) ← holding [ov] (getMethod ov m pl)
      callWith pos f first (backTo pos (starEach (e :: es) X.env)) (backToKw pos (keywordEach [] X.env))) := by rfl) :
    JE X Fm (.Call (.Attribute o m apos) (e :: es) [] pos) (tCMeth (He.ga Kf cn) (spX Kf C' A) (EXK Kf Fm xd) to t) (aCMeth cn A xd ao ag) := by
  subst hK
  obtain ⟨p, g, fd, mc, r, c, F1, b⟩ := F.ex
  have F2 : FnR X.prog X.w X.K X.mg X.base (L2.CX X.prog X.w) k g (spX X.K C' A) := (F1.raw b (dvs := []) .nil).imp fun vs H Q E h => by rw [List.append_nil]; exact h
  exact ⟨pe_cmeth ho.p r c F2 (hr.mono hk) (passes_call tk fun _ _ _ _ h => h) ha.p hst hpl ht, snd_cmeth hC ho.s ha.s⟩
/-- cls(..), cls a local that holds the class -/
def tMakeL (i : Nat) (C : Addr) (sp : Sp) (dvs : List V) (E : XK) (t : TA) : TE := fun σ H Q => tVar i σ H fun v H1 => v = .ref C ∧ tMake C sp dvs E t σ H1 Q
theorem pe_makeL {CX : CXT} {f C : Addr} {fd : FuncData} {sp : Sp} {dvs : List V} {ds : List Value} {E : XK} {x : Str} {i : Nat} (M : Mk X.K C f) (F : FnOk X.prog X.w X.K X.mg X.base CX k f fd ps sp) (hr : Room (k + 1) X.A) (hv : PE X (.Name x p) (tVar i)) (hb : Binds X.K fd ps ds) (hd : Vals dvs ds) (hx : Passes CX X E)
    (ha : PA X (e :: es) t) (he : starEach (e :: es) X.env = (false, eval e X.env) :: starEach es X.env := by rfl) (hpl : (backTo pos (starEach es X.env)).any (·.1) = false := by rfl) :
    PE X (.Call (.Name x p) (e :: es) [] pos) (tMakeL i C sp dvs E t) := by
  refine ⟨fun pins s σ H Q I h => ?_⟩
  refine wpAny_Call_Name_kw (thn (hv.run pins s σ H _ I h) fun cv s0 ⟨v, H0, I0, r0, ev, q0⟩ => ?_)
  subst ev
  obtain rfl : cv = Value.ref C := r0
  refine PySem.W.callWith_K (h₀ := X.base) I0.ok.mod.kin M.kp (thn (ha.run pos pins s0 σ H0 _ I0 q0) fun us s1 ⟨vs, H1, I1, r, q⟩ => ⟨I1.kIn, ?_⟩) he hpl
  exact run_make M F hr hb hd hx I1 r q
@[simp] abbrev aMakeL (i : Nat) (cn : Str) (A : List D → Cs → (D → Cs → Prop) → Prop) (dds : List D) (a : ATA) : ATE := fun Γ c P => aVar i Γ c fun d c1 => d = .cls cn ∧ aMake cn A dds a Γ c1 P
theorem je_makeL {A : List D → Cs → (D → Cs → Prop) → Prop} {dvs : List V} {kn : List Nat} (i : Nat) {x : Str} (hK : X.K = Kf) (hv : JE X Fm (.Name x p) (tVar i) (aVar i)) (F : FncI X.prog X.w Kf X.mg X.base cn k ps dvs kn C' A) (hr : Room j X.A) (hk : k + 1 ≤ j) (hC : FC Kf Fm C') (n : Nat) (hn : n ≤ dvs.length) (dds : List D) (hd : ∀ (w : Wd) H, RA Kf w H (dvs.drop n) dds) (ha : JA X Fm (e :: es) t ag)
    (he : starEach (e :: es) X.env = (false, eval e X.env) :: starEach es X.env := by rfl) (hpl : (backTo pos (starEach es X.env)).any (·.1) = false := by rfl) :
    JE X Fm (.Call (.Name x p) (e :: es) [] pos) (tMakeL i (He.ga Kf cn) (spS Kf C' A) (dvs.drop n) E0 t) (aMakeL i cn A dds ag) := by
  subst hK
  obtain ⟨fd, F1, b, _⟩ := F.ex
  obtain ⟨ds, v, b⟩ := b n hn
  refine ⟨pe_makeL F.made F1 (hr.mono hk) hv.p b v pass0 ha.p he hpl, ?_⟩
  intro gs pv os cs σ H Γ P Q r0 hp hq
  refine hv.s gs pv os cs σ H Γ _ _ r0 hp fun v H1 d os1 c1 r1 p1 => ?_
  obtain ⟨rfl, p1⟩ := p1
  have rh := r1.head
  cases rh
  exact ⟨rfl, snd_make hC hd ha.s gs pv os1 c1 σ H1 Γ P Q r1.tail p1 hq⟩
end
/-! ### facts of a classmethod -/
def clr (K : PySem.W.Frag) (C : Addr) (m : Str) : Addr := match PySem.W.findIn K (.ref C) m with
  | some (some (.ref a)) => a
  | _ => 0
def clm (K : PySem.W.Frag) (C : Addr) (m : Str) : Addr := match PySem.W.recIn K (clr K C m) "classmethod" with
  | some (.ref g :: _) => g
  | _ => 0
def fnC (K : PySem.W.Frag) (d : He.DefD) : He.FnW := match d.at_.2 with
  | none => none
  | some m => match K.lookup (clm K (He.ga K d.at_.1) m) with
    | some ⟨_, _, .func q, _⟩ => some (q.name, q.qualname, q.params, q.body, q.scope, q.globals, q.closure, q.builtins)
    | _ => none
def clmB (K : PySem.W.Frag) (cn m qual : Str) : Bool := PySem.W.readsIn K (He.ga K cn) (.type "type") && (He.eqO (PySem.W.specialIn K (.ref (He.ga K cn)) "__getattribute__") (some (some (.builtin "type.__getattribute__"))) &&
  ((match PySem.W.findCls K (.ref (He.ga K cn)) (.type "type") m with
    | some (.get (.builtin b) (.ref q) .none (.ref c)) => decide (b = "classmethod.__get__") && (decide (q = clr K (He.ga K cn) m) && decide (c = He.ga K cn))
    | _ => false) && ((match PySem.W.recIn K (clr K (He.ga K cn) m) "classmethod" with
    | some (.ref g :: _) => PySem.W.fnIn K g && (match K.lookup g with
      | some ⟨_, _, .func q, _⟩ => PySem.W.codeIn K q.code qual && noneB q.defaults
      | _ => false)
    | _ => false))))
structure ClmF (K : PySem.W.Frag) (cn m qual : Str) : Prop where
  r : CRead K (He.ga K cn) (.type "type")
  c : CMet K (He.ga K cn) (.type "type") m (clr K (He.ga K cn) m) (clm K (He.ga K cn) m)
  code : ∃ oc od q osl, K.lookup (clm K (He.ga K cn) m) = some ⟨oc, od, .func q, osl⟩ ∧ PySem.W.codeIn K q.code qual = true ∧ q.defaults = .none
theorem clmB_ok {K : PySem.W.Frag} {cn m qual : Str} (h : clmB K cn m qual = true) : ClmF K cn m qual := by
  obtain ⟨h1, h⟩ := He.ba h
  obtain ⟨h2, h⟩ := He.ba h
  obtain ⟨h3, h4⟩ := He.ba h
  split at h4
  · rename_i g rest er
    obtain ⟨h5, h6⟩ := He.ba h4
    have eg : clm K (He.ga K cn) m = g := by unfold clm; rw [er]
    split at h6
    · rename_i oc od q osl lk
      obtain ⟨h7, h8⟩ := He.ba h6
      have e8 : q.defaults = .none := by
        unfold noneB at h8
        split at h8
        · assumption
        · cases h8
      split at h3
      · rename_i b q' c ef
        obtain ⟨k1, k2⟩ := He.ba h3
        obtain ⟨k2, k3⟩ := He.ba k2
        obtain rfl := of_decide_eq_true k1
        obtain rfl := of_decide_eq_true k2
        obtain rfl := of_decide_eq_true k3
        exact ⟨⟨h1, He.eqO_ok h2⟩, ⟨ef, by rw [eg]; exact ⟨rest, er⟩, by rw [eg]; exact h5⟩, ⟨oc, od, q, osl, by rw [eg]; exact lk, h7, e8⟩⟩
      · cases h3
    · cases h6
  · cases h4
theorem fnC_ok {K : PySem.W.Frag} {cn m name qual : Str} {st : Stmt} (F : ClmF K cn m qual) (kp : PySem.W.keepIn K (.ref (clm K (He.ga K cn) m)) = true) (e : fnC K ⟨(cn, some m), name, qual, defArgs st, defBody st, defScope st, [], []⟩ = He.DefD.val ⟨(cn, some m), name, qual, defArgs st, defBody st, defScope st, [], []⟩) :
    ∃ fd, FnS K name qual st [] (clm K (He.ga K cn) m) fd := by
  obtain ⟨oc, od, q, osl, lk, cd, nd⟩ := F.code
  unfold fnC at e
  dsimp only at e
  rw [lk] at e
  obtain ⟨n1, n2, n3, n4, n5, n6, n7, n8, n9, n10, n11, n12, n13, n14, n15⟩ := q
  have e2 : (some (n1, n2, n3, n4, n5, n6, n7, n15) : He.FnW) = some (name, qual, defArgs st, .stmts (defBody st), defScope st, mainGlobals, [], builtinsNs) := e
  simp only [Option.some.injEq, Prod.mk.injEq] at e2
  obtain ⟨h1, h2, h3, h4, h5, h6, h7, h8⟩ := e2
  subst h1 h2 h3 h4 h5 h6 h7 h8
  dsimp only at cd nd
  subst nd
  exact ⟨_, ⟨oc, od, .none, n9, n10, n11, n12, n13, n14, osl, rfl, lk, cd, He.dflB_ok (by rfl), .inl rfl⟩, kp⟩
theorem fncC_mk {P : Program} {w : World} {K : PySem.W.Frag} {mg : Str → Option Value} {base : Heap} {cn m q : Str} {st : Stmt} {N ps : List Str} {k : Nat} {C : WC} {a : XD → ATS} {Ab : AX}
    (L : ClmF K cn m q) (hF : ∃ fd, FnS K m q st [] (clm K (He.ga K cn) m) fd) (S : FnScope N ps (defScope st))
    (hb : ∀ (kV doc pm : Value) (an : Option Addr) (cdv ct : Value) (us : List Value), us.length = ps.length → bindArgs (PySem.W.fnOf m q (defArgs st) (defBody st) (defScope st) .none kV doc pm an cdv ct) ⟨us, []⟩ = pure (ps.zip us))
    (hlen : ∀ ds P Xc, Ab ds P Xc → ds.length = ps.length) (hA : ∀ ds P Xc, Ab ds P Xc → a (fun c ns es _ => Xc c ns es) { nx := fun _ _ => P .non, rt := fun d _ => P d } (startG N.length ds) [])
    (hJ : ∀ (Fm : Fr) (xd : XD) (fd : FuncData) (cdv : Value) (A : Around) (outer : List Env) (s : Shared) (H : Hp) (E : XK), TakesX (cxOf (L2.CX P w) P w K mg base N q (defScope st) (clm K (He.ga K cn) m) cdv A outer s H E) K Fm xd → C Fm.w → Room k (A.deeper (PyProof.Rows.envOfC q (defScope st) s.heap.objs.size (clm K (He.ga K cn) m) cdv)) →
      ∃ t, JSs (cxOf (L2.CX P w) P w K mg base N q (defScope st) (clm K (He.ga K cn) m) cdv A outer s H E) Fm (defBody st) t (a xd)) :
    FncC P w K mg base cn m (k + 1) ps C Ab := by
  obtain ⟨fd, F⟩ := hF
  exact ⟨⟨_, _, fd, _, L.r, L.c, fn_ruleX F S hlen hA (fun Fm xd => hJ Fm xd fd), F.bindsN hb⟩⟩
/-! ### the Hook with classmethods -/
def obsC (n : Nat) (fa : List He.Fa) (fn cl : List He.DefD) (tf : List He.Defn) (ex : PySem.W.Frag → Bool) (g : Addr → Option Obj) : He.AlX × List He.FnW := (obsY n fa fn tf ex g, cl.map (fnC (fragY g n)))
def hookC (n : Nat) (fa : List He.Fa) (fn cl : List He.DefD) (tf : List He.Defn) (ex : PySem.W.Frag → Bool) : PySem.W.Hook where
  α := He.AlX × List He.FnW
  obs := fun s => obsC n fa fn cl tf ex s.heap.get?
  val := fun w => (He.valX fn [] w, cl.map He.DefD.val)
  says := fun w h => ∃ K : PySem.W.Frag, K.In h ∧ He.SaysX fa fn [] tf ex w h K ∧ cl.map (fnC K) = cl.map He.DefD.val
  of := fun _ _ e => ⟨_, He.frT_in, saysY (congrArg Prod.fst e), congrArg Prod.snd e⟩
  keeps := fun _ _ _ ⟨K, hK, c, d⟩ k => ⟨K, PySem.W.Frag.In.keeps hK k, { t := c.t, more := c.more, hd := c.hd, out := c.out, empty := fun d hd => k _ _ (c.empty d hd) }, d⟩
theorem obsC_eq {n : Nat} {fa : List He.Fa} {fn cl : List He.DefD} {tf : List He.Defn} {ex : PySem.W.Frag → Bool} {g : Addr → Option Obj} {s : Shared} (h : ∀ a, g a = s.heap.get? a) : obsC n fa fn cl tf ex g = (hookC n fa fn cl tf ex).obs s := by
  obtain rfl : g = s.heap.get? := funext h
  rfl
end Bd
namespace Bd
open PySem L2
theorem call_strBK {X : Cx} {Kf : PySem.W.Frag} (hK : X.K = Kf) (hd : DigOk Kf) : CallR X (.type "str") rStrB := by subst hK; exact call_strB hd
theorem call_intTK {X : Cx} {Kf : PySem.W.Frag} (hK : X.K = Kf) (hd : DigOk Kf) : CallR X (.type "int") rIntT := by subst hK; exact call_intT hd
end Bd
set_option exponentiation.threshold 5000
namespace Bd
open PySem L2
/-! k03: readings and promises -/
abbrev xcs_ : List Str := ["InvalidRatio"]
/-- code points -/
abbrev cpsL (z : Str) : List Nat := z.cps.toList
def isDig (c : Nat) : Bool := decide (48 ≤ c) && decide (c ≤ 57)
/-- digits without a leading 0 -/
def figL (l : List Nat) : Option Nat := if l = [] ∨ l.all isDig = false ∨ (1 < l.length ∧ l.head? = some 48) then none else some (PySem.NumText.digitsVal l)
def sgnL (l : List Nat) : Int × List Nat := if l.take 1 = [45] then (-1, l.drop 1) else (1, l)
def oD : Option Nat → D
  | some n => .int (n : Nat)
  | none => .non
def mkO (s : Int) : Option Nat → Option Nat → Option IP
  | some t, some b => if b = 0 then none else some (s * t, b)
  | _, _ => none
def lowO : Option (List Nat × List Nat) → Option Nat
  | some (_, q) => figL q
  | none => some 1
def upO (l : List Nat) : Option (List Nat × List Nat) → Option Nat
  | some (p, _) => figL p
  | none => figL l
/-- the two numbers of a text -/
def numsL (l : List Nat) : Option IP := mkO (sgnL l).1 (upO (sgnL l).2 (TL.par [47] [] (sgnL l).2)) (lowO (TL.par [47] [] (sgnL l).2))
def readL (l : List Nat) : Option IP := match numsL l with
  | some (a, b) => if cpsL (frT (redS a b)) = l then some (redS a b) else none
  | none => none
/-- as the law reads a text -/
def wordsL (l : List Nat) : List (List Nat) := TL.spl [47] 0 [] (sgnL l).2
def wN (s : Int) : List (List Nat) → Option IP
  | [u] => some (s * (PySem.NumText.digitsVal u : Nat), 1)
  | [u, v] => some (s * (PySem.NumText.digitsVal u : Nat), (PySem.NumText.digitsVal v : Nat))
  | _ => none
def textW (s : Int) (us : List (List Nat)) : Option IP := if 2 < us.length ∨ [] ∈ us ∨ us.flatten.all isDig = false then none else wN s us
def textN (l : List Nat) : Option IP := textW (sgnL l).1 (wordsL l)
def textO (l : List Nat) : Option IP → Option IP
  | some x => if 0 < x.2 ∧ cpsL (frT (red x.1 x.2)) = l then some x else none
  | none => none
def textL (l : List Nat) : Option IP := textO l (textN l)
def oR : Option IP → D
  | some x => pr x
  | none => .non
def Bg (x : IP) : Prop := x.1.natAbs < 10 ^ 4300 ∧ x.2.natAbs < 10 ^ 4300
def A_figures_number (ds : List D) (P : D → Prop) : Prop := ∃ z : Str, ds = [.str z] ∧ z.length ≤ 4300 ∧ P (oD (figL (cpsL z)))
def A_Ratio_initB (ds : List D) (c : Cs) (P : D → Cs → Prop) : Prop := ∃ (p : Addr) (a b : Int), ds = [.adr p, .int a, .int b] ∧ c = [(p, .obj "Ratio" [] [])] ∧ b ≠ 0 ∧ Sm 8000 (gcdI a b) ∧ P .non [(p, rt (redS a b))]
def A_Ratio_strB (ds : List D) (P : D → Prop) : Prop := ∃ x : IP, ds = [rt x] ∧ Bg x ∧ P (.str (frT x))
/-- what Ratio.read does with a value: sg = the text is refused or read -/
def ReadOk (d : D) (P : D → Prop) (Xc : Str → List Str → List D → Prop) : Prop := match d with
  | .str z => (z.length ≤ 1000000 ∧ ∀ a b, z.length ≤ 4000 → numsL (cpsL z) = some (a, b) → Sm 8000 (gcdI a b)) ∧ (match (if z.length ≤ 4000 then readL (cpsL z) else none) with
    | some x => P (rt x)
    | none => Xc "InvalidRatio" ["tag", "given"] [.str "InvalidRatio", .str z])
  | d => tyd d = true ∧ Xc "InvalidRatio" ["tag", "given"] [.str "InvalidRatio", d]
def A_Ratio_read : AX := fun ds P Xc => ∃ d, ds = [.cls "Ratio", d] ∧ ReadOk d P Xc
def A_l_pair (ds : List D) (P : D → Prop) : Prop := ∃ x : IP, ds = [rt x] ∧ P (pr x)
def A_l_frac_text (ds : List D) (P : D → Prop) : Prop := ∃ x : IP, ds = [pr x] ∧ Bg x ∧ P (.str (frT x))
def A_l_text_ratio (ds : List D) (P : D → Prop) : Prop := ∃ z : Str, ds = [.str z] ∧ z.length ≤ 1000 ∧ P (oR (textL (cpsL z)))
/-- slots: 0 text, 1 sign -/
def a_figures_number : ATS :=
  aSeq (aIfS (aOr (aB (aOp wEq (aVar 0) (aC (.str "")))) (aOr (aNot (aB (aCB wAll (aCons (aLc (aItems (aVar 0)) (gmN 1) (aYes) (aOp wIn (aVar 1) (aC (.str "0123456789"))) [1]) (aNil))))) (aAnd (aB (aOp wGt (aCB wLen (aCons (aVar 0) (aNil))) (aC (.int 1)))) (aB (aOp wEq (aOp wIx (aVar 0) (aC (.int 0))) (aC (.str "0"))))))) (aRet (aC .non)) (aNext))
  (aRet (aCB wIntT (aCons (aVar 0) (aNil))))

/-- slots: 0 self, 1 top, 2 bottom, 3 by -/
def a_Ratio_initB : ATS :=
  aSeq (aIfS (aOr (aNot (aB (aCall A_is_number [] (aCons (aVar 1) (aNil))))) (aOr (aNot (aB (aCall A_is_number [] (aCons (aVar 2) (aNil))))) (aB (aOp wEq (aVar 2) (aC (.int 0)))))) (aNever) (aNext))
  (aSeq (aAsg (aCall A_common_divisor [] (aCons (aCB wAbs (aCons (aVar 1) (aNil))) (aCons (aCB wAbs (aCons (aVar 2) (aNil))) (aNil)))) (gmN 3))
  (aSeq (aIfS (aB (aOp wLt (aVar 2) (aC (.int 0)))) (aAsg (aUn wNeg (aVar 3)) (gmN 3)) (aNext))
  (aSeq (aSetF "Ratio" "own_top" (aVar 0) (aOp wDivM (aVar 1) (aVar 3)))
  (aSetF "Ratio" "own_bottom" (aVar 0) (aOp wDivM (aVar 2) (aVar 3))))))

/-- slots: 0 self -/
def a_Ratio_strB : ATS :=
  aSeq (aIfS (aB (aOp wEq (aFld "Ratio" "own_bottom" (aVar 0)) (aC (.int 1)))) (aRet (aCB wStrB (aCons (aFld "Ratio" "own_top" (aVar 0)) (aNil)))) (aNext))
  (aRet (aJoined [aFmtB (aFld "Ratio" "own_top" (aVar 0)), aC (.str "/"), aFmtB (aFld "Ratio" "own_bottom" (aVar 0))]))

/-- slots: 0 cls, 1 text, 2 sign, 3 rest, 4 upper, 5 slash, 6 lower, 7 top, 8 bottom, 9 found -/
def a_Ratio_read (x : XD) : ATS :=
  aSeq (aIfS (aOr (aNot (aB (aCB wIsi (aCons (aVar 1) (aCons (aC (.ty "str")) (aNil)))))) (aB (aOp wGt (aCB wLen (aCons (aVar 1) (aNil))) (aC (.int 4000))))) (aRaise "InvalidRatio" "given" "InvalidRatio" x (aVar 1)) (aNext))
  (aSeq (aAsg (aIf (aB (aOp wEq (aSl (aVar 1) (aNoPart) (aPart (aC (.int 1)))) (aC (.str "-")))) (aTup (aCons (aUn wNeg (aC (.int 1))) (aCons (aSl (aVar 1) (aPart (aC (.int 1))) (aNoPart)) (aNil)))) (aTup (aCons (aC (.int 1)) (aCons (aVar 1) (aNil))))) (gmT 2 (gmCons (gmN 2) (gmCons (gmN 3) (gmNil)))))
  (aSeq (aAsg (aMs wPart (aVar 3) (aCons (aC (.str "/")) aNil)) (gmT 3 (gmCons (gmN 4) (gmCons (gmN 5) (gmCons (gmN 6) (gmNil))))))
  (aSeq (aPar 7 8 (aCons (aCall A_figures_number [] (aCons (aVar 4) (aNil))) (aCons (aIf (aB (aOp wNe (aVar 5) (aC (.str "")))) (aCall A_figures_number [] (aCons (aVar 6) (aNil))) (aC (.int 1))) (aNil))))
  (aSeq (aIfS (aOr (aB (aOp wIsN (aVar 7) (aC .non))) (aOr (aB (aOp wIsN (aVar 8) (aC .non))) (aB (aOp wEq (aVar 8) (aC (.int 0)))))) (aRaise "InvalidRatio" "given" "InvalidRatio" x (aVar 1)) (aNext))
  (aSeq (aAsg (aMakeL 0 "Ratio" A_Ratio_initB [] (aCons (aOp wMulX (aVar 2) (aVar 7)) (aCons (aVar 8) (aNil)))) (gmN 9))
  (aSeq (aIfS (aB (aOp wNe (aCB (wTxt "Ratio" A_Ratio_strB) (aCons (aVar 9) (aNil))) (aVar 1))) (aRaise "InvalidRatio" "given" "InvalidRatio" x (aVar 1)) (aNext))
  (aRet (aVar 9))))))))

/-- slots: 0 _law_value -/
def a_l_pair : ATS :=
  aRet (aIf (aB (aCB (wIsiO ["Ratio"]) (aCons (aVar 0) (aCons (aC (.cls "Ratio")) (aNil))))) (aTup (aCons (aFld "Ratio" "own_top" (aVar 0)) (aCons (aFld "Ratio" "own_bottom" (aVar 0)) (aNil)))) (aVar 0))

/-- slots: 0 _law_pair_here -/
def a_l_frac_text : ATS :=
  aRet (aIf (aB (aOp wEq (aOp wIx (aVar 0) (aC (.int 1))) (aC (.int 1)))) (aCB wStrB (aCons (aOp wIx (aVar 0) (aC (.int 0))) (aNil))) (aOp wAdd (aOp wAdd (aCB wStrB (aCons (aOp wIx (aVar 0) (aC (.int 0))) (aNil))) (aC (.str "/"))) (aCB wStrB (aCons (aOp wIx (aVar 0) (aC (.int 1))) (aNil)))))

/-- slots: 0 _law_text, 1 _law_sign, 2 _law_rest, 3 _law_words, 4 _law_numbers, 5 _law_pair_here, 6 _law_word, 7 _law_mark -/
def a_l_text_ratio : ATS :=
  aSeq (aAsg (aIf (aB (aOp wEq (aSl (aVar 0) (aNoPart) (aPart (aC (.int 1)))) (aC (.str "-")))) (aTup (aCons (aUn wNeg (aC (.int 1))) (aCons (aSl (aVar 0) (aPart (aC (.int 1))) (aNoPart)) (aNil)))) (aTup (aCons (aC (.int 1)) (aCons (aVar 0) (aNil))))) (gmT 2 (gmCons (gmN 1) (gmCons (gmN 2) (gmNil)))))
  (aSeq (aAsg (aMs wSplit (aVar 2) (aCons (aC (.str "/")) aNil)) (gmN 3))
  (aSeq (aIfS (aOr (aB (aOp wGt (aCB wLen (aCons (aVar 3) (aNil))) (aC (.int 2)))) (aOr (aB (aOp wIn (aC (.str "")) (aVar 3))) (aNot (aB (aCB wAll (aCons (aLc (aItems (aMs wJoin (aC (.str "")) (aCons (aVar 3) aNil))) (gmN 7) (aYes) (aOp wIn (aVar 7) (aC (.str "0123456789"))) [7]) (aNil))))))) (aRet (aC .non)) (aNext))
  (aSeq (aAsg (aOp wAdd (aLc (aItems (aVar 3)) (gmN 6) (aYes) (aCB wIntT (aCons (aVar 6) (aNil))) [6]) (aLst (aCons (aC (.int 1)) (aNil)))) (gmN 4))
  (aSeq (aAsg (aTup (aCons (aOp wMulX (aVar 1) (aOp wIx (aVar 4) (aC (.int 0)))) (aCons (aOp wIx (aVar 4) (aC (.int 1))) (aNil)))) (gmN 5))
  (aRet (aIf (aAnd (aB (aOp wGt (aOp wIx (aVar 5) (aC (.int 1))) (aC (.int 0)))) (aB (aOp wEq (aCall A_l_frac_text [] (aCons (aCall A_l_frac [] (aCons (aOp wIx (aVar 5) (aC (.int 0))) (aCons (aOp wIx (aVar 5) (aC (.int 1))) (aNil)))) (aNil))) (aVar 0)))) (aVar 5) (aC .non)))))))

/-- slots: 0 _law_script, 1 _law_bag_here, 2 _law_turn, 3 _law_pair_here, 4 _law_text, 5 _law_at, 6 _law_mark, 7 _law_bent, 8 _law_due, 9 _law_told, 10 _law_many, 11 _law_long, 12 _law_odd -/
def a_law : ATS :=
  aSeq (aFor (aRng1 (aCons (aC (.int 6)) (aNil))) (gmN 2) (aSeq (aAsg (aCall A_l_frac [] (aCons (aCall A_l_number [] (aCons (aVar 1) (aNil))) (aCons (aCall A_l_pick [] (aCons (aVar 1) (aCons (aLst (aCons (aC (.int 1)) (aCons (aC (.int 2)) (aCons (aOp wAdd (aC (.int 1)) (aCall A_l_pull [] (aCons (aVar 1) (aCons (aC (.int 12)) (aNil))))) (aCons (aOp wAdd (aC (.int 1)) (aCB wAbs (aCons (aCall A_l_number [] (aCons (aVar 1) (aNil))) (aNil)))) (aNil)))))) (aNil)))) (aNil)))) (gmN 3))
  (aSeq (aAsg (aCall A_l_frac_text [] (aCons (aVar 3) (aNil))) (gmN 4))
  (aSeq (aIfS (aNot (aB (aCall (A_l_same 4) [] (aCons (aCall A_l_pair [] (aCons (aCMeth "Ratio" A_Ratio_read xNo (aC (.cls "Ratio")) (aCons (aVar 4) (aNil))) (aNil))) (aCons (aVar 3) (aNil)))))) (aRet (aC (.bl false))) (aNext))
  (aSeq (aAsg (aCall A_l_pull [] (aCons (aVar 1) (aCons (aOp wAdd (aCB wLen (aCons (aVar 4) (aNil))) (aC (.int 1))) (aNil)))) (gmN 5))
  (aSeq (aAsg (aCall A_l_pick [] (aCons (aVar 1) (aCons (aLst (aCons (aC (.str "0")) (aCons (aC (.str "1")) (aCons (aC (.str "2")) (aCons (aC (.str "/")) (aCons (aC (.str "-")) (aCons (aC (.str " ")) (aCons (aC (.str "+")) (aCons (aC (.str ".")) (aCons (aC (.str "a")) (aCons (aC (.str "\n")) (aNil)))))))))))) (aNil)))) (gmN 6))
  (aSeq (aAsg (aCall A_l_pick [] (aCons (aVar 1) (aCons (aLst (aCons (aOp wAdd (aOp wAdd (aSl (aVar 4) (aNoPart) (aPart (aVar 5))) (aVar 6)) (aSl (aVar 4) (aPart (aVar 5)) (aNoPart))) (aCons (aOp wAdd (aSl (aVar 4) (aNoPart) (aPart (aVar 5))) (aSl (aVar 4) (aPart (aOp wAdd (aVar 5) (aC (.int 1)))) (aNoPart))) (aCons (aOp wAdd (aOp wAdd (aSl (aVar 4) (aNoPart) (aPart (aVar 5))) (aVar 6)) (aSl (aVar 4) (aPart (aOp wAdd (aVar 5) (aC (.int 1)))) (aNoPart))) (aNil))))) (aNil)))) (gmN 7))
  (aSeq (aPar 8 9 (aCons (aCall A_l_text_ratio [] (aCons (aVar 7) (aNil))) (aCons (aTry (fun x => aCMeth "Ratio" A_Ratio_read x (aC (.cls "Ratio")) (aCons (aVar 7) (aNil))) (xtT A_l_fields xcs_)) (aNil))))
  (aIfS (aB (aOp wIsN (aVar 8) (aC .non))) (aIfS (aB (aOp wNe (aVar 9) (aTup (aCons (aC (.str "no")) (aCons (aC (.str "InvalidRatio")) (aCons (aVar 7) (aNil))))))) (aRet (aC (.bl false))) (aNext)) (aIfS (aNot (aB (aCall (A_l_same 4) [] (aCons (aCall A_l_pair [] (aCons (aOp wIx (aVar 9) (aC (.int 1))) (aNil))) (aCons (aVar 8) (aNil)))))) (aRet (aC (.bl false))) (aNext)))))))))))
  (aSeq (aAsg (aCall A_l_pick [] (aCons (aVar 1) (aCons (aLst (aCons (aC (.int 3998)) (aCons (aC (.int 3999)) (aCons (aC (.int 4000)) (aCons (aC (.int 3000)) (aNil)))))) (aNil)))) (gmN 10))
  (aSeq (aAsg (aLst (aCons (aTup (aCons (aOp wMulX (aC (.str "1")) (aVar 10)) (aCons (aOp wLt (aVar 10) (aC (.int 4001))) (aNil)))) (aCons (aTup (aCons (aOp wAdd (aC (.str "1/")) (aOp wMulX (aC (.str "3")) (aVar 10))) (aCons (aOp wLt (aVar 10) (aC (.int 3999))) (aNil)))) (aCons (aTup (aCons (aOp wMulX (aC (.str "1")) (aOp wAdd (aVar 10) (aC (.int 1)))) (aCons (aOp wLt (aVar 10) (aC (.int 4000))) (aNil)))) (aNil))))) (gmN 11))
  (aSeq (aFor (aItems (aVar 11)) (gmT 2 (gmCons (gmN 4) (gmCons (gmN 8) (gmNil)))) (aSeq (aAsg (aTry (fun x => aCB (wTxt "Ratio" A_Ratio_strB) (aCons (aCMeth "Ratio" A_Ratio_read x (aC (.cls "Ratio")) (aCons (aVar 4) (aNil))) (aNil))) (xtT A_l_fields xcs_)) (gmN 9))
  (aIfS (aNot (aB (aCall (A_l_same 4) [] (aCons (aVar 9) (aCons (aIf (aB (aVar 8)) (aTup (aCons (aC (.str "told")) (aCons (aVar 4) (aNil)))) (aTup (aCons (aC (.str "no")) (aCons (aC (.str "InvalidRatio")) (aCons (aVar 4) (aNil)))))) (aNil)))))) (aRet (aC (.bl false))) (aNext))))
  (aSeq (aAsg (aCall A_l_pick [] (aCons (aVar 1) (aCons (aLst (aCons (aC (.str "")) (aCons (aC (.str "-")) (aCons (aC (.str "/")) (aCons (aC (.str "1/0")) (aCons (aC (.str "-0")) (aCons (aC (.str "0/1")) (aCons (aC (.str "4/2")) (aCons (aC (.str "1/-2")) (aCons (aC (.str "01")) (aCons (aC (.str "3/1")) (aCons (aC .non) (aCons (aC (.int 5)) (aCons (aC (.bl true)) (aCons (aTup (aCons (aC (.str "1")) (aNil))) (aNil)))))))))))))))) (aNil)))) (gmN 12))
  (aRet (aCall (A_l_same 4) [] (aCons (aTry (fun x => aCMeth "Ratio" A_Ratio_read x (aC (.cls "Ratio")) (aCons (aVar 12) (aNil))) (xtT A_l_fields xcs_)) (aCons (aTup (aCons (aC (.str "no")) (aCons (aC (.str "InvalidRatio")) (aCons (aVar 12) (aNil))))) (aNil)))))))))

theorem len_figures_number : ∀ ds P, A_figures_number ds P → ds.length = 1 := by rintro ds P ⟨x, rfl, _⟩; rfl
theorem len_Ratio_initB : ∀ ds c P, A_Ratio_initB ds c P → ds.length = 3 := by rintro ds c P ⟨p, a, b, rfl, _⟩; rfl
theorem len_Ratio_strB : ∀ ds P, A_Ratio_strB ds P → ds.length = 1 := by rintro ds P ⟨x, rfl, _⟩; rfl
theorem len_Ratio_read : ∀ ds P Xc, A_Ratio_read ds P Xc → ds.length = 2 := by rintro ds P Xc ⟨d, rfl, _⟩; rfl
theorem len_l_pair : ∀ ds P, A_l_pair ds P → ds.length = 1 := by rintro ds P ⟨x, rfl, _⟩; rfl
theorem len_l_frac_text : ∀ ds P, A_l_frac_text ds P → ds.length = 1 := by rintro ds P ⟨x, rfl, _⟩; rfl
theorem len_l_text_ratio : ∀ ds P, A_l_text_ratio ds P → ds.length = 1 := by rintro ds P ⟨x, rfl, _⟩; rfl
end Bd
set_option exponentiation.threshold 5000
namespace Bd
open PySem L2 PySem.NumText
/-! K3b: texts of fractions, plain -/
def iL (i : Int) : List Nat := if i < 0 then 45 :: TL.numL i.natAbs else TL.numL i.natAbs
def frL (x : IP) : List Nat := if x.2 = 1 then iL x.1 else iL x.1 ++ 47 :: iL x.2
theorem tI_L (i : Int) : cpsL (tI i) = iL i := by
  unfold tI iL
  by_cases h : i < 0
  · rw [if_pos h]
    obtain ⟨n, rfl⟩ : ∃ n : Nat, i = -((n : Nat) : Int) := ⟨i.natAbs, by omega⟩
    have hn : n ≠ 0 := by omega
    obtain ⟨m, rfl⟩ : ∃ m, n = m + 1 := ⟨n - 1, by omega⟩
    have e : (-(((m + 1 : Nat)) : Int)).natAbs = m + 1 := by omega
    rw [e]
    have e2 := TL.tl_num (m + 1)
    have e3 : toString (-((m + 1 : Nat) : Int)) = "-" ++ toString (((m + 1 : Nat) : Int)) := rfl
    show TL.tl (Str.ofString (toString (-((m + 1 : Nat) : Int)))) = _
    rw [TL.tl_ofString, e3, String.toList_append, List.map_append, ← TL.tl_ofString (toString (((m + 1 : Nat) : Int))), e2]
    rfl
  · rw [if_neg h]
    obtain ⟨n, rfl⟩ := Int.eq_ofNat_of_zero_le (by omega : 0 ≤ i)
    exact TL.tl_num n
theorem frT_L (x : IP) : cpsL (frT x) = frL x := by
  unfold frT frL
  split
  · exact tI_L _
  · show TL.tl (tI x.1 ++ Str.ofString "/" ++ tI x.2) = _
    rw [TL.tl_append, TL.tl_append]
    show cpsL (tI x.1) ++ [47] ++ cpsL (tI x.2) = _
    rw [tI_L, tI_L, List.append_assoc]
    rfl
theorem numL_head (n : Nat) : n = 0 ∨ ∃ c r, TL.numL n = c :: r ∧ 49 ≤ c := by
  induction n using Nat.strongRecOn with
  | _ n ih =>
    by_cases h0 : n = 0
    · exact .inl h0
    · refine .inr ?_
      by_cases h : n < 10
      · exact ⟨48 + n, [], TL.numL_lt h, by omega⟩
      · rcases ih (n / 10) (by omega) with h1 | ⟨c, r, h1, h2⟩
        · omega
        · exact ⟨c, r ++ [48 + n % 10], by rw [TL.numL_step (by omega), h1, List.cons_append], h2⟩
theorem numL_dig (n : Nat) : (TL.numL n).all isDig = true := by
  rw [List.all_eq_true]
  intro c hc
  have := TL.numL_digits n c hc
  unfold isDig
  rw [decide_eq_true this.1, decide_eq_true this.2]
  rfl
theorem fig_num (n : Nat) : figL (TL.numL n) = some n := by
  unfold figL
  rw [if_neg, TL.numL_val]
  rintro (h | h | ⟨h1, h2⟩)
  · exact TL.numL_ne n h
  · rw [numL_dig] at h
    cases h
  · rcases numL_head n with rfl | ⟨c, r, e, hc⟩
    · rw [TL.numL_lt (by decide)] at h1
      simp at h1
    · rw [e, List.head?_cons] at h2
      have := Option.some.inj h2
      omega
theorem num_no45 (n : Nat) (r : List Nat) : (TL.numL n ++ r).take 1 ≠ [45] := by
  cases h : TL.numL n with
  | nil => exact absurd h (TL.numL_ne n)
  | cons c l =>
    intro e
    have hc := TL.numL_digits n c (by rw [h]; exact List.mem_cons_self ..)
    have e2 : [c] = [45] := e
    have := List.cons.inj e2
    omega
def sg (i : Int) : Int := if i < 0 then -1 else 1
theorem sg_mul (i : Int) : sg i * (i.natAbs : Nat) = i := by unfold sg; split <;> omega
theorem sgn_iL (i : Int) (r : List Nat) : sgnL (iL i ++ r) = (sg i, TL.numL i.natAbs ++ r) := by
  unfold sgnL iL sg
  by_cases h : i < 0
  · rw [if_pos h, if_pos h, if_pos]
    · rfl
    · rfl
  · rw [if_neg h, if_neg h, if_neg (num_no45 _ _)]
theorem sgn_iL0 (i : Int) : sgnL (iL i) = (sg i, TL.numL i.natAbs) := by
  have := sgn_iL i []
  rwa [List.append_nil, List.append_nil] at this
theorem iL_pos {i : Int} (h : 0 < i) : iL i = TL.numL i.natAbs := by unfold iL; rw [if_neg (by omega)]
theorem n47 (n : Nat) : 47 ∉ TL.numL n := TL.numL_free (by omega)
theorem nums_frL {y : IP} (h : 0 < y.2) : numsL (frL y) = some y := by
  unfold frL
  by_cases h1 : y.2 = 1
  · rw [if_pos h1]
    unfold numsL
    rw [sgn_iL0]
    have e : TL.par [47] [] (TL.numL y.1.natAbs) = none := SX.par_head_none (n47 _)
    simp only [e, upO, lowO, fig_num, mkO]
    rw [if_neg (by decide), sg_mul]
    exact congrArg some (Prod.ext rfl h1.symm)
  · rw [if_neg h1, iL_pos h]
    unfold numsL
    rw [sgn_iL]
    have e : TL.par [47] [] (TL.numL y.1.natAbs ++ 47 :: TL.numL y.2.natAbs) = some (TL.numL y.1.natAbs, TL.numL y.2.natAbs) := SX.par_head (TL.numL y.2.natAbs) (n47 _)
    simp only [e, upO, lowO, fig_num, mkO]
    rw [if_neg (by omega), sg_mul]
    exact congrArg some (Prod.ext rfl (by show ((y.2.natAbs : Nat) : Int) = y.2; omega))
theorem redS_self {y : IP} (h : 0 < y.2) (hl : Low y) : redS y.1 y.2 = y := by rw [redS_pos h, low_red hl]
theorem read_frL {y : IP} (h : 0 < y.2) (hl : Low y) : readL (frL y) = some y := by
  unfold readL
  rw [nums_frL h]
  dsimp only
  rw [redS_self h hl, if_pos (frT_L y)]
theorem spl_frL1 (n : Nat) : TL.spl [47] 0 [] (TL.numL n) = [TL.numL n] := TL.spl_last1 (n47 n)
theorem spl_frL2 (n m : Nat) : TL.spl [47] 0 [] (TL.numL n ++ 47 :: TL.numL m) = [TL.numL n, TL.numL m] := by
  have e : TL.spl [47] 0 [] (TL.numL n ++ ([47] ++ TL.numL m)) = TL.numL n :: TL.spl [47] 0 [] (TL.numL m) := SX.spl_free _ (by simp) (SX.free_head (n47 n))
  rw [spl_frL1] at e
  exact e
theorem text_frL {y : IP} (h : 0 < y.2) (hl : Low y) : textL (frL y) = some y := by
  have key : textN (frL y) = some y := by
    unfold frL
    by_cases h1 : y.2 = 1
    · rw [if_pos h1]
      unfold textN textW wordsL
      rw [sgn_iL0]
      dsimp only
      rw [spl_frL1, if_neg]
      · simp only [wN, TL.numL_val]
        rw [sg_mul]
        exact congrArg some (Prod.ext rfl h1.symm)
      · rintro (q | q | q)
        · simp at q
        · exact TL.numL_ne _ (List.mem_singleton.mp q).symm
        · simp only [List.flatten_cons, List.flatten_nil, List.append_nil, numL_dig] at q
          cases q
    · rw [if_neg h1, iL_pos h]
      unfold textN textW wordsL
      rw [sgn_iL]
      dsimp only
      rw [spl_frL2, if_neg]
      · simp only [wN, TL.numL_val]
        rw [sg_mul]
        exact congrArg some (Prod.ext rfl (by show ((y.2.natAbs : Nat) : Int) = y.2; omega))
      · rintro (q | q | q)
        · simp at q
        · rcases List.mem_cons.mp q with q | q
          · exact TL.numL_ne _ q.symm
          · exact TL.numL_ne _ (List.mem_singleton.mp q).symm
        · simp only [List.flatten_cons, List.flatten_nil, List.append_nil, List.all_append, numL_dig] at q
          cases q
  unfold textL textO
  rw [key]
  dsimp only
  rw [low_red hl, if_pos ⟨h, frT_L y⟩]
theorem nums_ne {l : List Nat} {a b : Int} (h : numsL l = some (a, b)) : 0 < b := by
  unfold numsL at h
  generalize upO (sgnL l).2 (TL.par [47] [] (sgnL l).2) = t at h
  generalize lowO (TL.par [47] [] (sgnL l).2) = b' at h
  unfold mkO at h
  split at h
  · split at h
    · cases h
    · have := (Prod.mk.inj (Option.some.inj h)).2
      omega
  · cases h
theorem of_read {l : List Nat} {x : IP} (h : readL l = some x) : l = frL x ∧ Low x ∧ 0 < x.2 := by
  unfold readL at h
  split at h
  · rename_i a b e
    have hb := nums_ne e
    split at h
    · rename_i e2
      have ex := Option.some.inj h
      subst ex
      exact ⟨by rw [← e2, frT_L], redS_low (by omega), (redS_good (k := a.natAbs + b.natAbs + 1) (by omega) (by unfold Sm; exact Nat.lt_of_lt_of_le Nat.lt_two_pow_self (Nat.pow_le_pow_right (by decide) (by omega))) (by unfold Sm; exact Nat.lt_of_lt_of_le Nat.lt_two_pow_self (Nat.pow_le_pow_right (by decide) (by omega)))).pos⟩
    · cases h
  · cases h
theorem of_text {l : List Nat} {x : IP} (h : textL l = some x) : ∃ y, l = frL y ∧ Low y ∧ 0 < y.2 := by
  unfold textL textO at h
  split at h
  · rename_i p e
    split at h
    · rename_i e2
      refine ⟨red p.1 p.2, by rw [← e2.2, frT_L], red_low e2.1, (red_good (k := p.1.natAbs + p.2.natAbs + 1) e2.1 (by unfold Sm; exact Nat.lt_of_lt_of_le Nat.lt_two_pow_self (Nat.pow_le_pow_right (by decide) (by omega))) (by unfold Sm; exact Nat.lt_of_lt_of_le Nat.lt_two_pow_self (Nat.pow_le_pow_right (by decide) (by omega)))).pos⟩
    · cases h
  · cases h
theorem read_text (l : List Nat) : readL l = textL l := by
  cases h1 : readL l with
  | some x =>
    obtain ⟨e, l1, l2⟩ := of_read h1
    rw [e, text_frL l2 l1]
  | none =>
    cases h2 : textL l with
    | none => rfl
    | some x =>
      obtain ⟨y, e, l1, l2⟩ := of_text h2
      rw [e, read_frL l2 l1] at h1
      cases h1
/-! sizes -/
theorem fold_lt : ∀ (l : List Nat) (a : Nat), AllDigits l → l.foldl (fun acc c => acc * 10 + (c - 48)) a + 1 ≤ (a + 1) * 10 ^ l.length
  | [], a, _ => by simp
  | c :: l, a, h => by
    have hc := h.head
    have ih := fold_lt l (a * 10 + (c - 48)) h.tail
    rw [List.foldl_cons, List.length_cons, Nat.pow_succ]
    refine Nat.le_trans ih ?_
    rw [Nat.mul_comm (10 ^ l.length) 10, ← Nat.mul_assoc]
    exact Nat.mul_le_mul_right _ (by omega)
theorem val_lt {l : List Nat} (h : AllDigits l) : digitsVal l < 10 ^ l.length := by
  have := fold_lt l 0 h
  rw [Nat.zero_add, Nat.one_mul] at this
  exact this
theorem all_dig {l : List Nat} (h : l.all isDig = true) : AllDigits l := fun c hc => by
  have z := List.all_eq_true.mp h c hc
  unfold isDig at z
  simpa using z
theorem fig_lt {l : List Nat} {n : Nat} (h : figL l = some n) : n < 10 ^ l.length ∧ AllDigits l ∧ l ≠ [] := by
  unfold figL at h
  split at h
  · cases h
  · rename_i q
    have e := Option.some.inj h
    have d : AllDigits l := all_dig (by
      cases z : l.all isDig with
      | true => rfl
      | false => exact absurd (.inr (.inl z)) q)
    exact ⟨e ▸ val_lt d, d, fun z => q (.inl z)⟩
end Bd
set_option exponentiation.threshold 5000
namespace Bd
open PySem L2 PySem.NumText
/-! K3c: the program's and the law's defs -/
abbrev figS : Str := Str.ofString "0123456789"
theorem fig_mem (c : Nat) : decide (c ∈ figS.cps.toList) = isDig c := by
  have e : figS.cps.toList = [48, 49, 50, 51, 52, 53, 54, 55, 56, 57] := by decide +kernel
  rw [e]
  unfold isDig
  rw [← Bool.decide_and]
  refine decide_eq_decide.mpr ?_
  simp only [List.mem_cons, List.not_mem_nil, or_false]
  omega
/-- all signs of a text are digits -/
theorem dig_all {ai : ATE} {i : Nat} {Γ : Gs} {c : Cs} {P : D → Cs → Prop} {z : Str} (hi : i < Γ.length) (hz : z.length ≤ 1000000) (ha : ∀ Q : D → Cs → Prop, Q (.str z) c → ai Γ c Q) (h : P (.bl (z.cps.toList.all isDig)) c) :
    aCB wAll (aCons (aLc (aItems ai) (gmN i) (aYes) (aOp wIn (aVar i) (aC (.str figS))) [i]) (aNil)) Γ c P := by
  have hs : z.cps.size ≤ 1000000 := hz
  simp only [aCB, aCons, aNil, aLc, aItems]
  refine ha _ ?_
  simp only [itemsD]
  refine ⟨by simpa using hs, ?_⟩
  refine goA_map (fun d => .bl (match d with | .str y => subS y figS | _ => false)) (fun d hm acc k hk => ?_) ?_
  · obtain ⟨ch, _, rfl⟩ := List.mem_map.mp hm
    simpa [lcB, wipeG, gmN, hi] using hk
  · rw [List.nil_append]
    simp only [wAll]
    rw [blsOf_map, List.map_map]
    have e : (List.map ((fun (d : D) => match d with | .str y => subS y figS | _ => false) ∘ fun ch => D.str ⟨#[ch]⟩) z.cps.toList).all id = z.cps.toList.all isDig := by
      rw [List.all_map]
      congr 1
      funext ch
      show subS ⟨#[ch]⟩ figS = _
      rw [sub1, fig_mem]
    dsimp only
    rw [e]
    exact h
theorem eq_emp {z : Str} : (z = Str.ofString "") ↔ cpsL z = [] := by
  constructor
  · rintro rfl; decide
  · intro h; exact TL.ext_tl (show TL.tl z = TL.tl (Str.ofString "") from h.trans (by decide))
theorem one_eq (c : Nat) (d : Nat) (s : Str) (hs : cpsL s = [d]) : ((⟨#[c]⟩ : Str) = s) ↔ c = d := by
  constructor
  · intro h
    have : cpsL (⟨#[c]⟩ : Str) = [d] := by rw [h]; exact hs
    exact (List.cons.inj this).1
  · rintro rfl
    exact TL.ext_tl (show [c] = TL.tl s from hs.symm)
theorem len_cps (z : Str) : z.length = (cpsL z).length := TL.len_tl z
theorem pure_figures_number : ∀ ds P, A_figures_number ds P → a_figures_number { nx := fun _ _ => P .non, rt := fun d _ => P d } (startG 2 ds) [] := by
  rintro ds P ⟨z, rfl, hz, hP⟩
  have hz2 : z.length ≤ 16000000 := by omega
  have hl := len_cps z
  simp only [a_figures_number, aSeq, aIfS, aOr, aNot, aAnd, aB, aOp, aVar, aC, aRet, aNext, startG_1, List.replicate, List.getElem?_cons_zero, List.getElem?_cons_succ, wEq_ss]
  by_cases h0 : cpsL z = []
  · rw [decide_eq_true (eq_emp.mpr h0)]
    simp only [if_true]
    unfold figL at hP
    rw [if_pos (.inl h0)] at hP
    exact hP
  · rw [decide_eq_false (fun q => h0 (eq_emp.mp q))]
    simp only [Bool.false_eq_true, if_false]
    refine dig_all (i := 1) (by simp) (by omega) (fun Q h => h) ?_
    cases hd : z.cps.toList.all isDig with
    | false =>
      simp only [Bool.not_false, if_true]
      unfold figL at hP
      rw [if_pos (.inr (.inl hd))] at hP
      exact hP
    | true =>
      simp only [Bool.not_true, Bool.false_eq_true, if_false, aCB, aCons, aNil, aVar, List.getElem?_cons_zero, wLen, wGt, wInt0]
      refine ⟨hz2, ?_⟩
      have fin : (∀ n, figL (cpsL z) = some n → n = digitsVal (cpsL z)) := fun n h => by
        unfold figL at h
        split at h
        · cases h
        · exact (Option.some.inj h).symm
      have go : ¬ (1 < (cpsL z).length ∧ (cpsL z).head? = some 48) → (AllDigits z.cps.toList ∧ z.cps.toList ≠ [] ∧ z.length ≤ 4300) ∧ P (.int ((digitsVal z.cps.toList : Nat) : Int)) := fun q => by
        refine ⟨⟨all_dig hd, h0, hz⟩, ?_⟩
        unfold figL at hP
        rw [if_neg (by rintro (q1 | q1 | q1); exact h0 q1; (have hd' : (cpsL z).all isDig = true := hd; rw [hd'] at q1; cases q1); exact q q1)] at hP
        exact hP
      by_cases h1 : 1 < z.length
      · rw [decide_eq_true (by omega : (1 : Int) < (z.length : Int))]
        simp only [if_true, wIx]
        obtain ⟨ch, rest, e⟩ := List.exists_cons_of_ne_nil h0
        have e' : z.cps.toList = ch :: rest := e
        refine ⟨hz2, ?_⟩
        rw [e', at0]
        simp only [wEq_ss]
        by_cases h2 : ch = 48
        · rw [decide_eq_true ((one_eq ch 48 _ (by decide)).mpr h2)]
          simp only [if_true]
          unfold figL at hP
          rw [if_pos (.inr (.inr ⟨by omega, by rw [e, List.head?_cons, h2]⟩))] at hP
          exact hP
        · rw [decide_eq_false (fun q => h2 ((one_eq ch 48 _ (by decide)).mp q))]
          simp only [Bool.false_eq_true, if_false]
          exact go fun q => h2 (by have := q.2; rw [e, List.head?_cons] at this; exact Option.some.inj this)
      · rw [decide_eq_false (by omega : ¬ (1 : Int) < (z.length : Int))]
        simp only [Bool.false_eq_true, if_false]
        exact go fun q => by omega
end Bd
set_option exponentiation.threshold 5000
namespace Bd
open PySem L2 PySem.NumText
/-! K3d: Ratio over long numbers -/
theorem pure_Ratio_initB : ∀ ds c P, A_Ratio_initB ds c P → a_Ratio_initB { nx := fun _ c' => ∃ n, P .non (c'.drop n), rt := fun d c' => ∃ n, P d (c'.drop n) } (startG 4 ds) c := by
  rintro ds c P ⟨p, a, b, rfl, rfl, hb, h3, hP⟩
  have h1 := gcdI_pos' (a := a) hb
  simp only [aSeq, aIfS, aOr, aAnd, aNot, aB, aV, aCall, aCallS, aCons, aNil, aCB, aVar, aC, aOp, aUn, aAsg, aRet, aTup, aNext, aIf, aAndV, aOrV, aFld, aSetF, aMeth, gmN,
    startG_1, startG_2, startG_3, startG_4, List.replicate, List.getElem?_cons_zero, List.getElem?_cons_succ, List.append_nil, List.set_cons_succ, List.set_cons_zero, Bool.not_true, Bool.not_false, Bool.false_eq_true, if_false, if_true, decide_false, decide_true, wInt, wInt0, wLt, wDiv, wAbs, a_Ratio_initB, isn_i, wEq_ii, hb]
  refine ⟨_, _, rfl, by rw [abs_nat]; omega, by rw [abs_nat]; omega, ?_⟩
  rw [abs_nat, abs_nat, gcdI_abs, gcdI_abs2]
  by_cases hn : b < 0
  · simp only [aSeq, aIfS, aOr, aAnd, aNot, aB, aV, aCall, aCallS, aCons, aNil, aCB, aVar, aC, aOp, aUn, aAsg, aRet, aTup, aNext, aIf, aAndV, aOrV, aFld, aSetF, aMeth, gmN,
    startG_1, startG_2, startG_3, startG_4, List.replicate, List.getElem?_cons_zero, List.getElem?_cons_succ, List.append_nil, List.set_cons_succ, List.set_cons_zero, Bool.not_true, Bool.not_false, Bool.false_eq_true, if_false, if_true, decide_false, decide_true, wInt, wInt0, wLt, wDiv, wAbs, hn, wNeg, wDivM]
    refine ⟨divM (by omega) h3.neg, ?_⟩
    simp only [aSeq, aIfS, aOr, aAnd, aNot, aB, aV, aCall, aCallS, aCons, aNil, aCB, aVar, aC, aOp, aUn, aAsg, aRet, aTup, aNext, aIf, aAndV, aOrV, aFld, aSetF, aMeth, gmN,
    startG_1, startG_2, startG_3, startG_4, List.replicate, List.getElem?_cons_zero, List.getElem?_cons_succ, List.append_nil, List.set_cons_succ, List.set_cons_zero, Bool.not_true, Bool.not_false, Bool.false_eq_true, if_false, if_true, decide_false, decide_true, wInt, wInt0, wLt, wDiv, wAbs, List.lookup_cons, BEq.rfl, cset, putN, putL]
    refine ⟨trivial, by decide, divM (by omega) h3.neg, ?_⟩
    rw [fdiv_neg_e h1, fdiv_neg_e h1]
    refine ⟨trivial, by decide, 0, ?_⟩
    have e : redS a b = ((-a) / gcdI a b, (-b) / gcdI a b) := by
      unfold redS red
      rw [if_pos hn, gcdI_negs]
    rw [e] at hP
    exact hP
  · simp only [aSeq, aIfS, aOr, aAnd, aNot, aB, aV, aCall, aCallS, aCons, aNil, aCB, aVar, aC, aOp, aUn, aAsg, aRet, aTup, aNext, aIf, aAndV, aOrV, aFld, aSetF, aMeth, gmN,
    startG_1, startG_2, startG_3, startG_4, List.replicate, List.getElem?_cons_zero, List.getElem?_cons_succ, List.append_nil, List.set_cons_succ, List.set_cons_zero, Bool.not_true, Bool.not_false, Bool.false_eq_true, if_false, if_true, decide_false, decide_true, wInt, wInt0, wLt, wDiv, wAbs, hn, wDivM]
    refine ⟨divM (by omega) h3, ?_⟩
    simp only [aSeq, aIfS, aOr, aAnd, aNot, aB, aV, aCall, aCallS, aCons, aNil, aCB, aVar, aC, aOp, aUn, aAsg, aRet, aTup, aNext, aIf, aAndV, aOrV, aFld, aSetF, aMeth, gmN,
    startG_1, startG_2, startG_3, startG_4, List.replicate, List.getElem?_cons_zero, List.getElem?_cons_succ, List.append_nil, List.set_cons_succ, List.set_cons_zero, Bool.not_true, Bool.not_false, Bool.false_eq_true, if_false, if_true, decide_false, decide_true, wInt, wInt0, wLt, wDiv, wAbs, List.lookup_cons, BEq.rfl, cset, putN, putL]
    refine ⟨trivial, by decide, divM (by omega) h3, ?_⟩
    rw [fdiv_e h1, fdiv_e h1]
    refine ⟨trivial, by decide, 0, ?_⟩
    have e : redS a b = (a / gcdI a b, b / gcdI a b) := by
      unfold redS red
      rw [if_neg hn]
    rw [e] at hP
    exact hP
theorem pure_l_pair : ∀ ds P, A_l_pair ds P → a_l_pair { nx := fun _ _ => P .non, rt := fun d _ => P d } (startG 1 ds) [] := by
  rintro ds P ⟨x, rfl, hP⟩
  simp only [aSeq, aIfS, aOr, aAnd, aNot, aB, aV, aCall, aCallS, aCons, aNil, aCB, aVar, aC, aOp, aUn, aAsg, aRet, aTup, aNext, aIf, aAndV, aOrV, aFld, aSetF, aMeth, gmN,
    startG_1, startG_2, startG_3, startG_4, List.replicate, List.getElem?_cons_zero, List.getElem?_cons_succ, List.append_nil, List.set_cons_succ, List.set_cons_zero, Bool.not_true, Bool.not_false, Bool.false_eq_true, if_false, if_true, decide_false, decide_true, wInt, wInt0, wLt, wDiv, wAbs, a_l_pair, rt, lk_top, lk_bot, wIsiO, true_and, List.mem_cons, true_or, and_self]
  exact ⟨by simp, hP⟩
theorem pair_go {x : IP} {P : D → Prop} (h : P (pr x)) : A_l_pair [rt x] P := ⟨x, rfl, h⟩
theorem tI_len43 {i : Int} (h : i.natAbs < 10 ^ 4300) : (tI i).length ≤ 4301 := by
  have l := TL.numL_len (n := i.natAbs) (k := 4300) (by decide) h
  rw [len_cps, tI_L]
  unfold iL
  split
  · rw [List.length_cons]; omega
  · omega
theorem pure_Ratio_strB : ∀ ds P, A_Ratio_strB ds P → a_Ratio_strB { nx := fun _ _ => P .non, rt := fun d _ => P d } (startG 1 ds) [] := by
  rintro ds P ⟨x, rfl, ⟨g1, g2⟩, hP⟩
  have t1 := tI_len43 g1
  have t2 := tI_len43 g2
  unfold frT at hP
  by_cases h : x.2 = 1
  · simp only [aSeq, aIfS, aOr, aAnd, aNot, aB, aV, aCall, aCallS, aCons, aNil, aCB, aVar, aC, aOp, aUn, aAsg, aRet, aTup, aNext, aIf, aAndV, aOrV, aFld, aSetF, aMeth, gmN,
    startG_1, startG_2, startG_3, startG_4, List.replicate, List.getElem?_cons_zero, List.getElem?_cons_succ, List.append_nil, List.set_cons_succ, List.set_cons_zero, Bool.not_true, Bool.not_false, Bool.false_eq_true, if_false, if_true, decide_false, decide_true, wInt, wInt0, wLt, wDiv, wAbs, a_Ratio_strB, rt, lk_top, lk_bot, true_and, wEq_ii]
    simp only [aSeq, aIfS, aOr, aAnd, aNot, aB, aV, aCall, aCallS, aCons, aNil, aCB, aVar, aC, aOp, aUn, aAsg, aRet, aTup, aNext, aIf, aAndV, aOrV, aFld, aSetF, aMeth, gmN,
    startG_1, startG_2, startG_3, startG_4, List.replicate, List.getElem?_cons_zero, List.getElem?_cons_succ, List.append_nil, List.set_cons_succ, List.set_cons_zero, Bool.not_true, Bool.not_false, Bool.false_eq_true, if_false, if_true, decide_false, decide_true, wInt, wInt0, wLt, wDiv, wAbs, h, wStrB]
    rw [if_pos h] at hP
    exact ⟨g1, hP⟩
  · simp only [aSeq, aIfS, aOr, aAnd, aNot, aB, aV, aCall, aCallS, aCons, aNil, aCB, aVar, aC, aOp, aUn, aAsg, aRet, aTup, aNext, aIf, aAndV, aOrV, aFld, aSetF, aMeth, gmN,
    startG_1, startG_2, startG_3, startG_4, List.replicate, List.getElem?_cons_zero, List.getElem?_cons_succ, List.append_nil, List.set_cons_succ, List.set_cons_zero, Bool.not_true, Bool.not_false, Bool.false_eq_true, if_false, if_true, decide_false, decide_true, wInt, wInt0, wLt, wDiv, wAbs, a_Ratio_strB, rt, lk_top, lk_bot, true_and, wEq_ii]
    simp only [aSeq, aIfS, aOr, aAnd, aNot, aB, aV, aCall, aCallS, aCons, aNil, aCB, aVar, aC, aOp, aUn, aAsg, aRet, aTup, aNext, aIf, aAndV, aOrV, aFld, aSetF, aMeth, gmN,
    startG_1, startG_2, startG_3, startG_4, List.replicate, List.getElem?_cons_zero, List.getElem?_cons_succ, List.append_nil, List.set_cons_succ, List.set_cons_zero, Bool.not_true, Bool.not_false, Bool.false_eq_true, if_false, if_true, decide_false, decide_true, wInt, wInt0, wLt, wDiv, wAbs, h, aJoined, aJs, aFmtB, wFmtB, lk_top, lk_bot, true_and]
    rw [if_neg h] at hP
    refine ⟨g1, ?_, ?_, g2, ?_, ?_⟩
    · show Str.empty.length + (tI x.1).length ≤ _
      rw [emp_len]; omega
    · rw [len_app, emp_len, sl_len]
      show 0 + (tI x.1).length + 1 ≤ _
      omega
    · rw [len_app, len_app, emp_len, sl_len]
      show 0 + (tI x.1).length + 1 + (tI x.2).length ≤ _
      omega
    · rw [emp_app]
      exact hP
theorem pure_l_frac_text : ∀ ds P, A_l_frac_text ds P → a_l_frac_text { nx := fun _ _ => P .non, rt := fun d _ => P d } (startG 1 ds) [] := by
  rintro ds P ⟨x, rfl, ⟨g1, g2⟩, hP⟩
  have t1 := tI_len43 g1
  have t2 := tI_len43 g2
  unfold frT at hP
  by_cases h : x.2 = 1
  · simp only [aSeq, aIfS, aOr, aAnd, aNot, aB, aV, aCall, aCallS, aCons, aNil, aCB, aVar, aC, aOp, aUn, aAsg, aRet, aTup, aNext, aIf, aAndV, aOrV, aFld, aSetF, aMeth, gmN,
    startG_1, startG_2, startG_3, startG_4, List.replicate, List.getElem?_cons_zero, List.getElem?_cons_succ, List.append_nil, List.set_cons_succ, List.set_cons_zero, Bool.not_true, Bool.not_false, Bool.false_eq_true, if_false, if_true, decide_false, decide_true, wInt, wInt0, wLt, wDiv, wAbs, a_l_frac_text, ix0, ix1, wEq_ii, h, wStrB]
    rw [if_pos h] at hP
    exact ⟨g1, hP⟩
  · simp only [aSeq, aIfS, aOr, aAnd, aNot, aB, aV, aCall, aCallS, aCons, aNil, aCB, aVar, aC, aOp, aUn, aAsg, aRet, aTup, aNext, aIf, aAndV, aOrV, aFld, aSetF, aMeth, gmN,
    startG_1, startG_2, startG_3, startG_4, List.replicate, List.getElem?_cons_zero, List.getElem?_cons_succ, List.append_nil, List.set_cons_succ, List.set_cons_zero, Bool.not_true, Bool.not_false, Bool.false_eq_true, if_false, if_true, decide_false, decide_true, wInt, wInt0, wLt, wDiv, wAbs, a_l_frac_text, ix0, ix1, wEq_ii, h, wStrB, wAdd]
    rw [if_neg h] at hP
    refine ⟨g1, ?_, g2, ?_, hP⟩
    · rw [sl_len]
      show (tI x.1).length + 1 ≤ _
      omega
    · rw [len_app, sl_len]
      show (tI x.1).length + 1 + (tI x.2).length ≤ _
      omega
end Bd
set_option exponentiation.threshold 5000
namespace Bd
open PySem L2 PySem.NumText
/-! K3e: Ratio.read -/
def a_rd2 (x : XD) : ATS :=
  (aSeq (aIfS (aOr (aB (aOp wIsN (aVar 7) (aC .non))) (aOr (aB (aOp wIsN (aVar 8) (aC .non))) (aB (aOp wEq (aVar 8) (aC (.int 0)))))) (aRaise "InvalidRatio" "given" "InvalidRatio" x (aVar 1)) (aNext))
  (aSeq (aAsg (aMakeL 0 "Ratio" A_Ratio_initB [] (aCons (aOp wMulX (aVar 2) (aVar 7)) (aCons (aVar 8) (aNil)))) (gmN 9))
  (aSeq (aIfS (aB (aOp wNe (aCB (wTxt "Ratio" A_Ratio_strB) (aCons (aVar 9) (aNil))) (aVar 1))) (aRaise "InvalidRatio" "given" "InvalidRatio" x (aVar 1)) (aNext))
  (aRet (aVar 9)))))
def a_rd1 (x : XD) : ATS :=
  (aSeq (aAsg (aMs wPart (aVar 3) (aCons (aC (.str "/")) aNil)) (gmT 3 (gmCons (gmN 4) (gmCons (gmN 5) (gmCons (gmN 6) (gmNil))))))
  (aSeq (aPar 7 8 (aCons (aCall A_figures_number [] (aCons (aVar 4) (aNil))) (aCons (aIf (aB (aOp wNe (aVar 5) (aC (.str "")))) (aCall A_figures_number [] (aCons (aVar 6) (aNil))) (aC (.int 1))) (aNil))))
  (a_rd2 x)))
def a_rd0 (x : XD) : ATS :=
  (aSeq (aAsg (aIf (aB (aOp wEq (aSl (aVar 1) (aNoPart) (aPart (aC (.int 1)))) (aC (.str "-")))) (aTup (aCons (aUn wNeg (aC (.int 1))) (aCons (aSl (aVar 1) (aPart (aC (.int 1))) (aNoPart)) (aNil)))) (aTup (aCons (aC (.int 1)) (aCons (aVar 1) (aNil))))) (gmT 2 (gmCons (gmN 2) (gmCons (gmN 3) (gmNil)))))
    (a_rd1 x))
theorem read_e (x : XD) : a_Ratio_read x = aSeq (aIfS (aOr (aNot (aB (aCB wIsi (aCons (aVar 1) (aCons (aC (.ty "str")) (aNil)))))) (aB (aOp wGt (aCB wLen (aCons (aVar 1) (aNil))) (aC (.int 4000))))) (aRaise "InvalidRatio" "given" "InvalidRatio" x (aVar 1)) (aNext))
    (a_rd0 x) := rfl
theorem cut_1 (z : Str) : cpsL (cutS z none (some 1)) = (cpsL z).take 1 := by
  show (List.take (HT.sIx z.length z.length (some 1) - HT.sIx z.length 0 none) (List.drop (HT.sIx z.length 0 none) z.cps.toList)) = _
  rw [HT.sIx_none, show HT.sIx z.length z.length (some 1) = min 1 z.length from HT.sIx_nat _ _ 1, List.drop_zero, Nat.sub_zero, len_cps]
  cases h : cpsL z with
  | nil => simp
  | cons c r => simp [h]
theorem cut_d (z : Str) : cpsL (cutS z (some 1) none) = (cpsL z).drop 1 := by
  show (List.take (HT.sIx z.length z.length none - HT.sIx z.length 0 (some 1)) (List.drop (HT.sIx z.length 0 (some 1)) z.cps.toList)) = _
  rw [HT.sIx_none, show HT.sIx z.length 0 (some 1) = min 1 z.length from HT.sIx_nat _ _ 1, len_cps]
  cases h : cpsL z with
  | nil => simp
  | cons c r => simp [h]
abbrev dashS : Str := Str.ofString "-"
abbrev slS : Str := Str.ofString "/"
theorem dash_iff (z : Str) : (cutS z none (some 1) = dashS) ↔ (cpsL z).take 1 = [45] := by
  rw [← cut_1]
  constructor
  · intro h; rw [h]; decide
  · intro h; exact TL.ext_tl (show TL.tl _ = TL.tl dashS from (show cpsL _ = [45] from h).trans (by decide))
/-- sign and rest -/
theorem sgn_step {Γ : Gs} {c : Cs} {P : D → Cs → Prop} {i : Nat} {z : Str} (hi : Γ[i]? = some (some (.str z))) (hz : z.length ≤ 1000000) (h : ∀ r : Str, r.length ≤ z.length → cpsL r = (sgnL (cpsL z)).2 → P (.tup [.int (sgnL (cpsL z)).1, .str r]) c) :
    aIf (aB (aOp wEq (aSl (aVar i) (aNoPart) (aPart (aC (.int 1)))) (aC (.str dashS)))) (aTup (aCons (aUn wNeg (aC (.int 1))) (aCons (aSl (aVar i) (aPart (aC (.int 1))) (aNoPart)) (aNil)))) (aTup (aCons (aC (.int 1)) (aCons (aVar i) (aNil)))) Γ c P := by
  have hz2 : z.length ≤ 16000000 := by omega
  simp only [aIf, aB, aOp, aSl, aVar, hi, aNoPart, aPart, aC, wSl, wEq_ss, aTup, aCons, aUn, wNeg, aNil]
  refine ⟨hz2, ?_⟩
  by_cases e : (cpsL z).take 1 = [45]
  · rw [decide_eq_true ((dash_iff z).mpr e)]
    simp only [if_true]
    have hs : sgnL (cpsL z) = (-1, (cpsL z).drop 1) := by unfold sgnL; rw [if_pos e]
    refine ⟨hz2, by simp, ?_⟩
    have := h (cutS z (some 1) none) (cutS_length _ _ _) (by rw [hs]; exact cut_d z)
    rw [hs] at this
    exact this
  · rw [decide_eq_false (fun q => e ((dash_iff z).mp q))]
    simp only [Bool.false_eq_true, if_false]
    have hs : sgnL (cpsL z) = (1, cpsL z) := by unfold sgnL; rw [if_neg e]
    refine ⟨by simp, ?_⟩
    have := h z (Nat.le_refl _) (by rw [hs])
    rw [hs] at this
    exact this
theorem sl_cps : TL.tl slS = [47] := by decide
theorem pow_up : 10 ^ 4300 ≤ 2 ^ 14300 := by decide +kernel
theorem pow_4 {n k : Nat} (h : n < 10 ^ k) (hk : k ≤ 4300) : n < 10 ^ 4300 := Nat.lt_of_lt_of_le h (Nat.pow_le_pow_right (by decide) hk)
theorem par_len : ∀ {l acc p q : List Nat}, TL.par [47] acc l = some (p, q) → p.length ≤ acc.length + l.length ∧ q.length ≤ l.length
  | [], acc, p, q, h => by
    have e : TL.par [47] acc [] = none := rfl
    rw [e] at h
    cases h
  | c :: r, acc, p, q, h => by
    cases hp : TL.pre [47] (c :: r) with
    | true =>
      rw [TL.par_hit hp] at h
      have e := Prod.mk.inj (Option.some.inj h)
      rw [← e.1, ← e.2, List.length_drop]
      exact ⟨by omega, by omega⟩
    | false =>
      rw [TL.par_miss hp] at h
      have ih := par_len h
      rw [List.length_append, List.length_singleton] at ih
      rw [List.length_cons]
      omega
theorem tm_of {n : Nat} {l : List Nat} (h : figL l = some n) (hl : l.length ≤ 4300) : Sm 14300 ((n : Nat) : Int) ∧ n < 10 ^ 4300 := by
  have := pow_4 (fig_lt h).1 hl
  refine ⟨?_, this⟩
  unfold Sm
  rw [Int.natAbs_natCast]
  exact Nat.lt_of_lt_of_le this pow_up
theorem redS_bg {a b : Int} (ha : a.natAbs < 10 ^ 4300) (hb : b.natAbs < 10 ^ 4300) : Bg (redS a b) := by
  unfold redS
  split
  · exact ⟨Nat.lt_of_le_of_lt (Int.natAbs_ediv_le_natAbs _ _) (by rw [Int.natAbs_neg]; exact ha), Nat.lt_of_le_of_lt (Int.natAbs_ediv_le_natAbs _ _) (by rw [Int.natAbs_neg]; exact hb)⟩
  · exact ⟨Nat.lt_of_le_of_lt (Int.natAbs_ediv_le_natAbs _ _) ha, Nat.lt_of_le_of_lt (Int.natAbs_ediv_le_natAbs _ _) hb⟩
theorem sgn_one (l : List Nat) : (sgnL l).1 = 1 ∨ (sgnL l).1 = -1 := by unfold sgnL; split <;> simp
theorem sgn_len (l : List Nat) : (sgnL l).2.length ≤ l.length := by unfold sgnL; split <;> simp
/-- made and compared -/
theorem rd2 {z : Str} {s : Int} {t b : Option Nat} {P : D → Prop} {Xc : Str → List Str → List D → Prop} {u sl lo r : D} (hs : s = 1 ∨ s = -1) (ht : ∀ n, t = some n → Sm 14300 ((n : Nat) : Int) ∧ n < 10 ^ 4300) (hb : ∀ n, b = some n → Sm 14300 ((n : Nat) : Int) ∧ n < 10 ^ 4300)
    (hg : ∀ m n, t = some m → b = some n → n ≠ 0 → Sm 8000 (gcdI (s * (m : Nat)) (n : Nat)))
    (h : match mkO s t b with
      | some (a, b) => if cpsL (frT (redS a b)) = cpsL z then P (rt (redS a b)) else Xc "InvalidRatio" ["tag", "given"] [.str "InvalidRatio", .str z]
      | none => Xc "InvalidRatio" ["tag", "given"] [.str "InvalidRatio", .str z]) :
    a_rd2 (fun c ns es _ => Xc c ns es) { nx := fun _ _ => P .non, rt := fun d _ => P d } [some (.cls "Ratio"), some (.str z), some (.int s), some r, some u, some sl, some lo, some (oD t), some (oD b), none] [] := by
  cases t with
  | none => simpa [oD, mkO, aSeq, aIfS, aOr, aAnd, aNot, aB, aV, aCall, aCallS, aCons, aNil, aCB, aVar, aC, aOp, aUn, aAsg, aRet, aTup, aNext, aIf, aAndV, aOrV, aFld, aSetF, aMeth, gmN,
    startG_1, startG_2, startG_3, startG_4, List.replicate, List.getElem?_cons_zero, List.getElem?_cons_succ, List.append_nil, List.set_cons_succ, List.set_cons_zero, Bool.not_true, Bool.not_false, Bool.false_eq_true, if_false, if_true, decide_false, decide_true, wInt, wInt0, wLt, wDiv, wAbs, a_rd2, aRaise, isNon] using h
  | some t =>
    cases b with
    | none => simpa [oD, mkO, aSeq, aIfS, aOr, aAnd, aNot, aB, aV, aCall, aCallS, aCons, aNil, aCB, aVar, aC, aOp, aUn, aAsg, aRet, aTup, aNext, aIf, aAndV, aOrV, aFld, aSetF, aMeth, gmN,
    startG_1, startG_2, startG_3, startG_4, List.replicate, List.getElem?_cons_zero, List.getElem?_cons_succ, List.append_nil, List.set_cons_succ, List.set_cons_zero, Bool.not_true, Bool.not_false, Bool.false_eq_true, if_false, if_true, decide_false, decide_true, wInt, wInt0, wLt, wDiv, wAbs, a_rd2, aRaise, isNon] using h
    | some b =>
      simp only [aSeq, aIfS, aOr, aAnd, aNot, aB, aV, aCall, aCallS, aCons, aNil, aCB, aVar, aC, aOp, aUn, aAsg, aRet, aTup, aNext, aIf, aAndV, aOrV, aFld, aSetF, aMeth, gmN,
    startG_1, startG_2, startG_3, startG_4, List.replicate, List.getElem?_cons_zero, List.getElem?_cons_succ, List.append_nil, List.set_cons_succ, List.set_cons_zero, Bool.not_true, Bool.not_false, Bool.false_eq_true, if_false, if_true, decide_false, decide_true, wInt, wInt0, wLt, wDiv, wAbs, a_rd2, aRaise, wIsN, isNon, wEq_ii, oD]
      by_cases hb0 : b = 0
      · subst hb0
        simpa [mkO] using h
      · rw [decide_eq_false (by omega : ¬ ((b : Nat) : Int) = 0)]
        simp only [aSeq, aIfS, aOr, aAnd, aNot, aB, aV, aCall, aCallS, aCons, aNil, aCB, aVar, aC, aOp, aUn, aAsg, aRet, aTup, aNext, aIf, aAndV, aOrV, aFld, aSetF, aMeth, gmN,
    startG_1, startG_2, startG_3, startG_4, List.replicate, List.getElem?_cons_zero, List.getElem?_cons_succ, List.append_nil, List.set_cons_succ, List.set_cons_zero, Bool.not_true, Bool.not_false, Bool.false_eq_true, if_false, if_true, decide_false, decide_true, wInt, wInt0, wLt, wDiv, wAbs, aMakeL, aMake, wMulX, wMul]
        simp only [mkO] at h
        rw [if_neg hb0] at h
        dsimp only at h
        have ss : Sm 1 s := by rcases hs with rfl | rfl <;> (unfold Sm; decide)
        obtain ⟨t1, t2⟩ := ht t rfl
        obtain ⟨b1, b2⟩ := hb b rfl
        refine ⟨trivial, mulA ss t1 (by decide) (by decide) (by decide), fun p => ⟨p, _, _, rfl, rfl, by omega, hg t b rfl rfl hb0, rfl, _, rfl, ?_⟩⟩
        have bg : Bg (redS (s * (t : Nat)) (b : Nat)) := redS_bg (by rw [Int.natAbs_mul, Int.natAbs_natCast]; rcases hs with rfl | rfl <;> simpa using t2) (by rw [Int.natAbs_natCast]; exact b2)
        generalize redS (s * (t : Nat)) (b : Nat) = y at h bg ⊢
        simp only [aSeq, aIfS, aOr, aAnd, aNot, aB, aV, aCall, aCallS, aCons, aNil, aCB, aVar, aC, aOp, aUn, aAsg, aRet, aTup, aNext, aIf, aAndV, aOrV, aFld, aSetF, aMeth, gmN,
    startG_1, startG_2, startG_3, startG_4, List.replicate, List.getElem?_cons_zero, List.getElem?_cons_succ, List.append_nil, List.set_cons_succ, List.set_cons_zero, Bool.not_true, Bool.not_false, Bool.false_eq_true, if_false, if_true, decide_false, decide_true, wInt, wInt0, wLt, wDiv, wAbs, wTxt, gTxt, gUno, rt]
        refine ⟨by simp, y, rfl, bg, ?_⟩
        simp only [wNe_ss]
        by_cases e : cpsL (frT y) = cpsL z
        · rw [if_pos e] at h
          rw [decide_eq_true (TL.ext_tl (show TL.tl (frT y) = TL.tl z from e))]
          simpa [rt] using h
        · rw [if_neg e] at h
          rw [decide_eq_false (fun q => e (by rw [q]))]
          simpa using h
theorem rd1 {z r : Str} {s : Int} {P : D → Prop} {Xc : Str → List Str → List D → Prop} (hr : r.length ≤ 4000) (hs : sgnL (cpsL z) = (s, cpsL r))
    (hg : ∀ a b, numsL (cpsL z) = some (a, b) → Sm 8000 (gcdI a b)) (h : match readL (cpsL z) with
    | some x => P (rt x)
    | none => Xc "InvalidRatio" ["tag", "given"] [.str "InvalidRatio", .str z]) :
    a_rd1 (fun c ns es _ => Xc c ns es) { nx := fun _ _ => P .non, rt := fun d _ => P d } [some (.cls "Ratio"), some (.str z), some (.int s), some (.str r), none, none, none, none, none, none] [] := by
  have s1 : s = 1 ∨ s = -1 := by have := sgn_one (cpsL z); rw [hs] at this; exact this
  have lr := len_cps r
  have e0 := TL.partition_par r slS (by decide)
  rw [sl_cps] at e0
  have h' : match numsL (cpsL z) with
      | some (a, b) => if cpsL (frT (redS a b)) = cpsL z then P (rt (redS a b)) else Xc "InvalidRatio" ["tag", "given"] [.str "InvalidRatio", .str z]
      | none => Xc "InvalidRatio" ["tag", "given"] [.str "InvalidRatio", .str z] := by
    unfold readL at h
    cases hn : numsL (cpsL z) with
    | none => rw [hn] at h; exact h
    | some ab =>
      obtain ⟨a, b⟩ := ab
      rw [hn] at h
      dsimp only at h ⊢
      by_cases e : cpsL (frT (redS a b)) = cpsL z
      · rw [if_pos e] at h ⊢; exact h
      · rw [if_neg e] at h ⊢; exact h
  simp only [aSeq, aIfS, aOr, aAnd, aNot, aB, aV, aCall, aCallS, aCons, aNil, aCB, aVar, aC, aOp, aUn, aAsg, aRet, aTup, aNext, aIf, aAndV, aOrV, aFld, aSetF, aMeth, gmN,
    startG_1, startG_2, startG_3, startG_4, List.replicate, List.getElem?_cons_zero, List.getElem?_cons_succ, List.append_nil, List.set_cons_succ, List.set_cons_zero, Bool.not_true, Bool.not_false, Bool.false_eq_true, if_false, if_true, decide_false, decide_true, wInt, wInt0, wLt, wDiv, wAbs, a_rd1, wPart]
  refine ⟨⟨by decide, by omega⟩, ?_⟩
  cases hp : TL.par [47] [] (cpsL r) with
  | none =>
    rw [show TL.par [47] [] (TL.tl r) = none from hp] at e0
    rw [e0]
    simp only [aSeq, aIfS, aOr, aAnd, aNot, aB, aV, aCall, aCallS, aCons, aNil, aCB, aVar, aC, aOp, aUn, aAsg, aRet, aTup, aNext, aIf, aAndV, aOrV, aFld, aSetF, aMeth, gmN,
    startG_1, startG_2, startG_3, startG_4, List.replicate, List.getElem?_cons_zero, List.getElem?_cons_succ, List.append_nil, List.set_cons_succ, List.set_cons_zero, Bool.not_true, Bool.not_false, Bool.false_eq_true, if_false, if_true, decide_false, decide_true, wInt, wInt0, wLt, wDiv, wAbs, gmT, gmCons, gmNil, aPar]
    refine ⟨rfl, r, rfl, by omega, ?_⟩
    simp only [wNe_ss, decide_eq_true (show (Str.empty = Str.ofString "") from by decide), aSeq, aIfS, aOr, aAnd, aNot, aB, aV, aCall, aCallS, aCons, aNil, aCB, aVar, aC, aOp, aUn, aAsg, aRet, aTup, aNext, aIf, aAndV, aOrV, aFld, aSetF, aMeth, gmN,
    startG_1, startG_2, startG_3, startG_4, List.replicate, List.getElem?_cons_zero, List.getElem?_cons_succ, List.append_nil, List.set_cons_succ, List.set_cons_zero, Bool.not_true, Bool.not_false, Bool.false_eq_true, if_false, if_true, decide_false, decide_true, wInt, wInt0, wLt, wDiv, wAbs]
    have e1 : numsL (cpsL z) = mkO s (figL (cpsL r)) (some 1) := by unfold numsL; rw [hs]; simp only [hp, upO, lowO]
    rw [e1] at h'
    refine rd2 (t := figL (cpsL r)) (b := some 1) s1 (fun n e => tm_of e (by omega)) (fun n e => by cases e; exact ⟨by unfold Sm; decide +kernel, by decide +kernel⟩) (fun m n e1' e2' hn => hg _ _ (by rw [e1, e1', e2']; exact if_neg hn)) h'
  | some pq =>
    obtain ⟨p, q⟩ := pq
    have pl := par_len hp
    rw [List.length_nil] at pl
    rw [show TL.par [47] [] (TL.tl r) = some (p, q) from hp] at e0
    rw [e0]
    simp only [aSeq, aIfS, aOr, aAnd, aNot, aB, aV, aCall, aCallS, aCons, aNil, aCB, aVar, aC, aOp, aUn, aAsg, aRet, aTup, aNext, aIf, aAndV, aOrV, aFld, aSetF, aMeth, gmN,
    startG_1, startG_2, startG_3, startG_4, List.replicate, List.getElem?_cons_zero, List.getElem?_cons_succ, List.append_nil, List.set_cons_succ, List.set_cons_zero, Bool.not_true, Bool.not_false, Bool.false_eq_true, if_false, if_true, decide_false, decide_true, wInt, wInt0, wLt, wDiv, wAbs, gmT, gmCons, gmNil, aPar]
    refine ⟨rfl, ⟨p.toArray⟩, rfl, by show p.toArray.size ≤ _; rw [List.size_toArray]; omega, ?_⟩
    simp only [wNe_ss, decide_eq_false (show ¬ (slS = Str.ofString "") from by decide), aSeq, aIfS, aOr, aAnd, aNot, aB, aV, aCall, aCallS, aCons, aNil, aCB, aVar, aC, aOp, aUn, aAsg, aRet, aTup, aNext, aIf, aAndV, aOrV, aFld, aSetF, aMeth, gmN,
    startG_1, startG_2, startG_3, startG_4, List.replicate, List.getElem?_cons_zero, List.getElem?_cons_succ, List.append_nil, List.set_cons_succ, List.set_cons_zero, Bool.not_true, Bool.not_false, Bool.false_eq_true, if_false, if_true, decide_false, decide_true, wInt, wInt0, wLt, wDiv, wAbs]
    refine ⟨⟨q.toArray⟩, rfl, by show q.toArray.size ≤ _; rw [List.size_toArray]; omega, ?_⟩
    have e1 : numsL (cpsL z) = mkO s (figL p) (figL q) := by unfold numsL; rw [hs]; simp only [hp, upO, lowO]
    rw [e1] at h'
    exact rd2 (t := figL p) (b := figL q) s1 (fun n e => tm_of e (by omega)) (fun n e => tm_of e (by omega)) (fun m n e1' e2' hn => hg _ _ (by rw [e1, e1', e2']; exact if_neg hn)) h'
theorem rd0 {z : Str} {P : D → Prop} {Xc : Str → List Str → List D → Prop} (hz : z.length ≤ 4000) (hg : ∀ a b, numsL (cpsL z) = some (a, b) → Sm 8000 (gcdI a b)) (h : match readL (cpsL z) with
    | some x => P (rt x)
    | none => Xc "InvalidRatio" ["tag", "given"] [.str "InvalidRatio", .str z]) :
    a_rd0 (fun c ns es _ => Xc c ns es) { nx := fun _ _ => P .non, rt := fun d _ => P d } [some (.cls "Ratio"), some (.str z), none, none, none, none, none, none, none, none] [] := by
  unfold a_rd0
  refine sgn_step (i := 1) (z := z) (Γ := [some (.cls "Ratio"), some (.str z), none, none, none, none, none, none, none, none]) rfl (by omega) fun r hr er => ?_
  exact ⟨rfl, rd1 (by omega) (Prod.ext rfl er.symm) hg h⟩
theorem rd_odd {d : D} {P : D → Prop} {Xc : Str → List Str → List D → Prop} (hi : isD "str" d = false) (ht : (tyN d).isSome = true) (h : Xc "InvalidRatio" ["tag", "given"] [.str "InvalidRatio", d]) :
    a_Ratio_read (fun c ns es _ => Xc c ns es) { nx := fun _ _ => P .non, rt := fun d _ => P d } (startG 10 [.cls "Ratio", d]) [] := by
  rw [read_e]
  simp only [aSeq, aIfS, aOr, aAnd, aNot, aB, aV, aCall, aCallS, aCons, aNil, aCB, aVar, aC, aOp, aUn, aAsg, aRet, aTup, aNext, aIf, aAndV, aOrV, aFld, aSetF, aMeth, gmN,
    startG_1, startG_2, startG_3, startG_4, List.replicate, List.getElem?_cons_zero, List.getElem?_cons_succ, List.append_nil, List.set_cons_succ, List.set_cons_zero, Bool.not_true, Bool.not_false, Bool.false_eq_true, if_false, if_true, decide_false, decide_true, wInt, wInt0, wLt, wDiv, wAbs, aRaise, wIsi, hi, ht]
  exact ⟨by decide, h⟩
theorem pure_Ratio_read : ∀ ds P Xc, A_Ratio_read ds P Xc → a_Ratio_read (fun c ns es _ => Xc c ns es) { nx := fun _ _ => P .non, rt := fun d _ => P d } (startG 10 ds) [] := by
  rintro ds P Xc ⟨d, rfl, hd⟩
  rw [read_e]
  cases d with
  | str z =>
    obtain ⟨⟨hz, hg⟩, h⟩ := hd
    have hz2 : z.length ≤ 16000000 := by omega
    simp only [aSeq, aIfS, aOr, aAnd, aNot, aB, aV, aCall, aCallS, aCons, aNil, aCB, aVar, aC, aOp, aUn, aAsg, aRet, aTup, aNext, aIf, aAndV, aOrV, aFld, aSetF, aMeth, gmN,
    startG_1, startG_2, startG_3, startG_4, List.replicate, List.getElem?_cons_zero, List.getElem?_cons_succ, List.append_nil, List.set_cons_succ, List.set_cons_zero, Bool.not_true, Bool.not_false, Bool.false_eq_true, if_false, if_true, decide_false, decide_true, wInt, wInt0, wLt, wDiv, wAbs, aRaise, wIsi, okTy, tyN, isD, wLen, wGt, wInt0]
    refine ⟨by decide, ?_⟩
    refine ⟨hz2, ?_⟩
    by_cases h4 : 4000 < z.length
    · rw [decide_eq_true (by omega : (4000 : Int) < (z.length : Int))]
      rw [if_neg (by omega : ¬ z.length ≤ 4000)] at h
      simpa using h
    · rw [decide_eq_false (by omega : ¬ (4000 : Int) < (z.length : Int))]
      rw [if_pos (by omega : z.length ≤ 4000)] at h
      rw [if_neg (by decide)]
      exact rd0 (by omega) (fun a b e => hg a b (by omega) e) h
  | non => exact rd_odd rfl rfl hd.2
  | int i => exact rd_odd rfl rfl hd.2
  | bl b => exact rd_odd rfl rfl hd.2
  | lst xs => exact rd_odd rfl rfl hd.2
  | tup xs => exact rd_odd rfl rfl hd.2
  | _ => exact absurd hd.1 (by simp [tyd])
end Bd
set_option exponentiation.threshold 5000
namespace Bd
open PySem L2 PySem.NumText
/-! K3f: the law's own reading of a text -/
def a_tr4 : ATS :=
  (aRet (aIf (aAnd (aB (aOp wGt (aOp wIx (aVar 5) (aC (.int 1))) (aC (.int 0)))) (aB (aOp wEq (aCall A_l_frac_text [] (aCons (aCall A_l_frac [] (aCons (aOp wIx (aVar 5) (aC (.int 0))) (aCons (aOp wIx (aVar 5) (aC (.int 1))) (aNil)))) (aNil))) (aVar 0)))) (aVar 5) (aC .non)))
def a_tr3 : ATS :=
  (aSeq (aAsg (aTup (aCons (aOp wMulX (aVar 1) (aOp wIx (aVar 4) (aC (.int 0)))) (aCons (aOp wIx (aVar 4) (aC (.int 1))) (aNil)))) (gmN 5))
  a_tr4)
def a_tr2 : ATS :=
  (aSeq (aAsg (aOp wAdd (aLc (aItems (aVar 3)) (gmN 6) (aYes) (aCB wIntT (aCons (aVar 6) (aNil))) [6]) (aLst (aCons (aC (.int 1)) (aNil)))) (gmN 4))
  a_tr3)
def a_tr1 : ATS :=
  (aSeq (aIfS (aOr (aB (aOp wGt (aCB wLen (aCons (aVar 3) (aNil))) (aC (.int 2)))) (aOr (aB (aOp wIn (aC (.str "")) (aVar 3))) (aNot (aB (aCB wAll (aCons (aLc (aItems (aMs wJoin (aC (.str "")) (aCons (aVar 3) aNil))) (gmN 7) (aYes) (aOp wIn (aVar 7) (aC (.str "0123456789"))) [7]) (aNil))))))) (aRet (aC .non)) (aNext))
  a_tr2)
def a_tr0 : ATS :=
  (aSeq (aAsg (aMs wSplit (aVar 2) (aCons (aC (.str "/")) aNil)) (gmN 3))
  a_tr1)
theorem tr_e : a_l_text_ratio = aSeq (aAsg (aIf (aB (aOp wEq (aSl (aVar 0) (aNoPart) (aPart (aC (.int 1)))) (aC (.str "-")))) (aTup (aCons (aUn wNeg (aC (.int 1))) (aCons (aSl (aVar 0) (aPart (aC (.int 1))) (aNoPart)) (aNil)))) (aTup (aCons (aC (.int 1)) (aCons (aVar 0) (aNil))))) (gmT 2 (gmCons (gmN 1) (gmCons (gmN 2) (gmNil)))))
  a_tr0 := rfl
theorem sm_bg {x : Int} (h : Sm 8000 x) : x.natAbs < 10 ^ 4300 := Nat.lt_of_lt_of_le h (by decide +kernel)
theorem tr4 {z : Str} {x : IP} {P : D → Prop} {g1 g2 g3 g4 g6 g7 : Option D} (s1 : Sm 8000 x.1) (s2 : Sm 8000 x.2) (h : P (oR (if 0 < x.2 ∧ cpsL (frT (red x.1 x.2)) = cpsL z then some x else none))) :
    a_tr4 { nx := fun _ _ => P .non, rt := fun d _ => P d } [some (.str z), g1, g2, g3, g4, some (pr x), g6, g7] [] := by
  simp only [aSeq, aIfS, aOr, aAnd, aNot, aB, aV, aCall, aCallS, aCons, aNil, aCB, aVar, aC, aOp, aUn, aAsg, aRet, aTup, aNext, aIf, aAndV, aOrV, aFld, aSetF, aMeth, gmN,
    startG_1, startG_2, startG_3, startG_4, List.replicate, List.getElem?_cons_zero, List.getElem?_cons_succ, List.append_nil, List.set_cons_succ, List.set_cons_zero, Bool.not_true, Bool.not_false, Bool.false_eq_true, if_false, if_true, decide_false, decide_true, wInt, wInt0, wLt, wDiv, wAbs, a_tr4, ix0, ix1, wGt]
  by_cases h0 : 0 < x.2
  · rw [decide_eq_true h0]
    simp only [aSeq, aIfS, aOr, aAnd, aNot, aB, aV, aCall, aCallS, aCons, aNil, aCB, aVar, aC, aOp, aUn, aAsg, aRet, aTup, aNext, aIf, aAndV, aOrV, aFld, aSetF, aMeth, gmN,
    startG_1, startG_2, startG_3, startG_4, List.replicate, List.getElem?_cons_zero, List.getElem?_cons_succ, List.append_nil, List.set_cons_succ, List.set_cons_zero, Bool.not_true, Bool.not_false, Bool.false_eq_true, if_false, if_true, decide_false, decide_true, wInt, wInt0, wLt, wDiv, wAbs]
    refine frac_go h0 s1 s2 ⟨_, rfl, ?_, ?_⟩
    · have g := red_good h0 s1 s2
      exact ⟨sm_bg g.a, sm_bg g.b⟩
    · simp only [wEq_ss]
      by_cases e : cpsL (frT (red x.1 x.2)) = cpsL z
      · rw [if_pos ⟨h0, e⟩] at h
        rw [decide_eq_true (TL.ext_tl (show TL.tl (frT (red x.1 x.2)) = TL.tl z from e))]
        simpa [oR] using h
      · rw [if_neg (fun q => e q.2)] at h
        rw [decide_eq_false (fun q => e (by rw [q]))]
        simpa [oR] using h
  · rw [if_neg (fun q => h0 q.1)] at h
    rw [decide_eq_false h0]
    simpa [oR] using h
theorem spl_ne : ∀ (l acc : List Nat), TL.spl [47] 0 acc l ≠ []
  | [], acc => by rw [TL.spl_nil]; simp
  | c :: r, acc => by
    cases hp : TL.pre [47] (c :: r) with
    | true => rw [TL.spl_hit hp]; simp
    | false => rw [TL.spl_miss hp]; exact spl_ne r _
theorem spl_sum : ∀ (l acc : List Nat), ((TL.spl [47] 0 acc l).map List.length).sum ≤ acc.length + l.length
  | [], acc => by rw [TL.spl_nil]; simp
  | c :: r, acc => by
    cases hp : TL.pre [47] (c :: r) with
    | true =>
      rw [TL.spl_hit hp]
      have ih := spl_sum r []
      rw [List.map_cons, List.sum_cons]
      have hcr : (c :: r).length = r.length + 1 := rfl
      rw [List.length_nil] at ih
      show acc.length + ((TL.spl [47] 0 [] r).map List.length).sum ≤ _
      omega
    | false =>
      rw [TL.spl_miss hp]
      have ih := spl_sum r (acc ++ [c])
      rw [List.length_append, List.length_singleton] at ih
      rw [List.length_cons]
      omega
theorem sm_val {u : List Nat} (h : AllDigits u) (hl : u.length ≤ 1000) : Sm 7000 ((digitsVal u : Nat) : Int) := by
  unfold Sm
  rw [Int.natAbs_natCast]
  exact Nat.lt_of_lt_of_le (Nat.lt_of_lt_of_le (val_lt h) (Nat.pow_le_pow_right (by decide) hl)) (by decide +kernel)
abbrev SL (l : List Nat) : Str := ⟨l.toArray⟩
theorem sl_tl (l : List Nat) : cpsL (SL l) = l := rfl
theorem sl_len' (l : List Nat) : (SL l).length = l.length := by show l.toArray.size = _; rw [List.size_toArray]
theorem int_go {u : List Nat} {P : D → Prop} (hd : u.all isDig = true) (hn : u ≠ []) (hl : u.length ≤ 1000) (h : P (.int ((digitsVal u : Nat) : Int))) : wIntT [.str (SL u)] P := ⟨⟨all_dig hd, hn, by rw [sl_len']; omega⟩, h⟩
theorem tr2a {z r : Str} {s : Int} {u : List Nat} {P : D → Prop} (hs : s = 1 ∨ s = -1) (hu : u.all isDig = true) (un : u ≠ []) (ul : u.length ≤ 1000)
    (h : P (oR (if 0 < ((1 : Int)) ∧ cpsL (frT (red (s * (digitsVal u : Nat)) 1)) = cpsL z then some (s * (digitsVal u : Nat), 1) else none))) :
    a_tr2 { nx := fun _ _ => P .non, rt := fun d _ => P d } [some (.str z), some (.int s), some (.str r), some (.lst [.str (SL u)]), none, none, none, none] [] := by
  have ss : Sm 1 s := by rcases hs with rfl | rfl <;> (unfold Sm; decide)
  have su := sm_val (all_dig hu) ul
  simp only [aSeq, aIfS, aOr, aAnd, aNot, aB, aV, aCall, aCallS, aCons, aNil, aCB, aVar, aC, aOp, aUn, aAsg, aRet, aTup, aNext, aIf, aAndV, aOrV, aFld, aSetF, aMeth, gmN,
    startG_1, startG_2, startG_3, startG_4, List.replicate, List.getElem?_cons_zero, List.getElem?_cons_succ, List.append_nil, List.set_cons_succ, List.set_cons_zero, Bool.not_true, Bool.not_false, Bool.false_eq_true, if_false, if_true, decide_false, decide_true, wInt, wInt0, wLt, wDiv, wAbs, a_tr2, aLc, aItems, itemsD, goA, lcB, wipeG, aYes]
  refine ⟨by simp, int_go hu un ul ?_⟩
  simp only [aSeq, aIfS, aOr, aAnd, aNot, aB, aV, aCall, aCallS, aCons, aNil, aCB, aVar, aC, aOp, aUn, aAsg, aRet, aTup, aNext, aIf, aAndV, aOrV, aFld, aSetF, aMeth, gmN,
    startG_1, startG_2, startG_3, startG_4, List.replicate, List.getElem?_cons_zero, List.getElem?_cons_succ, List.append_nil, List.set_cons_succ, List.set_cons_zero, Bool.not_true, Bool.not_false, Bool.false_eq_true, if_false, if_true, decide_false, decide_true, wInt, wInt0, wLt, wDiv, wAbs, aLst, wAdd]
  refine ⟨by simp, by simp, ?_⟩
  simp only [aSeq, aIfS, aOr, aAnd, aNot, aB, aV, aCall, aCallS, aCons, aNil, aCB, aVar, aC, aOp, aUn, aAsg, aRet, aTup, aNext, aIf, aAndV, aOrV, aFld, aSetF, aMeth, gmN,
    startG_1, startG_2, startG_3, startG_4, List.replicate, List.getElem?_cons_zero, List.getElem?_cons_succ, List.append_nil, List.set_cons_succ, List.set_cons_zero, Bool.not_true, Bool.not_false, Bool.false_eq_true, if_false, if_true, decide_false, decide_true, wInt, wInt0, wLt, wDiv, wAbs, a_tr3, wIx, at0, at1, wMulX, wMul]
  refine ⟨mulA ss su (by decide) (by decide) (by decide), by simp, ?_⟩
  exact tr4 (x := (s * (digitsVal u : Nat), 1)) ((ss.mul su).mono (by decide)) ((show Sm 1 1 from by unfold Sm; decide).mono (by decide)) h
theorem tr2b {z r : Str} {s : Int} {u v : List Nat} {P : D → Prop} (hs : s = 1 ∨ s = -1) (hu : u.all isDig = true) (un : u ≠ []) (ul : u.length ≤ 1000) (hv : v.all isDig = true) (vn : v ≠ []) (vl : v.length ≤ 1000)
    (h : P (oR (if 0 < ((digitsVal v : Nat) : Int) ∧ cpsL (frT (red (s * (digitsVal u : Nat)) (digitsVal v : Nat))) = cpsL z then some (s * (digitsVal u : Nat), ((digitsVal v : Nat) : Int)) else none))) :
    a_tr2 { nx := fun _ _ => P .non, rt := fun d _ => P d } [some (.str z), some (.int s), some (.str r), some (.lst [.str (SL u), .str (SL v)]), none, none, none, none] [] := by
  have ss : Sm 1 s := by rcases hs with rfl | rfl <;> (unfold Sm; decide)
  have su := sm_val (all_dig hu) ul
  have sv := sm_val (all_dig hv) vl
  simp only [aSeq, aIfS, aOr, aAnd, aNot, aB, aV, aCall, aCallS, aCons, aNil, aCB, aVar, aC, aOp, aUn, aAsg, aRet, aTup, aNext, aIf, aAndV, aOrV, aFld, aSetF, aMeth, gmN,
    startG_1, startG_2, startG_3, startG_4, List.replicate, List.getElem?_cons_zero, List.getElem?_cons_succ, List.append_nil, List.set_cons_succ, List.set_cons_zero, Bool.not_true, Bool.not_false, Bool.false_eq_true, if_false, if_true, decide_false, decide_true, wInt, wInt0, wLt, wDiv, wAbs, a_tr2, aLc, aItems, itemsD, goA, lcB, wipeG, aYes]
  refine ⟨by simp, int_go hu un ul (int_go hv vn vl ?_)⟩
  simp only [aSeq, aIfS, aOr, aAnd, aNot, aB, aV, aCall, aCallS, aCons, aNil, aCB, aVar, aC, aOp, aUn, aAsg, aRet, aTup, aNext, aIf, aAndV, aOrV, aFld, aSetF, aMeth, gmN,
    startG_1, startG_2, startG_3, startG_4, List.replicate, List.getElem?_cons_zero, List.getElem?_cons_succ, List.append_nil, List.set_cons_succ, List.set_cons_zero, Bool.not_true, Bool.not_false, Bool.false_eq_true, if_false, if_true, decide_false, decide_true, wInt, wInt0, wLt, wDiv, wAbs, aLst, wAdd]
  refine ⟨by simp, by simp, ?_⟩
  simp only [aSeq, aIfS, aOr, aAnd, aNot, aB, aV, aCall, aCallS, aCons, aNil, aCB, aVar, aC, aOp, aUn, aAsg, aRet, aTup, aNext, aIf, aAndV, aOrV, aFld, aSetF, aMeth, gmN,
    startG_1, startG_2, startG_3, startG_4, List.replicate, List.getElem?_cons_zero, List.getElem?_cons_succ, List.append_nil, List.set_cons_succ, List.set_cons_zero, Bool.not_true, Bool.not_false, Bool.false_eq_true, if_false, if_true, decide_false, decide_true, wInt, wInt0, wLt, wDiv, wAbs, a_tr3, wIx, at0, at1, wMulX, wMul]
  refine ⟨mulA ss su (by decide) (by decide) (by decide), by simp, ?_⟩
  exact tr4 (x := (s * (digitsVal u : Nat), ((digitsVal v : Nat) : Int))) ((ss.mul su).mono (by decide)) (sv.mono (by decide)) h
theorem in_emp (us : List (List Nat)) : inS (Str.ofString "") (us.map SL) = decide ([] ∈ us) := by
  unfold inS
  induction us with
  | nil => rfl
  | cons u us ih =>
    rw [List.map_cons, List.any_cons, ih]
    have e : decide (SL u = Str.ofString "") = decide (u = []) := decide_eq_decide.mpr eq_emp
    rw [e]
    by_cases h : u = []
    · subst h; simp
    · simp [h, Ne.symm h]
theorem join_flat : ∀ us : List (List Nat), TL.joinL [] us = us.flatten
  | [] => rfl
  | [u] => by simp [TL.joinL]
  | u :: v :: us => by
    show u ++ ([] ++ TL.joinL [] (v :: us)) = _
    rw [join_flat (v :: us), List.nil_append, List.flatten_cons (l := u)]
theorem join_emp (us : List (List Nat)) : cpsL (Txt.join (Str.ofString "") (us.map SL)) = us.flatten := by
  have e := SX.join_S [] us
  have e2 : Txt.join (Str.ofString "") (us.map SL) = SX.S (TL.joinL [] us) := by
    exact e
  rw [e2, join_flat]
theorem sum_len (us : List (List Nat)) : ((us.map SL).map (·.length)).sum = (us.map List.length).sum := by
  rw [List.map_map]
  congr 1
theorem flat_len (us : List (List Nat)) : us.flatten.length = (us.map List.length).sum := List.length_flatten
theorem map_strs (us : List (List Nat)) : ((us.map SL).map D.str) = us.map fun u => D.str (SL u) := by rw [List.map_map]; rfl
theorem tr1 {z r : Str} {s : Int} {us : List (List Nat)} {P : D → Prop} (hs : s = 1 ∨ s = -1) (hne : us ≠ []) (hsum : (us.map List.length).sum ≤ 1000)
    (h : P (oR (textO (cpsL z) (textW s us)))) :
    a_tr1 { nx := fun _ _ => P .non, rt := fun d _ => P d } [some (.str z), some (.int s), some (.str r), some (.lst ((us.map SL).map D.str)), none, none, none, none] [] := by
  unfold textW at h
  have hany : (((us.map SL).map D.str).any fun d => eqD d (.str (Str.ofString ""))) = inS (Str.ofString "") (us.map SL) := any_strs _ _
  have hfl := all_fl (us.map SL)
  simp only [aSeq, aIfS, aOr, aAnd, aNot, aB, aV, aCall, aCallS, aCons, aNil, aCB, aVar, aC, aOp, aUn, aAsg, aRet, aTup, aNext, aIf, aAndV, aOrV, aFld, aSetF, aMeth, gmN,
    startG_1, startG_2, startG_3, startG_4, List.replicate, List.getElem?_cons_zero, List.getElem?_cons_succ, List.append_nil, List.set_cons_succ, List.set_cons_zero, Bool.not_true, Bool.not_false, Bool.false_eq_true, if_false, if_true, decide_false, decide_true, wInt, wInt0, wLt, wDiv, wAbs, a_tr1, wLen, wGt, wInt0, List.length_map]
  by_cases h1 : 2 < us.length
  · rw [decide_eq_true (by omega : (2 : Int) < (us.length : Int))]
    rw [if_pos (.inl h1)] at h
    simpa [oR, textO] using h
  · rw [decide_eq_false (by omega : ¬ (2 : Int) < (us.length : Int))]
    simp only [Bool.false_eq_true, if_false, wIn, memD, flD, hfl, hany, in_emp]
    refine ⟨rfl, ?_⟩
    by_cases h2 : [] ∈ us
    · rw [if_pos (.inr (.inl h2))] at h
      simpa [h2, oR, textO] using h
    · rw [decide_eq_false h2]
      simp only [Bool.false_eq_true, if_false]
      refine dig_all (z := Txt.join (Str.ofString "") (us.map SL)) (by simp) (by rw [len_cps, join_emp, flat_len]; omega) (fun Q hQ => ?_) ?_
      · simp only [aMs, aC, aVar, aCons, aNil, List.getElem?_cons_zero, List.getElem?_cons_succ, wJoin, strsOf_map]
        refine ⟨?_, hQ⟩
        rw [sum_len, show (Str.ofString "").length = 0 from by decide]
        omega
      · rw [show (Txt.join (Str.ofString "") (us.map SL)).cps.toList = us.flatten from join_emp us]
        cases h3 : us.flatten.all isDig with
        | false =>
          rw [if_pos (.inr (.inr h3))] at h
          simpa [oR, textO] using h
        | true =>
          rw [if_neg (by rintro (q | q | q); exact h1 q; exact h2 q; (rw [h3] at q; cases q))] at h
          simp only [Bool.not_true, Bool.false_eq_true, if_false]
          match us, hne, h1, h2, h3, hsum, h with
          | [u], _, _, h2, h3, hsum, h =>
            simp only [List.flatten_cons, List.flatten_nil, List.append_nil] at h3
            simp only [List.map_cons, List.map_nil, List.sum_cons, List.sum_nil] at hsum
            exact tr2a hs h3 (fun e => h2 (by rw [e]; simp)) (by omega) h
          | [u, v], _, _, h2, h3, hsum, h =>
            simp only [List.flatten_cons, List.flatten_nil, List.append_nil, List.all_append, Bool.and_eq_true] at h3
            simp only [List.map_cons, List.map_nil, List.sum_cons, List.sum_nil] at hsum
            exact tr2b hs h3.1 (fun e => h2 (by rw [e]; simp)) (by omega) h3.2 (fun e => h2 (by rw [e]; simp)) (by omega) h
          | u :: v :: x :: us, _, h1, _, _, _, _ => exact absurd (by simp) h1
theorem pure_l_text_ratio : ∀ ds P, A_l_text_ratio ds P → a_l_text_ratio { nx := fun _ _ => P .non, rt := fun d _ => P d } (startG 8 ds) [] := by
  rintro ds P ⟨z, rfl, hz, hP⟩
  rw [tr_e]
  refine sgn_step (i := 0) (z := z) (Γ := [some (.str z), none, none, none, none, none, none, none]) rfl (by omega) fun r hr er => ⟨rfl, ?_⟩
  have es : Txt.split r (Str.ofString "/") = (wordsL (cpsL z)).map SL := by
    have e := SX.split_S (a := cpsL r) (b := [47]) (by simp) (by decide)
    rw [show SX.S (cpsL r) = r from SX.S_tl r] at e
    unfold wordsL
    rw [← er]
    exact e
  show a_tr0 _ [some (.str z), some (.int (sgnL (cpsL z)).1), some (.str r), none, none, none, none, none] []
  simp only [aSeq, aIfS, aOr, aAnd, aNot, aB, aV, aCall, aCallS, aCons, aNil, aCB, aVar, aC, aOp, aUn, aAsg, aRet, aTup, aNext, aIf, aAndV, aOrV, aFld, aSetF, aMeth, gmN,
    startG_1, startG_2, startG_3, startG_4, List.replicate, List.getElem?_cons_zero, List.getElem?_cons_succ, List.append_nil, List.set_cons_succ, List.set_cons_zero, Bool.not_true, Bool.not_false, Bool.false_eq_true, if_false, if_true, decide_false, decide_true, wInt, wInt0, wLt, wDiv, wAbs, a_tr0, aMs, wSplit]
  refine ⟨⟨by decide, by omega⟩, ?_⟩
  rw [es]
  refine tr1 (sgn_one _) (spl_ne _ _) ?_ hP
  have q := spl_sum (sgnL (cpsL z)).2 []
  have q2 := sgn_len (cpsL z)
  have q3 := len_cps z
  rw [List.length_nil] at q
  show ((TL.spl [47] 0 [] (sgnL (cpsL z)).2).map List.length).sum ≤ 1000
  omega
end Bd
set_option exponentiation.threshold 5000
namespace Bd
open PySem L2 PySem.NumText
/-! K3g: the law over data: parts -/
def a_b3 : ATS :=
  (aSeq (aPar 8 9 (aCons (aCall A_l_text_ratio [] (aCons (aVar 7) (aNil))) (aCons (aTry (fun x => aCMeth "Ratio" A_Ratio_read x (aC (.cls "Ratio")) (aCons (aVar 7) (aNil))) (xtT A_l_fields xcs_)) (aNil))))
  (aIfS (aB (aOp wIsN (aVar 8) (aC .non))) (aIfS (aB (aOp wNe (aVar 9) (aTup (aCons (aC (.str "no")) (aCons (aC (.str "InvalidRatio")) (aCons (aVar 7) (aNil))))))) (aRet (aC (.bl false))) (aNext)) (aIfS (aNot (aB (aCall (A_l_same 4) [] (aCons (aCall A_l_pair [] (aCons (aOp wIx (aVar 9) (aC (.int 1))) (aNil))) (aCons (aVar 8) (aNil)))))) (aRet (aC (.bl false))) (aNext))))
def a_b2c : ATS :=
  (aSeq (aAsg (aCall A_l_pick [] (aCons (aVar 1) (aCons (aLst (aCons (aOp wAdd (aOp wAdd (aSl (aVar 4) (aNoPart) (aPart (aVar 5))) (aVar 6)) (aSl (aVar 4) (aPart (aVar 5)) (aNoPart))) (aCons (aOp wAdd (aSl (aVar 4) (aNoPart) (aPart (aVar 5))) (aSl (aVar 4) (aPart (aOp wAdd (aVar 5) (aC (.int 1)))) (aNoPart))) (aCons (aOp wAdd (aOp wAdd (aSl (aVar 4) (aNoPart) (aPart (aVar 5))) (aVar 6)) (aSl (aVar 4) (aPart (aOp wAdd (aVar 5) (aC (.int 1)))) (aNoPart))) (aNil))))) (aNil)))) (gmN 7))
  a_b3)
def a_b2d : ATS :=
  (aSeq (aAsg (aCall A_l_pick [] (aCons (aVar 1) (aCons (aLst (aCons (aC (.str "0")) (aCons (aC (.str "1")) (aCons (aC (.str "2")) (aCons (aC (.str "/")) (aCons (aC (.str "-")) (aCons (aC (.str " ")) (aCons (aC (.str "+")) (aCons (aC (.str ".")) (aCons (aC (.str "a")) (aCons (aC (.str "\n")) (aNil)))))))))))) (aNil)))) (gmN 6))
  a_b2c)
def a_b2b : ATS :=
  (aSeq (aAsg (aCall A_l_pull [] (aCons (aVar 1) (aCons (aOp wAdd (aCB wLen (aCons (aVar 4) (aNil))) (aC (.int 1))) (aNil)))) (gmN 5))
  a_b2d)
def a_b2 : ATS :=
  (aSeq (aIfS (aNot (aB (aCall (A_l_same 4) [] (aCons (aCall A_l_pair [] (aCons (aCMeth "Ratio" A_Ratio_read xNo (aC (.cls "Ratio")) (aCons (aVar 4) (aNil))) (aNil))) (aCons (aVar 3) (aNil)))))) (aRet (aC (.bl false))) (aNext))
  a_b2b)
def a_b1 : ATS :=
  (aSeq (aAsg (aCall A_l_frac [] (aCons (aCall A_l_number [] (aCons (aVar 1) (aNil))) (aCons (aCall A_l_pick [] (aCons (aVar 1) (aCons (aLst (aCons (aC (.int 1)) (aCons (aC (.int 2)) (aCons (aOp wAdd (aC (.int 1)) (aCall A_l_pull [] (aCons (aVar 1) (aCons (aC (.int 12)) (aNil))))) (aCons (aOp wAdd (aC (.int 1)) (aCB wAbs (aCons (aCall A_l_number [] (aCons (aVar 1) (aNil))) (aNil)))) (aNil)))))) (aNil)))) (aNil)))) (gmN 3))
  (aSeq (aAsg (aCall A_l_frac_text [] (aCons (aVar 3) (aNil))) (gmN 4))
  a_b2))
def a_c1 : ATS :=
  (aSeq (aAsg (aTry (fun x => aCB (wTxt "Ratio" A_Ratio_strB) (aCons (aCMeth "Ratio" A_Ratio_read x (aC (.cls "Ratio")) (aCons (aVar 4) (aNil))) (aNil))) (xtT A_l_fields xcs_)) (gmN 9))
  (aIfS (aNot (aB (aCall (A_l_same 4) [] (aCons (aVar 9) (aCons (aIf (aB (aVar 8)) (aTup (aCons (aC (.str "told")) (aCons (aVar 4) (aNil)))) (aTup (aCons (aC (.str "no")) (aCons (aC (.str "InvalidRatio")) (aCons (aVar 4) (aNil)))))) (aNil)))))) (aRet (aC (.bl false))) (aNext)))
def a_r3 : ATS :=
  (aSeq (aAsg (aCall A_l_pick [] (aCons (aVar 1) (aCons (aLst (aCons (aC (.str "")) (aCons (aC (.str "-")) (aCons (aC (.str "/")) (aCons (aC (.str "1/0")) (aCons (aC (.str "-0")) (aCons (aC (.str "0/1")) (aCons (aC (.str "4/2")) (aCons (aC (.str "1/-2")) (aCons (aC (.str "01")) (aCons (aC (.str "3/1")) (aCons (aC .non) (aCons (aC (.int 5)) (aCons (aC (.bl true)) (aCons (aTup (aCons (aC (.str "1")) (aNil))) (aNil)))))))))))))))) (aNil)))) (gmN 12))
  (aRet (aCall (A_l_same 4) [] (aCons (aTry (fun x => aCMeth "Ratio" A_Ratio_read x (aC (.cls "Ratio")) (aCons (aVar 12) (aNil))) (xtT A_l_fields xcs_)) (aCons (aTup (aCons (aC (.str "no")) (aCons (aC (.str "InvalidRatio")) (aCons (aVar 12) (aNil))))) (aNil))))))
def a_r2 : ATS :=
  (aSeq (aFor (aItems (aVar 11)) (gmT 2 (gmCons (gmN 4) (gmCons (gmN 8) (gmNil)))) a_c1)
  a_r3)
def a_r1 : ATS :=
  (aSeq (aAsg (aCall A_l_pick [] (aCons (aVar 1) (aCons (aLst (aCons (aC (.int 3998)) (aCons (aC (.int 3999)) (aCons (aC (.int 4000)) (aCons (aC (.int 3000)) (aNil)))))) (aNil)))) (gmN 10))
  (aSeq (aAsg (aLst (aCons (aTup (aCons (aOp wMulX (aC (.str "1")) (aVar 10)) (aCons (aOp wLt (aVar 10) (aC (.int 4001))) (aNil)))) (aCons (aTup (aCons (aOp wAdd (aC (.str "1/")) (aOp wMulX (aC (.str "3")) (aVar 10))) (aCons (aOp wLt (aVar 10) (aC (.int 3999))) (aNil)))) (aCons (aTup (aCons (aOp wMulX (aC (.str "1")) (aOp wAdd (aVar 10) (aC (.int 1)))) (aCons (aOp wLt (aVar 10) (aC (.int 4000))) (aNil)))) (aNil))))) (gmN 11))
  a_r2))

theorem law_e : a_law = aSeq (aFor (aRng1 (aCons (aC (.int 6)) (aNil))) (gmN 2) a_b1)
  a_r1 := rfl
theorem lk_tag (a b : D) : ((["tag", "given"] : List Str).zip [a, b]).lookup ("tag" : Str) = some a := rfl
theorem no_go {v : D} {P : D → Prop} (h : P (.tup [.str "no", .str "InvalidRatio", v])) : xtT A_l_fields xcs_ "InvalidRatio" ["tag", "given"] [.str "InvalidRatio", v] P := by
  refine ⟨by simp, ?_⟩
  rw [if_neg (by simp)]
  simp only [xtNo, lk_tag]
  intro a
  exact ⟨rfl, "InvalidRatio", "given", v, by simp, rfl, rfl, by simp [wAdd], h⟩
/-- data that == tells equal to itself -/
def selfE (x : D) : Prop := okD x = true ∧ eqD x x = true
theorem wNe_self {x : D} {P : D → Prop} (h : selfE x) (hP : P (.bl false)) : wNe x x P := ⟨by rw [h.1]; simp, by rw [h.2]; exact hP⟩
theorem self_noS {z : Str} (hz : PyData.strOk z = true) : selfE (.tup [.str "no", .str "InvalidRatio", .str z]) := by
  have h1 : PyData.strOk (Str.ofString "no") = true := by decide +kernel
  have h2 : PyData.strOk (Str.ofString "InvalidRatio") = true := by decide +kernel
  constructor
  · simp [okD, pureD, pureA, pyD, pyA, SeqAt.shaped, PyData.canLay0, PyData.depth, PyData.canLayAll0, PyData.depthAll, h1, h2, hz]
  · simp [eqD, pyD, pyA, PyData.eqv, PyData.eqvAll, Bool.beq_eq_decide_eq]
theorem num_go {P : D → Prop} (h : ∀ i : Int, Sm 84 i → P (.int i)) : A_l_number [.hdl 0] P := ⟨rfl, h⟩
theorem same_go {n : Nat} {x y : D} {P : D → Prop} (hx : tyd x = true) (hy : tyd y = true) (hd : dpt y ≤ n) (hP : P (.bl (sameM x y))) : A_l_same n [x, y] P := ⟨x, y, rfl, hx, hy, hd, hP⟩
theorem same_pr1 (x : IP) : sameM (pr x) (pr x) = true := by simp [sameM, sameA, pr]
/-! sizes -/
theorem mk_inv {s : Int} {t b' : Option Nat} {a b : Int} (h : mkO s t b' = some (a, b)) : ∃ n, b' = some n ∧ b = (n : Nat) := by
  unfold mkO at h
  split at h
  · split at h
    · cases h
    · exact ⟨_, rfl, ((Prod.mk.inj (Option.some.inj h)).2).symm⟩
  · cases h
theorem nums_sm {l : List Nat} {a b : Int} (h : numsL l = some (a, b)) (hl : l.length ≤ 1000) : Sm 8000 (gcdI a b) := by
  have hb := nums_ne h
  unfold numsL at h
  obtain ⟨n, e, rfl⟩ := mk_inv h
  refine gcdI_sm hb ?_
  have q2 := sgn_len l
  have key : n < 10 ^ 1000 := by
    cases hp : TL.par [47] [] (sgnL l).2 with
    | none =>
      rw [hp] at e
      have : n = 1 := (Option.some.inj e).symm
      subst this
      decide +kernel
    | some pq =>
      obtain ⟨p, q⟩ := pq
      rw [hp] at e
      have pl := par_len hp
      exact Nat.lt_of_lt_of_le (fig_lt e).1 (Nat.pow_le_pow_right (by decide) (by omega))
  unfold Sm
  rw [Int.natAbs_natCast]
  exact Nat.lt_of_lt_of_le key (by decide +kernel)
theorem tI_len30 {i : Int} (h : Sm 90 i) : (tI i).length ≤ 41 := by
  have l := TL.numL_len (n := i.natAbs) (k := 40) (by decide) (Nat.lt_of_lt_of_le h (by decide))
  rw [len_cps, tI_L]
  unfold iL
  split
  · rw [List.length_cons]; omega
  · omega
theorem frT_len30 {x : IP} (g : Good 90 x) : (frT x).length ≤ 100 := by
  have l1 := tI_len30 g.a
  have l2 := tI_len30 g.b
  unfold frT
  split
  · omega
  · rw [len_app, len_app, sl_len]; omega
def LowC (z : Str) : Prop := ∀ c ∈ cpsL z, c < 256
theorem LowC.ok {z : Str} (h : LowC z) : PyData.strOk z = true := by
  rw [PyData.strOk, Array.all_eq_true_iff_forall_mem]
  intro c hc
  have := h c (Array.mem_toList_iff.mpr hc)
  exact decide_eq_true (by omega)
theorem LowC.app {a b : Str} (h : LowC a) (g : LowC b) : LowC (a ++ b) := by
  intro c hc
  rw [show cpsL (a ++ b) = cpsL a ++ cpsL b from TL.tl_append a b] at hc
  rcases List.mem_append.mp hc with q | q
  · exact h c q
  · exact g c q
theorem LowC.cut {a : Str} (h : LowC a) (lo hi : Option Int) : LowC (cutS a lo hi) := fun c hc => h c (List.mem_of_mem_drop (List.mem_of_mem_take hc))
theorem low_iL (i : Int) : ∀ c ∈ iL i, c < 256 := by
  intro c hc
  have d : ∀ c ∈ TL.numL i.natAbs, c < 256 := fun c hc => by have := TL.numL_digits _ c hc; omega
  unfold iL at hc
  split at hc
  · rcases List.mem_cons.mp hc with q | q
    · omega
    · exact d c q
  · exact d c hc
theorem low_frT (x : IP) : LowC (frT x) := by
  intro c hc
  rw [frT_L] at hc
  unfold frL at hc
  split at hc
  · exact low_iL _ c hc
  · rcases List.mem_append.mp hc with q | q
    · exact low_iL _ c q
    · rcases List.mem_cons.mp q with q | q
      · omega
      · exact low_iL _ c q
/-! what is read -/
theorem read_ok {z : Str} {x : IP} {P : D → Prop} {Xc : Str → List Str → List D → Prop} (hz : z.length ≤ 4000) (hg : ∀ a b, numsL (cpsL z) = some (a, b) → Sm 8000 (gcdI a b)) (hx : readL (cpsL z) = some x) (h : P (rt x)) : A_Ratio_read [.cls "Ratio", .str z] P Xc :=
  ⟨_, rfl, ⟨by omega, fun a b _ e => hg a b e⟩, by rw [if_pos hz, hx]; exact h⟩
theorem read_no {z : Str} {P : D → Prop} {Xc : Str → List Str → List D → Prop} (hz : z.length ≤ 1000000) (hg : z.length ≤ 4000 → ∀ a b, numsL (cpsL z) = some (a, b) → Sm 8000 (gcdI a b)) (hx : z.length ≤ 4000 → readL (cpsL z) = none) (h : Xc "InvalidRatio" ["tag", "given"] [.str "InvalidRatio", .str z]) : A_Ratio_read [.cls "Ratio", .str z] P Xc :=
  ⟨_, rfl, ⟨hz, fun a b q e => hg q a b e⟩, by
    by_cases q : z.length ≤ 4000
    · rw [if_pos q, hx q]; exact h
    · rw [if_neg q]; exact h⟩
theorem read_fr {x : IP} (hp : 0 < x.2) (hl : Low x) : readL (cpsL (frT x)) = some x := by rw [frT_L]; exact read_frL hp hl
theorem nums_fr {x : IP} (hp : 0 < x.2) (hl : Low x) : ∀ a b, numsL (cpsL (frT x)) = some (a, b) → Sm 8000 (gcdI a b) := by
  intro a b e
  rw [frT_L, nums_frL hp] at e
  have := Option.some.inj e
  subst this
  rw [show gcdI a b = 1 from hl]
  exact (show Sm 1 1 from by unfold Sm; decide).mono (by decide)
end Bd
set_option exponentiation.threshold 5000
namespace Bd
open PySem L2 PySem.NumText
/-! K3h: the law over data -/
theorem b3_law {z : Str} (hz : z.length ≤ 1000) (hc : LowC z) {g0 g2 g3 g4 g5 g6 g8 g9 g10 g11 g12 : Option D} {A : AE} (hn : ∀ g8 g9, A.nx [g0, some (.hdl 0), g2, g3, g4, g5, g6, some (.str z), g8, g9, g10, g11, g12] []) :
    a_b3 A [g0, some (.hdl 0), g2, g3, g4, g5, g6, some (.str z), g8, g9, g10, g11, g12] [] := by
  have hl := len_cps z
  have hg : ∀ a b, numsL (cpsL z) = some (a, b) → Sm 8000 (gcdI a b) := fun a b e => nums_sm e (by omega)
  simp only [aSeq, aIfS, aOr, aAnd, aNot, aB, aV, aCall, aCallS, aCons, aNil, aCB, aVar, aC, aOp, aUn, aAsg, aRet, aTup, aNext, aIf, aAndV, aOrV, aFld, aSetF, aMeth, gmN,
    startG_1, startG_2, startG_3, startG_4, List.replicate, List.getElem?_cons_zero, List.getElem?_cons_succ, List.append_nil, List.set_cons_succ, List.set_cons_zero, Bool.not_true, Bool.not_false, Bool.false_eq_true, if_false, if_true, decide_false, decide_true, wInt, wInt0, wLt, wDiv, wAbs, a_b3, aPar, aTry, aCMeth]
  refine ⟨z, rfl, hz, trivial, ?_⟩
  have er := read_text (cpsL z)
  cases h : textL (cpsL z) with
  | none =>
    rw [h] at er
    refine read_no (by omega) (fun _ => hg) (fun _ => er) (no_go ?_)
    simp only [aSeq, aIfS, aOr, aAnd, aNot, aB, aV, aCall, aCallS, aCons, aNil, aCB, aVar, aC, aOp, aUn, aAsg, aRet, aTup, aNext, aIf, aAndV, aOrV, aFld, aSetF, aMeth, gmN,
    startG_1, startG_2, startG_3, startG_4, List.replicate, List.getElem?_cons_zero, List.getElem?_cons_succ, List.append_nil, List.set_cons_succ, List.set_cons_zero, Bool.not_true, Bool.not_false, Bool.false_eq_true, if_false, if_true, decide_false, decide_true, wInt, wInt0, wLt, wDiv, wAbs, oR, wIsN, isNon]
    exact ⟨by simp, wNe_self (self_noS hc.ok) (by simpa using hn _ _)⟩
  | some x =>
    rw [h] at er
    refine read_ok (by omega) hg er ?_
    simp only [aSeq, aIfS, aOr, aAnd, aNot, aB, aV, aCall, aCallS, aCons, aNil, aCB, aVar, aC, aOp, aUn, aAsg, aRet, aTup, aNext, aIf, aAndV, aOrV, aFld, aSetF, aMeth, gmN,
    startG_1, startG_2, startG_3, startG_4, List.replicate, List.getElem?_cons_zero, List.getElem?_cons_succ, List.append_nil, List.set_cons_succ, List.set_cons_zero, Bool.not_true, Bool.not_false, Bool.false_eq_true, if_false, if_true, decide_false, decide_true, wInt, wInt0, wLt, wDiv, wAbs, oR, wIsN, pr, isNon, wIx, at1]
    refine ⟨x, rfl, ?_⟩
    refine same_go (by simp [tyd, tydA, pr]) (by simp [tyd, tydA, pr]) (by simp [dpt, dptA, pr]) ?_
    rw [show (D.tup [.int x.1, .int x.2]) = pr x from rfl, same_pr1]
    simpa using hn _ _
theorem b2c_law {t y : Str} {k : Int} (l1 : t.length ≤ 100) (c1 : LowC t) (ly : y.length ≤ 1) (cy : LowC y) {g0 g2 g3 g7 g8 g9 g10 g11 g12 : Option D} {A : AE} (hn : ∀ g7 g8 g9, A.nx [g0, some (.hdl 0), g2, g3, some (.str t), some (.int k), some (.str y), g7, g8, g9, g10, g11, g12] []) :
    a_b2c A [g0, some (.hdl 0), g2, g3, some (.str t), some (.int k), some (.str y), g7, g8, g9, g10, g11, g12] [] := by
  have sl : ∀ lo hi, (cutS t lo hi).length ≤ 100 := fun lo hi => Nat.le_trans (cutS_length t lo hi) l1
  simp only [aSeq, aIfS, aOr, aAnd, aNot, aB, aV, aCall, aCallS, aCons, aNil, aCB, aVar, aC, aOp, aUn, aAsg, aRet, aTup, aNext, aIf, aAndV, aOrV, aFld, aSetF, aMeth, gmN,
    startG_1, startG_2, startG_3, startG_4, List.replicate, List.getElem?_cons_zero, List.getElem?_cons_succ, List.append_nil, List.set_cons_succ, List.set_cons_zero, Bool.not_true, Bool.not_false, Bool.false_eq_true, if_false, if_true, decide_false, decide_true, wInt, wInt0, wLt, wDiv, wAbs, a_b2c, aSl, aNoPart, aPart, wSl, wAdd, aLst]
  have b16 : t.length ≤ 16000000 := by omega
  have s1 := sl none (some k)
  have s2 := sl (some k) none
  have s3 := sl (some (k + 1)) none
  refine ⟨b16, ?_, b16, ?_, b16, b16, ?_, b16, ?_, b16, ?_, by simp, A_pick_go (by simp) (by simp) fun q hq => ?_⟩
  · omega
  · rw [len_app]; omega
  · omega
  · omega
  · rw [len_app]; omega
  have uq : ∃ z : Str, q = .str z ∧ z.length ≤ 1000 ∧ LowC z := by
    simp only [List.mem_cons, List.not_mem_nil, or_false] at hq
    rcases hq with rfl | rfl | rfl
    · exact ⟨_, rfl, by rw [len_app, len_app]; omega, ((c1.cut _ _).app cy).app (c1.cut _ _)⟩
    · exact ⟨_, rfl, by rw [len_app]; omega, (c1.cut _ _).app (c1.cut _ _)⟩
    · exact ⟨_, rfl, by rw [len_app, len_app]; omega, ((c1.cut _ _).app cy).app (c1.cut _ _)⟩
  obtain ⟨z, rfl, lz, cz⟩ := uq
  exact b3_law lz cz fun _ _ => hn _ _ _
theorem low_marks : ∀ y ∈ (["0", "1", "2", "/", "-", " ", "+", ".", "a", "\n"] : List Str), y.length ≤ 1 ∧ LowC y := by unfold LowC; decide +kernel
theorem b2d_law {t : Str} {k : Int} (l1 : t.length ≤ 100) (c1 : LowC t) {g0 g2 g3 g6 g7 g8 g9 g10 g11 g12 : Option D} {A : AE} (hn : ∀ g6 g7 g8 g9, A.nx [g0, some (.hdl 0), g2, g3, some (.str t), some (.int k), g6, g7, g8, g9, g10, g11, g12] []) :
    a_b2d A [g0, some (.hdl 0), g2, g3, some (.str t), some (.int k), g6, g7, g8, g9, g10, g11, g12] [] := by
  simp only [aSeq, aIfS, aOr, aAnd, aNot, aB, aV, aCall, aCallS, aCons, aNil, aCB, aVar, aC, aOp, aUn, aAsg, aRet, aTup, aNext, aIf, aAndV, aOrV, aFld, aSetF, aMeth, gmN,
    startG_1, startG_2, startG_3, startG_4, List.replicate, List.getElem?_cons_zero, List.getElem?_cons_succ, List.append_nil, List.set_cons_succ, List.set_cons_zero, Bool.not_true, Bool.not_false, Bool.false_eq_true, if_false, if_true, decide_false, decide_true, wInt, wInt0, wLt, wDiv, wAbs, a_b2d, aLst]
  refine ⟨by simp, A_pick_go (by simp) (by simp) fun m hm => ?_⟩
  have um : ∃ y : Str, m = .str y ∧ y.length ≤ 1 ∧ LowC y := by
    have hm' : m ∈ (["0", "1", "2", "/", "-", " ", "+", ".", "a", "\n"] : List Str).map D.str := hm
    obtain ⟨y, h1, rfl⟩ := List.mem_map.mp hm'
    exact ⟨y, rfl, low_marks y h1⟩
  obtain ⟨y, rfl, ly, cy⟩ := um
  exact b2c_law l1 c1 ly cy fun _ _ _ => hn _ _ _ _
theorem b2b_law {x : IP} (g : Good 90 x) {g0 g2 g3 g5 g6 g7 g8 g9 g10 g11 g12 : Option D} {A : AE} (hn : ∀ g5 g6 g7 g8 g9, A.nx [g0, some (.hdl 0), g2, g3, some (.str (frT x)), g5, g6, g7, g8, g9, g10, g11, g12] []) :
    a_b2b A [g0, some (.hdl 0), g2, g3, some (.str (frT x)), g5, g6, g7, g8, g9, g10, g11, g12] [] := by
  have l1 := frT_len30 g
  have c1 := low_frT x
  generalize frT x = t at l1 c1 hn ⊢
  simp only [aSeq, aIfS, aOr, aAnd, aNot, aB, aV, aCall, aCallS, aCons, aNil, aCB, aVar, aC, aOp, aUn, aAsg, aRet, aTup, aNext, aIf, aAndV, aOrV, aFld, aSetF, aMeth, gmN,
    startG_1, startG_2, startG_3, startG_4, List.replicate, List.getElem?_cons_zero, List.getElem?_cons_succ, List.append_nil, List.set_cons_succ, List.set_cons_zero, Bool.not_true, Bool.not_false, Bool.false_eq_true, if_false, if_true, decide_false, decide_true, wInt, wInt0, wLt, wDiv, wAbs, a_b2b, wLen, wAdd]
  exact ⟨by omega, A_pull_go (by omega) (by omega) fun k k0 k1 => b2d_law l1 c1 fun _ _ _ _ => hn _ _ _ _ _⟩
theorem b1_law {g0 g2 g3 g4 g5 g6 g7 g8 g9 g10 g11 g12 : Option D} {A : AE} (hn : ∀ g3 g4 g5 g6 g7 g8 g9, A.nx [g0, some (.hdl 0), g2, g3, g4, g5, g6, g7, g8, g9, g10, g11, g12] []) :
    a_b1 A [g0, some (.hdl 0), g2, g3, g4, g5, g6, g7, g8, g9, g10, g11, g12] [] := by
  simp only [aSeq, aIfS, aOr, aAnd, aNot, aB, aV, aCall, aCallS, aCons, aNil, aCB, aVar, aC, aOp, aUn, aAsg, aRet, aTup, aNext, aIf, aAndV, aOrV, aFld, aSetF, aMeth, gmN,
    startG_1, startG_2, startG_3, startG_4, List.replicate, List.getElem?_cons_zero, List.getElem?_cons_succ, List.append_nil, List.set_cons_succ, List.set_cons_zero, Bool.not_true, Bool.not_false, Bool.false_eq_true, if_false, if_true, decide_false, decide_true, wInt, wInt0, wLt, wDiv, wAbs, a_b1, aLst, wAdd]
  refine num_go fun t ht => A_pull_go (by decide) (by decide) fun k k0 k1 => num_go fun u hu => ⟨by simp, A_pick_go (by simp) (by simp) fun b hb => ?_⟩
  have ub : ∃ v : Int, b = .int v ∧ 0 < v ∧ Sm 90 v := by
    simp only [List.mem_cons, List.not_mem_nil, or_false] at hb
    have hu' : u.natAbs < 2 ^ 84 := hu
    rcases hb with rfl | rfl | rfl | rfl
    · exact ⟨1, rfl, by decide, by unfold Sm; decide⟩
    · exact ⟨2, rfl, by decide, by unfold Sm; decide⟩
    · exact ⟨1 + k, rfl, by omega, by unfold Sm; omega⟩
    · refine ⟨_, rfl, ?_, ?_⟩
      · split <;> omega
      · unfold Sm; split <;> omega
  obtain ⟨v, rfl, v0, sv⟩ := ub
  have ht9 : Sm 90 t := ht.mono (by decide)
  refine frac_go v0 (ht9.mono (by decide)) (sv.mono (by decide)) ?_
  have gd : Good 90 (red t v) := red_good v0 ht9 sv
  have lw : Low (red t v) := red_low v0
  generalize red t v = x at gd lw ⊢
  have l1 := frT_len30 gd
  refine ⟨x, rfl, ⟨sm_bg (gd.a.mono (by decide)), sm_bg (gd.b.mono (by decide))⟩, ?_⟩
  simp only [aSeq, aIfS, aOr, aAnd, aNot, aB, aV, aCall, aCallS, aCons, aNil, aCB, aVar, aC, aOp, aUn, aAsg, aRet, aTup, aNext, aIf, aAndV, aOrV, aFld, aSetF, aMeth, gmN,
    startG_1, startG_2, startG_3, startG_4, List.replicate, List.getElem?_cons_zero, List.getElem?_cons_succ, List.append_nil, List.set_cons_succ, List.set_cons_zero, Bool.not_true, Bool.not_false, Bool.false_eq_true, if_false, if_true, decide_false, decide_true, wInt, wInt0, wLt, wDiv, wAbs, a_b2, aCMeth]
  refine ⟨trivial, read_ok (by omega) (nums_fr gd.pos lw) (read_fr gd.pos lw) (pair_go ?_)⟩
  refine same_go (by simp [tyd, tydA, pr]) (by simp [tyd, tydA, pr]) (by simp [dpt, dptA, pr]) ?_
  rw [same_pr1]
  simp only [aSeq, aIfS, aOr, aAnd, aNot, aB, aV, aCall, aCallS, aCons, aNil, aCB, aVar, aC, aOp, aUn, aAsg, aRet, aTup, aNext, aIf, aAndV, aOrV, aFld, aSetF, aMeth, gmN,
    startG_1, startG_2, startG_3, startG_4, List.replicate, List.getElem?_cons_zero, List.getElem?_cons_succ, List.append_nil, List.set_cons_succ, List.set_cons_zero, Bool.not_true, Bool.not_false, Bool.false_eq_true, if_false, if_true, decide_false, decide_true, wInt, wInt0, wLt, wDiv, wAbs]
  exact b2b_law gd fun _ _ _ _ _ => hn _ _ _ _ _ _ _
end Bd
set_option exponentiation.threshold 5000
namespace Bd
open PySem L2 PySem.NumText
/-! K3i: long texts, odd values; the law -/
theorem fold_rep {c : Nat} {x : Array Nat} (h : x.toList = [c]) : ∀ (k : Nat) (acc : Array Nat), ((List.replicate k x).foldl (· ++ ·) acc).toList = acc.toList ++ List.replicate k c
  | 0, acc => by simp
  | k + 1, acc => by
    rw [List.replicate_succ, List.foldl_cons, fold_rep h k, Array.toList_append, h, List.append_assoc]
    rfl
theorem mul_cps {s : Str} {c : Nat} (h : cpsL s = [c]) {n : Int} (h1 : 1 ≤ n) : cpsL (Txt.mul s n) = List.replicate n.toNat c := by
  unfold Txt.mul
  rw [if_neg (by omega)]
  split
  · rename_i q
    have hs := len_cps s
    rw [h] at hs
    have e : n = 1 := by
      rcases Bool.or_eq_true_iff.mp q with q | q
      · exact eq_of_beq q
      · have := eq_of_beq q
        simp at hs
        omega
    subst e
    exact h
  · have := fold_rep h n.toNat #[]
    simpa using this
theorem mul_len {s : Str} {c : Nat} (h : cpsL s = [c]) {n : Int} (h1 : 1 ≤ n) : (Txt.mul s n).length = n.toNat := by rw [len_cps, mul_cps h h1, List.length_replicate]
abbrev valR (d m : Nat) : Nat := digitsVal (List.replicate m d)
theorem num_rep {d m : Nat} (hd : d = 49 ∨ d = 51) (hm : 1 ≤ m) : TL.numL (valR d m) = List.replicate m d := by
  obtain ⟨k, rfl⟩ : ∃ k, m = k + 1 := ⟨m - 1, by omega⟩
  have e := toDigits_digitsVal k (List.replicate (k + 1) d) (by simp) (fun c hc => by rw [List.eq_of_mem_replicate hc]; omega) (.inr ⟨d, List.replicate k d, rfl, by omega⟩)
  unfold TL.numL valR
  rw [e, List.map_map, List.map_replicate]
  rcases hd with rfl | rfl <;> rfl
theorem val_bg {d m : Nat} (hd : d = 49 ∨ d = 51) (hm : m ≤ 4300) : valR d m < 10 ^ 4300 := by
  have := val_lt (l := List.replicate m d) (fun c hc => by rw [List.eq_of_mem_replicate hc]; omega)
  rw [List.length_replicate] at this
  exact pow_4 this hm
theorem val_two {m : Nat} (hm : 1 ≤ m) : 2 ≤ valR 51 m := by
  have e := num_rep (d := 51) (.inr rfl) hm
  obtain ⟨k, rfl⟩ : ∃ k, m = k + 1 := ⟨m - 1, by omega⟩
  by_cases h : valR 51 (k + 1) < 2
  · have h2 := TL.numL_lt (n := valR 51 (k + 1)) (by omega)
    rw [e, List.replicate_succ] at h2
    have := (List.cons.inj h2).1
    omega
  · omega
/-- a text that is read -/
def Told (z : Str) : Prop := ∃ x : IP, z = frT x ∧ 0 < x.2 ∧ Low x ∧ Bg x ∧ z.length ≤ 4000
theorem told_ones {z : Str} {m : Nat} (hz : cpsL z = List.replicate m 49) (h1 : 1 ≤ m) (h2 : m ≤ 4000) : Told z := by
  refine ⟨((valR 49 m : Nat), 1), TL.ext_tl ?_, by show (0 : Int) < 1; decide, ?_, ⟨?_, by show (1 : Int).natAbs < 10 ^ 4300; decide +kernel⟩, ?_⟩
  · show cpsL z = cpsL (frT _)
    rw [frT_L, hz]
    unfold frL
    rw [if_pos rfl]
    unfold iL
    rw [if_neg (by simp), Int.natAbs_natCast, num_rep (.inl rfl) h1]
  · show gcdI _ 1 = 1
    unfold gcdI
    rw [Int.gcd_one]
    rfl
  · rw [Int.natAbs_natCast]
    exact val_bg (.inl rfl) (by omega)
  · rw [len_cps, hz, List.length_replicate]; exact h2
theorem told_thirds {z : Str} {m : Nat} (hz : cpsL z = 49 :: 47 :: List.replicate m 51) (h1 : 1 ≤ m) (h2 : m ≤ 3998) : Told z := by
  have v2 := val_two h1
  refine ⟨(1, (valR 51 m : Nat)), TL.ext_tl ?_, by show (0 : Int) < ((valR 51 m : Nat) : Int); omega, ?_, ⟨by show (1 : Int).natAbs < 10 ^ 4300; decide +kernel, ?_⟩, ?_⟩
  · show cpsL z = cpsL (frT _)
    rw [frT_L, hz]
    unfold frL
    rw [if_neg (by show ¬ ((valR 51 m : Nat) : Int) = 1; omega)]
    unfold iL
    rw [if_neg (by show ¬ (1 : Int) < 0; decide), if_neg (by simp), Int.natAbs_natCast, num_rep (.inr rfl) h1]
    have e1 : TL.numL (1 : Int).natAbs = [49] := TL.numL_lt (n := 1) (by decide)
    show _ = TL.numL (1 : Int).natAbs ++ _
    rw [e1]
    rfl
  · show gcdI 1 _ = 1
    unfold gcdI
    rw [Int.one_gcd]
    rfl
  · rw [Int.natAbs_natCast]
    exact val_bg (.inr rfl) (by omega)
  · rw [len_cps, hz, List.length_cons, List.length_cons, List.length_replicate]; omega
theorem c1_law {z : Str} {b : Bool} (hz : z.length ≤ 1000000) (ht : b = true → Told z) (hf : b = false → 4000 < z.length) {g0 g2 g3 g5 g6 g7 g9 g10 g11 g12 : Option D} {A : AE} (hn : ∀ g9, A.nx [g0, some (.hdl 0), g2, g3, some (.str z), g5, g6, g7, some (.bl b), g9, g10, g11, g12] []) :
    a_c1 A [g0, some (.hdl 0), g2, g3, some (.str z), g5, g6, g7, some (.bl b), g9, g10, g11, g12] [] := by
  simp only [aSeq, aIfS, aOr, aAnd, aNot, aB, aV, aCall, aCallS, aCons, aNil, aCB, aVar, aC, aOp, aUn, aAsg, aRet, aTup, aNext, aIf, aAndV, aOrV, aFld, aSetF, aMeth, gmN,
    startG_1, startG_2, startG_3, startG_4, List.replicate, List.getElem?_cons_zero, List.getElem?_cons_succ, List.append_nil, List.set_cons_succ, List.set_cons_zero, Bool.not_true, Bool.not_false, Bool.false_eq_true, if_false, if_true, decide_false, decide_true, wInt, wInt0, wLt, wDiv, wAbs, a_c1, aTry, aCMeth]
  refine ⟨trivial, ?_⟩
  cases b with
  | true =>
    obtain ⟨x, rfl, h1, h2, h3, h4⟩ := ht rfl
    refine read_ok h4 (nums_fr h1 h2) (read_fr h1 h2) ?_
    simp only [aSeq, aIfS, aOr, aAnd, aNot, aB, aV, aCall, aCallS, aCons, aNil, aCB, aVar, aC, aOp, aUn, aAsg, aRet, aTup, aNext, aIf, aAndV, aOrV, aFld, aSetF, aMeth, gmN,
    startG_1, startG_2, startG_3, startG_4, List.replicate, List.getElem?_cons_zero, List.getElem?_cons_succ, List.append_nil, List.set_cons_succ, List.set_cons_zero, Bool.not_true, Bool.not_false, Bool.false_eq_true, if_false, if_true, decide_false, decide_true, wInt, wInt0, wLt, wDiv, wAbs, wTxt, gTxt, gUno, rt]
    refine ⟨by simp, x, rfl, h3, ?_⟩
    have l0 : (Str.ofString "told").length = 4 := by decide
    refine ⟨by simp, same_go (by simp [tyd, tydA, hz, l0]) (by simp [tyd, tydA, hz, l0]) (by simp [dpt, dptA]) ?_⟩
    rw [show sameM (.tup [.str "told", .str (frT x)]) (.tup [.str "told", .str (frT x)]) = true from by simp [sameM, sameA]]
    simpa using hn _
  | false =>
    have q := hf rfl
    refine read_no hz (fun e => by omega) (fun e => by omega) (no_go ?_)
    have l1 : (Str.ofString "no").length = 2 := by decide
    have l2 : (Str.ofString "InvalidRatio").length = 12 := by decide
    simp only [aSeq, aIfS, aOr, aAnd, aNot, aB, aV, aCall, aCallS, aCons, aNil, aCB, aVar, aC, aOp, aUn, aAsg, aRet, aTup, aNext, aIf, aAndV, aOrV, aFld, aSetF, aMeth, gmN,
    startG_1, startG_2, startG_3, startG_4, List.replicate, List.getElem?_cons_zero, List.getElem?_cons_succ, List.append_nil, List.set_cons_succ, List.set_cons_zero, Bool.not_true, Bool.not_false, Bool.false_eq_true, if_false, if_true, decide_false, decide_true, wInt, wInt0, wLt, wDiv, wAbs]
    refine ⟨by simp, same_go (by simp [tyd, tydA, hz, l1, l2]) (by simp [tyd, tydA, hz, l1, l2]) (by simp [dpt, dptA]) ?_⟩
    rw [show sameM (.tup [.str "no", .str "InvalidRatio", .str z]) (.tup [.str "no", .str "InvalidRatio", .str z]) = true from by simp [sameM, sameA]]
    simpa using hn _
def oddS : List Str := ["", "-", "/", "1/0", "-0", "0/1", "4/2", "1/-2", "01", "3/1"]
theorem odd_none : ∀ z ∈ oddS, readL (cpsL z) = none ∧ z.length ≤ 10 := by decide +kernel
def oddD : List D := [.non, .int 5, .bl true, .tup [.str "1"]]
theorem odd_go {d : D} {P : D → Prop} {Xc : Str → List Str → List D → Prop} (h : d ∈ oddS.map D.str ++ oddD) (hX : Xc "InvalidRatio" ["tag", "given"] [.str "InvalidRatio", d]) : A_Ratio_read [.cls "Ratio", d] P Xc := by
  rcases List.mem_append.mp h with h | h
  · obtain ⟨z, hz, rfl⟩ := List.mem_map.mp h
    obtain ⟨h1, h2⟩ := odd_none z hz
    have hl := len_cps z
    exact read_no (by omega) (fun _ a b e => nums_sm e (by omega)) (fun _ => h1) hX
  · have l1 : (Str.ofString "1").length = 1 := by decide
    simp only [oddD, List.mem_cons, List.not_mem_nil, or_false] at h
    rcases h with rfl | rfl | rfl | rfl
    · exact ⟨_, rfl, rfl, hX⟩
    · exact ⟨_, rfl, rfl, hX⟩
    · exact ⟨_, rfl, rfl, hX⟩
    · exact ⟨_, rfl, by simp [tyd, tydA, l1], hX⟩
theorem odd_ty {d : D} (h : d ∈ oddS.map D.str ++ oddD) : tyd d = true ∧ dpt d ≤ 2 ∧ sameM d d = true := by
  rcases List.mem_append.mp h with h | h
  · obtain ⟨z, hz, rfl⟩ := List.mem_map.mp h
    obtain ⟨h1, h2⟩ := odd_none z hz
    exact ⟨by simp [tyd]; omega, by simp [dpt], by simp [sameM]⟩
  · have l1 : (Str.ofString "1").length = 1 := by decide
    simp only [oddD, List.mem_cons, List.not_mem_nil, or_false] at h
    rcases h with rfl | rfl | rfl | rfl <;> simp [tyd, tydA, dpt, dptA, sameM, sameA, l1]
theorem r3_law {g0 g2 g3 g4 g5 g6 g7 g8 g9 g10 g11 g12 : Option D} {A : AE} (hn : A.rt (.bl true) []) :
    a_r3 A [g0, some (.hdl 0), g2, g3, g4, g5, g6, g7, g8, g9, g10, g11, g12] [] := by
  simp only [aSeq, aIfS, aOr, aAnd, aNot, aB, aV, aCall, aCallS, aCons, aNil, aCB, aVar, aC, aOp, aUn, aAsg, aRet, aTup, aNext, aIf, aAndV, aOrV, aFld, aSetF, aMeth, gmN,
    startG_1, startG_2, startG_3, startG_4, List.replicate, List.getElem?_cons_zero, List.getElem?_cons_succ, List.append_nil, List.set_cons_succ, List.set_cons_zero, Bool.not_true, Bool.not_false, Bool.false_eq_true, if_false, if_true, decide_false, decide_true, wInt, wInt0, wLt, wDiv, wAbs, a_r3, aLst, aTry, aCMeth]
  refine ⟨by simp, by simp, A_pick_go (by simp) (by simp) fun d hd => ?_⟩
  have hd' : d ∈ oddS.map D.str ++ oddD := hd
  obtain ⟨t1, t2, t3⟩ := odd_ty hd'
  refine ⟨trivial, odd_go hd' (no_go ?_)⟩
  have l1 : (Str.ofString "no").length = 2 := by decide
  have l2 : (Str.ofString "InvalidRatio").length = 12 := by decide
  refine ⟨by simp, same_go (by simp [tyd, tydA, t1, l1, l2]) (by simp [tyd, tydA, t1, l1, l2]) (by simp [dpt, dptA]; omega) ?_⟩
  rw [show sameM (.tup [.str "no", .str "InvalidRatio", d]) (.tup [.str "no", .str "InvalidRatio", d]) = true from by simp [sameM, sameA, t3]]
  exact hn
theorem r2_law {z1 z2 z3 : Str} {b1 b2 b3 : Bool} (hz : ∀ q ∈ [(z1, b1), (z2, b2), (z3, b3)], q.1.length ≤ 1000000 ∧ (q.2 = true → Told q.1) ∧ (q.2 = false → 4000 < q.1.length)) {g0 g2 g3 g4 g5 g6 g7 g8 g9 g10 g12 : Option D} {A : AE} (hn : A.rt (.bl true) []) :
    a_r2 A [g0, some (.hdl 0), g2, g3, g4, g5, g6, g7, g8, g9, g10, some (.lst [.tup [.str z1, .bl b1], .tup [.str z2, .bl b2], .tup [.str z3, .bl b3]]), g12] [] := by
  simp only [aSeq, aIfS, aOr, aAnd, aNot, aB, aV, aCall, aCallS, aCons, aNil, aCB, aVar, aC, aOp, aUn, aAsg, aRet, aTup, aNext, aIf, aAndV, aOrV, aFld, aSetF, aMeth, gmN,
    startG_1, startG_2, startG_3, startG_4, List.replicate, List.getElem?_cons_zero, List.getElem?_cons_succ, List.append_nil, List.set_cons_succ, List.set_cons_zero, Bool.not_true, Bool.not_false, Bool.false_eq_true, if_false, if_true, decide_false, decide_true, wInt, wInt0, wLt, wDiv, wAbs, a_r2, aFor, aItems, itemsD]
  refine ⟨fun i Γ cs => ∃ g4 g8 g9, Γ = [g0, some (.hdl 0), g2, g3, g4, g5, g6, g7, g8, g9, g10, some (.lst [.tup [.str z1, .bl b1], .tup [.str z2, .bl b2], .tup [.str z3, .bl b3]]), g12] ∧ cs = [], ⟨_, _, _, rfl, rfl⟩, ?_, ?_⟩
  · rintro i d Γ cs hi ⟨g4, g8, g9, rfl, rfl⟩
    have hd : ∃ q ∈ [(z1, b1), (z2, b2), (z3, b3)], d = .tup [.str q.1, .bl q.2] := by
      have := List.mem_of_getElem? hi
      simp only [List.mem_cons, List.not_mem_nil, or_false] at this
      rcases this with rfl | rfl | rfl
      · exact ⟨(z1, b1), by simp, rfl⟩
      · exact ⟨(z2, b2), by simp, rfl⟩
      · exact ⟨(z3, b3), by simp, rfl⟩
    obtain ⟨q, hq, rfl⟩ := hd
    obtain ⟨q1, q2, q3⟩ := hz q hq
    refine ⟨rfl, c1_law q1 q2 q3 fun g9 => ⟨_, _, _, rfl, rfl⟩⟩
  · rintro Γ cs ⟨g4, g8, g9, rfl, rfl⟩
    exact r3_law hn
theorem one_L : cpsL (Str.ofString "1") = [49] := by decide
theorem three_L : cpsL (Str.ofString "3") = [51] := by decide
theorem oneS_L : cpsL (Str.ofString "1/") = [49, 47] := by decide
theorem long_ok {m : Int} (h1 : 3000 ≤ m) (h2 : m ≤ 4000) : ∀ q ∈ [(Txt.mul "1" m, decide (m < 4001)), ((Str.ofString "1/" ++ Txt.mul "3" m : Str), decide (m < 3999)), (Txt.mul "1" (m + 1), decide (m < 4000))],
    q.1.length ≤ 1000000 ∧ (q.2 = true → Told q.1) ∧ (q.2 = false → 4000 < q.1.length) := by
  have l2 : (Str.ofString "1/").length = 2 := by decide
  intro q hq
  simp only [List.mem_cons, List.not_mem_nil, or_false] at hq
  rcases hq with rfl | rfl | rfl
  · refine ⟨by rw [mul_len one_L (by omega)]; omega, fun _ => told_ones (mul_cps one_L (by omega)) (by omega) (by omega), fun h => ?_⟩
    have := of_decide_eq_false h
    omega
  · refine ⟨by rw [len_app, l2, mul_len three_L (by omega)]; omega, fun h => ?_, fun h => ?_⟩
    · have := of_decide_eq_true h
      refine told_thirds (m := m.toNat) ?_ (by omega) (by omega)
      rw [show cpsL (Str.ofString "1/" ++ Txt.mul "3" m) = cpsL (Str.ofString "1/") ++ cpsL (Txt.mul "3" m) from TL.tl_append _ _, oneS_L, mul_cps three_L (by omega)]
      rfl
    · have := of_decide_eq_false h
      rw [len_app, l2, mul_len three_L (by omega)]
      omega
  · refine ⟨by rw [mul_len one_L (by omega)]; omega, fun h => ?_, fun h => ?_⟩
    · have := of_decide_eq_true h
      exact told_ones (mul_cps one_L (by omega)) (by omega) (by omega)
    · have := of_decide_eq_false h
      rw [mul_len one_L (by omega)]
      omega
theorem r1_law {g0 g2 g3 g4 g5 g6 g7 g8 g9 g10 g11 g12 : Option D} {A : AE} (hn : A.rt (.bl true) []) :
    a_r1 A [g0, some (.hdl 0), g2, g3, g4, g5, g6, g7, g8, g9, g10, g11, g12] [] := by
  have l1 : (Str.ofString "1").length = 1 := by decide
  have l2 : (Str.ofString "1/").length = 2 := by decide
  have l3 : (Str.ofString "3").length = 1 := by decide
  simp only [aSeq, aIfS, aOr, aAnd, aNot, aB, aV, aCall, aCallS, aCons, aNil, aCB, aVar, aC, aOp, aUn, aAsg, aRet, aTup, aNext, aIf, aAndV, aOrV, aFld, aSetF, aMeth, gmN,
    startG_1, startG_2, startG_3, startG_4, List.replicate, List.getElem?_cons_zero, List.getElem?_cons_succ, List.append_nil, List.set_cons_succ, List.set_cons_zero, Bool.not_true, Bool.not_false, Bool.false_eq_true, if_false, if_true, decide_false, decide_true, wInt, wInt0, wLt, wDiv, wAbs, a_r1, aLst]
  refine ⟨by simp, A_pick_go (by simp) (by simp) fun d hd => ?_⟩
  have ud : ∃ m : Int, d = .int m ∧ 3000 ≤ m ∧ m ≤ 4000 := by
    simp only [List.mem_cons, List.not_mem_nil, or_false] at hd
    rcases hd with rfl | rfl | rfl | rfl
    · exact ⟨3998, rfl, by decide, by decide⟩
    · exact ⟨3999, rfl, by decide, by decide⟩
    · exact ⟨4000, rfl, by decide, by decide⟩
    · exact ⟨3000, rfl, by decide, by decide⟩
  obtain ⟨m, rfl, m1, m2⟩ := ud
  simp only [aSeq, aIfS, aOr, aAnd, aNot, aB, aV, aCall, aCallS, aCons, aNil, aCB, aVar, aC, aOp, aUn, aAsg, aRet, aTup, aNext, aIf, aAndV, aOrV, aFld, aSetF, aMeth, gmN,
    startG_1, startG_2, startG_3, startG_4, List.replicate, List.getElem?_cons_zero, List.getElem?_cons_succ, List.append_nil, List.set_cons_succ, List.set_cons_zero, Bool.not_true, Bool.not_false, Bool.false_eq_true, if_false, if_true, decide_false, decide_true, wInt, wInt0, wLt, wDiv, wAbs, wMulX, wAdd, l1, l2, l3]
  have e3 := mul_len three_L (show (1 : Int) ≤ m by omega)
  refine ⟨⟨by omega, by omega, by omega⟩, by simp, ⟨by omega, by omega, by omega⟩, by omega, by simp, ⟨by omega, by omega, by omega⟩, by simp, by simp, ?_⟩
  exact r2_law (long_ok m1 m2) hn
theorem pure_law : a_law { nx := fun _ _ => False, rt := fun d _ => d = .bl true } (none :: some (.hdl 0) :: List.replicate 11 none) [] := by
  rw [law_e]
  simp only [aSeq, aIfS, aOr, aAnd, aNot, aB, aV, aCall, aCallS, aCons, aNil, aCB, aVar, aC, aOp, aUn, aAsg, aRet, aTup, aNext, aIf, aAndV, aOrV, aFld, aSetF, aMeth, gmN,
    startG_1, startG_2, startG_3, startG_4, List.replicate, List.getElem?_cons_zero, List.getElem?_cons_succ, List.append_nil, List.set_cons_succ, List.set_cons_zero, Bool.not_true, Bool.not_false, Bool.false_eq_true, if_false, if_true, decide_false, decide_true, wInt, wInt0, wLt, wDiv, wAbs, aFor, aRng1]
  refine ⟨by omega, ?_⟩
  refine ⟨fun i Γ cs => ∃ g2 g3 g4 g5 g6 g7 g8 g9, Γ = [none, some (.hdl 0), g2, g3, g4, g5, g6, g7, g8, g9, none, none, none] ∧ cs = [], ⟨none, none, none, none, none, none, none, none, rfl, rfl⟩, ?_, ?_⟩
  · rintro i d Γ cs hi ⟨g2, g3, g4, g5, g6, g7, g8, g9, rfl, rfl⟩
    exact b1_law fun _ _ _ _ _ _ _ => ⟨_, _, _, _, _, _, _, _, rfl, rfl⟩
  · rintro Γ cs ⟨g2, g3, g4, g5, g6, g7, g8, g9, rfl, rfl⟩
    exact r1_law rfl
end Bd
namespace Bd
open PySem L2
def top (i : Nat) : Stmt := PySem.Challenge.pw_pricedcalls_k03_texts_of_ratios.main.body.getD i (.Pass ⟨0, 0, 0, 0⟩)
structure Txt (K : PySem.W.Frag) (mg : Str → Option Value) : Prop where
  b_abs : mg "abs" = none
  b_all : mg "all" = none
  b_bool : mg "bool" = none
  b_dict : mg "dict" = none
  b_int : mg "int" = none
  b_isinstance : mg "isinstance" = none
  b_len : mg "len" = none
  b_list : mg "list" = none
  b_range : mg "range" = none
  b_str : mg "str" = none
  b_super : mg "super" = none
  b_tuple : mg "tuple" = none
  b_zip : mg "zip" = none
  g_FIGURES : ∃ u, mg "FIGURES" = some (.str "0123456789" u)
  dig : DigOk K
  c_Ratio : Cls K (He.ga K "Ratio")
  n_Ratio_own_top : NoAttr K (He.ga K "Ratio") "own_top"
  n_Ratio_own_bottom : NoAttr K (He.ga K "Ratio") "own_bottom"
  g_Ratio : mg "Ratio" = some (.ref (He.ga K "Ratio"))
  isc : ClsF K ["Ratio"]
  p_Ratio_bottom_own_bottom : GetF K "Ratio" "bottom" "own_bottom"
  p_Ratio_top_own_top : GetF K "Ratio" "top" "own_top"
section
variable {P : Program} {w : World} {K : PySem.W.Frag} {mg : Str → Option Value} {base : Heap}
abbrev s_is_number : Stmt := top 8
abbrev n_is_number : List Str := ["value"]
theorem sc_is_number : FnScope n_is_number ["value"] (defScope s_is_number) := ⟨rfl, rfl, rfl, by decide +kernel, rfl, by decide +kernel, by decide +kernel⟩
theorem ok_is_number (T : Txt K mg) (hF : ∃ fd, FnS K "is_number" "is_number" s_is_number [] (He.ga K "is_number") fd) (m : mg "is_number" = some (.ref (He.ga K "is_number")))
    {Ab : List D → (D → Prop) → Prop} (hlen : ∀ ds P, Ab ds P → ds.length = 1) (hA : ∀ ds P, Ab ds P → a_is_number { nx := fun _ _ => P .non, rt := fun d _ => P d } (startG 1 ds) []) :
    Fnc P w K mg base "is_number" (0 + 1) ["value"] (fun _ => True) Ab := by
  delta a_is_number at hA
  refine fnc_mk (st := s_is_number) (N := n_is_number) hF m sc_is_number (fun _ _ _ _ _ _ us hl => match us, hl with | [_], _ => rfl) (fun _ _ _ _ _ _ us hl => match us, hl with | [_], _ => rfl) hlen hA fun Fm fd cdv A' outer s H E hW hr => ?_
  exact ⟨_, jss_one (js_ret (je_and (je_callB call_isi s_isi T.b_isinstance PyProof.Rows.boot_isinstance (ja_cons (je_var 0) (ja_cons (je_ty T.b_int PyProof.Rows.boot_int) (ja_nil)))) (je_one (je_not (je_callB call_isi s_isi T.b_isinstance PyProof.Rows.boot_isinstance (ja_cons (je_var 0) (ja_cons (je_ty T.b_bool PyProof.Rows.boot_bool) (ja_nil))))))))⟩

abbrev s_common_divisor : Stmt := top 9
abbrev n_common_divisor : List Str := ["one", "other"]
theorem sc_common_divisor : FnScope n_common_divisor ["one", "other"] (defScope s_common_divisor) := ⟨rfl, rfl, rfl, by decide +kernel, rfl, by decide +kernel, by decide +kernel⟩
theorem ok_common_divisor (T : Txt K mg) (hF : ∃ fd, FnS K "common_divisor" "common_divisor" s_common_divisor [] (He.ga K "common_divisor") fd) (m : mg "common_divisor" = some (.ref (He.ga K "common_divisor")))
    {Ab : List D → (D → Prop) → Prop} (hlen : ∀ ds P, Ab ds P → ds.length = 2) (hA : ∀ ds P, Ab ds P → a_common_divisor { nx := fun _ _ => P .non, rt := fun d _ => P d } (startG 2 ds) []) :
    Fnc P w K mg base "common_divisor" (0 + 1) ["one", "other"] (fun _ => True) Ab := by
  delta a_common_divisor at hA
  refine fnc_mk (st := s_common_divisor) (N := n_common_divisor) hF m sc_common_divisor (fun _ _ _ _ _ _ us hl => match us, hl with | [_, _], _ => rfl) (fun _ _ _ _ _ _ us hl => match us, hl with | [_, _], _ => rfl) hlen hA fun Fm fd cdv A' outer s H E hW hr => ?_
  exact ⟨_, jss_cons (js_while (jt_cmp jo_gt (je_var 1) (je_int)) (jss_one (js_par 0 1 sc_common_divisor.nd (ja_cons (je_var 1) (ja_cons (je_op jo_mod (je_var 0) (je_var 1)) (ja_nil))))) PassesOwn.never)
      (jss_one (js_ret (je_var 0)))⟩

abbrev s_figures_number : Stmt := top 10
abbrev n_figures_number : List Str := ["text", "sign"]
theorem sc_figures_number : FnScope n_figures_number ["text"] (defScope s_figures_number) := ⟨rfl, rfl, rfl, by decide +kernel, rfl, by decide +kernel, by decide +kernel⟩
theorem ok_figures_number (T : Txt K mg) (hF : ∃ fd, FnS K "figures_number" "figures_number" s_figures_number [] (He.ga K "figures_number") fd) (m : mg "figures_number" = some (.ref (He.ga K "figures_number")))
    {Ab : List D → (D → Prop) → Prop} (hlen : ∀ ds P, Ab ds P → ds.length = 1) (hA : ∀ ds P, Ab ds P → a_figures_number { nx := fun _ _ => P .non, rt := fun d _ => P d } (startG 2 ds) []) :
    Fnc P w K mg base "figures_number" (0 + 1) ["text"] (fun _ => True) Ab := by
  delta a_figures_number at hA
  refine fnc_mk (st := s_figures_number) (N := n_figures_number) hF m sc_figures_number (fun _ _ _ _ _ _ us hl => match us, hl with | [_], _ => rfl) (fun _ _ _ _ _ _ us hl => match us, hl with | [_], _ => rfl) hlen hA fun Fm fd cdv A' outer s H E hW hr => ?_
  exact ⟨_, jss_cons (js_if (jt_w (jw_or (jt_cmp (jo_eq (hu65 hr)) (je_var 0) (je_str)) (jw_or (jt_not (jt_val (je_callB (cr_all (by rfl)) s_all T.b_all PyProof.Rows.boot_all (ja_cons (je_lc (own := [("sign", 1)]) rfl sc_figures_number.nd (ji_any (je_var 0)) (blkOk_by (N := n_figures_number) (sc := defScope s_figures_number) (by decide +kernel)) (fun _ _ _ _ _ => jg_name 1 sc_figures_number.nd) (by decide) (fun _ _ _ _ _ => jts_nil) (fun _ _ _ _ _ => je_cmp (jo_inK (Kf := K) (by rfl) (hu65 hr)) (je_var 1) (je_gstr T.g_FIGURES))) (ja_nil))))) (jw_or1 (jt_w (jw_and (jt_cmp jo_gt (je_callB call_len s_len T.b_len PySem.boot_len (ja_cons (je_var 0) (ja_nil))) (je_int)) (jw_and1 (jt_cmp (jo_eq (hu65 hr)) (je_ix (je_var 0) (je_int)) (je_str))))))))) (jss_one (js_ret (je_non))) (jss_nil))
      (jss_one (js_ret (je_callTy (call_intTK (by rfl) T.dig) s_intT T.b_int PyProof.Rows.boot_int (ja_cons (je_var 0) (ja_nil)))))⟩

abbrev s_Ratio_initB : Stmt := memb (top 11) 0
abbrev n_Ratio_initB : List Str := ["self", "top", "bottom", "by"]
theorem sc_Ratio_initB : FnScope n_Ratio_initB ["self", "top", "bottom"] (defScope s_Ratio_initB) := ⟨rfl, rfl, rfl, by decide +kernel, rfl, by decide +kernel, by decide +kernel⟩
theorem ok_Ratio_initB (T : Txt K mg) (h_is_number : Fnc P w K mg base "is_number" 1 ["value"] (fun _ => True) A_is_number) (h_common_divisor : Fnc P w K mg base "common_divisor" 1 ["one", "other"] (fun _ => True) A_common_divisor) (hF : ∃ fd, FnS K "__init__" "Ratio.__init__" s_Ratio_initB [.int 1] (ma' K "Ratio" "__init__") fd) (md : Mk K (He.ga K "Ratio") (ma' K "Ratio" "__init__")) (hm : mg "Ratio" = some (.ref (He.ga K "Ratio")))
    {Ab : List D → Cs → (D → Cs → Prop) → Prop} (hlen : ∀ ds c P, Ab ds c P → ds.length = 3) (hA : ∀ ds c P, Ab ds c P → a_Ratio_initB { nx := fun _ c' => ∃ n, P .non (c'.drop n), rt := fun d c' => ∃ n, P d (c'.drop n) } (startG 4 ds) c) :
    FncI P w K mg base "Ratio" (1 + 1) ["self", "top", "bottom"] [.int 1] [] (fun _ => True) Ab := by
  delta a_Ratio_initB at hA
  refine fncI_mk (st := s_Ratio_initB) (N := n_Ratio_initB) (kn := []) hF md hm sc_Ratio_initB (fun fd F n hn => match n, hn with | 0, _ => FunD.binds1 F 2 0 (by decide) (by decide) (fun _ _ _ _ _ _ _ us its l1 l2 => match us, its, l1, l2 with | [u0, u1], [t0], _, _ => ⟨_, rfl, rfl⟩) | 1, _ => FunD.binds1 F 3 1 (by decide) (by decide) (fun _ _ _ _ _ _ _ us its l1 l2 => match us, its, l1, l2 with | [u0, u1, u2], [t0], _, _ => ⟨_, rfl, rfl⟩) | n + 2, h => absurd h (by simp)) (fun fd F n hn => absurd hn (List.not_mem_nil)) hlen hA fun Fm fd cdv A' outer s H E hW hr => ?_
  exact ⟨_, jss_cons (js_if (jt_w (jw_or (jt_not (jt_val (je_fnc (h_is_number) hr (by decide) fc_any (ja_cons (je_var 1) (ja_nil))))) (jw_or (jt_not (jt_val (je_fnc (h_is_number) hr (by decide) fc_any (ja_cons (je_var 2) (ja_nil))))) (jw_or1 (jt_cmp (jo_eq (hu65 hr)) (je_var 2) (je_int)))))) (jss_never) (jss_nil))
      (jss_cons (js_set 3 sc_Ratio_initB.nd (je_fnc (h_common_divisor) hr (by decide) fc_any (ja_cons (je_callB call_abs s_abs T.b_abs PyProof.Rows.boot_abs (ja_cons (je_var 1) (ja_nil))) (ja_cons (je_callB call_abs s_abs T.b_abs PyProof.Rows.boot_abs (ja_cons (je_var 2) (ja_nil))) (ja_nil)))))
      (jss_cons (js_if (jt_cmp jo_lt (je_var 2) (je_int)) (jss_one (js_set 3 sc_Ratio_initB.nd (je_neg (je_var 3)))) (jss_nil))
      (jss_cons (js_setF T.c_Ratio T.n_Ratio_own_top (je_var 0) (je_op jo_divM (je_var 1) (je_var 3)))
      (jss_one (js_setF T.c_Ratio T.n_Ratio_own_bottom (je_var 0) (je_op jo_divM (je_var 2) (je_var 3)))))))⟩

abbrev s_Ratio_strB : Stmt := memb (top 11) 12
abbrev n_Ratio_strB : List Str := ["self"]
theorem sc_Ratio_strB : FnScope n_Ratio_strB ["self"] (defScope s_Ratio_strB) := ⟨rfl, rfl, rfl, by decide +kernel, rfl, by decide +kernel, by decide +kernel⟩
theorem ok_Ratio_strB (T : Txt K mg) (hF : ∃ fd, FnS K "__str__" "Ratio.__str__" s_Ratio_strB [] (ma' K "Ratio" "__str__") fd) (mt : Meth K (He.ga K "Ratio") "__str__" (ma' K "Ratio" "__str__")) (cl : Cls K (He.ga K "Ratio"))
    {Ab : List D → (D → Prop) → Prop} (hlen : ∀ ds P, Ab ds P → ds.length = 1) (hA : ∀ ds P, Ab ds P → a_Ratio_strB { nx := fun _ _ => P .non, rt := fun d _ => P d } (startG 1 ds) []) :
    FncM P w K mg base "Ratio" "__str__" (0 + 1) ["self"] (fun _ => True) Ab := by
  delta a_Ratio_strB at hA
  refine fncM_mk (st := s_Ratio_strB) (N := n_Ratio_strB) hF mt cl sc_Ratio_strB (fun _ _ _ _ _ _ us hl => match us, hl with | [_], _ => rfl) hlen hA fun Fm fd cdv A' outer s H E hW hr => ?_
  exact ⟨_, jss_cons (js_if (jt_cmp (jo_eq (hu65 hr)) (je_fld (by rfl) T.c_Ratio T.n_Ratio_own_bottom (je_var 0)) (je_int)) (jss_one (js_ret (je_callTy (call_strBK (by rfl) T.dig) s_strB T.b_str PyProof.Rows.boot_str (ja_cons (je_fld (by rfl) T.c_Ratio T.n_Ratio_own_top (je_var 0)) (ja_nil))))) (jss_nil))
      (jss_one (js_ret (je_joined (.cons (je_fmtB (by rfl) T.dig (je_fld (by rfl) T.c_Ratio T.n_Ratio_own_top (je_var 0))) (.cons (je_str) (.cons (je_fmtB (by rfl) T.dig (je_fld (by rfl) T.c_Ratio T.n_Ratio_own_bottom (je_var 0))) (.nil)))))))⟩

abbrev s_Ratio_read : Stmt := memb (top 11) 3
abbrev n_Ratio_read : List Str := ["cls", "text", "sign", "rest", "upper", "slash", "lower", "top", "bottom", "found"]
theorem sc_Ratio_read : FnScope n_Ratio_read ["cls", "text"] (defScope s_Ratio_read) := ⟨rfl, rfl, rfl, by decide +kernel, rfl, by decide +kernel, by decide +kernel⟩
theorem ok_Ratio_read (T : Txt K mg) (h_InvalidRatio : FncE P w K mg base "InvalidRatio" "given" "InvalidRatio") (h_figures_number : Fnc P w K mg base "figures_number" 1 ["text"] (fun _ => True) A_figures_number) (h_Ratio_initB : FncI P w K mg base "Ratio" 2 ["self", "top", "bottom"] [.int 1] [] (fun _ => True) A_Ratio_initB) (h_Ratio_strB : FncM P w K mg base "Ratio" "__str__" 1 ["self"] (fun _ => True) A_Ratio_strB) (hL : ClmF K "Ratio" "read" "Ratio.read") (hF : ∃ fd, FnS K "read" "Ratio.read" s_Ratio_read [] (clm K (He.ga K "Ratio") "read") fd)
    {Ab : AX} (hlen : ∀ ds P Xc, Ab ds P Xc → ds.length = 2) (hA : ∀ ds P Xc, Ab ds P Xc → a_Ratio_read (fun c ns es _ => Xc c ns es) { nx := fun _ _ => P .non, rt := fun d _ => P d } (startG 10 ds) []) :
    FncC P w K mg base "Ratio" "read" (3 + 1) ["cls", "text"] (fun _ => True) Ab := by
  refine fncC_mk (st := s_Ratio_read) (N := n_Ratio_read) (a := fun x => a_Ratio_read x) hL hF sc_Ratio_read (fun _ _ _ _ _ _ us hl => match us, hl with | [_, _], _ => rfl) hlen hA fun Fm x fd cdv A' outer s H E tk hW hr => ?_
  delta a_Ratio_read
  exact ⟨_, jss_cons (js_if (jt_w (jw_or (jt_not (jt_val (je_callB call_isi s_isi T.b_isinstance PyProof.Rows.boot_isinstance (ja_cons (je_var 1) (ja_cons (je_ty T.b_str PyProof.Rows.boot_str) (ja_nil)))))) (jw_or1 (jt_cmp jo_gt (je_callB call_len s_len T.b_len PySem.boot_len (ja_cons (je_var 1) (ja_nil))) (je_int))))) (jss_one (js_raise (Kf := K) (by rfl) rfl tk h_InvalidRatio hr (by decide) (je_var 1))) (jss_nil))
      (jss_cons (js_asg (je_if (jt_cmp (jo_eq (hu65 hr)) (je_sl (je_var 1) (jp_none) (jp_some (je_int))) (je_str)) (je_tup (ja_cons (je_neg (je_int)) (ja_cons (je_sl (je_var 1) (jp_some (je_int)) (jp_none)) (ja_nil)))) (je_tup (ja_cons (je_int) (ja_cons (je_var 1) (ja_nil))))) (jg_tup (by rfl) (jgs_cons (jg_name 2 sc_Ratio_read.nd) (jgs_cons (jg_name 3 sc_Ratio_read.nd) (jgs_nil)))))
      (jss_cons (js_asg (je_part (je_var 3) (je_str)) (jg_tup (by rfl) (jgs_cons (jg_name 4 sc_Ratio_read.nd) (jgs_cons (jg_name 5 sc_Ratio_read.nd) (jgs_cons (jg_name 6 sc_Ratio_read.nd) (jgs_nil))))))
      (jss_cons (js_par 7 8 sc_Ratio_read.nd (ja_cons (je_fnc (h_figures_number) hr (by decide) fc_any (ja_cons (je_var 4) (ja_nil))) (ja_cons (je_if (jt_cmp (jo_ne (hu65 hr)) (je_var 5) (je_str)) (je_fnc (h_figures_number) hr (by decide) fc_any (ja_cons (je_var 6) (ja_nil))) (je_int)) (ja_nil))))
      (jss_cons (js_if (jt_w (jw_or (jt_cmp jo_isN (je_var 7) (je_non)) (jw_or (jt_cmp jo_isN (je_var 8) (je_non)) (jw_or1 (jt_cmp (jo_eq (hu65 hr)) (je_var 8) (je_int)))))) (jss_one (js_raise (Kf := K) (by rfl) rfl tk h_InvalidRatio hr (by decide) (je_var 1))) (jss_nil))
      (jss_cons (js_set 9 sc_Ratio_read.nd (je_makeL 0 (by rfl) (je_var 0) h_Ratio_initB hr (by decide) fc_any 1 (by decide) [] (fun _ _ => .nil) (ja_cons (je_op jo_mulX (je_var 2) (je_var 7)) (ja_cons (je_var 8) (ja_nil)))))
      (jss_cons (js_if (jt_cmp (jo_ne (hu65 hr)) (je_callTy (cr_strO (by rfl) h_Ratio_strB hr (by decide)) (s_wtxtK (by rfl)) T.b_str PyProof.Rows.boot_str (ja_cons (je_var 9) (ja_nil))) (je_var 1)) (jss_one (js_raise (Kf := K) (by rfl) rfl tk h_InvalidRatio hr (by decide) (je_var 1))) (jss_nil))
      (jss_one (js_ret (je_var 9)))))))))⟩

abbrev s_l_pick : Stmt := top 15
abbrev n_l_pick : List Str := ["_law_bag_here", "_law_some"]
theorem sc_l_pick : FnScope n_l_pick ["_law_bag_here", "_law_some"] (defScope s_l_pick) := ⟨rfl, rfl, rfl, by decide +kernel, rfl, by decide +kernel, by decide +kernel⟩
theorem ok_l_pick (T : Txt K mg) (h_l_pull : Fnc P w K mg base "_law_pull" 1 ["_law_bag_here", "_law_many"] BagW A_l_pull) (hF : ∃ fd, FnS K "_law_pick" "_law_pick" s_l_pick [] (He.ga K "_law_pick") fd) (m : mg "_law_pick" = some (.ref (He.ga K "_law_pick")))
    {Ab : List D → (D → Prop) → Prop} (hlen : ∀ ds P, Ab ds P → ds.length = 2) (hA : ∀ ds P, Ab ds P → a_l_pick { nx := fun _ _ => P .non, rt := fun d _ => P d } (startG 2 ds) []) :
    Fnc P w K mg base "_law_pick" (1 + 1) ["_law_bag_here", "_law_some"] BagW Ab := by
  delta a_l_pick at hA
  refine fnc_mk (st := s_l_pick) (N := n_l_pick) hF m sc_l_pick (fun _ _ _ _ _ _ us hl => match us, hl with | [_, _], _ => rfl) (fun _ _ _ _ _ _ us hl => match us, hl with | [_, _], _ => rfl) hlen hA fun Fm fd cdv A' outer s H E hW hr => ?_
  exact ⟨_, jss_one (js_ret (je_ix (je_var 1) (je_fnc (h_l_pull) hr (by decide) (fc_bag hW) (ja_cons (je_var 0) (ja_cons (je_callB call_len s_len T.b_len PySem.boot_len (ja_cons (je_var 1) (ja_nil))) (ja_nil))))))⟩

abbrev s_l_kind : Stmt := top 16
abbrev n_l_kind : List Str := ["_law_value", "_law_found"]
theorem sc_l_kind : FnScope n_l_kind ["_law_value"] (defScope s_l_kind) := ⟨rfl, rfl, rfl, by decide +kernel, rfl, by decide +kernel, by decide +kernel⟩
theorem ok_l_kind (T : Txt K mg) (hF : ∃ fd, FnS K "_law_kind" "_law_kind" s_l_kind [] (He.ga K "_law_kind") fd) (m : mg "_law_kind" = some (.ref (He.ga K "_law_kind")))
    {Ab : List D → (D → Prop) → Prop} (hlen : ∀ ds P, Ab ds P → ds.length = 1) (hA : ∀ ds P, Ab ds P → a_l_kind { nx := fun _ _ => P .non, rt := fun d _ => P d } (startG 2 ds) []) :
    Fnc P w K mg base "_law_kind" (0 + 1) ["_law_value"] (fun _ => True) Ab := by
  delta a_l_kind at hA
  refine fnc_mk (st := s_l_kind) (N := n_l_kind) hF m sc_l_kind (fun _ _ _ _ _ _ us hl => match us, hl with | [_], _ => rfl) (fun _ _ _ _ _ _ us hl => match us, hl with | [_], _ => rfl) hlen hA fun Fm fd cdv A' outer s H E hW hr => ?_
  exact ⟨_, jss_cons (js_set 1 sc_l_kind.nd (je_lst (ja_cons (je_cmp jo_isN (je_var 0) (je_non)) (ja_cons (je_callB call_isi s_isi T.b_isinstance PyProof.Rows.boot_isinstance (ja_cons (je_var 0) (ja_cons (je_ty T.b_bool PyProof.Rows.boot_bool) (ja_nil)))) (ja_cons (je_callB call_isi s_isi T.b_isinstance PyProof.Rows.boot_isinstance (ja_cons (je_var 0) (ja_cons (je_ty T.b_int PyProof.Rows.boot_int) (ja_nil)))) (ja_cons (je_callB call_isi s_isi T.b_isinstance PyProof.Rows.boot_isinstance (ja_cons (je_var 0) (ja_cons (je_ty T.b_str PyProof.Rows.boot_str) (ja_nil)))) (ja_nil)))))))
      (jss_cons (js_set 1 sc_l_kind.nd (je_op jo_add (je_var 1) (je_lst (ja_cons (je_callB call_isi s_isi T.b_isinstance PyProof.Rows.boot_isinstance (ja_cons (je_var 0) (ja_cons (je_ty T.b_list PyProof.Rows.boot_list) (ja_nil)))) (ja_cons (je_callB call_isi s_isi T.b_isinstance PyProof.Rows.boot_isinstance (ja_cons (je_var 0) (ja_cons (je_ty T.b_tuple PyProof.Rows.boot_tuple) (ja_nil)))) (ja_cons (je_callB call_isi s_isi T.b_isinstance PyProof.Rows.boot_isinstance (ja_cons (je_var 0) (ja_cons (je_ty T.b_dict PyProof.Rows.boot_dict) (ja_nil)))) (ja_cons (je_bl) (ja_nil))))))))
      (jss_one (js_ret (je_index (je_var 1) (ja_cons (je_bl) (ja_nil))))))⟩

abbrev s_l_same : Stmt := top 17
abbrev n_l_same : List Str := ["_law_found", "_law_due", "_law_key", "_law_one", "_law_other"]
theorem sc_l_same : FnScope n_l_same ["_law_found", "_law_due"] (defScope s_l_same) := ⟨rfl, rfl, rfl, by decide +kernel, rfl, by decide +kernel, by decide +kernel⟩
theorem ok_l_same (T : Txt K mg) {A : List D → (D → Prop) → Prop} {lv : Nat} (h_l_same : Fnc P w K mg base "_law_same" lv ["_law_found", "_law_due"] (fun _ => True) A) (h_l_kind : Fnc P w K mg base "_law_kind" 1 ["_law_value"] (fun _ => True) A_l_kind) (hF : ∃ fd, FnS K "_law_same" "_law_same" s_l_same [] (He.ga K "_law_same") fd) (m : mg "_law_same" = some (.ref (He.ga K "_law_same")))
    {Ab : List D → (D → Prop) → Prop} (hlen : ∀ ds P, Ab ds P → ds.length = 2) (hA : ∀ ds P, Ab ds P → a_l_same A { nx := fun _ _ => P .non, rt := fun d _ => P d } (startG 5 ds) []) (hl_l_kind : 1 ≤ lv) :
    Fnc P w K mg base "_law_same" (lv + 1) ["_law_found", "_law_due"] (fun _ => True) Ab := by
  delta a_l_same at hA
  refine fnc_mk (st := s_l_same) (N := n_l_same) hF m sc_l_same (fun _ _ _ _ _ _ us hl => match us, hl with | [_, _], _ => rfl) (fun _ _ _ _ _ _ us hl => match us, hl with | [_, _], _ => rfl) hlen hA fun Fm fd cdv A' outer s H E hW hr => ?_
  exact ⟨_, jss_cons (js_if (jt_cmp (jo_ne (hu65 hr)) (je_fnc (h_l_kind) hr (by omega) fc_any (ja_cons (je_var 0) (ja_nil))) (je_fnc (h_l_kind) hr (by omega) fc_any (ja_cons (je_var 1) (ja_nil)))) (jss_one (js_ret (je_bl))) (jss_nil))
      (jss_cons (js_if (jt_cmp (jo_in (hu65 hr)) (je_fnc (h_l_kind) hr (by omega) fc_any (ja_cons (je_var 1) (ja_nil))) (je_tup (ja_cons (je_int) (ja_cons (je_int) (ja_nil))))) (jss_one (js_ret (je_and (je_cmp (jo_eq (hu65 hr)) (je_callB call_len s_len T.b_len PySem.boot_len (ja_cons (je_var 0) (ja_nil))) (je_callB call_len s_len T.b_len PySem.boot_len (ja_cons (je_var 1) (ja_nil)))) (je_one (je_callB (cr_all (by rfl)) s_all T.b_all PyProof.Rows.boot_all (ja_cons (je_lc (own := [("_law_one", 3), ("_law_other", 4)]) rfl sc_l_same.nd (ji_zip T.b_zip (ja_cons (je_var 0) (ja_cons (je_var 1) (ja_nil)))) (blkOk_by (N := n_l_same) (sc := defScope s_l_same) (by decide +kernel)) (fun _ _ _ _ _ => jg_tupK (Kf := K) (by rfl) (by rfl) (jgs_cons (jg_name 3 sc_l_same.nd) (jgs_cons (jg_name 4 sc_l_same.nd) (jgs_nil)))) (by decide) (fun _ _ _ _ _ => jts_nil) (fun _ _ _ _ _ => je_fncK (Kf := K) (by rfl) (h_l_same) hr (by omega) fc_any (ja_cons (je_var 3) (ja_cons (je_var 4) (ja_nil))))) (ja_nil))))))) (jss_nil))
      (jss_cons (js_if (jt_cmp (jo_eq (hu65 hr)) (je_fnc (h_l_kind) hr (by omega) fc_any (ja_cons (je_var 1) (ja_nil))) (je_int)) (jss_never) (jss_nil))
      (jss_one (js_ret (je_cmp (jo_eq (hu65 hr)) (je_var 0) (je_var 1))))))⟩

abbrev s_l_fields : Stmt := top 18
abbrev n_l_fields : List Str := ["_law_e"]
theorem sc_l_fields : FnScope n_l_fields ["_law_e"] (defScope s_l_fields) := ⟨rfl, rfl, rfl, by decide +kernel, rfl, by decide +kernel, by decide +kernel⟩
theorem ok_l_fields (T : Txt K mg) (hF : ∃ fd, FnS K "_law_fields" "_law_fields" s_l_fields [] (He.ga K "_law_fields") fd) (m : mg "_law_fields" = some (.ref (He.ga K "_law_fields")))
    {Ab : AW} (hlen : ∀ b cn ns es ds P, Ab b cn ns es ds P → ds.length = 1) (hA : ∀ b cn ns es ds P, Ab b cn ns es ds P → a_l_fields b cn ns es { nx := fun _ _ => P .non, rt := fun d _ => P d } (startG 1 ds) []) :
    FncW P w K mg base "_law_fields" (0 + 1) ["_law_e"] Any Ab := by
  delta a_l_fields at hA
  refine fncW_mk (st := s_l_fields) (N := n_l_fields) hF m sc_l_fields (fun _ _ _ _ _ _ us hl => match us, hl with | [_], _ => rfl) hlen hA fun Fm fd cdv A' outer s H E p dd cn ns ws es hp hpn hC hr => ?_
  exact ⟨_, jss_cons (js_if (jt_cmp (jo_in (hu65H hr)) (je_xf rfl hpn hp (je_var 0)) (je_tup (ja_cons (je_str) (ja_cons (je_str) (ja_cons (je_str) (ja_cons (je_str) (ja_nil))))))) (jss_one (js_ret (je_tup (ja_cons (je_xf rfl hpn hp (je_var 0)) (ja_nil))))) (jss_nil))
      (jss_cons (js_if (jt_cmp (jo_in (hu65H hr)) (je_xf rfl hpn hp (je_var 0)) (je_tup (ja_cons (je_str) (ja_cons (je_str) (ja_cons (je_str) (ja_cons (je_str) (ja_nil))))))) (jss_one (js_ret (je_tup (ja_cons (je_xf rfl hpn hp (je_var 0)) (ja_nil))))) (jss_nil))
      (jss_cons (js_if (jt_cmp (jo_in (hu65H hr)) (je_xf rfl hpn hp (je_var 0)) (je_tup (ja_cons (je_str) (ja_cons (je_str) (ja_nil))))) (jss_one (js_ret (je_tup (ja_cons (je_if (jt_cmp (jo_eq (hu65H hr)) (je_xf rfl hpn hp (je_var 0)) (je_str)) (je_xf rfl hpn hp (je_var 0)) (je_xf rfl hpn hp (je_var 0))) (ja_nil))))) (jss_nil))
      (jss_cons (js_if (jt_cmp (jo_in (hu65H hr)) (je_xf rfl hpn hp (je_var 0)) (je_tup (ja_cons (je_str) (ja_cons (je_str) (ja_nil))))) (jss_one (js_ret (je_tup (ja_cons (je_xf rfl hpn hp (je_var 0)) (ja_nil))))) (jss_nil))
      (jss_one (js_ret (je_if (jt_cmp (jo_eq (hu65H hr)) (je_xf rfl hpn hp (je_var 0)) (je_str)) (je_tup (ja_cons (je_xf rfl hpn hp (je_var 0)) (ja_nil))) (je_if (jt_cmp (jo_eq (hu65H hr)) (je_xf rfl hpn hp (je_var 0)) (je_str)) (je_tup (ja_nil)) (je_tup (ja_cons (je_xf rfl hpn hp (je_var 0)) (ja_nil))))))))))⟩

abbrev s_l_try : Stmt := top 19
theorem tx_l_try : TryText (defBody s_l_try) := by apply TryText.mk
theorem ts_l_try : TryS (defScope s_l_try) := ⟨⟨rfl, rfl, rfl, by decide +kernel, rfl, by decide +kernel, by decide +kernel⟩, rfl, rfl, rfl, rfl, rfl, rfl⟩

abbrev s_l_divisor : Stmt := top 20
abbrev n_l_divisor : List Str := ["_law_one", "_law_other"]
theorem sc_l_divisor : FnScope n_l_divisor ["_law_one", "_law_other"] (defScope s_l_divisor) := ⟨rfl, rfl, rfl, by decide +kernel, rfl, by decide +kernel, by decide +kernel⟩
theorem ok_l_divisor (T : Txt K mg) (hF : ∃ fd, FnS K "_law_divisor" "_law_divisor" s_l_divisor [] (He.ga K "_law_divisor") fd) (m : mg "_law_divisor" = some (.ref (He.ga K "_law_divisor")))
    {Ab : List D → (D → Prop) → Prop} (hlen : ∀ ds P, Ab ds P → ds.length = 2) (hA : ∀ ds P, Ab ds P → a_l_divisor { nx := fun _ _ => P .non, rt := fun d _ => P d } (startG 2 ds) []) :
    Fnc P w K mg base "_law_divisor" (0 + 1) ["_law_one", "_law_other"] (fun _ => True) Ab := by
  delta a_l_divisor at hA
  refine fnc_mk (st := s_l_divisor) (N := n_l_divisor) hF m sc_l_divisor (fun _ _ _ _ _ _ us hl => match us, hl with | [_, _], _ => rfl) (fun _ _ _ _ _ _ us hl => match us, hl with | [_, _], _ => rfl) hlen hA fun Fm fd cdv A' outer s H E hW hr => ?_
  exact ⟨_, jss_cons (js_while (jt_cmp jo_gt (je_var 1) (je_int)) (jss_one (js_par 0 1 sc_l_divisor.nd (ja_cons (je_var 1) (ja_cons (je_op jo_mod (je_var 0) (je_var 1)) (ja_nil))))) PassesOwn.never)
      (jss_one (js_ret (je_var 0)))⟩

abbrev s_l_frac : Stmt := top 21
abbrev n_l_frac : List Str := ["_law_top", "_law_bottom", "_law_by"]
theorem sc_l_frac : FnScope n_l_frac ["_law_top", "_law_bottom"] (defScope s_l_frac) := ⟨rfl, rfl, rfl, by decide +kernel, rfl, by decide +kernel, by decide +kernel⟩
theorem ok_l_frac (T : Txt K mg) (h_l_divisor : Fnc P w K mg base "_law_divisor" 1 ["_law_one", "_law_other"] (fun _ => True) A_l_divisor) (hF : ∃ fd, FnS K "_law_frac" "_law_frac" s_l_frac [] (He.ga K "_law_frac") fd) (m : mg "_law_frac" = some (.ref (He.ga K "_law_frac")))
    {Ab : List D → (D → Prop) → Prop} (hlen : ∀ ds P, Ab ds P → ds.length = 2) (hA : ∀ ds P, Ab ds P → a_l_frac { nx := fun _ _ => P .non, rt := fun d _ => P d } (startG 3 ds) []) :
    Fnc P w K mg base "_law_frac" (1 + 1) ["_law_top", "_law_bottom"] (fun _ => True) Ab := by
  delta a_l_frac at hA
  refine fnc_mk (st := s_l_frac) (N := n_l_frac) hF m sc_l_frac (fun _ _ _ _ _ _ us hl => match us, hl with | [_, _], _ => rfl) (fun _ _ _ _ _ _ us hl => match us, hl with | [_, _], _ => rfl) hlen hA fun Fm fd cdv A' outer s H E hW hr => ?_
  exact ⟨_, jss_cons (js_set 2 sc_l_frac.nd (je_fnc (h_l_divisor) hr (by decide) fc_any (ja_cons (je_callB call_abs s_abs T.b_abs PyProof.Rows.boot_abs (ja_cons (je_var 0) (ja_nil))) (ja_cons (je_var 1) (ja_nil)))))
      (jss_one (js_ret (je_tup (ja_cons (je_op jo_div (je_var 0) (je_var 2)) (ja_cons (je_op jo_div (je_var 1) (je_var 2)) (ja_nil))))))⟩

abbrev s_l_pair : Stmt := top 22
abbrev n_l_pair : List Str := ["_law_value"]
theorem sc_l_pair : FnScope n_l_pair ["_law_value"] (defScope s_l_pair) := ⟨rfl, rfl, rfl, by decide +kernel, rfl, by decide +kernel, by decide +kernel⟩
theorem ok_l_pair (T : Txt K mg) (hF : ∃ fd, FnS K "_law_pair" "_law_pair" s_l_pair [] (He.ga K "_law_pair") fd) (m : mg "_law_pair" = some (.ref (He.ga K "_law_pair")))
    {Ab : List D → (D → Prop) → Prop} (hlen : ∀ ds P, Ab ds P → ds.length = 1) (hA : ∀ ds P, Ab ds P → a_l_pair { nx := fun _ _ => P .non, rt := fun d _ => P d } (startG 1 ds) []) :
    Fnc P w K mg base "_law_pair" (2 + 1) ["_law_value"] (fun _ => True) Ab := by
  delta a_l_pair at hA
  refine fnc_mk (st := s_l_pair) (N := n_l_pair) hF m sc_l_pair (fun _ _ _ _ _ _ us hl => match us, hl with | [_], _ => rfl) (fun _ _ _ _ _ _ us hl => match us, hl with | [_], _ => rfl) hlen hA fun Fm fd cdv A' outer s H E hW hr => ?_
  exact ⟨_, jss_one (js_ret (je_if (jt_val (je_callB call_isi (s_isiK (by rfl) T.isc) T.b_isinstance PyProof.Rows.boot_isinstance (ja_cons (je_var 0) (ja_cons (je_cls (by rfl) T.g_Ratio) (ja_nil))))) (je_tup (ja_cons (je_prop (by rfl) T.c_Ratio T.p_Ratio_top_own_top hr (by decide) (je_var 0)) (ja_cons (je_prop (by rfl) T.c_Ratio T.p_Ratio_bottom_own_bottom hr (by decide) (je_var 0)) (ja_nil)))) (je_var 0)))⟩

abbrev s_l_number : Stmt := top 23
abbrev n_l_number : List Str := ["_law_bag_here", "_law_way", "_law_number_here"]
theorem sc_l_number : FnScope n_l_number ["_law_bag_here"] (defScope s_l_number) := ⟨rfl, rfl, rfl, by decide +kernel, rfl, by decide +kernel, by decide +kernel⟩
theorem ok_l_number (T : Txt K mg) (h_l_pull : Fnc P w K mg base "_law_pull" 1 ["_law_bag_here", "_law_many"] BagW A_l_pull) (hF : ∃ fd, FnS K "_law_number" "_law_number" s_l_number [] (He.ga K "_law_number") fd) (m : mg "_law_number" = some (.ref (He.ga K "_law_number")))
    {Ab : List D → (D → Prop) → Prop} (hlen : ∀ ds P, Ab ds P → ds.length = 1) (hA : ∀ ds P, Ab ds P → a_l_number { nx := fun _ _ => P .non, rt := fun d _ => P d } (startG 3 ds) []) :
    Fnc P w K mg base "_law_number" (1 + 1) ["_law_bag_here"] BagW Ab := by
  delta a_l_number at hA
  refine fnc_mk (st := s_l_number) (N := n_l_number) hF m sc_l_number (fun _ _ _ _ _ _ us hl => match us, hl with | [_], _ => rfl) (fun _ _ _ _ _ _ us hl => match us, hl with | [_], _ => rfl) hlen hA fun Fm fd cdv A' outer s H E hW hr => ?_
  exact ⟨_, jss_cons (js_set 1 sc_l_number.nd (je_fnc (h_l_pull) hr (by decide) (fc_bag hW) (ja_cons (je_var 0) (ja_cons (je_int) (ja_nil)))))
      (jss_cons (js_if (jt_cmp (jo_eq (hu65 hr)) (je_var 1) (je_int)) (jss_one (js_ret (je_int))) (jss_nil))
      (jss_cons (js_set 2 sc_l_number.nd (je_ix (je_lst (ja_cons (je_fnc (h_l_pull) hr (by decide) (fc_bag hW) (ja_cons (je_var 0) (ja_cons (je_int) (ja_nil)))) (ja_cons (je_fnc (h_l_pull) hr (by decide) (fc_bag hW) (ja_cons (je_var 0) (ja_cons (je_int) (ja_nil)))) (ja_cons (je_fnc (h_l_pull) hr (by decide) (fc_bag hW) (ja_cons (je_var 0) (ja_cons (je_op jo_pow (je_int) (je_int)) (ja_nil)))) (ja_cons (je_fnc (h_l_pull) hr (by decide) (fc_bag hW) (ja_cons (je_var 0) (ja_cons (je_op jo_pow (je_int) (je_int)) (ja_nil)))) (ja_nil)))))) (je_op jo_mod (je_var 1) (je_int))))
      (jss_one (js_ret (je_if (jt_cmp (jo_eq (hu65 hr)) (je_fnc (h_l_pull) hr (by decide) (fc_bag hW) (ja_cons (je_var 0) (ja_cons (je_int) (ja_nil)))) (je_int)) (je_neg (je_var 2)) (je_var 2))))))⟩

abbrev s_l_frac_text : Stmt := top 24
abbrev n_l_frac_text : List Str := ["_law_pair_here"]
theorem sc_l_frac_text : FnScope n_l_frac_text ["_law_pair_here"] (defScope s_l_frac_text) := ⟨rfl, rfl, rfl, by decide +kernel, rfl, by decide +kernel, by decide +kernel⟩
theorem ok_l_frac_text (T : Txt K mg) (hF : ∃ fd, FnS K "_law_frac_text" "_law_frac_text" s_l_frac_text [] (He.ga K "_law_frac_text") fd) (m : mg "_law_frac_text" = some (.ref (He.ga K "_law_frac_text")))
    {Ab : List D → (D → Prop) → Prop} (hlen : ∀ ds P, Ab ds P → ds.length = 1) (hA : ∀ ds P, Ab ds P → a_l_frac_text { nx := fun _ _ => P .non, rt := fun d _ => P d } (startG 1 ds) []) :
    Fnc P w K mg base "_law_frac_text" (0 + 1) ["_law_pair_here"] (fun _ => True) Ab := by
  delta a_l_frac_text at hA
  refine fnc_mk (st := s_l_frac_text) (N := n_l_frac_text) hF m sc_l_frac_text (fun _ _ _ _ _ _ us hl => match us, hl with | [_], _ => rfl) (fun _ _ _ _ _ _ us hl => match us, hl with | [_], _ => rfl) hlen hA fun Fm fd cdv A' outer s H E hW hr => ?_
  exact ⟨_, jss_one (js_ret (je_if (jt_cmp (jo_eq (hu65 hr)) (je_ix (je_var 0) (je_int)) (je_int)) (je_callTy (call_strBK (by rfl) T.dig) s_strB T.b_str PyProof.Rows.boot_str (ja_cons (je_ix (je_var 0) (je_int)) (ja_nil))) (je_op jo_add (je_op jo_add (je_callTy (call_strBK (by rfl) T.dig) s_strB T.b_str PyProof.Rows.boot_str (ja_cons (je_ix (je_var 0) (je_int)) (ja_nil))) (je_str)) (je_callTy (call_strBK (by rfl) T.dig) s_strB T.b_str PyProof.Rows.boot_str (ja_cons (je_ix (je_var 0) (je_int)) (ja_nil))))))⟩

abbrev s_l_text_ratio : Stmt := top 25
abbrev n_l_text_ratio : List Str := ["_law_text", "_law_sign", "_law_rest", "_law_words", "_law_numbers", "_law_pair_here", "_law_word", "_law_mark"]
theorem sc_l_text_ratio : FnScope n_l_text_ratio ["_law_text"] (defScope s_l_text_ratio) := ⟨rfl, rfl, rfl, by decide +kernel, rfl, by decide +kernel, by decide +kernel⟩
theorem ok_l_text_ratio (T : Txt K mg) (h_l_frac_text : Fnc P w K mg base "_law_frac_text" 1 ["_law_pair_here"] (fun _ => True) A_l_frac_text) (h_l_frac : Fnc P w K mg base "_law_frac" 2 ["_law_top", "_law_bottom"] (fun _ => True) A_l_frac) (hF : ∃ fd, FnS K "_law_text_ratio" "_law_text_ratio" s_l_text_ratio [] (He.ga K "_law_text_ratio") fd) (m : mg "_law_text_ratio" = some (.ref (He.ga K "_law_text_ratio")))
    {Ab : List D → (D → Prop) → Prop} (hlen : ∀ ds P, Ab ds P → ds.length = 1) (hA : ∀ ds P, Ab ds P → a_l_text_ratio { nx := fun _ _ => P .non, rt := fun d _ => P d } (startG 8 ds) []) :
    Fnc P w K mg base "_law_text_ratio" (2 + 1) ["_law_text"] (fun _ => True) Ab := by
  delta a_l_text_ratio at hA
  refine fnc_mk (st := s_l_text_ratio) (N := n_l_text_ratio) hF m sc_l_text_ratio (fun _ _ _ _ _ _ us hl => match us, hl with | [_], _ => rfl) (fun _ _ _ _ _ _ us hl => match us, hl with | [_], _ => rfl) hlen hA fun Fm fd cdv A' outer s H E hW hr => ?_
  exact ⟨_, jss_cons (js_asg (je_if (jt_cmp (jo_eq (hu65 hr)) (je_sl (je_var 0) (jp_none) (jp_some (je_int))) (je_str)) (je_tup (ja_cons (je_neg (je_int)) (ja_cons (je_sl (je_var 0) (jp_some (je_int)) (jp_none)) (ja_nil)))) (je_tup (ja_cons (je_int) (ja_cons (je_var 0) (ja_nil))))) (jg_tup (by rfl) (jgs_cons (jg_name 1 sc_l_text_ratio.nd) (jgs_cons (jg_name 2 sc_l_text_ratio.nd) (jgs_nil)))))
      (jss_cons (js_set 3 sc_l_text_ratio.nd (je_split (je_var 2) (je_str)))
      (jss_cons (js_if (jt_w (jw_or (jt_cmp jo_gt (je_callB call_len s_len T.b_len PySem.boot_len (ja_cons (je_var 3) (ja_nil))) (je_int)) (jw_or (jt_cmp (jo_in (hu65 hr)) (je_str) (je_var 3)) (jw_or1 (jt_not (jt_val (je_callB (cr_all (by rfl)) s_all T.b_all PyProof.Rows.boot_all (ja_cons (je_lc (own := [("_law_mark", 7)]) rfl sc_l_text_ratio.nd (ji_any (je_join (je_str) (je_var 3))) (blkOk_by (N := n_l_text_ratio) (sc := defScope s_l_text_ratio) (by decide +kernel)) (fun _ _ _ _ _ => jg_name 7 sc_l_text_ratio.nd) (by decide) (fun _ _ _ _ _ => jts_nil) (fun _ _ _ _ _ => je_cmp (jo_inK (Kf := K) (by rfl) (hu65 hr)) (je_var 7) (je_str))) (ja_nil))))))))) (jss_one (js_ret (je_non))) (jss_nil))
      (jss_cons (js_set 4 sc_l_text_ratio.nd (je_op jo_add (je_lc (own := [("_law_word", 6)]) rfl sc_l_text_ratio.nd (ji_any (je_var 3)) (blkOk_by (N := n_l_text_ratio) (sc := defScope s_l_text_ratio) (by decide +kernel)) (fun _ _ _ _ _ => jg_name 6 sc_l_text_ratio.nd) (by decide) (fun _ _ _ _ _ => jts_nil) (fun _ _ _ _ _ => je_callTy (call_intTK (by rfl) T.dig) s_intT T.b_int PyProof.Rows.boot_int (ja_cons (je_var 6) (ja_nil)))) (je_lst (ja_cons (je_int) (ja_nil)))))
      (jss_cons (js_set 5 sc_l_text_ratio.nd (je_tup (ja_cons (je_op jo_mulX (je_var 1) (je_ix (je_var 4) (je_int))) (ja_cons (je_ix (je_var 4) (je_int)) (ja_nil)))))
      (jss_one (js_ret (je_if (jt_w (jw_and (jt_cmp jo_gt (je_ix (je_var 5) (je_int)) (je_int)) (jw_and1 (jt_cmp (jo_eq (hu65 hr)) (je_fnc (h_l_frac_text) hr (by decide) fc_any (ja_cons (je_fnc (h_l_frac) hr (by decide) fc_any (ja_cons (je_ix (je_var 5) (je_int)) (ja_cons (je_ix (je_var 5) (je_int)) (ja_nil)))) (ja_nil))) (je_var 0))))) (je_var 5) (je_non))))))))⟩

abbrev s__law_bag : Stmt := top 13
theorem sc__law_bag : FnScope ["_law_script"] ["_law_script"] (defScope s__law_bag) := ⟨rfl, rfl, rfl, by decide +kernel, rfl, by decide +kernel, by decide +kernel⟩
theorem ok__law_bag (T : Txt K mg) {f : Addr} {fd : FuncData} (F : FnS K "_law_bag" "_law_bag" s__law_bag [] f fd) : FnOk P w K mg base CX0 1 f fd ["_law_script"] (spBag K) := by
  refine FunD.ok F sc__law_bag (fun vs H Q E h => ?_) (fun cdv A outer s H vs Q E hr h => ⟨t_bag K, PSs.nox ?_, bag_all vs H Q E h⟩)
  · obtain ⟨a, ns, rfl, _⟩ := h
    rfl
  · exact pss_one (ps_ret (pe_lst (pa_cons (pe_callTy call_list_of rfl T.b_list PyProof.Rows.boot_list (pa_cons (pe_slice sl_list (pv 0) po_none (po_some pe_int)) pa_nil)) (pa_cons pe_int (pa_cons pe_int (pa_cons (pe_op op_add pe_int (pe_callB call_len_seq rfl T.b_len PySem.boot_len (pa_cons (pv 0) pa_nil))) pa_nil))))))
abbrev s_l_pull : Stmt := top 14
abbrev n_l_pull : List Str := ["_law_bag_here", "_law_many", "_law_cell", "_law_digit"]
theorem sc_l_pull : FnScope n_l_pull ["_law_bag_here", "_law_many"] (defScope s_l_pull) := ⟨rfl, rfl, rfl, by decide +kernel, rfl, by decide +kernel, by decide +kernel⟩
theorem ok_l_pull (T : Txt K mg) (hF : ∃ fd, FnS K "_law_pull" "_law_pull" s_l_pull [] (He.ga K "_law_pull") fd) (m : mg "_law_pull" = some (.ref (He.ga K "_law_pull"))) : Fnc P w K mg base "_law_pull" (0 + 1) ["_law_bag_here", "_law_many"] BagW A_l_pull := by
  refine fnc_pull (st := s_l_pull) (N := n_l_pull) hF m sc_l_pull rfl rfl (fun _ _ _ _ _ _ us hl => match us, hl with | [_, _], _ => rfl) (fun _ _ _ _ _ _ us hl => match us, hl with | [_, _], _ => rfl) fun fd cdv A outer s H E hr => ?_
  have hn := sc_l_pull.nd
  have ix : ∀ {X : Cx} {i : Int} {j : Nat} {p p2 p3 : Pos} {x : Str}, X.N[0]? = some x → Vis X.env.scope x → (x == ("__debug__" : Str)) = false → (x == ("__classdict__" : Str)) = false → PE X (.Subscript (.Name x p) (.Constant (.int i) j p2) p3) (pIx X.K i) := fun h1 h2 h3 h4 => pe_ix ix_list (pe_var h1 h2 h3 h4) pe_int (fun _ _ => rfl)
  exact pss_cons (ps_if (PW.pt (pw_and (pt_cmpR op_eq (ix rfl (.inl rfl) (by decide) (by decide)) pe_int (nomark _)) (pw_and1 (pt_cmpR op_lt (ix rfl (.inl rfl) (by decide) (by decide)) (pe_callB call_len_seq rfl T.b_len PySem.boot_len (pa_cons (ix rfl (.inl rfl) (by decide) (by decide)) pa_nil)) (nomark _)))))
      (pss_cons (ps_set (i := 2) hn rfl (Or.inl rfl) (pe_ix ix_list (ix rfl (.inl rfl) (by decide) (by decide)) (ix rfl (.inl rfl) (by decide) (by decide)) (fun _ _ => rfl)))
      (pss_cons (ps_asg (pe_op op_add (ix rfl (.inl rfl) (by decide) (by decide)) pe_int) (pg_sub (pv 0) pe_int set_list))
      (pss_one (ps_if (pt_cmpR op_ge (pv 2) (pe_op op_pow pe_int pe_int) (nomark _))
        (pss_one (ps_asg (pv 2) (pg_sub (pv 0) pe_int set_list)))
        (pss_one (ps_asg (pe_op op_modN (pe_callTy call_int1 rfl T.b_int PyProof.Rows.boot_int (pa_cons (pe_op op_add (pe_op op_add (pe_op op_mul (ix rfl (.inl rfl) (by decide) (by decide)) pe_int)
          (pe_op op_mul (pe_op op_modN (pe_callTy call_int1 rfl T.b_int PyProof.Rows.boot_int (pa_cons (pv 2) pa_nil)) pe_int) pe_int)) pe_int) pa_nil)) pe_int) (pg_sub (pv 0) pe_int set_list))))))) pss_nil)
    (pss_cons (ps_if (pt_cmpR op_gt (ix rfl (.inl rfl) (by decide) (by decide)) pe_int (nomark _))
      (pss_cons (ps_set (i := 3) hn rfl (Or.inl rfl) (pe_op op_modN (pe_callTy call_int1 rfl T.b_int PyProof.Rows.boot_int (pa_cons (ix rfl (.inl rfl) (by decide) (by decide)) pa_nil)) (pv 1)))
      (pss_cons (ps_asg (pe_op (op_fdivN.or op_fdivW) (ix rfl (.inl rfl) (by decide) (by decide)) (pv 1)) (pg_sub (pv 0) pe_int set_list))
      (pss_one (ps_ret (pv 3))))) pss_nil)
    (pss_cons (ps_asg (pe_op op_modN (pe_callTy call_int1 rfl T.b_int PyProof.Rows.boot_int (pa_cons (pe_op op_add (pe_op op_add (pe_op op_mul (ix rfl (.inl rfl) (by decide) (by decide)) (ix rfl (.inl rfl) (by decide) (by decide)))
        (pe_op op_mul (ix rfl (.inl rfl) (by decide) (by decide)) pe_int)) pe_int) pa_nil)) pe_int) (pg_sub (pv 0) pe_int set_list))
    (pss_one (ps_ret (pe_op op_modN (pe_callTy call_int1 rfl T.b_int PyProof.Rows.boot_int (pa_cons (pe_op op_add (pe_op op_fdivN (ix rfl (.inl rfl) (by decide) (by decide)) pe_int)
        (pe_op op_mul (pe_op op_modN (pe_callTy call_int1 rfl T.b_int PyProof.Rows.boot_int (pa_cons (ix rfl (.inl rfl) (by decide) (by decide)) pa_nil)) pe_int) pe_int)) pa_nil)) (pv 1))))))
abbrev s_law : Stmt := top 26
abbrev n_law : List Str := ["_law_script", "_law_bag_here", "_law_turn", "_law_pair_here", "_law_text", "_law_at", "_law_mark", "_law_bent", "_law_due", "_law_told", "_law_many", "_law_long", "_law_odd"]
theorem sc_law : FnScope n_law ["_law_script"] (defScope s_law) := ⟨rfl, rfl, rfl, by decide +kernel, rfl, by decide +kernel, by decide +kernel⟩
theorem ok_law (T : Txt K mg) (h_l_frac : Fnc P w K mg base "_law_frac" 2 ["_law_top", "_law_bottom"] (fun _ => True) A_l_frac) (h_l_pick : Fnc P w K mg base "_law_pick" 2 ["_law_bag_here", "_law_some"] BagW A_l_pick) (h_l_number : Fnc P w K mg base "_law_number" 2 ["_law_bag_here"] BagW A_l_number) (h_l_pull : Fnc P w K mg base "_law_pull" 1 ["_law_bag_here", "_law_many"] BagW A_l_pull) (h_l_frac_text : Fnc P w K mg base "_law_frac_text" 1 ["_law_pair_here"] (fun _ => True) A_l_frac_text) (h_l_same : Fnc P w K mg base "_law_same" 5 ["_law_found", "_law_due"] (fun _ => True) (A_l_same 4)) (h_l_pair : Fnc P w K mg base "_law_pair" 3 ["_law_value"] (fun _ => True) A_l_pair) (h_Ratio_read : FncC P w K mg base "Ratio" "read" 4 ["cls", "text"] (fun _ => True) A_Ratio_read) (h_l_try : TryF P w K mg base s_l_try 1 A_l_fields xcs_) (h_l_text_ratio : Fnc P w K mg base "_law_text_ratio" 3 ["_law_text"] (fun _ => True) A_l_text_ratio) (h_Ratio_strB : FncM P w K mg base "Ratio" "__str__" 1 ["self"] (fun _ => True) A_Ratio_strB) {fB : Addr} {fdB : FuncData} (FB : FnS K "_law_bag" "_law_bag" s__law_bag [] fB fdB) (mB : mg "_law_bag" = some (.ref fB)) {fd : FuncData} (F : FnS K "law" "law" s_law [] (He.ga K "law") fd) (tb : LamX.TabB base mg (He.cT K ("law", none)).1 (He.cT K ("law", none)).2) :
    FnOk P w K mg base CX0 (7 + 1) (He.ga K "law") fd ["_law_script"] (spLawT K [tabL K ("law", none) ("law" ++ ".<locals>.")]) := by
  have GB : FnOk P w K mg base CX0 1 fB fdB ["_law_script"] (spBag K) := ok__law_bag T FB
  have bB : Binds K fdB ["_law_script"] [] := FB.bindsN fun _ _ _ _ _ _ us hl => match us, hl with | [_], _ => rfl
  have hA := pure_law
  unfold a_law at hA
  refine law_mkT (z := "_law_bag_here") F sc_law rfl rfl (fun Fm cdv A outer s H E hcd hW hTab hr => ⟨ps_set (i := 1) sc_law.nd rfl (by first | exact Or.inl rfl | exact Or.inr rfl) (pe_call GB (hr.mono (by decide)) rfl mB FB.kp bB .nil pass0 (pa_cons (pv 0) pa_nil)), ?_⟩) hA
  exact ⟨_, jss_cons (js_for rfl (ji_rng1 T.b_range (ja_cons (je_int) (ja_nil))) (jg_name 2 sc_law.nd) (jss_cons (js_set 3 sc_law.nd (je_fnc (h_l_frac) hr (by decide) fc_any (ja_cons (je_fnc (h_l_number) hr (by decide) (fc_bag hW) (ja_cons (je_var 1) (ja_nil))) (ja_cons (je_fnc (h_l_pick) hr (by decide) (fc_bag hW) (ja_cons (je_var 1) (ja_cons (je_lst (ja_cons (je_int) (ja_cons (je_int) (ja_cons (je_op jo_add (je_int) (je_fnc (h_l_pull) hr (by decide) (fc_bag hW) (ja_cons (je_var 1) (ja_cons (je_int) (ja_nil))))) (ja_cons (je_op jo_add (je_int) (je_callB call_abs s_abs T.b_abs PyProof.Rows.boot_abs (ja_cons (je_fnc (h_l_number) hr (by decide) (fc_bag hW) (ja_cons (je_var 1) (ja_nil))) (ja_nil)))) (ja_nil)))))) (ja_nil)))) (ja_nil)))))
      (jss_cons (js_set 4 sc_law.nd (je_fnc (h_l_frac_text) hr (by decide) fc_any (ja_cons (je_var 3) (ja_nil))))
      (jss_cons (js_if (jt_not (jt_val (je_fnc (h_l_same) hr (by decide) fc_any (ja_cons (je_fnc (h_l_pair) hr (by decide) fc_any (ja_cons (je_cmethX (Kf := K) (by rfl) tkF h_Ratio_read hr (by decide) fc_any (je_cls (by rfl) T.g_Ratio) (ja_cons (je_var 4) (ja_nil))) (ja_nil))) (ja_cons (je_var 3) (ja_nil)))))) (jss_one (js_ret (je_bl))) (jss_nil))
      (jss_cons (js_set 5 sc_law.nd (je_fnc (h_l_pull) hr (by decide) (fc_bag hW) (ja_cons (je_var 1) (ja_cons (je_op jo_add (je_callB call_len s_len T.b_len PySem.boot_len (ja_cons (je_var 4) (ja_nil))) (je_int)) (ja_nil)))))
      (jss_cons (js_set 6 sc_law.nd (je_fnc (h_l_pick) hr (by decide) (fc_bag hW) (ja_cons (je_var 1) (ja_cons (je_lst (ja_cons (je_str) (ja_cons (je_str) (ja_cons (je_str) (ja_cons (je_str) (ja_cons (je_str) (ja_cons (je_str) (ja_cons (je_str) (ja_cons (je_str) (ja_cons (je_str) (ja_cons (je_str) (ja_nil)))))))))))) (ja_nil)))))
      (jss_cons (js_set 7 sc_law.nd (je_fnc (h_l_pick) hr (by decide) (fc_bag hW) (ja_cons (je_var 1) (ja_cons (je_lst (ja_cons (je_op jo_add (je_op jo_add (je_sl (je_var 4) (jp_none) (jp_some (je_var 5))) (je_var 6)) (je_sl (je_var 4) (jp_some (je_var 5)) (jp_none))) (ja_cons (je_op jo_add (je_sl (je_var 4) (jp_none) (jp_some (je_var 5))) (je_sl (je_var 4) (jp_some (je_op jo_add (je_var 5) (je_int))) (jp_none))) (ja_cons (je_op jo_add (je_op jo_add (je_sl (je_var 4) (jp_none) (jp_some (je_var 5))) (je_var 6)) (je_sl (je_var 4) (jp_some (je_op jo_add (je_var 5) (je_int))) (jp_none))) (ja_nil))))) (ja_nil)))))
      (jss_cons (js_par 8 9 sc_law.nd (ja_cons (je_fnc (h_l_text_ratio) hr (by decide) fc_any (ja_cons (je_var 7) (ja_nil))) (ja_cons (je_tryS (K := K) (k := 4) (C := Any) (by rfl) h_l_try (lamH_law F hcd tb rfl) hTab (hr.mono (by decide)) (by decide) fp_any (fun G xd A outer s H f c' hC hr tk => je_cmethX (Kf := K) (by rfl) tk h_Ratio_read hr (by decide) fc_any (je_cls (by rfl) T.g_Ratio) (ja_cons (je_var 7) (ja_nil)))) (ja_nil))))
      (jss_one (js_if (jt_cmp jo_isN (je_var 8) (je_non)) (jss_one (js_if (jt_cmp (jo_ne (hu65 hr)) (je_var 9) (je_tup (ja_cons (je_str) (ja_cons (je_str) (ja_cons (je_var 7) (ja_nil)))))) (jss_one (js_ret (je_bl))) (jss_nil))) (jss_one (js_if (jt_not (jt_val (je_fnc (h_l_same) hr (by decide) fc_any (ja_cons (je_fnc (h_l_pair) hr (by decide) fc_any (ja_cons (je_ix (je_var 9) (je_int)) (ja_nil))) (ja_cons (je_var 8) (ja_nil)))))) (jss_one (js_ret (je_bl))) (jss_nil)))))))))))) PassesOwn.never)
      (jss_cons (js_set 10 sc_law.nd (je_fnc (h_l_pick) hr (by decide) (fc_bag hW) (ja_cons (je_var 1) (ja_cons (je_lst (ja_cons (je_int) (ja_cons (je_int) (ja_cons (je_int) (ja_cons (je_int) (ja_nil)))))) (ja_nil)))))
      (jss_cons (js_set 11 sc_law.nd (je_lst (ja_cons (je_tup (ja_cons (je_op jo_mulX (je_str) (je_var 10)) (ja_cons (je_cmp jo_lt (je_var 10) (je_int)) (ja_nil)))) (ja_cons (je_tup (ja_cons (je_op jo_add (je_str) (je_op jo_mulX (je_str) (je_var 10))) (ja_cons (je_cmp jo_lt (je_var 10) (je_int)) (ja_nil)))) (ja_cons (je_tup (ja_cons (je_op jo_mulX (je_str) (je_op jo_add (je_var 10) (je_int))) (ja_cons (je_cmp jo_lt (je_var 10) (je_int)) (ja_nil)))) (ja_nil))))))
      (jss_cons (js_for rfl (ji_any (je_var 11)) (jg_tup (by rfl) (jgs_cons (jg_name 4 sc_law.nd) (jgs_cons (jg_name 8 sc_law.nd) (jgs_nil)))) (jss_cons (js_set 9 sc_law.nd (je_tryS (K := K) (k := 4) (C := Any) (by rfl) h_l_try (lamH_law F hcd tb rfl) hTab (hr.mono (by decide)) (by decide) fp_any (fun G xd A outer s H f c' hC hr tk => je_callTy (cr_strO (by rfl) h_Ratio_strB hr (by decide)) (s_wtxtK (by rfl)) T.b_str PyProof.Rows.boot_str (ja_cons (je_cmethX (Kf := K) (by rfl) tk h_Ratio_read hr (by decide) fc_any (je_cls (by rfl) T.g_Ratio) (ja_cons (je_var 4) (ja_nil))) (ja_nil)))))
      (jss_one (js_if (jt_not (jt_val (je_fnc (h_l_same) hr (by decide) fc_any (ja_cons (je_var 9) (ja_cons (je_if (jt_val (je_var 8)) (je_tup (ja_cons (je_str) (ja_cons (je_var 4) (ja_nil)))) (je_tup (ja_cons (je_str) (ja_cons (je_str) (ja_cons (je_var 4) (ja_nil)))))) (ja_nil)))))) (jss_one (js_ret (je_bl))) (jss_nil)))) PassesOwn.never)
      (jss_cons (js_set 12 sc_law.nd (je_fnc (h_l_pick) hr (by decide) (fc_bag hW) (ja_cons (je_var 1) (ja_cons (je_lst (ja_cons (je_str) (ja_cons (je_str) (ja_cons (je_str) (ja_cons (je_str) (ja_cons (je_str) (ja_cons (je_str) (ja_cons (je_str) (ja_cons (je_str) (ja_cons (je_str) (ja_cons (je_str) (ja_cons (je_non) (ja_cons (je_int) (ja_cons (je_bl) (ja_cons (je_tup (ja_cons (je_str) (ja_nil))) (ja_nil)))))))))))))))) (ja_nil)))))
      (jss_one (js_ret (je_fnc (h_l_same) hr (by decide) fc_any (ja_cons (je_tryS (K := K) (k := 4) (C := Any) (by rfl) h_l_try (lamH_law F hcd tb rfl) hTab (hr.mono (by decide)) (by decide) fp_any (fun G xd A outer s H f c' hC hr tk => je_cmethX (Kf := K) (by rfl) tk h_Ratio_read hr (by decide) fc_any (je_cls (by rfl) T.g_Ratio) (ja_cons (je_var 12) (ja_nil)))) (ja_cons (je_tup (ja_cons (je_str) (ja_cons (je_str) (ja_cons (je_var 12) (ja_nil))))) (ja_nil))))))))))⟩
end

end Bd
set_option maxHeartbeats 0
namespace Bd
open PySem PySem.Spec PyProof.Rows L2
theorem tup_strs {K : PySem.W.Frag} {x : Str} {zs : List Str} (h : He.tupB K x (zs.map He.Dv.str) = true) (H : Hp) : SqT K H (He.ga K x) (zs.map V.str) := by
  have e := He.tupB_ok h H
  rw [List.map_map] at e
  exact e
abbrev cl_ : List He.DefD := [⟨("Ratio", some "read"), "read", "Ratio.read", defArgs s_Ratio_read, defBody s_Ratio_read, defScope s_Ratio_read, [], []⟩]
def fn_ : List He.DefD := [⟨("_law_bag", none), "_law_bag", "_law_bag", defArgs s__law_bag, defBody s__law_bag, defScope s__law_bag, [], []⟩, ⟨("_law_pull", none), "_law_pull", "_law_pull", defArgs s_l_pull, defBody s_l_pull, defScope s_l_pull, [], []⟩, ⟨("is_number", none), "is_number", "is_number", defArgs s_is_number, defBody s_is_number, defScope s_is_number, [], []⟩, ⟨("common_divisor", none), "common_divisor", "common_divisor", defArgs s_common_divisor, defBody s_common_divisor, defScope s_common_divisor, [], []⟩, ⟨("figures_number", none), "figures_number", "figures_number", defArgs s_figures_number, defBody s_figures_number, defScope s_figures_number, [], []⟩, ⟨("Ratio", some "__init__"), "__init__", "Ratio.__init__", defArgs s_Ratio_initB, defBody s_Ratio_initB, defScope s_Ratio_initB, [.int 1], []⟩, ⟨("Ratio", some "__str__"), "__str__", "Ratio.__str__", defArgs s_Ratio_strB, defBody s_Ratio_strB, defScope s_Ratio_strB, [], []⟩, ⟨("_law_bag", none), "_law_bag", "_law_bag", defArgs s__law_bag, defBody s__law_bag, defScope s__law_bag, [], []⟩, ⟨("_law_pick", none), "_law_pick", "_law_pick", defArgs s_l_pick, defBody s_l_pick, defScope s_l_pick, [], []⟩, ⟨("_law_kind", none), "_law_kind", "_law_kind", defArgs s_l_kind, defBody s_l_kind, defScope s_l_kind, [], []⟩, ⟨("_law_same", none), "_law_same", "_law_same", defArgs s_l_same, defBody s_l_same, defScope s_l_same, [], []⟩, ⟨("_law_fields", none), "_law_fields", "_law_fields", defArgs s_l_fields, defBody s_l_fields, defScope s_l_fields, [], []⟩, ⟨("_law_try", none), "_law_try", "_law_try", defArgs s_l_try, defBody s_l_try, defScope s_l_try, [], []⟩, ⟨("_law_divisor", none), "_law_divisor", "_law_divisor", defArgs s_l_divisor, defBody s_l_divisor, defScope s_l_divisor, [], []⟩, ⟨("_law_frac", none), "_law_frac", "_law_frac", defArgs s_l_frac, defBody s_l_frac, defScope s_l_frac, [], []⟩, ⟨("_law_pair", none), "_law_pair", "_law_pair", defArgs s_l_pair, defBody s_l_pair, defScope s_l_pair, [], []⟩, ⟨("_law_number", none), "_law_number", "_law_number", defArgs s_l_number, defBody s_l_number, defScope s_l_number, [], []⟩, ⟨("_law_frac_text", none), "_law_frac_text", "_law_frac_text", defArgs s_l_frac_text, defBody s_l_frac_text, defScope s_l_frac_text, [], []⟩, ⟨("_law_text_ratio", none), "_law_text_ratio", "_law_text_ratio", defArgs s_l_text_ratio, defBody s_l_text_ratio, defScope s_l_text_ratio, [], []⟩, ⟨("law", none), "law", "law", defArgs s_law, defBody s_law, defScope s_law, [], []⟩]
def fa_ : List He.Fa := [.glo "_law_bag", .glo "_law_pull", .glo "is_number", .glo "common_divisor", .glo "figures_number", .meth "Ratio" "__init__", .meth "Ratio" "__str__", .glo "_law_bag", .glo "_law_pick", .glo "_law_kind", .glo "_law_same", .glo "_law_fields", .glo "_law_try", .glo "_law_divisor", .glo "_law_frac", .glo "_law_pair", .glo "_law_number", .glo "_law_frac_text", .glo "_law_text_ratio", .glo "law", .free "abs", .free "all", .free "bool", .free "dict", .free "int", .free "isinstance", .free "len", .free "list", .free "range", .free "str", .free "super", .free "tuple", .free "zip", .str "FIGURES" "0123456789", .cls "Ratio", .noat "Ratio" "own_top", .noat "Ratio" "own_bottom", .glo "Ratio", .cls "Ratio", .noat "Ratio" "own_bottom", .cls "Ratio", .noat "Ratio" "own_top", .glo "InvalidRatio", .mkr "Ratio", .glo "Ratio", .cls "Ratio", .glo "CallError", .glo "Missing", .glo "NothingLeft"]
def ex_ (K : PySem.W.Frag) : Bool := He.eqO (PySem.W.nsIn K cStatics "sys.int_max_str_digits") (some none) && (clsB K ["Ratio"] && (getB K "Ratio" "bottom" "own_bottom" && (getB K "Ratio" "top" "own_top" && (xclsB K "InvalidRatio" "given" "given" "InvalidRatio" "/claim/cut.py" && (clmB K "Ratio" "read" "Ratio.read" && (PySem.W.keepIn K (.ref (clm K (He.ga K "Ratio") "read")) && (tryB K xcs_)))))))
abbrev Rr : PySem.W.OpenRow := PySem.W.OpenLaw.row PySem.Challenge.rw_pricedcalls_k03_texts_of_ratios
abbrev hk : PySem.W.Hook := hookC 5 fa_ fn_ cl_ [("law", none)] ex_
def ob (s : PySem.W.SharedT) : He.AlX × List He.FnW := obsC 5 fa_ fn_ cl_ [("law", none)] ex_ (HandSHeadRun.getT s)
theorem ob_eq (s : PySem.W.SharedT) : ob s = hk.obs s.abs := obsC_eq (HandSHeadRun.getT_eq s)
abbrev loose_ : List Str := [("_wall" : Str), ("CallError" : Str), ("Missing" : Str), ("InvalidRatio" : Str), ("NothingLeft" : Str), ("FIGURES" : Str), ("is_number" : Str), ("common_divisor" : Str), ("figures_number" : Str), ("Ratio" : Str), ("_law_bag" : Str), ("_law_pull" : Str), ("_law_pick" : Str), ("_law_kind" : Str), ("_law_same" : Str), ("_law_fields" : Str), ("_law_try" : Str), ("_law_divisor" : Str), ("_law_frac" : Str), ("_law_pair" : Str), ("_law_number" : Str), ("_law_frac_text" : Str), ("_law_text_ratio" : Str)]
theorem run (w : World) : HandSHeadRun.RunEq Rr (PySem.W.view Rr.prog [26]) hk ob 4000 loose_ w := by
  intro os
  kernel_rfl
theorem facts {P : Program} {w : World} {K : PySem.W.Frag} {h : Heap} {mg : Str → Option Value} {f : Addr} (X : K.In h) (G : h.Ns mainGlobals mg) (hfa : mg ("law" : Str) = some (.ref f)) (c : He.SaysD fa_ fn_ K) (ex_ok : ex_ K = true) (hcl : cl_.map (fnC K) = cl_.map He.DefD.val) (hSf : P.main.file = ("/claim/cut.py" : Str)) (hSt : (P.main.scope.names.lookup ("super" : Str)).isSome = false) :
    ∃ fd : FuncData, (∀ (s : Shared) (v : Value), BindsTo s fd ⟨[v], []⟩ [("_law_script", v)]) ∧ ∀ base : Heap, K.In base → base.Ns mainGlobals mg → LamX.TabB base mg (He.cT K ("law", none)).1 (He.cT K ("law", none)).2 → FnOk P w K mg base CX0 (7 + 1) f fd ["_law_script"] (spLawT K [tabL K ("law", none) ("law" ++ ".<locals>.")]) := by
  have T : Txt K mg := ⟨He.free_ok X G (c.fact 20 (f := .free "abs") rfl), He.free_ok X G (c.fact 21 (f := .free "all") rfl), He.free_ok X G (c.fact 22 (f := .free "bool") rfl), He.free_ok X G (c.fact 23 (f := .free "dict") rfl), He.free_ok X G (c.fact 24 (f := .free "int") rfl), He.free_ok X G (c.fact 25 (f := .free "isinstance") rfl), He.free_ok X G (c.fact 26 (f := .free "len") rfl), He.free_ok X G (c.fact 27 (f := .free "list") rfl), He.free_ok X G (c.fact 28 (f := .free "range") rfl), He.free_ok X G (c.fact 29 (f := .free "str") rfl), He.free_ok X G (c.fact 30 (f := .free "super") rfl), He.free_ok X G (c.fact 31 (f := .free "tuple") rfl), He.free_ok X G (c.fact 32 (f := .free "zip") rfl), He.str_ok X G (c.fact 33 (f := .str "FIGURES" "0123456789") rfl), digOk ((He.ba ex_ok).1), He.cls_ok (c.fact 34 (f := .cls "Ratio") rfl), He.noat_ok (c.fact 35 (f := .noat "Ratio" "own_top") rfl), He.noat_ok (c.fact 36 (f := .noat "Ratio" "own_bottom") rfl), He.glo_ok X G (c.fact 37 (f := .glo "Ratio") rfl), clsB_ok ((He.ba (He.ba ex_ok).2).1), getB_ok ((He.ba (He.ba (He.ba ex_ok).2).2).1) (He.cls_ok (c.fact 38 (f := .cls "Ratio") rfl)) (He.noat_ok (c.fact 39 (f := .noat "Ratio" "own_bottom") rfl)), getB_ok ((He.ba (He.ba (He.ba (He.ba ex_ok).2).2).2).1) (He.cls_ok (c.fact 40 (f := .cls "Ratio") rfl)) (He.noat_ok (c.fact 41 (f := .noat "Ratio" "own_top") rfl))⟩
  have D0 := c.def_ 0 (d := fn_[0]) rfl
  have D1 := c.def_ 1 (d := fn_[1]) rfl
  have D2 := c.def_ 2 (d := fn_[2]) rfl
  have D3 := c.def_ 3 (d := fn_[3]) rfl
  have D4 := c.def_ 4 (d := fn_[4]) rfl
  have D5 := c.def_ 5 (d := fn_[5]) rfl
  have D6 := c.def_ 6 (d := fn_[6]) rfl
  have D7 := c.def_ 7 (d := fn_[7]) rfl
  have D8 := c.def_ 8 (d := fn_[8]) rfl
  have D9 := c.def_ 9 (d := fn_[9]) rfl
  have D10 := c.def_ 10 (d := fn_[10]) rfl
  have D11 := c.def_ 11 (d := fn_[11]) rfl
  have D12 := c.def_ 12 (d := fn_[12]) rfl
  have D13 := c.def_ 13 (d := fn_[13]) rfl
  have D14 := c.def_ 14 (d := fn_[14]) rfl
  have D15 := c.def_ 15 (d := fn_[15]) rfl
  have D16 := c.def_ 16 (d := fn_[16]) rfl
  have D17 := c.def_ 17 (d := fn_[17]) rfl
  have D18 := c.def_ 18 (d := fn_[18]) rfl
  have D19 := c.def_ 19 (d := fn_[19]) rfl
  obtain ⟨fdB, FB⟩ := (D0 : ∃ fd, FnS K "_law_bag" "_law_bag" s__law_bag [] (He.ga K "_law_bag") fd)
  obtain ⟨fd, F⟩ := (D19 : ∃ fd, FnS K "law" "law" s_law [] (He.ga K "law") fd)
  have e := hfa.symm.trans (He.glo_ok X G (c.fact 19 (f := .glo "law") rfl))
  cases e
  have b := FunD.bindsA (ps := ["_law_script"]) F fun _ _ _ _ _ _ us hl => match us, hl with | [_], _ => rfl
  refine ⟨fd, fun s v => b s [v] rfl, fun base _ _ tb => ?_⟩
  have hSup : SupF P mg ("/claim/cut.py" : Str) := ⟨He.free_ok X G (c.fact 30 (f := .free "super") rfl), hSt, hSf⟩
  have h_l_pull := ok_l_pull (P := P) (w := w) (base := base) T (D1 : ∃ fd, FnS K "_law_pull" "_law_pull" s_l_pull [] (He.ga K "_law_pull") fd) (He.glo_ok X G (c.fact 1 (f := .glo "_law_pull") rfl))
  have h_InvalidRatio : FncE P w K mg base "InvalidRatio" "given" "InvalidRatio" := xcls_ok ((He.ba (He.ba (He.ba (He.ba (He.ba ex_ok).2).2).2).2).1) hSup (He.glo_ok X G (c.fact 42 (f := .glo "InvalidRatio") rfl)) parB_given
  have h_is_number := ok_is_number (P := P) (w := w) (base := base) T (D2 : ∃ fd, FnS K "is_number" "is_number" s_is_number [] (He.ga K "is_number") fd) (He.glo_ok X G (c.fact 2 (f := .glo "is_number") rfl)) len_is_number pure_is_number
  have h_common_divisor := ok_common_divisor (P := P) (w := w) (base := base) T (D3 : ∃ fd, FnS K "common_divisor" "common_divisor" s_common_divisor [] (He.ga K "common_divisor") fd) (He.glo_ok X G (c.fact 3 (f := .glo "common_divisor") rfl)) len_common_divisor pure_common_divisor
  have h_figures_number := ok_figures_number (P := P) (w := w) (base := base) T (D4 : ∃ fd, FnS K "figures_number" "figures_number" s_figures_number [] (He.ga K "figures_number") fd) (He.glo_ok X G (c.fact 4 (f := .glo "figures_number") rfl)) len_figures_number pure_figures_number
  have h_Ratio_initB := ok_Ratio_initB (P := P) (w := w) (base := base) T h_is_number h_common_divisor (D5 : ∃ fd, FnS K "__init__" "Ratio.__init__" s_Ratio_initB [.int 1] (ma' K "Ratio" "__init__") fd) (He.mkr_ok (c.fact 43 (f := .mkr "Ratio") rfl)) (He.glo_ok X G (c.fact 44 (f := .glo "Ratio") rfl)) len_Ratio_initB pure_Ratio_initB
  have h_Ratio_strB := ok_Ratio_strB (P := P) (w := w) (base := base) T (D6 : ∃ fd, FnS K "__str__" "Ratio.__str__" s_Ratio_strB [] (ma' K "Ratio" "__str__") fd) (He.meth_ok (c.fact 6 (f := .meth "Ratio" "__str__") rfl)) (He.cls_ok (c.fact 45 (f := .cls "Ratio") rfl)) len_Ratio_strB pure_Ratio_strB
  have hL_Ratio_read := clmB_ok ((He.ba (He.ba (He.ba (He.ba (He.ba (He.ba ex_ok).2).2).2).2).2).1)
  have h_Ratio_read := ok_Ratio_read (P := P) (w := w) (base := base) T h_InvalidRatio h_figures_number h_Ratio_initB h_Ratio_strB hL_Ratio_read (fnC_ok (st := s_Ratio_read) hL_Ratio_read ((He.ba (He.ba (He.ba (He.ba (He.ba (He.ba (He.ba ex_ok).2).2).2).2).2).2).1) (List.cons.inj hcl).1) len_Ratio_read pure_Ratio_read
  have h_l_pick := ok_l_pick (P := P) (w := w) (base := base) T h_l_pull (D8 : ∃ fd, FnS K "_law_pick" "_law_pick" s_l_pick [] (He.ga K "_law_pick") fd) (He.glo_ok X G (c.fact 8 (f := .glo "_law_pick") rfl)) len_l_pick pure_l_pick
  have h_l_kind := ok_l_kind (P := P) (w := w) (base := base) T (D9 : ∃ fd, FnS K "_law_kind" "_law_kind" s_l_kind [] (He.ga K "_law_kind") fd) (He.glo_ok X G (c.fact 9 (f := .glo "_law_kind") rfl)) len_l_kind pure_l_kind
  have hh_l_same : ∀ n, Fnc P w K mg base "_law_same" (1 + n) ["_law_found", "_law_due"] (fun _ => True) (A_l_same n) := by
    intro n
    induction n with
    | zero => exact fnc_false (st := s_l_same) (D10 : ∃ fd, FnS K "_law_same" "_law_same" s_l_same [] (He.ga K "_law_same") fd) (He.glo_ok X G (c.fact 10 (f := .glo "_law_same") rfl)) (fun _ _ _ _ _ _ us hl => match us, hl with | [_, _], _ => rfl) (fun _ _ _ _ _ _ us hl => match us, hl with | [_, _], _ => rfl) zero_l_same
    | succ n ih => exact ok_l_same T ih h_l_kind (D10 : ∃ fd, FnS K "_law_same" "_law_same" s_l_same [] (He.ga K "_law_same") fd) (He.glo_ok X G (c.fact 10 (f := .glo "_law_same") rfl)) (len_l_same (n + 1)) (pure_l_same n) (by omega)
  have h_l_same := hh_l_same 4
  have h_l_fields := ok_l_fields (P := P) (w := w) (base := base) T (D11 : ∃ fd, FnS K "_law_fields" "_law_fields" s_l_fields [] (He.ga K "_law_fields") fd) (He.glo_ok X G (c.fact 11 (f := .glo "_law_fields") rfl)) len_l_fields pure_l_fields
  obtain ⟨fdTry, FTry⟩ := (D12 : ∃ fd, FnS K "_law_try" "_law_try" s_l_try [] (He.ga K "_law_try") fd)
  have h_l_try : TryF P w K mg base s_l_try 1 A_l_fields xcs_ := ⟨⟨fdTry, FTry, FTry.bindsN (fun _ _ _ _ _ _ us hl => match us, hl with | [_], _ => rfl)⟩, tx_l_try, ts_l_try, h_l_fields, (He.glo_ok X G (c.fact 12 (f := .glo "_law_try") rfl)), (He.glo_ok X G (c.fact 46 (f := .glo "CallError") rfl)), (He.glo_ok X G (c.fact 47 (f := .glo "Missing") rfl)), (He.glo_ok X G (c.fact 48 (f := .glo "NothingLeft") rfl)), tryB_ok ((He.ba (He.ba (He.ba (He.ba (He.ba (He.ba (He.ba ex_ok).2).2).2).2).2).2).2)⟩
  have h_l_divisor := ok_l_divisor (P := P) (w := w) (base := base) T (D13 : ∃ fd, FnS K "_law_divisor" "_law_divisor" s_l_divisor [] (He.ga K "_law_divisor") fd) (He.glo_ok X G (c.fact 13 (f := .glo "_law_divisor") rfl)) len_l_divisor pure_l_divisor
  have h_l_frac := ok_l_frac (P := P) (w := w) (base := base) T h_l_divisor (D14 : ∃ fd, FnS K "_law_frac" "_law_frac" s_l_frac [] (He.ga K "_law_frac") fd) (He.glo_ok X G (c.fact 14 (f := .glo "_law_frac") rfl)) len_l_frac pure_l_frac
  have h_l_pair := ok_l_pair (P := P) (w := w) (base := base) T (D15 : ∃ fd, FnS K "_law_pair" "_law_pair" s_l_pair [] (He.ga K "_law_pair") fd) (He.glo_ok X G (c.fact 15 (f := .glo "_law_pair") rfl)) len_l_pair pure_l_pair
  have h_l_number := ok_l_number (P := P) (w := w) (base := base) T h_l_pull (D16 : ∃ fd, FnS K "_law_number" "_law_number" s_l_number [] (He.ga K "_law_number") fd) (He.glo_ok X G (c.fact 16 (f := .glo "_law_number") rfl)) len_l_number pure_l_number
  have h_l_frac_text := ok_l_frac_text (P := P) (w := w) (base := base) T (D17 : ∃ fd, FnS K "_law_frac_text" "_law_frac_text" s_l_frac_text [] (He.ga K "_law_frac_text") fd) (He.glo_ok X G (c.fact 17 (f := .glo "_law_frac_text") rfl)) len_l_frac_text pure_l_frac_text
  have h_l_text_ratio := ok_l_text_ratio (P := P) (w := w) (base := base) T h_l_frac_text h_l_frac (D18 : ∃ fd, FnS K "_law_text_ratio" "_law_text_ratio" s_l_text_ratio [] (He.ga K "_law_text_ratio") fd) (He.glo_ok X G (c.fact 18 (f := .glo "_law_text_ratio") rfl)) len_l_text_ratio pure_l_text_ratio
  exact ok_law T h_l_frac h_l_pick h_l_number h_l_pull h_l_frac_text h_l_same h_l_pair h_Ratio_read h_l_try h_l_text_ratio h_Ratio_strB FB (He.glo_ok X G (c.fact 0 (f := .glo "_law_bag") rfl)) F tb

end Bd
open PySem PySem.W PySem.Calls PyProof.Rows
set_option maxRecDepth 100000 in
set_option maxHeartbeats 0 in
theorem PySem.Challenge.cw_pricedcalls_k03_texts_of_ratios_holds : PySem.Challenge.rw_pricedcalls_k03_texts_of_ratios.Holds := by
  w_on; o_law
  refine HandSHeadRun.head_any (r := OpenLaw.row PySem.Challenge.rw_pricedcalls_k03_texts_of_ratios) (q := view (OpenLaw.row PySem.Challenge.rw_pricedcalls_k03_texts_of_ratios).prog [26]) (H := Bd.hk) (ob := Bd.ob) (M := 4000) (loose := Bd.loose_) (d := HandSHeadRun.topDef (OpenLaw.row PySem.Challenge.rw_pricedcalls_k03_texts_of_ratios).prog 26) (kwd := []) Bd.ob_eq
    (by kernel_rfl) (fun s => by kernel_rfl) Bd.run (by kernel_rfl) (by kernel_rfl) (by kernel_rfl) (by rfl) (by first | assumption | decide +kernel) (by decide +kernel) ⟨rfl, rfl, rfl, rfl, rfl, by decide +kernel⟩ ?hw ?hc
  case hw => w_witness2
  case hc =>
    refine LamX.walk_ofTsE (l := PySem.Challenge.rw_pricedcalls_k03_texts_of_ratios) (n := 63) (k := 7 + 1) (x := "_law_script") (CX := fun _ => L2.CX0) rfl (by decide) (by kernel_rfl) ⟨rfl, by decide, by decide⟩ ?F (fun _ _ _ _ _ z => z)
    intro w mg fa h Y G hmg0
    obtain ⟨K, KX, c, hcl⟩ := Y
    have hmg : mg ("law" : PySem.Str) = some (.ref fa) := by
      have e : (HandSHeadRun.topDef (OpenLaw.row PySem.Challenge.rw_pricedcalls_k03_texts_of_ratios).prog 26).name = ("law" : PySem.Str) := by kernel_rfl
      rw [← e]
      exact hmg0
    obtain ⟨fd, hb, hF⟩ := Bd.facts (P := (PySem.Challenge.rw_pricedcalls_k03_texts_of_ratios).prog) (w := w) KX G hmg c.t.d c.more hcl (by kernel_rfl) (by kernel_rfl)
    refine ⟨K, KX, fd, [He.cT K ("law", none)], Bd.spLawT K [Bd.tabL K ("law", none) ("law" ++ ".<locals>.")], fun p hp => ?_, fun p hp => ?_, fun p hp => ?_, hb, fun H a ns hl _ hT hS => ⟨a, ns, rfl, hS, hl, fun p hp => ?_, fun _ => rfl⟩, fun base hK hN hTB => hF base hK hN (hTB _ (List.mem_singleton.mpr rfl))⟩
    · obtain rfl := List.mem_singleton.mp hp
      exact c.empty _ (List.mem_singleton.mpr rfl)
    · obtain rfl := List.mem_singleton.mp hp
      exact c.out _ (List.mem_singleton.mpr rfl)
    · obtain rfl := List.mem_singleton.mp hp
      exact PySem.W.codeHd_of_K KX (c.hd _ (List.mem_singleton.mpr rfl))
    · obtain rfl := List.mem_singleton.mp hp
      exact LamX.TabS.nil (hT _ (List.mem_singleton.mpr rfl))
