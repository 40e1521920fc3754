import PyProof.Rows.All
import Wide.All
import OpenK.AllK
import Wide.FinOn
import KE.KStateDown
import HandS.ForMost
import HandS.More
import HandS.WordsExc
import HandS.Defaults
import HandS.ExcCtx
import HandS.Head0
import HandS.Head1
import HandS.Head2
import HandS.Head3
import HandS.HeadEnd
import HandS.HeadHook4
import HandS.TryOnly
import HandS.Style
import HandS.TupAny
import HandS.TupMul
import HandS.TupLe
import HandS.IsInst
import HandS.Conv
import HandS.Text
import HandS.Deep
import KE.GoesNew
import PyProof.EnumMake
import HandS.Zip
import KE.KDictZip
import HandS.Keys
import HandS.Gcd
import KE.SortData
import KE.GoesZip
import HandS.IterVal
import PyProof.Rows.ReprShort
import PyProof.Rows.RegFStrParts
import HandS.HeadHook2
import PySem.Challenge.RW_whatthepicturesays_k98_whole_strokes_by
set_option Elab.async false
set_option linter.all false
set_option maxRecDepth 100000
set_option maxHeartbeats 0
namespace Hd
open PySem PySem.Spec PyProof.Rows L2
def top (i : Nat) : Stmt := PySem.Challenge.pw_whatthepicturesays_k98_whole_strokes_by.main.body.getD i (.Pass ⟨0, 0, 0, 0⟩)
def dd (i : Nat) (n : Str) : He.DefD := ⟨(n, none), n, n, defArgs (top i), defBody (top i), defScope (top i), [], []⟩
def bltB (K : PySem.W.Frag) (x : Str) (id : String) : Bool := match PySem.W.nsIn K mainGlobals x with
  | some (some (.builtin q)) => decide (q = id)
  | _ => false
def fn : List He.DefD := [dd 6 "is_integer", dd 7 "is_between", dd 13 "is_plain_picture", dd 14 "check_pictures", dd 15 "is_stroke_anew", dd 16 "are_strokes_anew", dd 17 "framed", dd 18 "is_in_frame", dd 19 "drawn_over", dd 20 "stroke_cost", dd 21 "cost_of", dd 22 "runs_of", dd 23 "least_strokes", dd 24 "least_cost", dd 25 "anew", dd 26 "drawn_anew", dd 27 "dots_changed", dd 28 "shows_anew", dd 30 "_law_pot", dd 31 "_law_take", dd 32 "_law_of", dd 33 "_law_cells", dd 34 "_law_some", dd 35 "_law_picture", dd 36 "_law_near", dd 37 "_law_framed", dd 38 "_law_changes", dd 39 "_law_row_cost", dd 40 "_law_cost", dd 41 "_law_spent", dd 42 "_law_leads", dd 43 "_law_lots", dd 44 "_law_are_strokes_right", dd 45 "_law_are_parts_right", dd 46 "_law_right", dd 47 "law"]
def fa : List He.Fa := [.glo "is_integer", .glo "is_between", .glo "is_plain_picture", .glo "check_pictures", .glo "is_stroke_anew", .glo "are_strokes_anew", .glo "framed", .glo "is_in_frame", .glo "drawn_over", .glo "stroke_cost", .glo "cost_of", .glo "runs_of", .glo "least_strokes", .glo "least_cost", .glo "anew", .glo "drawn_anew", .glo "dots_changed", .glo "shows_anew", .glo "_law_pot", .glo "_law_take", .glo "_law_of", .glo "_law_cells", .glo "_law_some", .glo "_law_picture", .glo "_law_near", .glo "_law_framed", .glo "_law_changes", .glo "_law_row_cost", .glo "_law_cost", .glo "_law_spent", .glo "_law_leads", .glo "_law_lots", .glo "_law_are_strokes_right", .glo "_law_are_parts_right", .glo "_law_right", .glo "law", .free "ValueError", .free "abs", .free "all", .free "bool", .free "enumerate", .free "int", .free "isinstance", .free "len", .free "list", .free "max", .free "min", .free "range", .free "repr", .free "str", .free "sum", .free "super", .free "tuple", .free "zip", .str "BLANK_DOT" " ", .int "LIFT" 4, .int "MOST_HIGH" 2000, .int "MOST_WIDE" 20000]
def looseL : List PySem.Str := (["PictureError", "BadSize", "BadPicture", "BadStrokes", "is_integer", "is_between", "BLANK_DOT", "LIFT", "MOST_HIGH", "MOST_WIDE", "is_plain_picture", "check_pictures", "is_stroke_anew", "are_strokes_anew", "framed", "is_in_frame", "drawn_over", "stroke_cost", "cost_of", "runs_of"] : List PySem.Str) ++ (["least_strokes", "least_cost", "anew", "drawn_anew", "dots_changed", "shows_anew", "_law_pot", "_law_take", "_law_of", "_law_cells", "_law_some", "_law_picture", "_law_near", "_law_framed", "_law_changes", "_law_row_cost", "_law_cost", "_law_spent", "_law_leads", "_law_lots"] : List PySem.Str) ++ (["_law_are_strokes_right", "_law_are_parts_right", "_law_right"] : List PySem.Str)
def ex (K : PySem.W.Frag) : Bool := true
abbrev Rr : PySem.W.OpenRow := PySem.W.OpenLaw.row PySem.Challenge.rw_whatthepicturesays_k98_whole_strokes_by
abbrev hk : PySem.W.Hook := He.hookX 4 fa fn [] [] ex
def ob (s : PySem.W.SharedT) : He.AlX := He.obsX 4 fa fn [] [] ex (HandSHeadRun.getT s)
theorem ob_eq (s : PySem.W.SharedT) : ob s = hk.obs s.abs := He.obsX_eq (HandSHeadRun.getT_eq s)
theorem run (w : World) : HandSHeadRun.RunEqI Rr (PySem.W.view Rr.prog [47]) hk ob 4000 looseL w := by
  delta HandSHeadRun.RunEqI
  kernel_rfl
end Hd

set_option Elab.async false
set_option linter.all false
set_option maxRecDepth 100000
set_option maxHeartbeats 1000000
namespace RL
open PySem PySem.Spec PyProof.Rows L2

/-! ### results -/
abbrev D := PyData
abbrev St := L2.St
abbrev Vl := L2.V
/-- a choice whose condition nobody may reckon out (the kernel would count up to the bound) -/
noncomputable def cIf {γ : Type} (c : Prop) (a b : γ) : γ := @ite γ c (Classical.propDecidable c) a b
theorem cIf_pos {γ : Type} {c : Prop} {a b : γ} (h : c) : cIf c a b = a := if_pos h
inductive Rs (α : Type) where
  | bad
  | ok (a : α) (M : List Int)
  | exc (c : Nat) (x : D) (M : List Int)
variable {α β γ : Type}
def Rs.bnd : Rs α → (α → List Int → Rs β) → Rs β
  | .bad, _ => .bad
  | .ok a M, k => k a M
  | .exc c x M, _ => .exc c x M
def Rs.Sat (r : Rs α) (Q : α → List Int → Prop) (E : Nat → D → List Int → Prop) : Prop :=
  match r with
  | .bad => False
  | .ok a M => Q a M
  | .exc c x M => E c x M
def Rs.of : Option α → List Int → Rs α
  | some a, M => .ok a M
  | none, _ => .bad
theorem sat_bnd {r : Rs α} {k : α → List Int → Rs β} {Q E} : (r.bnd k).Sat Q E ↔ r.Sat (fun a M => (k a M).Sat Q E) E := by cases r <;> exact Iff.rfl
theorem Rs.Sat.mono {r : Rs α} {Q Q' : α → List Int → Prop} {E E' : Nat → D → List Int → Prop} (h : r.Sat Q E) (hq : ∀ a M, Q a M → Q' a M) (he : ∀ c x M, E c x M → E' c x M) : r.Sat Q' E' := by
  cases r with
  | bad => exact h
  | ok a M => exact hq a M h
  | exc c x M => exact he c x M h
theorem sat_of {o : Option α} {M : List Int} {Q E} : (Rs.of o M).Sat Q E ↔ ∃ a, o = some a ∧ Q a M := by
  cases o with
  | none => exact ⟨fun h => h.elim, fun ⟨a, e, _⟩ => nomatch e⟩
  | some a => exact ⟨fun h => ⟨a, rfl, h⟩, fun ⟨b, e, h⟩ => by cases e; exact h⟩
@[simp] theorem bnd_ok {a : α} {M : List Int} {k : α → List Int → Rs β} : (Rs.ok a M).bnd k = k a M := rfl
@[simp] theorem bnd_exc {c : Nat} {x : D} {M : List Int} {k : α → List Int → Rs β} : (Rs.exc c x M).bnd k = .exc c x M := rfl
@[simp] theorem bnd_bad {k : α → List Int → Rs β} : (Rs.bad).bnd k = .bad := rfl
@[simp] theorem of_some {a : α} {M : List Int} : Rs.of (some a) M = .ok a M := rfl
@[simp] theorem of_none {M : List Int} : Rs.of (none : Option α) M = .bad := rfl

/-- a name's content: nothing known; data; a list of its own, changed in place; the draws; ints, only read -/
inductive SV where
  | un
  | d (x : D)
  | l (xs : List D)
  | pot
  | r (L : List Int)
abbrev Rho := List SV
abbrev Ev (α : Type) := Rho → List Int → Rs α

/-! ### data in the heap -/
mutual
def Dt (K : PySem.W.Frag) (G : Hp) : D → V → Prop
  | .none, v => v = .non
  | .bool b, v => v = .bl b
  | .int i, v => v = .int i
  | .str x, v => v = .str x
  | .list ds, v => ∃ a xs, v = .ref a ∧ G a = some (.lst xs) ∧ DtA K G ds xs
  | .tuple ds, v => ∃ a xs, v = .ref a ∧ SqT K G a xs ∧ DtA K G ds xs
  | .dict _, _ => False
def DtA (K : PySem.W.Frag) (G : Hp) : List D → List V → Prop
  | [], xs => xs = []
  | d :: ds, xs => ∃ v vs, xs = v :: vs ∧ Dt K G d v ∧ DtA K G ds vs
end
abbrev Ex (G H : Hp) : Prop := ∀ a o, G a = some o → H a = some o
theorem rd_mono {G H : Hp} (e : Ex G H) {a : Addr} {u : HO} (h : Rd G a u) : Rd H a u := by
  rcases h with h | ⟨o, h⟩
  · exact .inl (e _ _ h)
  · exact .inr ⟨o, e _ _ h⟩
theorem sqT_mono {K : PySem.W.Frag} {G H : Hp} (e : Ex G H) {a : Addr} {xs : List V} (h : SqT K G a xs) : SqT K H a xs := by
  rcases h with h | h
  · exact .inl (rd_mono e h)
  · exact .inr h
section
variable {K : PySem.W.Frag} {G H : Hp}
mutual
theorem Dt.mono (e : Ex G H) : ∀ (d : D) (v : V), Dt K G d v → Dt K H d v
  | .none, _, h => by simpa only [Dt] using h
  | .bool _, _, h => by simpa only [Dt] using h
  | .int _, _, h => by simpa only [Dt] using h
  | .str _, _, h => by simpa only [Dt] using h
  | .list ds, _, h => by
    simp only [Dt] at h ⊢
    obtain ⟨a, xs, e1, e2, e3⟩ := h
    exact ⟨a, xs, e1, e _ _ e2, DtA.mono e ds xs e3⟩
  | .tuple ds, _, h => by
    simp only [Dt] at h ⊢
    obtain ⟨a, xs, e1, e2, e3⟩ := h
    exact ⟨a, xs, e1, sqT_mono e e2, DtA.mono e ds xs e3⟩
  | .dict _, _, h => by simp only [Dt] at h
theorem DtA.mono (e : Ex G H) : ∀ (ds : List D) (xs : List V), DtA K G ds xs → DtA K H ds xs
  | [], _, h => by simpa only [DtA] using h
  | d :: ds, _, h => by
    simp only [DtA] at h ⊢
    obtain ⟨v, vs, e1, e2, e3⟩ := h
    exact ⟨v, vs, e1, Dt.mono e d v e2, DtA.mono e ds vs e3⟩
end
mutual
theorem Dt.dp : ∀ (d : D) (v : V), Dt K G d v → Dp K G v d
  | .none, _, h => by simp only [Dt] at h; subst h; exact .non
  | .bool _, _, h => by simp only [Dt] at h; subst h; exact .bl _
  | .int _, _, h => by simp only [Dt] at h; subst h; exact .int _
  | .str _, _, h => by simp only [Dt] at h; subst h; exact .str _
  | .list ds, _, h => by
    simp only [Dt] at h
    obtain ⟨a, xs, rfl, e2, e3⟩ := h
    exact .lst (.of e2) (DtA.dp ds xs e3)
  | .tuple ds, _, h => by
    simp only [Dt] at h
    obtain ⟨a, xs, rfl, e2, e3⟩ := h
    exact .tup e2 (DtA.dp ds xs e3)
  | .dict _, _, h => by simp only [Dt] at h
theorem DtA.dp : ∀ (ds : List D) (xs : List V), DtA K G ds xs → DpAll K G xs ds
  | [], _, h => by simp only [DtA] at h; subst h; exact .nil
  | d :: ds, _, h => by
    simp only [DtA] at h
    obtain ⟨v, vs, rfl, e2, e3⟩ := h
    exact .cons (Dt.dp d v e2) (DtA.dp ds vs e3)
end
theorem DtA.nil : DtA K G [] [] := by simp only [DtA]
theorem DtA.cons {d : D} {v : V} {ds : List D} {vs : List V} (h : Dt K G d v) (t : DtA K G ds vs) : DtA K G (d :: ds) (v :: vs) := by
  simp only [DtA]; exact ⟨v, vs, rfl, h, t⟩
theorem DtA.nil_iff {xs : List V} : DtA K G [] xs ↔ xs = [] := by simp only [DtA]
theorem DtA.cons_iff {d : D} {ds : List D} {xs : List V} : DtA K G (d :: ds) xs ↔ ∃ v vs, xs = v :: vs ∧ Dt K G d v ∧ DtA K G ds vs := by simp only [DtA]
theorem DtA.length : ∀ {ds : List D} {xs : List V}, DtA K G ds xs → xs.length = ds.length
  | [], _, h => by rw [DtA.nil_iff] at h; subst h; rfl
  | d :: ds, _, h => by
    obtain ⟨v, vs, rfl, _, t⟩ := DtA.cons_iff.mp h
    simp only [List.length_cons, DtA.length t]
theorem DtA.get : ∀ {ds : List D} {xs : List V}, DtA K G ds xs → ∀ (i : Nat) (d : D), ds[i]? = some d → ∃ v, xs[i]? = some v ∧ Dt K G d v
  | [], _, _, i, d, e => by simp at e
  | d :: ds, _, h, 0, d', e => by
    obtain ⟨v, vs, rfl, q, _⟩ := DtA.cons_iff.mp h
    simp at e; subst e
    exact ⟨v, by simp, q⟩
  | d :: ds, _, h, i + 1, d', e => by
    obtain ⟨v, vs, rfl, _, t⟩ := DtA.cons_iff.mp h
    simpa using DtA.get t i d' (by simpa using e)
theorem DtA.append : ∀ {ds es : List D} {xs ys : List V}, DtA K G ds xs → DtA K G es ys → DtA K G (ds ++ es) (xs ++ ys)
  | [], _, _, _, h, t => by rw [DtA.nil_iff] at h; subst h; exact t
  | d :: ds, _, _, _, h, t => by
    obtain ⟨v, vs, rfl, q, r⟩ := DtA.cons_iff.mp h
    exact .cons q (DtA.append r t)
theorem DtA.take : ∀ {ds : List D} {xs : List V} (n : Nat), DtA K G ds xs → DtA K G (ds.take n) (xs.take n)
  | _, _, 0, _ => by simpa using DtA.nil
  | [], _, n + 1, h => by rw [DtA.nil_iff] at h; subst h; exact .nil
  | d :: ds, _, n + 1, h => by
    obtain ⟨v, vs, rfl, q, r⟩ := DtA.cons_iff.mp h
    exact .cons q (DtA.take n r)
theorem DtA.drop : ∀ {ds : List D} {xs : List V} (n : Nat), DtA K G ds xs → DtA K G (ds.drop n) (xs.drop n)
  | _, _, 0, h => by simpa using h
  | [], _, n + 1, h => by rw [DtA.nil_iff] at h; subst h; exact .nil
  | d :: ds, _, n + 1, h => by
    obtain ⟨v, vs, rfl, q, r⟩ := DtA.cons_iff.mp h
    exact DtA.drop n r
theorem DtA.set : ∀ {ds : List D} {xs : List V} (i : Nat) {d : D} {v : V}, Dt K G d v → DtA K G ds xs → DtA K G (ds.set i d) (xs.set i v)
  | [], _, i, d, v, q, h => by rw [DtA.nil_iff] at h; subst h; exact .nil
  | _ :: ds, _, 0, d, v, q, h => by
    obtain ⟨_, vs, rfl, _, r⟩ := DtA.cons_iff.mp h
    exact .cons q r
  | _ :: ds, _, i + 1, d, v, q, h => by
    obtain ⟨_, vs, rfl, p, r⟩ := DtA.cons_iff.mp h
    exact .cons p (DtA.set i q r)
theorem DtA.eraseIdx : ∀ {ds : List D} {xs : List V} (i : Nat), DtA K G ds xs → DtA K G (ds.eraseIdx i) (xs.eraseIdx i)
  | [], _, i, h => by rw [DtA.nil_iff] at h; subst h; exact .nil
  | _ :: ds, _, 0, h => by
    obtain ⟨_, vs, rfl, _, r⟩ := DtA.cons_iff.mp h
    exact r
  | _ :: ds, _, i + 1, h => by
    obtain ⟨_, vs, rfl, p, r⟩ := DtA.cons_iff.mp h
    exact .cons p (DtA.eraseIdx i r)
theorem DtA.reverse : ∀ {ds : List D} {xs : List V}, DtA K G ds xs → DtA K G ds.reverse xs.reverse
  | [], _, h => by rw [DtA.nil_iff] at h; subst h; exact .nil
  | _ :: ds, _, h => by
    obtain ⟨_, vs, rfl, p, r⟩ := DtA.cons_iff.mp h
    rw [List.reverse_cons, List.reverse_cons]
    exact .append (DtA.reverse r) (.cons p .nil)
theorem DtA.rep {ds : List D} {xs : List V} (h : DtA K G ds xs) : ∀ n : Nat, DtA K G (List.replicate n ds).flatten (List.replicate n xs).flatten
  | 0 => by simpa using DtA.nil
  | n + 1 => by
    rw [List.replicate_succ, List.replicate_succ, List.flatten_cons, List.flatten_cons]
    exact .append h (DtA.rep h n)
theorem DtA.ints : ∀ {ns : List Int} {xs : List V}, DtA K G (ns.map .int) xs ↔ xs = ns.map .int
  | [], xs => by simp [DtA.nil_iff]
  | n :: ns, xs => by
    rw [List.map_cons, DtA.cons_iff, List.map_cons]
    constructor
    · rintro ⟨v, vs, rfl, h, t⟩
      simp only [Dt] at h
      rw [h, DtA.ints.mp t]
    · rintro rfl
      exact ⟨_, _, rfl, by simp only [Dt], DtA.ints.mpr rfl⟩
end

/-! ### the state -/
/-- where the draws lie, if they do -/
abbrev Pt := Option Addr
theorem upd_keep {p : Pt} {a : Addr} {H : Hp} {o : HO} {x : Option HO} (np : p ≠ some a) (h : ∀ q, p = some q → H q = x) : ∀ q, p = some q → upd H a o q = x := fun q hq => by
  rw [upd_ne (fun z => np (by rw [hq, z]))]; exact h q hq
/-- a step: the ground grows, what stands is kept but the draws, new ground is new -/
structure Stp (p : Pt) (G H G' H' : Hp) : Prop where
  g : Ex G G'
  h : ∀ a o, p ≠ some a → H a = some o → H' a = some o
  n : ∀ a o, G' a = some o → G a = none → H a = none
  p : ∀ q, p = some q → G' q = none
structure Gr (p : Pt) (G H : Hp) (M : List Int) : Prop where
  gh : Ex G H
  pot : ∀ q, p = some q → H q = some (.lst (M.map .int))
  pg : ∀ q, p = some q → G q = none
theorem Stp.refl {p : Pt} {G H : Hp} {M : List Int} (g : Gr p G H M) : Stp p G H G H := ⟨fun _ _ h => h, fun _ _ _ h => h, fun a o h e => by (rw [h] at e; cases e), g.pg⟩
theorem Stp.trans {p : Pt} {G H G1 H1 G2 H2 : Hp} (a : Stp p G H G1 H1) (b : Stp p G1 H1 G2 H2) : Stp p G H G2 H2 where
  g := fun x o h => b.g x o (a.g x o h)
  h := fun x o ne h => b.h x o ne (a.h x o ne h)
  n := fun x o h e => by
    cases q : G1 x with
    | some u => exact a.n x u q e
    | none =>
      have z := b.n x o h q
      have ne : p ≠ some x := fun e' => by rw [b.p x e'] at h; cases h
      cases r : H x with
      | none => rfl
      | some u => rw [a.h x u ne r] at z; cases z
  p := b.p
structure Bs where
  p : Pt
  G : Hp
  H : Hp
/-- a list of ints that is only read -/
def RoL (K : PySem.W.Frag) (p : Pt) (H : Hp) (a : Addr) (L : List Int) : Prop := (p ≠ some a ∧ ∃ ob, H a = some (.frz ob (.lst (L.map .int)))) ∨
  ∃ (o : Obj) (its : Array Value) (n : Nat), K.lookup a = some o ∧ o.cls = .type "list" ∧ o.dict = none ∧ o.data = .seq its n ∧ its.size ≤ sizeLine ∧ Vals (L.map V.int) its.toList
theorem RoL.sq {K : PySem.W.Frag} {p : Pt} {H : Hp} {a : Addr} {L : List Int} (h : RoL K p H a L) : SqL K H a (L.map .int) := h.imp (fun ⟨_, ob, e⟩ => .inr ⟨ob, e⟩) id
theorem RoL.step {K : PySem.W.Frag} {p : Pt} {G G' H H' : Hp} {a : Addr} {L : List Int} (s : Stp p G H G' H') (h : RoL K p H a L) : RoL K p H' a L := h.imp (fun ⟨n, ob, e⟩ => ⟨n, ob, s.h a _ n e⟩) id
theorem RoL.upd {K : PySem.W.Frag} {p : Pt} {H : Hp} {a b : Addr} {o : HO} {L : List Int} (h : RoL K p H a L) (n : ∀ ob u, H b ≠ some (.frz ob u)) : RoL K p (L2.upd H b o) a L :=
  h.imp (fun ⟨np, ob, e⟩ => ⟨np, ob, by rw [upd_ne (fun z => by subst z; exact n _ _ e)]; exact e⟩) id
def Own (ρ : Rho) (σ : St) (i : Nat) (a : Addr) : Prop := (∃ xs, ρ[i]? = some (.l xs)) ∧ σ[i]? = some (some (.ref a))
def Slot (K : PySem.W.Frag) (B : Bs) (G H : Hp) (o : Option (Option V)) : SV → Prop
  | .un => True
  | .d x => ∃ v, o = some (some v) ∧ Dt K G x v
  | .l xs => ∃ a vs, o = some (some (.ref a)) ∧ H a = some (.lst vs) ∧ DtA K G xs vs ∧ G a = none ∧ B.H a = none ∧ B.p ≠ some a
  | .pot => ∃ q, B.p = some q ∧ o = some (some (.ref q))
  | .r L => ∃ a, o = some (some (.ref a)) ∧ RoL K B.p H a L
structure Rl (K : PySem.W.Frag) (B : Bs) (G : Hp) (σ : St) (H : Hp) (ρ : Rho) (M : List Int) : Prop where
  gr : Gr B.p G H M
  st : Stp B.p B.G B.H G H
  sl : ∀ (i : Nat) x, ρ[i]? = some x → Slot K B G H σ[i]? x
  ds : ∀ (i j : Nat) a, Own ρ σ i a → Own ρ σ j a → i = j
  ln : σ.length = ρ.length
section
variable {K : PySem.W.Frag} {B : Bs} {G G' : Hp} {σ : St} {H H' : Hp} {ρ : Rho} {M M' : List Int}
theorem Slot.step {o : Option (Option V)} (s : Stp B.p G H G' H') : ∀ {x : SV}, Slot K B G H o x → Slot K B G' H' o x
  | .un, _ => trivial
  | .d x, ⟨v, e, h⟩ => ⟨v, e, Dt.mono s.g x v h⟩
  | .l xs, ⟨a, vs, e, h, t, n, b, q⟩ => by
    refine ⟨a, vs, e, s.h a _ q h, DtA.mono s.g xs vs t, ?_, b, q⟩
    cases r : G' a with
    | none => rfl
    | some u =>
      have := s.n a u r n
      rw [h] at this
      cases this
  | .pot, h => h
  | .r L, ⟨a, e, h⟩ => ⟨a, e, h.step s⟩
theorem Rl.step (r : Rl K B G σ H ρ M) (s : Stp B.p G H G' H') (g : Gr B.p G' H' M') : Rl K B G' σ H' ρ M' :=
  ⟨g, r.st.trans s, fun i x e => (r.sl i x e).step s, r.ds, r.ln⟩
/-- a fresh address is no own list -/
theorem Rl.not_own (r : Rl K B G σ H ρ M) {a : Addr} (n : H a = none) : ∀ i, ¬ Own ρ σ i a := fun i ⟨⟨xs, e⟩, e2⟩ => by
  obtain ⟨b, vs, h1, h2, _⟩ := r.sl i _ e
  rw [e2] at h1; cases h1
  rw [h2] at n; cases n
/-- a fresh object is laid, or written again -/
theorem Rl.upd (r : Rl K B G σ H ρ M) {a : Addr} {o : HO} (no : ∀ i : Nat, ¬ Own ρ σ i a) (ng : G a = none) (nb : B.H a = none) (np : B.p ≠ some a) (hn : ∀ ob u, H a ≠ some (.frz ob u)) : Rl K B G σ (upd H a o) ρ M where
  gr := ⟨fun b u h => by rw [upd_ne (fun e => by subst e; rw [ng] at h; cases h)]; exact r.gr.gh b u h, upd_keep np r.gr.pot, r.gr.pg⟩
  st := ⟨r.st.g, fun b u ne h => by rw [upd_ne (fun e => by subst e; rw [nb] at h; cases h)]; exact r.st.h b u ne h, r.st.n, r.st.p⟩
  sl := fun i x e => by
    have q := r.sl i x e
    cases x with
    | un => trivial
    | d x => exact q
    | l xs =>
      obtain ⟨b, vs, e1, e2, e3⟩ := q
      refine ⟨b, vs, e1, ?_, e3⟩
      rw [upd_ne (fun z => by subst z; exact no i ⟨⟨xs, e⟩, e1⟩)]
      exact e2
    | pot => exact q
    | r L => obtain ⟨b, e1, h1⟩ := q; exact ⟨b, e1, h1.upd hn⟩
  ds := r.ds
  ln := r.ln
/-- ground grows by a fresh address -/
theorem Gr.lay {p : Pt} {a : Addr} {o : HO} (g : Gr p G H M) (n : H a = none) (np : p ≠ some a) : Gr p (L2.upd G a o) (L2.upd H a o) M where
  gh := fun b u h => by
    by_cases e : b = a
    · subst e; rw [upd_same] at h ⊢; exact h
    · rw [upd_ne e] at h ⊢; exact g.gh b u h
  pot := upd_keep np g.pot
  pg := upd_keep np g.pg
theorem Gr.free {p : Pt} {a : Addr} (g : Gr p G H M) (n : H a = none) : G a = none := by
  cases q : G a with
  | none => rfl
  | some u => rw [g.gh a u q] at n; cases n
theorem Gr.nep {p : Pt} {a : Addr} (g : Gr p G H M) (n : H a = none) : p ≠ some a := fun e => by rw [g.pot a e] at n; cases n
theorem Stp.lay {p : Pt} {a : Addr} {o : HO} (g : Gr p G H M) (n : H a = none) : Stp p G H (L2.upd G a o) (L2.upd H a o) where
  g := fun b u h => by rw [upd_ne (fun e => by subst e; rw [g.free n] at h; cases h)]; exact h
  h := fun b u _ h => by rw [upd_ne (fun e => by subst e; rw [n] at h; cases h)]; exact h
  n := fun b u h e => by
    by_cases q : b = a
    · subst q; exact n
    · rw [upd_ne q, e] at h; cases h
  p := upd_keep (g.nep n) g.pg
/-- a fresh object outside the ground -/
theorem Gr.put {p : Pt} {a : Addr} {o : HO} (g : Gr p G H M) (n : H a = none) : Gr p G (L2.upd H a o) M where
  gh := fun b u h => by rw [upd_ne (fun e => by subst e; rw [g.free n] at h; cases h)]; exact g.gh b u h
  pot := upd_keep (g.nep n) g.pot
  pg := g.pg
theorem Stp.put {p : Pt} {a : Addr} {o : HO} (g : Gr p G H M) (n : H a = none) : Stp p G H G (L2.upd H a o) where
  g := fun _ _ h => h
  h := fun b u _ h => by rw [upd_ne (fun e => by subst e; rw [n] at h; cases h)]; exact h
  n := fun b u h e => by rw [e] at h; cases h
  p := g.pg
/-- a fresh list joins the ground -/
theorem Gr.freeze {p : Pt} {a : Addr} {o : HO} (g : Gr p G H M) (h : H a = some o) (np : p ≠ some a) : Gr p (L2.upd G a o) H M where
  gh := fun b u e => by
    by_cases q : b = a
    · subst q; rw [upd_same] at e; rw [h]; exact e
    · rw [upd_ne q] at e; exact g.gh b u e
  pot := g.pot
  pg := upd_keep np g.pg
theorem Stp.freeze {p : Pt} {a : Addr} {o : HO} {G0 H0 : Hp} (s : Stp p G0 H0 G H) (ng : G a = none) (n0 : H0 a = none) (np : p ≠ some a) : Stp p G0 H0 (L2.upd G a o) H where
  g := fun b u h => by
    have := s.g b u h
    rw [upd_ne (fun e => by subst e; rw [ng] at this; cases this)]; exact this
  h := s.h
  n := fun b u h e => by
    by_cases q : b = a
    · subst q; exact n0
    · rw [upd_ne q] at h; exact s.n b u h e
  p := upd_keep np s.p
end

/-- a value that is read: a list may be one that is changed elsewhere -/
def View (K : PySem.W.Frag) (p : Pt) (G H : Hp) : D → V → Prop
  | .list ds, v => ∃ a xs, v = .ref a ∧ H a = some (.lst xs) ∧ DtA K G ds xs ∧ p ≠ some a
  | d, v => Dt K G d v
section
variable {K : PySem.W.Frag} {p : Pt} {G G' H H' : Hp} {M : List Int}
theorem View.of {d : D} {v : V} (g : Gr p G H M) (h : Dt K G d v) : View K p G H d v := by
  cases d with
  | list ds =>
    simp only [Dt] at h
    obtain ⟨a, xs, e1, e2, e3⟩ := h
    exact ⟨a, xs, e1, g.gh a _ e2, e3, fun e => by rw [g.pg a e] at e2; cases e2⟩
  | _ => exact h
theorem View.step {d : D} {v : V} (s : Stp p G H G' H') (h : View K p G H d v) : View K p G' H' d v := by
  cases d with
  | list ds =>
    obtain ⟨a, xs, e1, e2, e3, e4⟩ := h
    exact ⟨a, xs, e1, s.h a _ e4 e2, DtA.mono s.g _ _ e3, e4⟩
  | _ => exact Dt.mono s.g _ _ h
theorem View.dp {d : D} {v : V} (g : Gr p G H M) (h : View K p G H d v) : Dp K H v d := by
  cases d with
  | list ds =>
    obtain ⟨a, xs, rfl, e2, e3, _⟩ := h
    exact .lst (.of e2) (DtA.dp _ _ (DtA.mono g.gh _ _ e3))
  | none => exact Dt.dp _ _ (Dt.mono g.gh .none v h)
  | bool b => exact Dt.dp _ _ (Dt.mono g.gh (.bool b) v h)
  | int b => exact Dt.dp _ _ (Dt.mono g.gh (.int b) v h)
  | str b => exact Dt.dp _ _ (Dt.mono g.gh (.str b) v h)
  | tuple b => exact Dt.dp _ _ (Dt.mono g.gh (.tuple b) v h)
  | dict b => exact Dt.dp _ _ (Dt.mono g.gh (.dict b) v h)
theorem View.int {i : Int} {v : V} (h : View K p G H (.int i) v) : v = .int i := by have h : Dt K G (.int i) v := h; simpa only [Dt] using h
theorem View.str {i : Str} {v : V} (h : View K p G H (.str i) v) : v = .str i := by have h : Dt K G (.str i) v := h; simpa only [Dt] using h
theorem View.bool {i : Bool} {v : V} (h : View K p G H (.bool i) v) : v = .bl i := by have h : Dt K G (.bool i) v := h; simpa only [Dt] using h
theorem View.none {v : V} (h : View K p G H .none v) : v = .non := by have h : Dt K G .none v := h; simpa only [Dt] using h
theorem View.list {ds : List D} {v : V} (h : View K p G H (.list ds) v) : ∃ a xs, v = .ref a ∧ H a = some (.lst xs) ∧ DtA K G ds xs := by
  obtain ⟨a, xs, e1, e2, e3, _⟩ := h
  exact ⟨a, xs, e1, e2, e3⟩
theorem View.tuple {ds : List D} {v : V} (g : Gr p G H M) (h : View K p G H (.tuple ds) v) : ∃ a xs, v = .ref a ∧ SqT K H a xs ∧ DtA K G ds xs := by
  have h : Dt K G (.tuple ds) v := h
  simp only [Dt] at h
  obtain ⟨a, xs, e1, e2, e3⟩ := h
  exact ⟨a, xs, e1, sqT_mono g.gh e2, e3⟩
end
end RL

set_option Elab.async false
set_option linter.all false
set_option maxRecDepth 100000
set_option maxHeartbeats 1000000
namespace RL
open PySem PySem.Spec PyProof.Rows L2

/-! ### the judgement -/
/-- what is fixed while a def's code (or a comprehension's block) runs -/
structure Wb where
  P : Program
  w : World
  K : PySem.W.Frag
  mg : Str → Option Value
  base : Heap
  exq : Nat → D → Value → Option Addr → Hp → Hp → Prop
structure Sc extends Wb where
  N : List Str
  sc : Scope
  st : Str → Bool
  k : Nat
structure Good (c : Sc) (X : Cx) : Prop where
  P : X.prog = c.P
  w : X.w = c.w
  K : X.K = c.K
  mg : X.mg = c.mg
  base : X.base = c.base
  N : X.N = c.N
  sc : X.env.scope = c.sc
  calm : X.calm = true
  rm : Room c.k X.A
  gd : X.A.guards = some []
  st : ∀ x, c.st x = true → X.fn x = true ∨ X.env.scope.names.lookup x = some .local
abbrev Psx (c : Sc) (X : Cx) (E : XK) : Prop := Passes (L2N.CX c.P c.w) X E
/-- what is owed of an exception -/
def XP (c : Wb) (p : Pt) (G H : Hp) (E : XK) (n : Nat) (x : D) (M : List Int) : Prop := ∀ cls d G' H', Stp p G H G' H' → Gr p G' H' M → c.exq n x cls d G' H' → E cls d H'
theorem XP.fwd {c : Wb} {p : Pt} {G H G1 H1 : Hp} {E : XK} {n : Nat} {x : D} {M : List Int} (s : Stp p G H G1 H1) (h : XP c p G H E n x M) : XP c p G1 H1 E n x M := fun cls d G' H' s' g q => h cls d G' H' (s.trans s') g q
/-- how a result lies -/
abbrev Rsl (α β : Type) := Pt → Hp → Hp → Hp → Hp → α → β → Prop
section
variable (K : PySem.W.Frag)
def RDt : Rsl D V := fun _ _ _ G' _ x v => Dt K G' x v
def RVw : Rsl D V := fun p _ _ G' H' x v => View K p G' H' x v
def RFr : Rsl (List D) V := fun p _ H G' H' xs v => ∃ a vs, v = .ref a ∧ H a = none ∧ H' a = some (.lst vs) ∧ G' a = none ∧ p ≠ some a ∧ DtA K G' xs vs
def RVs : Rsl (List D) (List V) := fun p _ _ G' H' xs vs => Paired (View K p G' H') xs vs
end
def RTt : Rsl Bool Bool := fun _ _ _ _ _ a b => a = b
abbrev TX (β : Type) := XK → L2.St → Hp → (β → Hp → Prop) → Prop
def SdX {α β : Type} (c : Sc) (R : Rsl α β) (t : TX β) (f : Ev α) : Prop :=
  ∀ (B : Bs) (G : Hp) (σ : St) (H : Hp) (ρ : Rho) (M : List Int) (Q : β → Hp → Prop) (E : XK), Rl c.K B G σ H ρ M →
    (f ρ M).Sat (fun x M' => ∀ v G' H', Stp B.p G H G' H' → Gr B.p G' H' M' → R B.p G H G' H' x v → Q v H') (XP c.toWb B.p G H E) → t E σ H Q
/-- an expression -/
def J {α : Type} (c : Sc) (R : Rsl α V) (e : Expr) (f : Ev α) : Prop := ∃ t : TX V, (∀ X E, Good c X → Psx c X E → PE X e (t E)) ∧ SdX c R t f
abbrev RE (c : Sc) := J c (RDt c.K)
abbrev RV (c : Sc) := J c (RVw c.K)
abbrev RF (c : Sc) := J c (RFr c.K)
/-- a test -/
def RT (c : Sc) (e : Expr) (f : Ev Bool) : Prop := ∃ t : TX Bool, (∀ X E, Good c X → Psx c X E → PT X e (t E)) ∧ SdX c RTt t f
def RW (c : Sc) (e : Expr) (f : Ev Bool) : Prop := ∃ t : TX Bool, (∀ X E, Good c X → Psx c X E → PW X e (t E)) ∧ SdX c RTt t f
/-- arguments, read -/
def RA (c : Sc) (es : List Expr) (f : Ev (List D)) : Prop := ∃ t : TX (List V), (∀ X E, Good c X → Psx c X E → PA X es (t E)) ∧ SdX c (RVs c.K) t f

section
variable {α β γ δ : Type} {c : Sc} {B : Bs} {G : Hp} {σ : St} {H : Hp} {ρ : Rho} {M : List Int} {E : XK}
theorem SdX.use {R : Rsl α β} {t : TX β} {f : Ev α} {Φ : α → List Int → Prop} {Q : β → Hp → Prop} (s : SdX c R t f) (rl : Rl c.K B G σ H ρ M) (h : (f ρ M).Sat Φ (XP c.toWb B.p G H E))
    (k : ∀ x M1 v G1 H1, Φ x M1 → Stp B.p G H G1 H1 → Gr B.p G1 H1 M1 → R B.p G H G1 H1 x v → Rl c.K B G1 σ H1 ρ M1 → Q v H1) : t E σ H Q :=
  s B G σ H ρ M Q E rl (h.mono (fun x M1 φ v G1 H1 st g r => k x M1 v G1 H1 φ st g r (rl.step st g)) fun _ _ _ z => z)
theorem fwd {G1 H1 : Hp} {r : Rs α} {Φ : α → List Int → Prop} (s : Stp B.p G H G1 H1) (h : r.Sat Φ (XP c.toWb B.p G H E)) : r.Sat Φ (XP c.toWb B.p G1 H1 E) := h.mono (fun _ _ z => z) fun _ _ _ z => z.fwd s
theorem Stp.fresh {p : Pt} {a : Addr} {G H G1 H1 : Hp} {M1 : List Int} (s : Stp p G H G1 H1) (g : Gr p G1 H1 M1) (n : H1 a = none) : H a = none := by
  cases q : H a with
  | none => rfl
  | some u => rw [s.h a u (g.nep n) q] at n; cases n
/-- results that say nothing of the heap ahead -/
theorem J.imp {R : Rsl α V} {S : Rsl β V} {e : Expr} {f : Ev α} {g : α → β} (h : J c R e f)
    (i : ∀ (p : Pt) G H G1 H1 M1 x v, Stp p G H G1 H1 → Gr p G1 H1 M1 → R p G H G1 H1 x v → ∃ G2, Stp p G H G2 H1 ∧ Gr p G2 H1 M1 ∧ S p G H G2 H1 (g x) v) :
    J c S e (fun ρ M => (f ρ M).bnd fun x M1 => .ok (g x) M1) := by
  obtain ⟨t, pe, sd⟩ := h
  refine ⟨t, pe, fun B G σ H ρ M Q E rl h => ?_⟩
  rw [sat_bnd] at h
  refine sd.use rl h fun x M1 v G1 H1 φ st g r _ => ?_
  obtain ⟨G2, s2, g2, r2⟩ := i _ _ _ _ _ _ _ _ st g r
  exact φ v G2 H1 s2 g2 r2
theorem RE.v {e : Expr} {f : Ev D} (h : RE c e f) : RV c e f := by
  obtain ⟨t, pe, sd⟩ := h
  refine ⟨t, pe, fun B G σ H ρ M Q E rl h => ?_⟩
  exact sd.use rl h fun x M1 v G1 H1 φ st g r _ => φ v G1 H1 st g (View.of g r)
/-- a new list, as data -/
def fz (f : Ev (List D)) : Ev D := fun ρ M => (f ρ M).bnd fun xs M1 => .ok (.list xs) M1
theorem RF.e {e : Expr} {f : Ev (List D)} (h : RF c e f) : RE c e (fz f) := J.imp h fun p G H G1 H1 M1 xs v st g ⟨a, vs, e, n, h1, n1, np, t⟩ => by
  refine ⟨_, st.freeze n1 n np, g.freeze h1 np, ?_⟩
  show Dt c.K _ _ v
  simp only [Dt]
  exact ⟨a, vs, e, upd_same, DtA.mono (fun b u hb => by rw [upd_ne (fun z => by subst z; rw [n1] at hb; cases hb)]; exact hb) _ _ t⟩

/-! ### names, constants -/
theorem kindOf_of {X : Cx} (g : Good c X) {x : Str} : X.env.kindOf x = c.sc.names.lookup x := by unfold Env.kindOf; rw [g.sc]
theorem re_const {e : Expr} {d : D} {v : V} (h : ∀ X, Good c X → PE X e (tC v)) (hd : ∀ G, Dt c.K G d v) : RE c e (fun _ M => .ok d M) :=
  ⟨fun _ => tC v, fun X _ g _ => h X g, fun B G σ H ρ M Q E rl h => h v G H (.refl rl.gr) rl.gr (hd G)⟩
theorem re_int {i j pos} : RE c (.Constant (.int i) j pos) (fun _ M => .ok (.int i) M) := re_const (fun _ _ => pe_int) fun _ => by simp only [Dt]
theorem re_bl {i j pos} : RE c (.Constant (.bool i) j pos) (fun _ M => .ok (.bool i) M) := re_const (fun _ _ => pe_bl) fun _ => by simp only [Dt]
theorem re_non {j pos} : RE c (.Constant .none j pos) (fun _ M => .ok .none M) := re_const (fun _ _ => pe_non) fun _ => by simp only [Dt]
theorem re_str {i j pos} : RE c (.Constant (.str i) j pos) (fun _ M => .ok (.str i) M) := re_const (fun _ _ => pe_str) fun _ => by simp only [Dt]
/-- a constant of the module -/
theorem re_glob {x : Str} {v : V} {u : Value} {d : D} {pos : Pos} (hg : c.sc.names.lookup x = some .globalImplicit) (hm : c.mg x = some u) (r : RelV v u) (hd : ∀ G, Dt c.K G d v) (hb : (x == ("__debug__" : Str)) = false := by decide) : RE c (.Name x pos) (fun _ M => .ok d M) :=
  re_const (fun X g => pe_glob (by show X.env.kindOf x = _; rw [kindOf_of g]; exact hg) (by rw [g.mg]; exact hm) r hb) hd
/-- a name as data -/
def vE (i : Nat) : Ev D := fun ρ M => match ρ[i]? with | some (.d x) => .ok x M | _ => .bad
/-- a name that is read -/
def vV (i : Nat) : Ev D := fun ρ M => match ρ[i]? with | some (.d x) => .ok x M | some (.l xs) => .ok (.list xs) M | _ => .bad
theorem vis_of {X : Cx} (g : Good c X) {x : Str} (h : Vis c.sc x) : Vis X.env.scope x := by rw [g.sc]; exact h
theorem re_var {i : Nat} {x : Str} {pos : Pos} (hN : c.N[i]? = some x) (hv : Vis c.sc x) (hd : (x == ("__debug__" : Str)) = false := by decide) (hcd : (x == ("__classdict__" : Str)) = false := by decide) : RE c (.Name x pos) (vE i) := by
  refine ⟨fun _ => tVar i, fun X _ g _ => pe_var (by rw [g.N]; exact hN) (vis_of g hv) hd hcd, fun B G σ H ρ M Q E rl h => ?_⟩
  unfold vE at h
  split at h
  · rename_i y e
    obtain ⟨v, e1, h1⟩ := rl.sl i _ e
    exact ⟨v, e1, h v G H (.refl rl.gr) rl.gr h1⟩
  · exact h.elim
theorem rv_var {i : Nat} {x : Str} {pos : Pos} (hN : c.N[i]? = some x) (hv : Vis c.sc x) (hd : (x == ("__debug__" : Str)) = false := by decide) (hcd : (x == ("__classdict__" : Str)) = false := by decide) : RV c (.Name x pos) (vV i) := by
  refine ⟨fun _ => tVar i, fun X _ g _ => pe_var (by rw [g.N]; exact hN) (vis_of g hv) hd hcd, fun B G σ H ρ M Q E rl h => ?_⟩
  unfold vV at h
  split at h
  · rename_i y e
    obtain ⟨v, e1, h1⟩ := rl.sl i _ e
    exact ⟨v, e1, h v G H (.refl rl.gr) rl.gr (View.of rl.gr h1)⟩
  · rename_i y e
    obtain ⟨a, vs, e1, h1, h2, h3, h4, h5⟩ := rl.sl i _ e
    exact ⟨_, e1, h _ G H (.refl rl.gr) rl.gr ⟨a, vs, rfl, h1, h2, h5⟩⟩
  · exact h.elim

/-! ### operations -/
/-- by values, the operands read -/
def OpX (c : Sc) {α : Type} (R : Rsl α V) (f : Value → Value → Sem Value) (g : D → D → Option α) : Prop := ∃ r : R2, (∀ X, Good c X → OpR X f r) ∧
  ∀ (p : Pt) G H M x y z v u Q, Gr p G H M → View c.K p G H x v → View c.K p G H y u → g x y = some z → (∀ v' G' H', Stp p G H G' H' → Gr p G' H' M → R p G H G' H' z v' → Q v' H') → r v u H Q
def IxX (c : Sc) {α : Type} (R : Rsl α V) (g : D → D → Option α) : Prop := ∃ r : R2, (∀ X, Good c X → IxR X r) ∧
  ∀ (p : Pt) G H M x y z v u Q, Gr p G H M → View c.K p G H x v → View c.K p G H y u → g x y = some z → (∀ v' G' H', Stp p G H G' H' → Gr p G' H' M → R p G H G' H' z v' → Q v' H') → r v u H Q
def CallX (c : Sc) {α : Type} (R : Rsl α V) (f : Value) (g : List D → Option α) : Prop := ∃ r : List V → Hp → VK → Prop, (∀ X, Good c X → CallR X f r) ∧
  ∀ (p : Pt) G H M xs z vs Q, Gr p G H M → Paired (View c.K p G H) xs vs → g xs = some z → (∀ v' G' H', Stp p G H G' H' → Gr p G' H' M → R p G H G' H' z v' → Q v' H') → r vs H Q
/-- results read off the first heap may be read off a later one -/
class Back {α β : Type} (R : Rsl α β) : Prop where
  back : ∀ (p : Pt) G H G1 H1 G2 H2 M2 x v, Stp p G H G1 H1 → Stp p G1 H1 G2 H2 → Gr p G2 H2 M2 → R p G1 H1 G2 H2 x v → R p G H G2 H2 x v
instance {K} : Back (RDt K) := ⟨fun _ _ _ _ _ _ _ _ _ _ _ _ _ h => h⟩
instance {K} : Back (RVw K) := ⟨fun _ _ _ _ _ _ _ _ _ _ _ _ _ h => h⟩
instance {K} : Back (RVs K) := ⟨fun _ _ _ _ _ _ _ _ _ _ _ _ _ h => h⟩
instance : Back RTt := ⟨fun _ _ _ _ _ _ _ _ _ _ _ _ _ h => h⟩
instance {K} : Back (RFr K) := ⟨fun p G H G1 H1 G2 H2 M2 x v s1 s2 g ⟨a, vs, e, n, h1, n1, np, t⟩ => by
  refine ⟨a, vs, e, ?_, h1, n1, np, t⟩
  cases q : H a with
  | none => rfl
  | some u => rw [s1.h a u np q] at n; cases n⟩
def fOp (g : D → D → Option α) (fa fb : Ev D) : Ev α := fun ρ M => (fa ρ M).bnd fun x M1 => (fb ρ M1).bnd fun y M2 => Rs.of (g x y) M2
variable {R : Rsl α V}
theorem SdX.op [Back R] {ta tb : TX V} {fa fb : Ev D} {g : D → D → Option α} {r : R2} (sa : SdX c (RVw c.K) ta fa) (sb : SdX c (RVw c.K) tb fb)
    (hr : ∀ (p : Pt) G H M x y z v u Q, Gr p G H M → View c.K p G H x v → View c.K p G H y u → g x y = some z → (∀ v' G' H', Stp p G H G' H' → Gr p G' H' M → R p G H G' H' z v' → Q v' H') → r v u H Q) :
    SdX c R (fun E => tOp r (ta E) (tb E)) (fOp g fa fb) := by
  intro B G σ H ρ M Q E rl h
  unfold fOp at h
  rw [sat_bnd] at h
  refine sa.use rl h fun x M1 v G1 H1 h1 s1 g1 d1 rl1 => ?_
  rw [sat_bnd] at h1
  refine sb.use rl1 (fwd s1 h1) fun y M2 u G2 H2 h2 s2 g2 d2 rl2 => ?_
  obtain ⟨z, e, q⟩ := sat_of.mp h2
  exact hr _ _ _ _ _ _ _ _ _ _ g2 (d1.step s2) d2 e fun v' G' H' s3 g3 d3 => q v' G' H' ((s1.trans s2).trans s3) g3 (Back.back _ _ _ _ _ _ _ _ _ _ (s1.trans s2) s3 g3 d3)
variable {a b e : Expr} {fa fb fd : Ev D} {pos : Pos}
theorem j_op [Back R] {op : Operator} {g : D → D → Option α} (ho : OpX c R (binaryOp op) g) (ha : RV c a fa) (hb : RV c b fb) : J c R (.BinOp a op b pos) (fOp g fa fb) := by
  obtain ⟨r, o1, o2⟩ := ho
  obtain ⟨ta, pa, sa⟩ := ha
  obtain ⟨tb, pb, sb⟩ := hb
  exact ⟨_, fun X E gd ps => pe_op (o1 X gd) (pa X E gd ps) (pb X E gd ps), sa.op sb o2⟩
theorem re_cmp {op : CmpOp} {g : D → D → Option D} (ho : OpX c (RDt c.K) (compareOp op) g) (ha : RV c a fa) (hb : RV c b fb) (hm : behindInMarks op b = false) : RE c (.Compare a [op] [b] pos) (fOp g fa fb) := by
  obtain ⟨r, o1, o2⟩ := ho
  obtain ⟨ta, pa, sa⟩ := ha
  obtain ⟨tb, pb, sb⟩ := hb
  exact ⟨_, fun X E gd ps => pe_cmpR (o1 X gd) (pa X E gd ps) (pb X E gd ps) hm, sa.op sb o2⟩
/-- a bool, of a value -/
def asB (f : Ev D) : Ev Bool := fun ρ M => (f ρ M).bnd fun x M1 => match x with | .bool b => .ok b M1 | _ => .bad
theorem SdX.test {t : TX V} {f : Ev D} (s : SdX c (RVw c.K) t f) : SdX c RTt (fun E => tTest (t E)) (asB f) := by
  intro B G σ H ρ M Q E rl h
  unfold asB at h
  rw [sat_bnd] at h
  refine s.use rl h fun x M1 v G1 H1 h1 s1 g1 d1 _ => ?_
  split at h1
  · exact ⟨_, d1.bool, h1 _ G1 H1 s1 g1 rfl⟩
  · exact h1.elim
theorem rt_cmp {op : CmpOp} {g : D → D → Option D} (ho : OpX c (RDt c.K) (compareOp op) g) (ha : RV c a fa) (hb : RV c b fb) (hm : behindInMarks op b = false) : RT c (.Compare a [op] [b] pos) (asB (fOp g fa fb)) := by
  obtain ⟨r, o1, o2⟩ := ho
  obtain ⟨ta, pa, sa⟩ := ha
  obtain ⟨tb, pb, sb⟩ := hb
  have sd : SdX c (RDt c.K) (fun E => tOp r (ta E) (tb E)) (fOp g fa fb) := sa.op sb o2
  refine ⟨_, fun X E gd ps => pt_cmpR (o1 X gd) (pa X E gd ps) (pb X E gd ps) hm, ?_⟩
  refine SdX.test (t := fun E => tOp r (ta E) (tb E)) fun B G σ H ρ M Q E rl h => ?_
  exact sd.use rl h fun x M1 v G1 H1 φ st g r _ => φ v G1 H1 st g (View.of g r)
/-- a op b op' c -/
def fCh (g g' : D → D → Option D) (fa fb fd : Ev D) : Ev D := fun ρ M => (fa ρ M).bnd fun x M1 => (fb ρ M1).bnd fun y M2 => (Rs.of (g x y) M2).bnd fun z M2 => match z with
  | .bool true => (fd ρ M2).bnd fun w M3 => Rs.of (g' y w) M3
  | .bool false => .ok (.bool false) M2
  | _ => .bad
theorem SdX.chain {ta tb td : TX V} {g g' : D → D → Option D} {r r' : R2} (sa : SdX c (RVw c.K) ta fa) (sb : SdX c (RVw c.K) tb fb) (sd : SdX c (RVw c.K) td fd)
    (hr : ∀ (p : Pt) G H M x y z v u Q, Gr p G H M → View c.K p G H x v → View c.K p G H y u → g x y = some z → (∀ v' G' H', Stp p G H G' H' → Gr p G' H' M → RDt c.K p G H G' H' z v' → Q v' H') → r v u H Q)
    (hr' : ∀ (p : Pt) G H M x y z v u Q, Gr p G H M → View c.K p G H x v → View c.K p G H y u → g' x y = some z → (∀ v' G' H', Stp p G H G' H' → Gr p G' H' M → RDt c.K p G H G' H' z v' → Q v' H') → r' v u H Q) :
    SdX c (RDt c.K) (fun E => tChain r r' (ta E) (tb E) (td E)) (fCh g g' fa fb fd) := by
  intro B G σ H ρ M Q E rl h
  unfold fCh at h
  rw [sat_bnd] at h
  refine sa.use rl h fun x M1 v G1 H1 h1 s1 g1 d1 rl1 => ?_
  rw [sat_bnd] at h1
  refine sb.use rl1 (fwd s1 h1) fun y M2 u G2 H2 h2 s2 g2 d2 rl2 => ?_
  rw [sat_bnd] at h2
  obtain ⟨z, e, q⟩ := sat_of.mp h2
  refine hr _ _ _ _ _ _ _ _ _ _ g2 (d1.step s2) d2 e fun v' G' H' s3 g3 d3 => ?_
  have d3 : Dt c.K G' z v' := d3
  split at q
  · simp only [Dt] at d3
    refine ⟨true, d3, ?_⟩
    rw [if_pos rfl]
    rw [sat_bnd] at q
    refine sd.use (rl2.step s3 g3) (fwd ((s1.trans s2).trans s3) q) fun w M3 v3 G3 H3 q3 s4 g4 d4 _ => ?_
    obtain ⟨z', e', q'⟩ := sat_of.mp q3
    exact hr' _ _ _ _ _ _ _ _ _ _ g4 (d2.step (s3.trans s4)) d4 e' fun v5 G5 H5 s5 g5 d5 => q' v5 G5 H5 (((s1.trans s2).trans (s3.trans s4)).trans s5) g5 d5
  · simp only [Dt] at d3
    refine ⟨false, d3, ?_⟩
    rw [if_neg (by decide)]
    exact q _ G' H' ((s1.trans s2).trans s3) g3 (by show Dt c.K _ _ _; simp only [Dt])
  · exact q.elim
variable {e3 : Expr}
theorem re_chain {op op' : CmpOp} {g g' : D → D → Option D} (ho : OpX c (RDt c.K) (compareOp op) g) (ho' : OpX c (RDt c.K) (compareOp op') g') (ha : RV c a fa) (hb : RV c b fb) (hd : RV c e3 fd)
    (hm : lastMarks [op, op'] [b, e3] = false := by with_unfolding_all rfl) : RE c (.Compare a [op, op'] [b, e3] pos) (fCh g g' fa fb fd) := by
  obtain ⟨r, o1, o2⟩ := ho
  obtain ⟨r', p1, p2⟩ := ho'
  obtain ⟨ta, pa, sa⟩ := ha
  obtain ⟨tb, pb, sb⟩ := hb
  obtain ⟨td, pd, sd⟩ := hd
  exact ⟨_, fun X E gd ps => pe_chain (o1 X gd) (p1 X gd) (pa X E gd ps) (pb X E gd ps) (pd X E gd ps) hm, sa.chain sb sd o2 p2⟩
theorem rt_chain {op op' : CmpOp} {g g' : D → D → Option D} (ho : OpX c (RDt c.K) (compareOp op) g) (ho' : OpX c (RDt c.K) (compareOp op') g') (ha : RV c a fa) (hb : RV c b fb) (hd : RV c e3 fd)
    (hm : lastMarks [op, op'] [b, e3] = false := by with_unfolding_all rfl) : RT c (.Compare a [op, op'] [b, e3] pos) (asB (fCh g g' fa fb fd)) := by
  obtain ⟨r, o1, o2⟩ := ho
  obtain ⟨r', p1, p2⟩ := ho'
  obtain ⟨ta, pa, sa⟩ := ha
  obtain ⟨tb, pb, sb⟩ := hb
  obtain ⟨td, pd, sd⟩ := hd
  have ss := sa.chain sb sd o2 p2
  refine ⟨_, fun X E gd ps => pt_chain (o1 X gd) (p1 X gd) (pa X E gd ps) (pb X E gd ps) (pd X E gd ps) hm, ?_⟩
  refine SdX.test (t := fun E => tChain r r' (ta E) (tb E) (td E)) fun B G σ H ρ M Q E rl h => ?_
  exact ss.use rl h fun x M1 v G1 H1 φ st g r _ => φ v G1 H1 st g (View.of g r)

/-! ### and, or, not, if -/
variable {ft fu : Ev Bool} {rest : List Expr}
def fAnd (ft fu : Ev Bool) : Ev Bool := fun ρ M => (ft ρ M).bnd fun k M1 => if k = true then fu ρ M1 else .ok false M1
def fOr (ft fu : Ev Bool) : Ev Bool := fun ρ M => (ft ρ M).bnd fun k M1 => if k = true then .ok true M1 else fu ρ M1
def fNot (ft : Ev Bool) : Ev Bool := fun ρ M => (ft ρ M).bnd fun k M1 => .ok (!k) M1
def fIf {α : Type} (ft : Ev Bool) (fa fb : Ev α) : Ev α := fun ρ M => (ft ρ M).bnd fun k M1 => if k = true then fa ρ M1 else fb ρ M1
theorem RW.t (h : RW c e ft) : RT c e ft := let ⟨t, p, s⟩ := h; ⟨t, fun X E g ps => (p X E g ps).pt, s⟩
theorem rw_and1 (h : RT c a ft) : RW c (.BoolOp .And [a] pos) ft := let ⟨t, p, s⟩ := h; ⟨t, fun X E g ps => pw_and1 (p X E g ps), s⟩
theorem rw_or1 (h : RT c a ft) : RW c (.BoolOp .Or [a] pos) ft := let ⟨t, p, s⟩ := h; ⟨t, fun X E g ps => pw_or1 (p X E g ps), s⟩
theorem rw_and (h : RT c a ft) (h2 : RW c (.BoolOp .And (b :: rest) pos) fu) : RW c (.BoolOp .And (a :: b :: rest) pos) (fAnd ft fu) := by
  obtain ⟨t, p, s⟩ := h
  obtain ⟨u, p2, s2⟩ := h2
  refine ⟨fun E => tAnd (t E) (u E), fun X E g ps => pw_and (p X E g ps) (p2 X E g ps), fun B G σ H ρ M Q E rl h => ?_⟩
  unfold fAnd at h
  rw [sat_bnd] at h
  refine s.use rl h fun x M1 v G1 H1 h1 s1 g1 d1 rl1 => ?_
  cases (show x = v from d1)
  cases x with
  | true => exact s2.use rl1 (fwd s1 h1) fun y M2 w G2 H2 h2 s2 g2 d2 _ => h2 w G2 H2 (s1.trans s2) g2 d2
  | false => exact h1 _ G1 H1 s1 g1 rfl
theorem rw_or (h : RT c a ft) (h2 : RW c (.BoolOp .Or (b :: rest) pos) fu) : RW c (.BoolOp .Or (a :: b :: rest) pos) (fOr ft fu) := by
  obtain ⟨t, p, s⟩ := h
  obtain ⟨u, p2, s2⟩ := h2
  refine ⟨fun E => tOr (t E) (u E), fun X E g ps => pw_or (p X E g ps) (p2 X E g ps), fun B G σ H ρ M Q E rl h => ?_⟩
  unfold fOr at h
  rw [sat_bnd] at h
  refine s.use rl h fun x M1 v G1 H1 h1 s1 g1 d1 rl1 => ?_
  cases (show x = v from d1)
  cases x with
  | false => exact s2.use rl1 (fwd s1 h1) fun y M2 w G2 H2 h2 s2 g2 d2 _ => h2 w G2 H2 (s1.trans s2) g2 d2
  | true => exact h1 _ G1 H1 s1 g1 rfl
theorem rt_not (h : RT c a ft) : RT c (.UnaryOp .Not a pos) (fNot ft) := by
  obtain ⟨t, p, s⟩ := h
  refine ⟨fun E => tNot (t E), fun X E g ps => pt_not (p X E g ps), fun B G σ H ρ M Q E rl h => ?_⟩
  unfold fNot at h
  rw [sat_bnd] at h
  refine s.use rl h fun x M1 v G1 H1 h1 s1 g1 d1 rl1 => ?_
  cases (show x = v from d1)
  exact h1 _ G1 H1 s1 g1 rfl
def toD (ft : Ev Bool) : Ev D := fun ρ M => (ft ρ M).bnd fun k M1 => .ok (.bool k) M1
/-- the values of and, or, not: bools -/
def fAndV (fa fb : Ev D) : Ev D := fun ρ M => (fa ρ M).bnd fun x M1 => match x with | .bool true => fb ρ M1 | .bool false => .ok (.bool false) M1 | _ => .bad
def fOrV (fa fb : Ev D) : Ev D := fun ρ M => (fa ρ M).bnd fun x M1 => match x with | .bool false => fb ρ M1 | .bool true => .ok (.bool true) M1 | _ => .bad
def fNotV (fa : Ev D) : Ev D := fun ρ M => (fa ρ M).bnd fun x M1 => match x with | .bool k => .ok (.bool (!k)) M1 | _ => .bad
theorem dtB {K : PySem.W.Frag} {G : Hp} {k : Bool} {v : V} : Dt K G (.bool k) v ↔ v = .bl k := by simp only [Dt]
theorem re_one {op} (h : RE c a fa) : RE c (.BoolOp op [a] pos) fa := let ⟨t, p, s⟩ := h; ⟨t, fun X E g ps => pe_one (p X E g ps), s⟩
theorem re_and (h : RE c a fa) (h2 : RE c (.BoolOp .And (b :: rest) pos) fb) : RE c (.BoolOp .And (a :: b :: rest) pos) (fAndV fa fb) := by
  obtain ⟨t, p, s⟩ := h
  obtain ⟨u, p2, s2⟩ := h2
  refine ⟨fun E => tAndV (t E) (u E), fun X E g ps => pe_and (p X E g ps) (p2 X E g ps), fun B G σ H ρ M Q E rl h => ?_⟩
  unfold fAndV at h
  rw [sat_bnd] at h
  refine s.use rl h fun x M1 v G1 H1 h1 s1 g1 d1 rl1 => ?_
  split at h1
  · exact ⟨true, dtB.mp d1, s2.use rl1 (fwd s1 h1) fun y M2 w G2 H2 h2 s2 g2 d2 _ => h2 w G2 H2 (s1.trans s2) g2 d2⟩
  · exact ⟨false, dtB.mp d1, h1 _ G1 H1 s1 g1 (dtB.mpr rfl)⟩
  · exact h1.elim
theorem re_or (h : RE c a fa) (h2 : RE c (.BoolOp .Or (b :: rest) pos) fb) : RE c (.BoolOp .Or (a :: b :: rest) pos) (fOrV fa fb) := by
  obtain ⟨t, p, s⟩ := h
  obtain ⟨u, p2, s2⟩ := h2
  refine ⟨fun E => tOrV (t E) (u E), fun X E g ps => pe_or (p X E g ps) (p2 X E g ps), fun B G σ H ρ M Q E rl h => ?_⟩
  unfold fOrV at h
  rw [sat_bnd] at h
  refine s.use rl h fun x M1 v G1 H1 h1 s1 g1 d1 rl1 => ?_
  split at h1
  · exact ⟨false, dtB.mp d1, s2.use rl1 (fwd s1 h1) fun y M2 w G2 H2 h2 s2 g2 d2 _ => h2 w G2 H2 (s1.trans s2) g2 d2⟩
  · exact ⟨true, dtB.mp d1, h1 _ G1 H1 s1 g1 (dtB.mpr rfl)⟩
  · exact h1.elim
theorem re_not (h : RE c a fa) : RE c (.UnaryOp .Not a pos) (fNotV fa) := by
  obtain ⟨t, p, s⟩ := h
  refine ⟨fun E => tNotV (t E), fun X E g ps => pe_not (p X E g ps), fun B G σ H ρ M Q E rl h => ?_⟩
  unfold fNotV at h
  rw [sat_bnd] at h
  refine s.use rl h fun x M1 v G1 H1 h1 s1 g1 d1 rl1 => ?_
  split at h1
  · exact ⟨_, dtB.mp d1, h1 _ G1 H1 s1 g1 (dtB.mpr rfl)⟩
  · exact h1.elim
theorem j_if [Back R] {fx fy : Ev α} {e1 : Expr} (h : RT c e1 ft) (ha : J c R a fx) (hb : J c R b fy) : J c R (.IfExp e1 a b pos) (fIf ft fx fy) := by
  obtain ⟨t, p, s⟩ := h
  obtain ⟨ta, pa, sa⟩ := ha
  obtain ⟨tb, pb, sb⟩ := hb
  refine ⟨fun E => tIf (t E) (ta E) (tb E), fun X E g ps => pe_ifExp (p X E g ps) (pa X E g ps) (pb X E g ps), fun B G σ H ρ M Q E rl h => ?_⟩
  unfold fIf at h
  rw [sat_bnd] at h
  refine s.use rl h fun x M1 v G1 H1 h1 s1 g1 d1 rl1 => ?_
  cases (show x = v from d1)
  cases x with
  | true => exact sa.use rl1 (fwd s1 h1) fun y M2 w G2 H2 h2 s2 g2 d2 _ => h2 w G2 H2 (s1.trans s2) g2 (Back.back _ _ _ _ _ _ _ _ _ _ s1 s2 g2 d2)
  | false => exact sb.use rl1 (fwd s1 h1) fun y M2 w G2 H2 h2 s2 g2 d2 _ => h2 w G2 H2 (s1.trans s2) g2 (Back.back _ _ _ _ _ _ _ _ _ _ s1 s2 g2 d2)
/-- a test whose value is a bool (a call, a name ..) -/
theorem rt_val (h : RV c e fa) (he : ∀ (env : Env) whole, isTrue e env whole = (do let v ← whole; standAt e.pos; holding [v] (truthy v)) := by intro _ _; rfl) : RT c e (asB fa) := by
  obtain ⟨t, p, s⟩ := h
  exact ⟨fun E => tTest (t E), fun X E g ps => pt_val (p X E g ps) (he _), s.test⟩
/-- truth of any value -/
def truD : D → Option Bool
  | .none => some false
  | .bool b => some b
  | .int i => some (i != 0)
  | .str y => if y.length ≤ sizeLine then some ((y.length : Int) != 0) else none
  | .list xs => some (!xs.isEmpty)
  | .tuple xs => some (!xs.isEmpty)
  | .dict _ => none
def fTru (fa : Ev D) : Ev Bool := fun ρ M => (fa ρ M).bnd fun x M1 => Rs.of (truD x) M1
theorem DtA.emp {K : PySem.W.Frag} {G : Hp} {ds : List D} {xs : List V} (h : DtA K G ds xs) : (!xs.isEmpty) = !ds.isEmpty := by
  cases ds with
  | nil => rw [DtA.nil_iff.mp h]; rfl
  | cons d ds => obtain ⟨_, _, rfl, _⟩ := DtA.cons_iff.mp h; rfl
theorem rt_tru (h : RV c e fa) (he : ∀ (env : Env) whole, isTrue e env whole = (do let v ← whole; standAt e.pos; holding [v] (truthy v)) := by intro _ _; rfl) : RT c e (fTru fa) := by
  obtain ⟨t, p, s⟩ := h
  refine ⟨fun E => fun σ H Q => t E σ H fun x H' => ∃ k, TruV c.K x H' k ∧ Q k H', fun X E g ps => by rw [← g.K]; exact pt_truth (p X E g ps) (he _), fun B G σ H ρ M Q E rl h => ?_⟩
  unfold fTru at h
  rw [sat_bnd] at h
  refine s.use rl h fun x M1 v G1 H1 h1 s1 g1 d1 rl1 => ?_
  obtain ⟨k, e, q⟩ := sat_of.mp h1
  refine ⟨k, ?_, q k G1 H1 s1 g1 rfl⟩
  cases x with
  | none => rw [View.none d1]; exact (Option.some.inj e).symm
  | bool b => rw [View.bool d1]; exact (Option.some.inj e).symm
  | int b => rw [View.int d1]; exact (Option.some.inj e).symm
  | str b =>
    rw [View.str d1]
    simp only [truD] at e
    split at e
    · rename_i hl
      exact ⟨hl, (Option.some.inj e).symm⟩
    · cases e
  | list b =>
    obtain ⟨a, xs, rfl, e2, e3⟩ := View.list d1
    exact .inl ⟨xs, .of e2, by rw [e3.emp]; exact (Option.some.inj e).symm⟩
  | tuple b =>
    obtain ⟨a, xs, rfl, e2, e3⟩ := View.tuple g1 d1
    exact .inr (.inl ⟨xs, e2, by rw [e3.emp]; exact (Option.some.inj e).symm⟩)
  | dict b => cases e
end
end RL

set_option Elab.async false
set_option linter.all false
set_option maxRecDepth 100000
set_option maxHeartbeats 1000000
namespace RL
open PySem PySem.Spec PyProof.Rows L2
section
variable {α β γ δ : Type} {c : Sc} {B : Bs} {G : Hp} {σ : L2.St} {H : Hp} {ρ : Rho} {M : List Int} {E : XK} {R : Rsl α V}
variable {a b e o : Expr} {es : List Expr} {fa fb fd : Ev D} {pos p : Pos}

/-! ### argument lists -/
def RDs (K : PySem.W.Frag) : Rsl (List D) (List V) := fun _ _ _ G' _ xs vs => DtA K G' xs vs
instance {K} : Back (RDs K) := ⟨fun _ _ _ _ _ _ _ _ _ _ _ _ _ h => h⟩
/-- arguments, as data -/
def RL (c : Sc) (es : List Expr) (f : Ev (List D)) : Prop := ∃ t : TX (List V), (∀ X E, Good c X → Psx c X E → PA X es (t E)) ∧ SdX c (RDs c.K) t f
def fNil : Ev (List D) := fun _ M => .ok [] M
def fCons (fa : Ev D) (fr : Ev (List D)) : Ev (List D) := fun ρ M => (fa ρ M).bnd fun x M1 => (fr ρ M1).bnd fun xs M2 => .ok (x :: xs) M2
theorem star_of (h : ∀ env, starEach (e :: es) env = (false, eval e env) :: starEach es env := by intro _; rfl) : ∀ env, starEach (e :: es) env = (false, eval e env) :: starEach es env := h
theorem ra_nil : RA c [] fNil := ⟨fun _ => tNil, fun _ _ _ _ => pa_nil, fun B G σ H ρ M Q E rl h => h [] G H (.refl rl.gr) rl.gr .nil⟩
theorem rl_nil : RL c [] fNil := ⟨fun _ => tNil, fun _ _ _ _ => pa_nil, fun B G σ H ρ M Q E rl h => h [] G H (.refl rl.gr) rl.gr DtA.nil⟩
theorem ra_cons {fr : Ev (List D)} (h : RV c e fa) (hr : RA c es fr) (hs : ∀ env, starEach (e :: es) env = (false, eval e env) :: starEach es env := by intro _; rfl) : RA c (e :: es) (fCons fa fr) := by
  obtain ⟨t, p, s⟩ := h
  obtain ⟨u, p2, s2⟩ := hr
  refine ⟨fun E => tCons (t E) (u E), fun X E g ps => pa_cons (p X E g ps) (p2 X E g ps) (hs _), fun B G σ H ρ M Q E rl h => ?_⟩
  unfold fCons at h
  rw [sat_bnd] at h
  refine s.use rl h fun x M1 v G1 H1 h1 s1 g1 d1 rl1 => ?_
  rw [sat_bnd] at h1
  exact s2.use rl1 (fwd s1 h1) fun xs M2 vs G2 H2 h2 s2 g2 d2 _ => h2 _ G2 H2 (s1.trans s2) g2 (.cons (View.step s2 d1) d2)
theorem rl_cons {fr : Ev (List D)} (h : RE c e fa) (hr : RL c es fr) (hs : ∀ env, starEach (e :: es) env = (false, eval e env) :: starEach es env := by intro _; rfl) : RL c (e :: es) (fCons fa fr) := by
  obtain ⟨t, p, s⟩ := h
  obtain ⟨u, p2, s2⟩ := hr
  refine ⟨fun E => tCons (t E) (u E), fun X E g ps => pa_cons (p X E g ps) (p2 X E g ps) (hs _), fun B G σ H ρ M Q E rl h => ?_⟩
  unfold fCons at h
  rw [sat_bnd] at h
  refine s.use rl h fun x M1 v G1 H1 h1 s1 g1 d1 rl1 => ?_
  rw [sat_bnd] at h1
  exact s2.use rl1 (fwd s1 h1) fun xs M2 vs G2 H2 h2 s2 g2 d2 _ => h2 _ G2 H2 (s1.trans s2) g2 (.cons (Dt.mono s2.g _ _ d1) d2)

/-! ### displays -/
def fTup (f : Ev (List D)) : Ev D := fun ρ M => (f ρ M).bnd fun xs M1 => if xs.length ≤ 1000 then .ok (.tuple xs) M1 else .bad
def fLst (f : Ev (List D)) : Ev (List D) := fun ρ M => (f ρ M).bnd fun xs M1 => if xs.length ≤ 1000 then .ok xs M1 else .bad
theorem le1000 {n : Nat} (h : n ≤ 1000) : n ≤ sizeLine := by rw [sizeLine_eq]; omega
theorem dtup {K : PySem.W.Frag} {p : Pt} {G H : Hp} {M : List Int} {a : Addr} {vs : List V} {ds : List D} (g : Gr p G H M) (n : H a = none) (h : DtA K G ds vs) : Dt K (upd G a (.tup vs)) (.tuple ds) (.ref a) := by
  simp only [Dt]
  exact ⟨a, vs, rfl, .of upd_same, DtA.mono (Stp.lay (o := .tup vs) g n).g _ _ h⟩
theorem re_tup {x1} {f : Ev (List D)} (h : RL c es f) : RE c (.Tuple es x1 pos) (fTup f) := by
  obtain ⟨t, p, s⟩ := h
  refine ⟨fun E => tTup (t E), fun X E g ps => pe_tup (p X E g ps), fun B G σ H ρ M Q E rl h => ?_⟩
  unfold fTup at h
  rw [sat_bnd] at h
  refine s.use rl h fun x M1 v G1 H1 h1 s1 g1 d1 rl1 => ?_
  split at h1
  · rename_i hl
    have d1 : DtA c.K G1 x v := d1
    refine ⟨by rw [d1.length]; exact le1000 hl, fun q hq => ?_⟩
    exact h1 _ _ _ (s1.trans (.lay g1 hq)) (g1.lay hq (g1.nep hq)) (dtup g1 hq d1)
  · exact h1.elim
theorem rf_lst {f : Ev (List D)} (h : RL c es f) : RF c (.List es pos) (fLst f) := by
  obtain ⟨t, p, s⟩ := h
  refine ⟨fun E => tLst (t E), fun X E g ps => pe_lst (p X E g ps), fun B G σ H ρ M Q E rl h => ?_⟩
  unfold fLst at h
  rw [sat_bnd] at h
  refine s.use rl h fun x M1 v G1 H1 h1 s1 g1 d1 rl1 => ?_
  split at h1
  · rename_i hl
    have d1 : DtA c.K G1 x v := d1
    refine ⟨by rw [d1.length]; exact le1000 hl, fun q hq => ?_⟩
    exact h1 _ _ _ (s1.trans (.put g1 hq)) (g1.put hq) ⟨q, v, rfl, s1.fresh g1 hq, upd_same, g1.free hq, g1.nep hq, d1⟩
  · exact h1.elim

/-! ### calls of built-ins -/
def fCall (g : List D → Option α) (f : Ev (List D)) : Ev α := fun ρ M => (f ρ M).bnd fun xs M1 => Rs.of (g xs) M1
theorem SdX.call [Back R] {t : TX (List V)} {f : Ev (List D)} {g : List D → Option α} {r : List V → Hp → VK → Prop} (s : SdX c (RVs c.K) t f)
    (hr : ∀ (p : Pt) G H M xs z vs Q, Gr p G H M → Paired (View c.K p G H) xs vs → g xs = some z → (∀ v' G' H', Stp p G H G' H' → Gr p G' H' M → R p G H G' H' z v' → Q v' H') → r vs H Q) :
    SdX c R (fun E => tCB r (t E)) (fCall g f) := by
  intro B G σ H ρ M Q E rl h
  unfold fCall at h
  rw [sat_bnd] at h
  refine s.use rl h fun x M1 v G1 H1 h1 s1 g1 d1 rl1 => ?_
  obtain ⟨z, e, q⟩ := sat_of.mp h1
  exact hr _ _ _ _ _ _ _ _ g1 d1 e fun v' G' H' s2 g2 d2 => q v' G' H' (s1.trans s2) g2 (Back.back _ _ _ _ _ _ _ _ _ _ s1 s2 g2 d2)
theorem glI {X : Cx} (g : Good c X) {x : Str} (hg : c.sc.names.lookup x = some .globalImplicit) : Gl X x := by show X.env.kindOf x = _; rw [kindOf_of g]; exact hg
theorem j_callB [Back R] {id : String} {x : Str} {g : List D → Option α} {f : Ev (List D)} (hc : CallX c R (.builtin id) g) (ha : RA c (e :: es) f) (hg : c.sc.names.lookup x = some .globalImplicit) (hm : c.mg x = none) (hv : bootBuiltins x = some (.builtin id))
    (hn : x ≠ "__name__" := by decide) (hdb : (x == ("__debug__" : Str)) = false := by decide) (he : ∀ env, starEach (e :: es) env = (false, eval e env) :: starEach es env := by intro _; rfl) (hpl : ∀ env, (backTo pos (starEach es env)).any (·.1) = false := by intro _; rfl) :
    J c R (.Call (.Name x p) (e :: es) [] pos) (fCall g f) := by
  obtain ⟨r, o1, o2⟩ := hc
  obtain ⟨t, pa, s⟩ := ha
  exact ⟨_, fun X E gd ps => pe_callB (o1 X gd) (glI gd hg) (by rw [gd.mg]; exact hm) hv (pa X E gd ps) hn hdb (he _) (hpl _), s.call o2⟩
theorem j_callT [Back R] {T : String} {x : Str} {g : List D → Option α} {f : Ev (List D)} (hc : CallX c R (.type T) g) (ha : RA c (e :: es) f) (hg : c.sc.names.lookup x = some .globalImplicit) (hm : c.mg x = none) (hv : bootBuiltins x = some (.type T))
    (hn : x ≠ "__name__" := by decide) (hdb : (x == ("__debug__" : Str)) = false := by decide) (he : ∀ env, starEach (e :: es) env = (false, eval e env) :: starEach es env := by intro _; rfl) (hpl : ∀ env, (backTo pos (starEach es env)).any (·.1) = false := by intro _; rfl) :
    J c R (.Call (.Name x p) (e :: es) [] pos) (fCall g f) := by
  obtain ⟨r, o1, o2⟩ := hc
  obtain ⟨t, pa, s⟩ := ha
  exact ⟨_, fun X E gd ps => pe_callTy (o1 X gd) (glI gd hg) (by rw [gd.mg]; exact hm) hv (pa X E gd ps) hn hdb (he _) (hpl _), s.call o2⟩

/-! ### index, slice -/
theorem j_ix [Back R] {g : D → D → Option α} (ho : IxX c R g) (ha : RV c a fa) (hb : RV c b fb) (hs : PlainIx b := by intro _ _; rfl) : J c R (.Subscript a b pos) (fOp g fa fb) := by
  obtain ⟨r, o1, o2⟩ := ho
  obtain ⟨ta, pa, sa⟩ := ha
  obtain ⟨tb, pb, sb⟩ := hb
  exact ⟨_, fun X E gd ps => pe_ix (o1 X gd) (pa X E gd ps) (pb X E gd ps) hs, sa.op sb o2⟩
/-- a slice's part -/
def RO (c : Sc) (e : Option Expr) (f : Ev (Option Int)) : Prop := ∃ t : TX (Option Int), (∀ X E, Good c X → Psx c X E → PO X e (t E)) ∧ SdX c (fun _ _ _ _ _ a b => a = b) t f
def fNo : Ev (Option Int) := fun _ M => .ok none M
def fPt (f : Ev D) : Ev (Option Int) := fun ρ M => (f ρ M).bnd fun x M1 => match x with | .int i => .ok (some i) M1 | _ => .bad
theorem ro_none : RO c none fNo := ⟨fun _ => tNoPart, fun _ _ _ _ => po_none, fun B G σ H ρ M Q E rl h => h none G H (.refl rl.gr) rl.gr rfl⟩
theorem ro_some (h : RV c e fa) : RO c (some e) (fPt fa) := by
  obtain ⟨t, p, s⟩ := h
  refine ⟨fun E => tPart (t E), fun X E g ps => po_some (p X E g ps), fun B G σ H ρ M Q E rl h => ?_⟩
  unfold fPt at h
  rw [sat_bnd] at h
  refine s.use rl h fun x M1 v G1 H1 h1 s1 g1 d1 rl1 => ?_
  split at h1
  · exact ⟨_, View.int d1, h1 _ G1 H1 s1 g1 rfl⟩
  · exact h1.elim
def SlX (c : Sc) {α : Type} (R : Rsl α V) (g : D → Option Int → Option Int → Option α) : Prop := ∃ r, (∀ X, Good c X → SlR X r) ∧
  ∀ (p : Pt) G H M x lo hi z v Q, Gr p G H M → View c.K p G H x v → g x lo hi = some z → (∀ v' G' H', Stp p G H G' H' → Gr p G' H' M → R p G H G' H' z v' → Q v' H') → r v lo hi H Q
def fSl (g : D → Option Int → Option Int → Option α) (fa : Ev D) (fl fh : Ev (Option Int)) : Ev α := fun ρ M => (fa ρ M).bnd fun x M1 => (fl ρ M1).bnd fun l M2 => (fh ρ M2).bnd fun h M3 => Rs.of (g x l h) M3
theorem j_sl [Back R] {g : D → Option Int → Option Int → Option α} {lo hi : Option Expr} {fl fh : Ev (Option Int)} {p2 : Pos} (hr : SlX c R g) (ha : RV c a fa) (hl : RO c lo fl) (hh : RO c hi fh) : J c R (.Subscript a (.Slice lo hi none p2) pos) (fSl g fa fl fh) := by
  obtain ⟨r, o1, o2⟩ := hr
  obtain ⟨ta, pa, sa⟩ := ha
  obtain ⟨tl, pl, sl⟩ := hl
  obtain ⟨th, ph, sh⟩ := hh
  refine ⟨fun E => tSl r (ta E) (tl E) (th E), fun X E gd ps => pe_slice (o1 X gd) (pa X E gd ps) (pl X E gd ps) (ph X E gd ps), fun B G σ H ρ M Q E rl h => ?_⟩
  unfold fSl at h
  rw [sat_bnd] at h
  refine sa.use rl h fun x M1 v G1 H1 h1 s1 g1 d1 rl1 => ?_
  rw [sat_bnd] at h1
  refine sl.use rl1 (fwd s1 h1) fun l M2 l' G2 H2 h2 s2 g2 d2 rl2 => ?_
  cases (show l = l' from d2)
  rw [sat_bnd] at h2
  refine sh.use rl2 (fwd (s1.trans s2) h2) fun u M3 u' G3 H3 h3 s3 g3 d3 rl3 => ?_
  cases (show u = u' from d3)
  obtain ⟨z, e, q⟩ := sat_of.mp h3
  exact o2 _ _ _ _ _ _ _ _ _ _ g3 (View.step (s2.trans s3) d1) e fun v' G' H' s4 g4 d4 => q v' G' H' (((s1.trans s2).trans s3).trans s4) g4 (Back.back _ _ _ _ _ _ _ _ _ _ ((s1.trans s2).trans s3) s4 g4 d4)
/-- unary minus -/
def fNeg (fa : Ev D) : Ev D := fun ρ M => (fa ρ M).bnd fun x M1 => match x with | .int i => .ok (.int (-i)) M1 | _ => .bad
theorem dtI {K : PySem.W.Frag} {G : Hp} {k : Int} {v : V} : Dt K G (.int k) v ↔ v = .int k := by simp only [Dt]
theorem dtS {K : PySem.W.Frag} {G : Hp} {k : Str} {v : V} : Dt K G (.str k) v ↔ v = .str k := by simp only [Dt]
theorem dtN {K : PySem.W.Frag} {G : Hp} {v : V} : Dt K G .none v ↔ v = .non := by simp only [Dt]
theorem re_neg (ha : RV c a fa) : RE c (.UnaryOp .USub a pos) (fNeg fa) := by
  obtain ⟨t, p, s⟩ := ha
  refine ⟨fun E => tUn (rU fun i => .int (-i)) (t E), fun X E g ps => pe_un un_neg (p X E g ps), fun B G σ H ρ M Q E rl h => ?_⟩
  unfold fNeg at h
  rw [sat_bnd] at h
  refine s.use rl h fun x M1 v G1 H1 h1 s1 g1 d1 rl1 => ?_
  split at h1
  · exact ⟨_, View.int d1, h1 _ G1 H1 s1 g1 (dtI.mpr rfl)⟩
  · exact h1.elim

/-! ### own defs -/
/-- an argument: data, or the draws -/
def ArgR (K : PySem.W.Frag) (p : Pt) (G H : Hp) : SV → V → Prop
  | .d x, v => Dt K G x v
  | .pot, v => ∃ q, p = some q ∧ v = .ref q
  | .r L, v => ∃ a, v = .ref a ∧ RoL K p H a L
  | _, _ => False
theorem ArgR.step {K : PySem.W.Frag} {p : Pt} {G H G' H' : Hp} (s : Stp p G H G' H') : ∀ {x : SV} {v : V}, ArgR K p G H x v → ArgR K p G' H' x v
  | .d x, v, h => Dt.mono s.g x v h
  | .pot, _, h => h
  | .r _, _, ⟨a, e, h⟩ => ⟨a, e, h.step s⟩
  | .un, _, h => h
  | .l _, _, h => h
def RAg (K : PySem.W.Frag) : Rsl (List SV) (List V) := fun p _ _ G' H' xs vs => Paired (ArgR K p G' H') xs vs
def RG (c : Sc) (es : List Expr) (f : Ev (List SV)) : Prop := ∃ t : TX (List V), (∀ X E, Good c X → Psx c X E → PA X es (t E)) ∧ SdX c (RAg c.K) t f
def agNil : Ev (List SV) := fun _ M => .ok [] M
def agCons (fa : Ev D) (fr : Ev (List SV)) : Ev (List SV) := fun ρ M => (fa ρ M).bnd fun x M1 => (fr ρ M1).bnd fun xs M2 => .ok (.d x :: xs) M2
def agPot (i : Nat) (fr : Ev (List SV)) : Ev (List SV) := fun ρ M => match ρ[i]? with | some .pot => (fr ρ M).bnd fun xs M2 => .ok (.pot :: xs) M2 | some (.r L) => (fr ρ M).bnd fun xs M2 => .ok (.r L :: xs) M2 | _ => .bad
theorem rg_nil : RG c [] agNil := ⟨fun _ => tNil, fun _ _ _ _ => pa_nil, fun B G σ H ρ M Q E rl h => h [] G H (.refl rl.gr) rl.gr .nil⟩
theorem rg_cons {fr : Ev (List SV)} (h : RE c e fa) (hr : RG c es fr) (hs : ∀ env, starEach (e :: es) env = (false, eval e env) :: starEach es env := by intro _; rfl) : RG c (e :: es) (agCons fa fr) := by
  obtain ⟨t, p, s⟩ := h
  obtain ⟨u, p2, s2⟩ := hr
  refine ⟨fun E => tCons (t E) (u E), fun X E g ps => pa_cons (p X E g ps) (p2 X E g ps) (hs _), fun B G σ H ρ M Q E rl h => ?_⟩
  unfold agCons at h
  rw [sat_bnd] at h
  refine s.use rl h fun x M1 v G1 H1 h1 s1 g1 d1 rl1 => ?_
  rw [sat_bnd] at h1
  exact s2.use rl1 (fwd s1 h1) fun xs M2 vs G2 H2 h2 s2 g2 d2 _ => h2 _ G2 H2 (s1.trans s2) g2 (.cons (Dt.mono s2.g _ _ d1) d2)
theorem rg_pot {fr : Ev (List SV)} {i : Nat} {x : Str} (hN : c.N[i]? = some x) (hv : Vis c.sc x) (hr : RG c es fr) (hd : (x == ("__debug__" : Str)) = false := by decide) (hcd : (x == ("__classdict__" : Str)) = false := by decide)
    (hs : ∀ env, starEach (.Name x p :: es) env = (false, eval (.Name x p) env) :: starEach es env := by intro _; rfl) : RG c (.Name x p :: es) (agPot i fr) := by
  obtain ⟨u, p2, s2⟩ := hr
  refine ⟨fun E => tCons (tVar i) (u E), fun X E g ps => pa_cons (pe_var (by rw [g.N]; exact hN) (vis_of g hv) hd hcd) (p2 X E g ps) (hs _), fun B G σ H ρ M Q E rl h => ?_⟩
  unfold agPot at h
  split at h
  · rename_i e1
    obtain ⟨q, eq, e2⟩ := (show Slot c.K B G H σ[i]? .pot from rl.sl i _ e1)
    refine ⟨.ref q, e2, ?_⟩
    rw [sat_bnd] at h
    exact s2.use rl h fun xs M2 vs G2 H2 h2 s2 g2 d2 _ => h2 _ G2 H2 s2 g2 (.cons ⟨q, eq, rfl⟩ d2)
  · rename_i L e1
    obtain ⟨a, e2, ro⟩ := (show Slot c.K B G H σ[i]? (.r L) from rl.sl i _ e1)
    refine ⟨.ref a, e2, ?_⟩
    rw [sat_bnd] at h
    exact s2.use rl h fun xs M2 vs G2 H2 h2 s2 g2 d2 _ => h2 _ G2 H2 s2 g2 (.cons ⟨a, rfl, ro.step s2⟩ d2)
  · exact h.elim
/-- what a def does to its arguments and the draws -/
abbrev Fb := List SV → List Int → Rs D
def spOf (c : Wb) (F : Fb) : Sp := fun vs H Q E => ∃ p G as M, Gr p G H M ∧ Paired (ArgR c.K p G H) as vs ∧
  (F as M).Sat (fun r M' => ∀ v G' H', Stp p G H G' H' → Gr p G' H' M' → Dt c.K G' r v → Q v H') (XP c p G H E)
/-- the guards are none beside -/
structure FnG (c : Wb) (k : Nat) (f : Addr) (fd : FuncData) (ps : List Str) (F : Fb) : Prop where
  len : ∀ vs H Q E, spOf c F vs H Q E → vs.length = ps.length
  run : ∀ (A : Around) (outer : List Env) (s : Shared) (H : Hp) (args : Args) (us : List Value) (vs : List V) (Q : VK) (E : XK), Room k A → A.guards = some [] → Env0 c.P c.w c.K c.mg c.base A outer s H →
    BindsTo s fd args (ps.zip us) → Vals vs us → spOf c F vs H Q E → codeAny (model c.P c.w) A (.call (.ref f) args) (CR (L2N.CX c.P c.w) outer c.P c.w H s Q E) s
def fFn (F : Fb) (f : Ev (List SV)) : Ev D := fun ρ M => (f ρ M).bnd fun as M1 => F as M1
end
end RL

set_option Elab.async false
set_option linter.all false
set_option maxRecDepth 100000
set_option maxHeartbeats 1000000
namespace RL
open PySem PySem.Spec PyProof.Rows L2
section
variable {α β : Type} {c : Sc} {B : Bs} {G : Hp} {σ : L2.St} {H : Hp} {ρ : Rho} {M : List Int} {E : XK} {R : Rsl α V}
variable {a b e o : Expr} {es : List Expr} {fa fb fd : Ev D} {pos p : Pos}

/-! ### calls of own defs -/
theorem re_fn {k : Nat} {f : Addr} {fd : FuncData} {ps : List Str} {F : Fb} {x : Str} {fe : Ev (List SV)} (Fn : FnG c.toWb k f fd ps F) (hk : k ≤ c.k) (hg : c.sc.names.lookup x = some .globalImplicit) (hm : c.mg x = some (.ref f)) (hkp : PySem.W.keepIn c.K (.ref f) = true)
    (hb : Binds c.K fd ps []) (ha : RG c (e :: es) fe) (hdb : (x == ("__debug__" : Str)) = false := by decide) (he : ∀ env, starEach (e :: es) env = (false, eval e env) :: starEach es env := by intro _; rfl)
    (hpl : ∀ env, (backTo pos (starEach es env)).any (·.1) = false := by intro _; rfl) : RE c (.Call (.Name x p) (e :: es) [] pos) (fFn F fe) := by
  obtain ⟨ta, pa, sa⟩ := ha
  refine ⟨fun E => fun σ H Q => ta E σ H fun vs H1 => spOf c.toWb F vs H1 Q E, fun X E g ps' => ⟨fun pins s σ H Q I h => ?_⟩, fun B G σ H ρ M Q E rl h => ?_⟩
  · have mX : X.mg x = some (.ref f) := by rw [g.mg]; exact hm
    refine wpAny_Call_Name_kw (ld_glob I (glI g hg) mX ?_ hdb)
    refine PySem.W.callWith_K (h₀ := X.base) I.ok.mod.kin (by rw [g.K]; exact hkp) ?_ (he X.env) (hpl X.env)
    refine thn ((pa X E g ps').run pos pins s σ H _ I h) fun us s1 ⟨vs, H1, I1, r, q⟩ => ⟨I1.kIn, ?_⟩
    have hl : us.length = ps.length := by rw [← r.length]; exact Fn.len _ _ _ _ q
    have bt : BindsTo s1 fd ⟨us, []⟩ (ps.zip us) := by
      have z := hb s1 us (by have := I1.kIn; rw [g.K] at this; exact this) (by rw [List.append_nil]; exact hl)
      rwa [List.append_nil] at z
    have e0 := I1.env0
    rw [g.P, g.w, g.K, g.mg, g.base] at e0
    have run := Fn.run X.A X.stack s1 H1 ⟨us, []⟩ us vs Q E (g.rm.mono hk) g.gd e0 bt r q
    rw [← g.P, ← g.w] at run
    refine wpAny_call (codeAny_mono run ?_)
    intro r' s' hq
    match r', hq with
    | .error err, hq => exact ps' pins σ H1 s1 err s' I1 (by rw [← g.P, ← g.w]; exact hq)
    | .ok (.ret u), hq => exact I1.after hq
    | .ok .next, hq => exact False.elim hq
    | .ok .brk, hq => exact False.elim hq
    | .ok .cont, hq => exact False.elim hq
  · unfold fFn at h
    rw [sat_bnd] at h
    refine sa.use rl h fun as M1 vs G1 H1 h1 s1 g1 d1 rl1 => ⟨B.p, G1, as, M1, g1, d1, (fwd s1 h1).mono (fun r M2 q v G2 H2 s2 g2 d2 => q v G2 H2 (s1.trans s2) g2 d2) fun _ _ _ z => z⟩

/-! ### stores -/
def wipeR (ρ : Rho) : List Nat → Rho
  | [] => ρ
  | v :: vs => (wipeR ρ vs).set v .un
theorem wipeR_len (ρ : Rho) : ∀ vs : List Nat, (wipeR ρ vs).length = ρ.length
  | [] => rfl
  | v :: vs => by unfold wipeR; rw [List.length_set, wipeR_len ρ vs]
theorem wipeR_get {ρ : Rho} {i : Nat} {x : SV} : ∀ {vs : List Nat}, (wipeR ρ vs)[i]? = some x → x = .un ∨ (ρ[i]? = some x ∧ i ∉ vs)
  | [], h => .inr ⟨h, by simp⟩
  | v :: vs, h => by
    unfold wipeR at h
    by_cases hi : v = i
    · subst hi
      by_cases hv : v < (wipeR ρ vs).length
      · rw [List.getElem?_set_self hv] at h; cases h; exact .inl rfl
      · rw [List.getElem?_eq_none (by simpa using hv)] at h; cases h
    · rw [List.getElem?_set_ne hi] at h
      rcases wipeR_get h with h | ⟨h1, h2⟩
      · exact .inl h
      · exact .inr ⟨h1, by simp only [List.mem_cons, not_or]; exact ⟨fun e => hi e.symm, h2⟩⟩
theorem Rl.wipe {K : PySem.W.Frag} (r : Rl K B G σ H ρ M) (vs : List Nat) : Rl K B G (wipe σ vs) H (wipeR ρ vs) M where
  gr := r.gr
  st := r.st
  sl := fun i x e => by
    rcases wipeR_get e with rfl | ⟨h1, h2⟩
    · trivial
    · rw [wipe_out h2]; exact r.sl i x h1
  ds := fun i j a ⟨⟨xs, h1⟩, h2⟩ ⟨⟨ys, h3⟩, h4⟩ => by
    rcases wipeR_get h1 with q | ⟨h1, i1⟩
    · cases q
    · rcases wipeR_get h3 with q | ⟨h3, i3⟩
      · cases q
      · rw [wipe_out i1] at h2
        rw [wipe_out i3] at h4
        exact r.ds i j a ⟨⟨xs, h1⟩, h2⟩ ⟨⟨ys, h3⟩, h4⟩
  ln := by rw [wipe_length, wipeR_len]; exact r.ln
theorem get_set {γ : Type} {l : List γ} {i j : Nat} {x y : γ} (h : (l.set i x)[j]? = some y) : (i = j ∧ x = y ∧ i < l.length) ∨ (i ≠ j ∧ l[j]? = some y) := by
  by_cases e : i = j
  · subst e
    by_cases hl : i < l.length
    · rw [List.getElem?_set_self hl] at h; exact .inl ⟨rfl, Option.some.inj h, hl⟩
    · rw [List.getElem?_eq_none (by simpa using hl)] at h; cases h
  · rw [List.getElem?_set_ne e] at h; exact .inr ⟨e, h⟩
/-- a name gets a value -/
theorem Rl.set {K : PySem.W.Frag} (r : Rl K B G σ H ρ M) (i : Nat) {v : V} {x : SV} (h : Slot K B G H (some (some v)) x) (hn : ∀ xs, x = .l xs → ∀ a, v = .ref a → ∀ j, ¬ Own ρ σ j a) : Rl K B G (σ.set i (some v)) H (ρ.set i x) M where
  gr := r.gr
  st := r.st
  sl := fun j y e => by
    rcases get_set e with ⟨rfl, rfl, hl⟩ | ⟨ne, e⟩
    · rw [List.getElem?_set_self (by rw [r.ln]; exact hl)]; exact h
    · rw [List.getElem?_set_ne ne]; exact r.sl j y e
  ds := fun j k a ⟨⟨xs, h1⟩, h2⟩ ⟨⟨ys, h3⟩, h4⟩ => by
    rcases get_set h1 with ⟨rfl, e1, l1⟩ | ⟨n1, h1⟩
    · rcases get_set h3 with ⟨rfl, e3, l3⟩ | ⟨n3, h3⟩
      · rfl
      · rw [List.getElem?_set_ne n3] at h4
        rw [List.getElem?_set_self (by rw [r.ln]; exact l1)] at h2
        cases h2
        exact absurd ⟨⟨ys, h3⟩, h4⟩ (hn xs e1 a rfl k)
    · rw [List.getElem?_set_ne n1] at h2
      rcases get_set h3 with ⟨rfl, e3, l3⟩ | ⟨n3, h3⟩
      · rw [List.getElem?_set_self (by rw [r.ln]; exact l3)] at h4
        cases h4
        exact absurd ⟨⟨xs, h1⟩, h2⟩ (hn ys e3 a rfl j)
      · rw [List.getElem?_set_ne n3] at h4
        exact r.ds j k a ⟨⟨xs, h1⟩, h2⟩ ⟨⟨ys, h3⟩, h4⟩
  ln := by rw [List.length_set, List.length_set]; exact r.ln
/-- a target: what is stored goes to the slots of ws -/
abbrev Pat := D → Rho → Option Rho
def SdG (c : Sc) (ws : List Nat) (t : TG) (g : Pat) : Prop := ∀ (B : Bs) G σ H ρ M x v ρ' (Q : L2.St → Hp → Prop), Rl c.K B G σ H ρ M → Dt c.K G x v → g x ρ = some ρ' → (∀ σ', Rl c.K B G σ' H ρ' M → wipe σ' ws = wipe σ ws → Q σ' H) → t v σ H Q
def RP (c : Sc) (tg : Expr) (ws : List Nat) (g : Pat) : Prop := ∃ t : TG, (∀ X, Good c X → PG X tg t) ∧ SdG c ws t g
def SdGs (c : Sc) (ws : List Nat) (t : TGs) (g : List D → Rho → Option Rho) : Prop := ∀ (B : Bs) G σ H ρ M xs vs ρ' (Q : L2.St → Hp → Prop), Rl c.K B G σ H ρ M → DtA c.K G xs vs → g xs ρ = some ρ' → (∀ σ', Rl c.K B G σ' H ρ' M → wipe σ' ws = wipe σ ws → Q σ' H) → t vs σ H Q
def RPs (c : Sc) (es : List Expr) (ws : List Nat) (g : List D → Rho → Option Rho) : Prop := ∃ t : TGs, (∀ X, Good c X → PGs X es t) ∧ SdGs c ws t g
def pName (i : Nat) : Pat := fun x ρ => some (ρ.set i (.d x))
def pNil : List D → Rho → Option Rho := fun xs ρ => match xs with | [] => some ρ | _ => none
def pCons (g : Pat) (h : List D → Rho → Option Rho) : List D → Rho → Option Rho := fun xs ρ => match xs with | x :: xs => (g x ρ).bind (h xs) | [] => none
def pTup (n : Nat) (h : List D → Rho → Option Rho) : Pat := fun x ρ => match x with | .tuple xs => if xs.length = n then h xs ρ else none | .list xs => if xs.length = n then h xs ρ else none | _ => none
theorem wipe_get {σ : L2.St} {i : Nat} : ∀ {vs : List Nat}, (wipe σ vs)[i]? = if i ∈ vs then (if i < σ.length then some none else none) else σ[i]?
  | [] => by simp [wipe]
  | v :: vs => by
    unfold wipe
    by_cases e : v = i
    · subst e
      simp only [List.mem_cons, true_or, if_true]
      by_cases h : v < σ.length
      · rw [if_pos h, List.getElem?_set_self (by rw [wipe_length]; exact h)]
      · rw [if_neg h, List.getElem?_eq_none (by simpa [wipe_length] using h)]
    · rw [List.getElem?_set_ne e, wipe_get (vs := vs)]
      have : (i ∈ v :: vs) ↔ i ∈ vs := by simp [Ne.symm e]
      by_cases q : i ∈ vs
      · rw [if_pos q, if_pos (this.mpr q)]
      · rw [if_neg q, if_neg fun z => q (this.mp z)]
theorem wipe_eq {σ σ' : L2.St} {vs : List Nat} : wipe σ' vs = wipe σ vs ↔ σ'.length = σ.length ∧ ∀ i, i ∉ vs → σ'[i]? = σ[i]? := by
  constructor
  · intro h
    refine ⟨by have := congrArg List.length h; rwa [wipe_length, wipe_length] at this, fun i hi => ?_⟩
    have := congrArg (·[i]?) h
    simp only [wipe_get, if_neg hi] at this
    exact this
  · rintro ⟨hl, h⟩
    apply List.ext_getElem?
    intro i
    rw [wipe_get, wipe_get]
    by_cases hi : i ∈ vs
    · rw [if_pos hi, if_pos hi, hl]
    · rw [if_neg hi, if_neg hi, h i hi]
theorem wipe_mono {σ σ' : L2.St} {vs ws : List Nat} (h : wipe σ' vs = wipe σ vs) (s : ∀ i ∈ vs, i ∈ ws) : wipe σ' ws = wipe σ ws := by
  rw [wipe_eq] at h ⊢
  exact ⟨h.1, fun i hi => h.2 i fun z => hi (s i z)⟩
theorem rp_name {i : Nat} {x : Str} (hN : c.N.Nodup) (hi : c.N[i]? = some x) (hx : Loc c.sc x) (hs : c.st x = true) : RP c (.Name x pos) [i] (pName i) := by
  refine ⟨gName i, fun X g => pg_name (by rw [g.N]; exact hN) (by rw [g.N]; exact hi) (by rw [g.sc]; exact hx) (g.st x hs), fun B G σ H ρ M x v ρ' Q rl d e k => ?_⟩
  cases e
  exact k _ (rl.set i (x := .d x) ⟨v, rfl, d⟩ fun _ z => nomatch z) (wipe_eq.mpr ⟨List.length_set, fun j hj => List.getElem?_set_ne (by simp at hj; exact Ne.symm hj)⟩)
theorem rps_nil : RPs c [] [] pNil := by
  refine ⟨gNil, fun X g => pgs_nil, fun B G σ H ρ M xs vs ρ' Q rl d e k => ?_⟩
  cases xs with
  | nil => cases e; exact ⟨DtA.nil_iff.mp d, k σ rl rfl⟩
  | cons _ _ => cases e
theorem rps_cons {ws ws' : List Nat} {g : Pat} {h : List D → Rho → Option Rho} (hp : RP c e ws g) (hr : RPs c es ws' h) (hs : ∀ env, (assignEach (e :: es) env).map (·.2) = assign e env :: (assignEach es env).map (·.2) := by intro _; rfl) : RPs c (e :: es) (ws ++ ws') (pCons g h) := by
  obtain ⟨t, p, s⟩ := hp
  obtain ⟨u, p2, s2⟩ := hr
  refine ⟨gCons t u, fun X g => pgs_cons (p X g) (p2 X g) (hs _), fun B G σ H ρ M xs vs ρ' Q rl d e k => ?_⟩
  cases xs with
  | nil => cases e
  | cons x xs =>
    obtain ⟨v, vs, rfl, d1, d2⟩ := DtA.cons_iff.mp d
    refine ⟨v, vs, rfl, ?_⟩
    cases q : g x ρ with
    | none => exact absurd e (by simp [pCons, q])
    | some ρ1 =>
      simp only [pCons, q, Option.bind] at e
      refine s B G σ H ρ M x v ρ1 _ rl d1 q fun σ1 rl1 w1 => ?_
      refine s2 B G σ1 H ρ1 M xs vs ρ' _ rl1 d2 e fun σ2 rl2 w2 => k σ2 rl2 ?_
      exact (wipe_mono w2 fun i hi => List.mem_append_right _ hi).trans (wipe_mono w1 fun i hi => List.mem_append_left _ hi)
theorem PG.or {X : Cx} {e : Expr} {t u : TG} (h1 : PG X e t) (h2 : PG X e u) : PG X e (fun v σ H Q => t v σ H Q ∨ u v σ H Q) := ⟨fun pins s σ H v u Q I r h => h.elim (h1.run pins s σ H v u Q I r) (h2.run pins s σ H v u Q I r)⟩
theorem rp_tup {ws : List Nat} {h : List D → Rho → Option Rho} {k pos} {n : Nat} (hr : RPs c es ws h) (hn : ∀ env, (assignEach es env).length = n := by intro _; rfl) (hst : ∀ env, (assignEach es env).findIdx? (·.1) = none := by intro _; rfl) : RP c (.Tuple es k pos) ws (pTup n h) := by
  obtain ⟨t, p, s⟩ := hr
  refine ⟨fun v σ H Q => gTup c.K n t v σ H Q ∨ gLst c.K n t v σ H Q, fun X g => by rw [← g.K]; exact PG.or (pg_tup g.calm (p X g) (hn _) (hst _)) (pg_lst g.calm (p X g) (hn _) (hst _)), fun B G σ H ρ M x v ρ' Q rl d e k => ?_⟩
  cases x with
  | tuple xs =>
    simp only [pTup] at e
    split at e
    · rename_i hl
      simp only [Dt] at d
      obtain ⟨a, vs, rfl, h1, h2⟩ := d
      refine .inl ⟨a, vs, rfl, sqT_mono rl.gr.gh h1, by rw [h2.length]; exact hl, ?_⟩
      exact s B G σ H ρ M xs vs ρ' Q rl h2 e k
    · cases e
  | list xs =>
    simp only [pTup] at e
    split at e
    · rename_i hl
      simp only [Dt] at d
      obtain ⟨a, vs, rfl, h1, h2⟩ := d
      refine .inr ⟨a, vs, rfl, .of (rl.gr.gh a _ h1), by rw [h2.length]; exact hl, ?_⟩
      exact s B G σ H ρ M xs vs ρ' Q rl h2 e k
    · cases e
  | _ => cases e
end
end RL

set_option Elab.async false
set_option linter.all false
set_option maxRecDepth 100000
set_option maxHeartbeats 1000000
namespace RL
open PySem PySem.Spec PyProof.Rows L2
section
variable {α β : Type} {c : Sc} {B : Bs} {G : Hp} {σ : L2.St} {H : Hp} {ρ : Rho} {M : List Int} {E : XK} {R : Rsl α V}
variable {a b e o tg : Expr} {es : List Expr} {fa fb fd : Ev D} {pos p : Pos}

/-! ### what is walked -/
def ItOk (K : PySem.W.Frag) (p : Pt) (vw : Bool) (J : It) (G H : Hp) (xs : List D) : Prop := ∀ i G2 H2 M2, Ex G G2 → (vw = true → ∀ a o, p ≠ some a → H a = some o → H2 a = some o) → Gr p G2 H2 M2 →
  (i = xs.length → J.stop i H2) ∧ ∀ x, xs[i]? = some x → J.go i H2 ∧ ∀ v H3, J.yld i H2 v H3 → ∃ G3, Stp p G2 H2 G3 H3 ∧ Gr p G3 H3 M2 ∧ Dt K G3 x v
def RIt (K : PySem.W.Frag) (vw : Bool) : Rsl (List D) It := fun p _ _ G' H' xs J => ItOk K p vw J G' H' xs
def RI (c : Sc) (vw : Bool) (tg e : Expr) (f : Ev (List D)) : Prop := ∃ t : TX It, (∀ X E, Good c X → Psx c X E → PI X tg e (t E)) ∧ SdX c (RIt c.K vw) t f
theorem RI.v {vw : Bool} {f : Ev (List D)} (h : RI c false tg e f) : RI c vw tg e f := by
  obtain ⟨t, p, s⟩ := h
  refine ⟨t, p, fun B G σ H ρ M Q E rl h => ?_⟩
  exact s.use rl h fun xs M1 J G1 H1 φ st g r _ => φ J G1 H1 st g fun i G2 H2 M2 e k g2 => r i G2 H2 M2 e (fun z => nomatch z) g2
def seqItems : D → Option (List D)
  | .list xs => some xs
  | .tuple xs => some xs
  | .str y => some (y.cps.toList.map fun k => .str ⟨#[k]⟩)
  | _ => none
def fItems (f : Ev D) : Ev (List D) := fun ρ M => (f ρ M).bnd fun x M1 => Rs.of (seqItems x) M1
/-- a value that reads the same later on -/
def Steady (K : PySem.W.Frag) (p : Pt) (vw : Bool) (G H : Hp) (x : D) (v : V) : Prop := ∀ G2 H2 M2, Ex G G2 → (vw = true → ∀ a o, p ≠ some a → H a = some o → H2 a = some o) → Gr p G2 H2 M2 → View K p G2 H2 x v
theorem steady_dt {K : PySem.W.Frag} {p : Pt} {vw : Bool} {G H : Hp} {x : D} {v : V} (h : Dt K G x v) : Steady K p vw G H x v := fun G2 H2 M2 e _ g => View.of g (Dt.mono e _ _ h)
theorem steady_vw {K : PySem.W.Frag} {p : Pt} {G H : Hp} {x : D} {v : V} (h : View K p G H x v) : Steady K p true G H x v := fun G2 H2 M2 e k g => by
  cases x with
  | list ds =>
    obtain ⟨a, xs, e1, e2, e3, e4⟩ := h
    exact ⟨a, xs, e1, k rfl a _ e4 e2, DtA.mono e _ _ e3, e4⟩
  | _ => exact View.of g (Dt.mono e _ _ h)
theorem SdX.items {te : TX V} {f : Ev D} {vw : Bool} {RR : Rsl D V} (s : SdX c RR te f) (hs : ∀ (p : Pt) G H G' H' M' x v, Gr p G' H' M' → RR p G H G' H' x v → Steady c.K p vw G' H' x v) :
    SdX c (RIt c.K vw) (fun E σ H R => iList c.K (te E) σ H R ∨ iTup c.K (te E) σ H R ∨ iStr (te E) σ H R) (fItems f) := by
  intro B G σ H ρ M Q E rl h
  unfold fItems at h
  rw [sat_bnd] at h
  cases hf : f ρ M with
  | bad => rw [hf] at h; exact h.elim
  | exc n x M' =>
    rw [hf] at h
    exact .inl (s B G σ H ρ M _ E rl (by rw [hf]; exact h))
  | ok x M' =>
    have h' : (f ρ M).Sat (fun y M1 => y = x ∧ (Rs.of (seqItems y) M1).Sat (fun xs M' => ∀ v G' H', Stp B.p G H G' H' → Gr B.p G' H' M' → RIt c.K vw B.p G H G' H' xs v → Q v H') (XP c.toWb B.p G H E)) (XP c.toWb B.p G H E) := by
      rw [hf] at h ⊢
      exact ⟨rfl, h⟩
    cases x with
    | list ds =>
      refine .inl (s.use rl h' fun y M1 v G1 H1 ⟨ey, φ⟩ st g r rl1 => ?_)
      subst ey
      obtain ⟨xs, e, q⟩ := sat_of.mp φ
      cases e
      have sd := hs _ _ _ _ _ _ _ _ g r
      obtain ⟨a, vs, ev, h1, h2, h3⟩ := (sd G1 H1 M1 (fun _ _ z => z) (fun _ _ _ _ z => z) g : View _ _ _ _ (.list ds) v)
      refine ⟨a, ev, ⟨vs, .of h1⟩, q _ G1 H1 st g fun i G2 H2 M2 e k g2 => ?_⟩
      obtain ⟨a', vs', ev', h1', h2', h3'⟩ := (sd G2 H2 M2 e k g2 : View _ _ _ _ (.list ds) v)
      rw [ev] at ev'; cases ev'
      refine ⟨fun hi => ⟨vs', .of h1', by rw [h2'.length]; omega⟩, fun x hx => ?_⟩
      obtain ⟨w, hw, dw⟩ := h2'.get i x hx
      refine ⟨⟨vs', w, .of h1', hw⟩, fun u H3 ⟨eH, y⟩ => ?_⟩
      subst eH
      refine ⟨G2, .refl g2, g2, ?_⟩
      have := y vs' (.of h1')
      rw [hw] at this; cases this
      exact dw
    | tuple ds =>
      refine .inr (.inl (s.use rl h' fun y M1 v G1 H1 ⟨ey, φ⟩ st g r rl1 => ?_))
      subst ey
      obtain ⟨xs, e, q⟩ := sat_of.mp φ
      cases e
      have sd := hs _ _ _ _ _ _ _ _ g r
      obtain ⟨a, vs, ev, h1, h2⟩ := View.tuple g (sd G1 H1 M1 (fun _ _ z => z) (fun _ _ _ _ z => z) g)
      refine ⟨a, ev, ⟨vs, h1⟩, q _ G1 H1 st g fun i G2 H2 M2 e k g2 => ?_⟩
      obtain ⟨a', vs', ev', h1', h2'⟩ := View.tuple g2 (sd G2 H2 M2 e k g2)
      rw [ev] at ev'; cases ev'
      refine ⟨fun hi => ⟨vs', h1', by rw [h2'.length]; omega⟩, fun x hx => ?_⟩
      obtain ⟨w, hw, dw⟩ := h2'.get i x hx
      refine ⟨⟨vs', w, h1', hw⟩, fun u H3 ⟨eH, y⟩ => ?_⟩
      subst eH
      refine ⟨G2, .refl g2, g2, ?_⟩
      have := y vs' h1'
      rw [hw] at this; cases this
      exact dw
    | str y0 =>
      refine .inr (.inr (s.use rl h' fun y M1 v G1 H1 ⟨ey, φ⟩ st g r rl1 => ?_))
      subst ey
      obtain ⟨xs, e, q⟩ := sat_of.mp φ
      cases e
      have sd := hs _ _ _ _ _ _ _ _ g r
      have ev := View.str (sd G1 H1 M1 (fun _ _ z => z) (fun _ _ _ _ z => z) g)
      refine ⟨y0, ev, q _ G1 H1 st g fun i G2 H2 M2 e k g2 => ?_⟩
      refine ⟨fun hi => by
        show y0.cps.size ≤ i
        rw [hi, List.length_map, Array.length_toList]
        exact Nat.le_refl _, fun x hx => ?_⟩
      rw [List.getElem?_map] at hx
      cases hc : y0.cps.toList[i]? with
      | none => rw [hc] at hx; cases hx
      | some k0 =>
        rw [hc] at hx; cases hx
        have hc' : y0.cps[i]? = some k0 := by rw [← hc, Array.getElem?_toList]
        refine ⟨(Array.getElem?_eq_some_iff.mp hc').1, fun u H3 ⟨eH, k1, e1, e2⟩ => ?_⟩
        subst eH
        rw [hc'] at e1; cases e1
        exact ⟨G2, .refl g2, g2, dtS.mpr e2⟩
    | _ => rw [hf] at h; exact h.elim
theorem PI.or {X : Cx} {w1 w2 : TI} (h1 : PI X tg e w1) (h2 : PI X tg e w2) : PI X tg e (fun σ H R => w1 σ H R ∨ w2 σ H R) := ⟨fun pins s σ H R I h => h.elim (h1.run pins s σ H R I) (h2.run pins s σ H R I)⟩
theorem ri_seq (h : RE c e fa) : RI c false tg e (fItems fa) := by
  obtain ⟨t, p, s⟩ := h
  refine ⟨_, fun X E g ps => ?_, s.items fun _ _ _ _ _ _ _ _ _ r => steady_dt r⟩
  rw [← g.K]
  exact PI.or (pi_list (p X E g ps)) (PI.or (pi_tup (p X E g ps)) (pi_str (p X E g ps)))
theorem ri_seqV (h : RV c e fa) : RI c true tg e (fItems fa) := by
  obtain ⟨t, p, s⟩ := h
  refine ⟨_, fun X E g ps => ?_, s.items fun _ _ _ _ _ _ _ _ _ r => steady_vw r⟩
  rw [← g.K]
  exact PI.or (pi_list (p X E g ps)) (PI.or (pi_tup (p X E g ps)) (pi_str (p X E g ps)))
/-- range -/
def rgItems (i : Int) (n : Nat) : List D := (List.range n).map fun k => .int (i + (k : Nat))
noncomputable def fRng1 (f : Ev (List D)) : Ev (List D) := fun ρ M => (f ρ M).bnd fun xs M1 => match xs with
  | [.int j] => cIf (-(2 ^ 62) ≤ j ∧ j < 2 ^ 62) (.ok (rgItems 0 j.toNat) M1) .bad
  | _ => .bad
noncomputable def fRng2 (f : Ev (List D)) : Ev (List D) := fun ρ M => (f ρ M).bnd fun xs M1 => match xs with
  | [.int i, .int j] => cIf (-(2 ^ 62) ≤ i ∧ i < 2 ^ 62 ∧ -(2 ^ 62) ≤ j ∧ j < 2 ^ 62) (.ok (rgItems i (j - i).toNat) M1) .bad
  | _ => .bad
theorem rgItems_len (i : Int) (n : Nat) : (rgItems i n).length = n := by simp [rgItems]
theorem rgItems_get {i : Int} {n k : Nat} {x : D} (h : (rgItems i n)[k]? = some x) : k < n ∧ x = .int (i + (k : Nat)) := by
  unfold rgItems at h
  rw [List.getElem?_map] at h
  by_cases hk : k < n
  · rw [List.getElem?_range hk] at h
    cases h
    exact ⟨hk, rfl⟩
  · rw [List.getElem?_eq_none (by simpa using hk)] at h
    cases h
theorem itr_ok {K : PySem.W.Frag} {p : Pt} {vw : Bool} {G H : Hp} {i : Int} {n : Nat} : ItOk K p vw (Itr i n) G H (rgItems i n) := fun k G2 H2 M2 _ _ g2 => by
  refine ⟨fun hk => by show n ≤ k; rw [hk, rgItems_len]; exact Nat.le_refl _, fun x hx => ?_⟩
  obtain ⟨h1, rfl⟩ := rgItems_get hx
  exact ⟨h1, fun v H3 ⟨e1, e2⟩ => by subst e1; exact ⟨G2, .refl g2, g2, dtI.mpr e2⟩⟩
theorem vws1 {K : PySem.W.Frag} {p : Pt} {G H : Hp} {x : D} {vs : List V} (h : Paired (View K p G H) [x] vs) : ∃ v, vs = [v] ∧ View K p G H x v := by
  cases h with
  | cons r t => cases t; exact ⟨_, rfl, r⟩
theorem vws2 {K : PySem.W.Frag} {p : Pt} {G H : Hp} {x y : D} {vs : List V} (h : Paired (View K p G H) [x, y] vs) : ∃ v w, vs = [v, w] ∧ View K p G H x v ∧ View K p G H y w := by
  cases h with
  | cons r t => obtain ⟨w, rfl, q⟩ := vws1 t; exact ⟨_, _, rfl, r, q⟩
theorem ri_range1 {f : Ev (List D)} {vw : Bool} (ha : RA c [a] f) (hg : c.sc.names.lookup ("range" : Str) = some .globalImplicit) (hm : c.mg "range" = none) (hs : ∀ env, starEach [a] env = [(false, eval a env)] := by intro _; rfl) : RI c vw tg (.Call (.Name "range" p) [a] [] pos) (fRng1 f) := by
  obtain ⟨t, pa, s⟩ := ha
  refine ⟨fun E => iRng1 (t E), fun X E g ps => pi_range1 (glI g hg) (by rw [g.mg]; exact hm) (pa X E g ps) (hs _), fun B G σ H ρ M Q E rl h => ?_⟩
  unfold fRng1 at h
  rw [sat_bnd] at h
  refine s.use rl h fun xs M1 vs G1 H1 h1 s1 g1 d1 rl1 => ?_
  split at h1
  · rename_i j
    unfold cIf at h1
    split at h1
    · rename_i hj
      obtain ⟨v, rfl, d⟩ := vws1 d1
      exact ⟨j, by rw [View.int d], hj.1, hj.2, h1 _ G1 H1 s1 g1 itr_ok⟩
    · exact h1.elim
  · exact h1.elim
theorem ri_range2 {f : Ev (List D)} {vw : Bool} (ha : RA c [a, b] f) (hg : c.sc.names.lookup ("range" : Str) = some .globalImplicit) (hm : c.mg "range" = none) (hs : ∀ env, starEach [a, b] env = [(false, eval a env), (false, eval b env)] := by intro _; rfl) (hs2 : ∀ env, starEach [b] env = [(false, eval b env)] := by intro _; rfl) : RI c vw tg (.Call (.Name "range" p) [a, b] [] pos) (fRng2 f) := by
  obtain ⟨t, pa, s⟩ := ha
  refine ⟨fun E => iRng2 (t E), fun X E g ps => pi_range2 (glI g hg) (by rw [g.mg]; exact hm) (pa X E g ps) (hs _) (hs2 _), fun B G σ H ρ M Q E rl h => ?_⟩
  unfold fRng2 at h
  rw [sat_bnd] at h
  refine s.use rl h fun xs M1 vs G1 H1 h1 s1 g1 d1 rl1 => ?_
  split at h1
  · rename_i i j
    unfold cIf at h1
    split at h1
    · rename_i hj
      obtain ⟨v, w, rfl, d, d'⟩ := vws2 d1
      exact ⟨i, j, by rw [View.int d, View.int d'], hj, h1 _ G1 H1 s1 g1 itr_ok⟩
    · exact h1.elim
  · exact h1.elim

/-! ### comprehensions -/
def Rs.nox {α : Type} : Rs α → Rs α
  | .ok a M => .ok a M
  | _ => .bad
theorem sat_nox {r : Rs α} {Q : α → List Int → Prop} {E E' : Nat → D → List Int → Prop} (h : r.nox.Sat Q E) : r.Sat Q E' := by cases r <;> first | exact h | exact h.elim
@[simp] theorem nox_ok {a : α} {M : List Int} : (Rs.ok a M).nox = .ok a M := rfl
@[simp] theorem nox_bad : (Rs.bad : Rs α).nox = .bad := rfl
@[simp] theorem nox_exc {n : Nat} {x : D} {M : List Int} : (Rs.exc n x M : Rs α).nox = .bad := rfl
abbrev blk (c : Sc) (scope : Scope) : Sc := { c with sc := relS scope c.sc, st := fun x => scope.names.lookup x == some .cell || scope.names.lookup x == some .local }
abbrev noE : XK := fun _ _ _ => False
theorem good_blk {X : Cx} {scope : Scope} (g : Good c X) (s : Shared) (H : Hp) (C : Addr) (cl : List (Str × Addr)) (fp : List Addr) : Good (blk c scope) (X.blk s H scope (compEnvC scope cl C X.env) fp) where
  P := g.P
  w := g.w
  K := g.K
  mg := g.mg
  base := g.base
  N := g.N
  sc := by show relS scope X.env.scope = _; rw [g.sc]
  calm := g.calm
  rm := g.rm
  gd := g.gd
  st := fun x h => by
    rcases Bool.or_eq_true_iff.mp h with h | h
    · exact .inl h
    · refine .inr ?_
      show (relS scope X.env.scope).names.lookup x = _
      exact lookup_relS_keep (by decide) (beq_iff_eq.mp h)
theorem psx_blk {X : Cx} {scope : Scope} (g : Good c X) (s : Shared) (H : Hp) (C : Addr) (cl : List (Str × Addr)) (fp : List Addr) : Psx (blk c scope) (X.blk s H scope (compEnvC scope cl C X.env) fp) noE :=
  fun pins σ H s e s' I h => by
    obtain ⟨a, B, H', cls, d, _, _, _, _, _, _, _, z⟩ := h
    exact z.elim
/-- a clause's tests -/
def RTs (c : Sc) (ifs : List Expr) (f : Ev Bool) : Prop := ∃ t : TX Bool, (∀ X E, Good c X → Psx c X E → PTs X ifs (t E)) ∧ SdX c RTt t f
def fYes : Ev Bool := fun _ M => .ok true M
theorem rts_nil : RTs c [] fYes := ⟨fun _ => tYes, fun _ _ _ _ => pts_nil, fun B G σ H ρ M Q E rl h => h true G H (.refl rl.gr) rl.gr rfl⟩
theorem rts_one {ft : Ev Bool} (h : RT c e ft) : RTs c [e] ft := let ⟨t, p, s⟩ := h; ⟨t, fun X E g ps => pts_one (p X E g ps), s⟩
def lcGo (g : Pat) (ft : Ev Bool) (fe : Ev D) (ρ : Rho) : List D → List Int → Rs (List D)
  | [], M => .ok [] M
  | x :: xs, M => match g x ρ with
    | none => .bad
    | some ρ1 => (ft ρ1 M).nox.bnd fun k M1 => if k = true then (fe ρ1 M1).nox.bnd fun y M2 => (lcGo g ft fe ρ xs M2).bnd fun ys M3 => .ok (y :: ys) M3 else lcGo g ft fe ρ xs M1
def fLc (vs : List Nat) (g : Pat) (ft : Ev Bool) (fe : Ev D) (fi : Ev (List D)) : Ev (List D) := fun ρ M => (fi ρ M).bnd fun xs M1 => if xs.length ≤ 16777216 then lcGo g ft fe (wipeR ρ vs) xs M1 else .bad
theorem wipe_idem (σ : L2.St) (vs : List Nat) : wipe (wipe σ vs) vs = wipe σ vs := wipe_eq.mpr ⟨wipe_length _ _, fun i hi => wipe_out hi⟩
theorem SdX.lc {ws vs0 : List Nat} {wi : TX It} {tg' : TG} {tt : TX Bool} {te : TX V} {g : Pat} {ft : Ev Bool} {fe : Ev D} {fi : Ev (List D)} {scope : Scope} (si : SdX c (RIt c.K true) wi fi) (sg : SdG (blk c scope) ws tg' g) (hw : ∀ i ∈ ws, i ∈ vs0)
    (st : SdX (blk c scope) RTt tt ft) (se : SdX (blk c scope) (RDt c.K) te fe) : SdX c (RFr c.K) (fun E => tLc (wi E) tg' (tt noE) (te noE) vs0) (fLc vs0 g ft fe fi) := by
  intro B G σ H ρ M Q E rl h
  unfold fLc at h
  rw [sat_bnd] at h
  refine si.use rl h fun xs M1 J G1 H1 h1 s1 g1 jt rl1 => fun D hD => ?_
  have jt : ItOk c.K B.p true J G1 H1 xs := jt
  split at h1
  · rename_i hlen
    have hDp := g1.nep hD
    refine ⟨fun i m Hi => ∃ Gi Mi acd acc, m = xs.length - i ∧ i ≤ xs.length ∧ Stp B.p G1 H1 Gi Hi ∧ Gr B.p Gi Hi Mi ∧ Hi D = some (.lst acc) ∧ Gi D = none ∧ DtA c.K Gi acd acc ∧ acd.length ≤ i ∧
      (lcGo g ft fe (wipeR ρ vs0) (xs.drop i) Mi).Sat (fun ys M' => ∀ v G' H', Stp B.p G H G' H' → Gr B.p G' H' M' → RFr c.K B.p G H G' H' (acd ++ ys) v → Q v H') (XP c.toWb B.p G H E),
      ⟨xs.length, G1, M1, [], [], rfl, Nat.zero_le _, .put g1 hD, g1.put hD, upd_same, g1.free hD, DtA.nil, Nat.le_refl _, by simpa using h1⟩, ?_⟩
    rintro i m Hi ⟨Gi, Mi, acd, acc, rfl, hi, sti, gi, hDi, hDG, hac, hal, φ⟩
    obtain ⟨js, jg⟩ := jt i Gi Hi Mi sti.g (fun _ a o ne h => sti.h a o ne h) gi
    by_cases hlt : i < xs.length
    · have hx : xs[i]? = some xs[i] := List.getElem?_eq_getElem hlt
      rw [List.drop_eq_getElem_cons hlt] at φ
      unfold lcGo at φ
      obtain ⟨go, yl⟩ := jg _ hx
      refine .inr ⟨go, fun H' => ∃ G' M' acd' acc', Stp B.p G1 H1 G' H' ∧ Gr B.p G' H' M' ∧ H' D = some (.lst acc') ∧ G' D = none ∧ DtA c.K G' acd' acc' ∧ acd'.length ≤ i + 1 ∧
        (lcGo g ft fe (wipeR ρ vs0) (xs.drop (i + 1)) M').Sat (fun ys M'' => ∀ v G' H', Stp B.p G H G' H' → Gr B.p G' H' M'' → RFr c.K B.p G H G' H' (acd' ++ ys) v → Q v H') (XP c.toWb B.p G H E),
        fun H' ⟨G', M', acd', acc', z1, z2, z3, z4, z5, z6, z7⟩ => ⟨_, by omega, G', M', acd', acc', rfl, hlt, z1, z2, z3, z4, z5, z6, z7⟩, fun v H' y => ?_⟩
      obtain ⟨G', s2, g2, d2⟩ := yl v H' y
      cases hp : g xs[i] (wipeR ρ vs0) with
      | none => rw [hp] at φ; exact φ.elim
      | some ρ1 =>
        rw [hp] at φ
        have rlw : Rl c.K B G' (wipe σ vs0) H' (wipeR ρ vs0) Mi := (rl1.step (sti.trans s2) g2).wipe _
        refine sg B G' _ H' _ Mi xs[i] v ρ1 _ rlw d2 hp fun σ2 rl2 w2 => ⟨(wipe_mono w2 hw).trans (wipe_idem _ _), ?_⟩
        rw [sat_bnd] at φ
        refine SdX.use (Φ := fun k M1 => Rs.Sat (if k = true then (fe ρ1 M1).nox.bnd fun y M2 => (lcGo g ft fe (wipeR ρ vs0) (xs.drop (i + 1)) M2).bnd fun ys M3 => .ok (y :: ys) M3 else lcGo g ft fe (wipeR ρ vs0) (xs.drop (i + 1)) M1)
          (fun ys M' => ∀ v G' H', Stp B.p G H G' H' → Gr B.p G' H' M' → RFr c.K B.p G H G' H' (acd ++ ys) v → Q v H') (XP c.toWb B.p G H E)) st rl2 (sat_nox φ) fun k M2 k' G3 H3 φ2 s3 g3 e3 rl3 => ?_
        cases (show k = k' from e3)
        have D3 : H3 D = some (.lst acc) := (s2.trans s3).h D _ hDp hDi
        have DG3 : G3 D = none := by
          cases q : G3 D with
          | none => rfl
          | some u => have z := (s2.trans s3).n D u q hDG; rw [hDi] at z; cases z
        cases k with
        | false =>
          refine ⟨G3, M2, acd, acc, (sti.trans s2).trans s3, g3, D3, DG3, DtA.mono (s2.trans s3).g _ _ hac, Nat.le_succ_of_le hal, ?_⟩
          simpa using φ2
        | true =>
          rw [if_pos rfl, sat_bnd] at φ2
          rw [if_pos rfl]
          refine SdX.use (Φ := fun y M2 => Rs.Sat ((lcGo g ft fe (wipeR ρ vs0) (xs.drop (i + 1)) M2).bnd fun ys M3 => .ok (y :: ys) M3) (fun ys M' => ∀ v G' H', Stp B.p G H G' H' → Gr B.p G' H' M' → RFr c.K B.p G H G' H' (acd ++ ys) v → Q v H') (XP c.toWb B.p G H E))
            se rl3 (sat_nox φ2) fun y M3 v4 G4 H4 φ3 s4 g4 d4 rl4 => ?_
          have D4 : H4 D = some (.lst acc) := s4.h D _ hDp D3
          have DG4 : G4 D = none := by
            cases q : G4 D with
            | none => rfl
            | some u => have z := s4.n D u q DG3; rw [D3] at z; cases z
          refine ⟨acc, D4, ?_, G4, M3, acd ++ [y], acc ++ [v4], ?_, ?_, upd_same, DG4, .append (DtA.mono ((s2.trans s3).trans s4).g _ _ hac) (.cons d4 .nil), by rw [List.length_append, List.length_singleton]; omega, ?_⟩
          · have := hac.length
            rw [sizeLine_eq]; omega
          · have z := ((sti.trans s2).trans s3).trans s4
            exact ⟨z.g, fun b u ne hb => by rw [upd_ne (fun e => by subst e; rw [hD] at hb; cases hb)]; exact z.h b u ne hb, z.n, z.p⟩
          · exact ⟨fun b u hb => by rw [upd_ne (fun e => by subst e; rw [DG4] at hb; cases hb)]; exact g4.gh b u hb, upd_keep hDp g4.pot, g4.pg⟩
          · rw [sat_bnd] at φ3
            refine φ3.mono (fun ys M' z => ?_) fun _ _ _ z => z
            rw [List.append_assoc]
            exact z
    · have e : i = xs.length := by omega
      subst e
      rw [List.drop_eq_nil_of_le (Nat.le_refl _)] at φ
      refine .inl ⟨js rfl, ?_⟩
      have z := φ (.ref D) Gi Hi (s1.trans sti) gi
      rw [List.append_nil] at z
      exact z ⟨D, acc, rfl, s1.fresh g1 hD, hDi, hDG, hDp, hac⟩
  · exact h1.elim
theorem rf_lc {elt iter : Expr} {ifs : List Expr} {scope : Scope} {own : List (Str × Nat)} {ws : List Nat} {g : Pat} {ft : Ev Bool} {fe : Ev D} {fi : Ev (List D)} (hN : c.N.Nodup) (hi : RI c true tg iter fi) (ok : BlkOk c.N c.sc scope own)
    (hg : RP (blk c scope) tg ws g) (hw : ∀ i ∈ ws, i ∈ own.map (·.2)) (ht : RTs (blk c scope) ifs ft) (he : RE (blk c scope) elt fe) (hs : ∀ env x, foldedSetIterable iter env x = pure x := by intro _ _; rfl) :
    RF c (.ListComp elt [⟨tg, iter, ifs, 0⟩] scope pos) (fLc (own.map (·.2)) g ft fe fi) := by
  obtain ⟨wi, pi, si⟩ := hi
  obtain ⟨tg', pg, sg⟩ := hg
  obtain ⟨tt, pt, st⟩ := ht
  obtain ⟨te, pe, se⟩ := he
  refine ⟨fun E => tLc (wi E) tg' (tt noE) (te noE) (own.map (·.2)), fun X E gd ps => ?_, si.lc sg hw st se⟩
  exact pe_lc gd.calm (by rw [gd.N]; exact hN) (pi X E gd ps) (by rw [gd.N, gd.sc]; exact ok) (fun s H C cl fp => pg _ (good_blk gd s H C cl fp)) (fun s H C cl fp => pt _ _ (good_blk gd s H C cl fp) (psx_blk gd s H C cl fp))
      (fun s H C cl fp => pe _ _ (good_blk gd s H C cl fp) (psx_blk gd s H C cl fp)) (hs _)
end
end RL

set_option Elab.async false
set_option linter.all false
set_option maxRecDepth 100000
set_option maxHeartbeats 1000000
namespace RL
open PySem PySem.Spec PyProof.Rows L2
/-! ### statements -/
inductive Out where
  | bad
  | nx (ρ : Rho) (M : List Int)
  | ret (x : D) (M : List Int)
  | exc (n : Nat) (x : D) (M : List Int)
  | bk (ρ : Rho) (M : List Int)
  | ct (ρ : Rho) (M : List Int)
abbrev Sm := Rho → List Int → Out
def Rs.out {α : Type} : Rs α → (α → List Int → Out) → Out
  | .bad, _ => .bad
  | .ok a M, k => k a M
  | .exc n x M, _ => .exc n x M
def Out.seq : Out → Sm → Out
  | .nx ρ M, k => k ρ M
  | o, _ => o
@[simp] theorem out_ok {α : Type} {a : α} {M : List Int} {k : α → List Int → Out} : (Rs.ok a M).out k = k a M := rfl
@[simp] theorem out_bad {α : Type} {k : α → List Int → Out} : (Rs.bad).out k = .bad := rfl
@[simp] theorem out_exc {α : Type} {n : Nat} {x : D} {M : List Int} {k : α → List Int → Out} : (Rs.exc n x M).out k = .exc n x M := rfl
@[simp] theorem seq_nx {ρ : Rho} {M : List Int} {k : Sm} : (Out.nx ρ M).seq k = k ρ M := rfl
@[simp] theorem seq_ret {x : D} {M : List Int} {k : Sm} : (Out.ret x M).seq k = .ret x M := rfl
@[simp] theorem seq_exc {n : Nat} {x : D} {M : List Int} {k : Sm} : (Out.exc n x M).seq k = .exc n x M := rfl
@[simp] theorem seq_bk {ρ : Rho} {M : List Int} {k : Sm} : (Out.bk ρ M).seq k = .bk ρ M := rfl
@[simp] theorem seq_ct {ρ : Rho} {M : List Int} {k : Sm} : (Out.ct ρ M).seq k = .ct ρ M := rfl
@[simp] theorem seq_bad {k : Sm} : (Out.bad).seq k = .bad := rfl
section
variable {c : Sc} {B : Bs} {G : Hp} {σ : L2.St} {H : Hp} {ρ : Rho} {M : List Int} {E : XK} {Dn : Ends}
def OutSat (c : Wb) (B : Bs) (G : Hp) (Dn : Ends) (E : XK) : Out → Prop
  | .bad => False
  | .nx ρ M => ∀ G' σ H, Ex G G' → Rl c.K B G' σ H ρ M → Dn.nx σ H
  | .bk ρ M => ∀ G' σ H, Ex G G' → Rl c.K B G' σ H ρ M → Dn.bk σ H
  | .ct ρ M => ∀ G' σ H, Ex G G' → Rl c.K B G' σ H ρ M → Dn.ct σ H
  | .ret x M => ∀ v G' H', Stp B.p B.G B.H G' H' → Gr B.p G' H' M → Dt c.K G' x v → Dn.rt v H'
  | .exc n x M => XP c B.p B.G B.H E n x M
def SdS (c : Sc) (t : XK → TS) (f : Sm) : Prop := ∀ (B : Bs) (G : Hp) (σ : L2.St) (H : Hp) (ρ : Rho) (M : List Int) (Dn : Ends) (E : XK), Rl c.K B G σ H ρ M → OutSat c.toWb B G Dn E (f ρ M) → t E Dn σ H
structure Pss (c : Sc) (X : Cx) (E : XK) : Prop where
  ps : Psx c X E
  own : PassesOwn (model X.prog X.w) X.A X.env X.xe
  tk : L2N.Takes X (fun cls d _ H => E cls d H)
def JS (c : Sc) (s : Stmt) (f : Sm) : Prop := ∃ t : XK → TS, (∀ X E, Good c X → Pss c X E → PS X s (t E)) ∧ SdS c t f
def JB (c : Sc) (s : List Stmt) (f : Sm) : Prop := ∃ t : XK → TS, (∀ X E, Good c X → Pss c X E → PSs X s (t E)) ∧ SdS c t f
theorem OutSat.mono {G1 : Hp} (e : Ex G G1) {o : Out} (h : OutSat c.toWb B G Dn E o) : OutSat c.toWb B G1 Dn E o := by
  cases o with
  | nx ρ M => exact fun G' σ H e' r => h G' σ H (fun a u z => e' a u (e a u z)) r
  | bk ρ M => exact fun G' σ H e' r => h G' σ H (fun a u z => e' a u (e a u z)) r
  | ct ρ M => exact fun G' σ H e' r => h G' σ H (fun a u z => e' a u (e a u z)) r
  | _ => exact h
theorem outSat_out {α : Type} {r : Rs α} {k : α → List Int → Out} : OutSat c.toWb B G Dn E (r.out k) ↔ r.Sat (fun a M => OutSat c.toWb B G Dn E (k a M)) (XP c.toWb B.p B.G B.H E) := by cases r <;> exact Iff.rfl
/-- an expression in a statement -/
theorem SdX.stm {α β : Type} {R : Rsl α β} {t : TX β} {f : Ev α} {k : α → List Int → Out} {Q : β → Hp → Prop} (s : SdX c R t f) (rl : Rl c.K B G σ H ρ M) (h : OutSat c.toWb B G Dn E ((f ρ M).out k))
    (kk : ∀ x M1 v G1 H1, OutSat c.toWb B G1 Dn E (k x M1) → Stp B.p G H G1 H1 → Gr B.p G1 H1 M1 → R B.p G H G1 H1 x v → Rl c.K B G1 σ H1 ρ M1 → Q v H1) : t E σ H Q := by
  rw [outSat_out] at h
  exact s.use rl (fwd rl.st h) fun x M1 v G1 H1 φ st g r rl1 => kk x M1 v G1 H1 (φ.mono st.g) st g r rl1
variable {s : Stmt} {ss : List Stmt} {f g : Sm} {pos p : Pos} {e : Expr} {fe : Ev D}
def sSeq (f g : Sm) : Sm := fun ρ M => (f ρ M).seq g
def sNx : Sm := fun ρ M => .nx ρ M
theorem jb_nil : JB c [] sNx := ⟨fun _ => tNext, fun _ _ _ _ => pss_nil, fun B G σ H ρ M Dn E rl h => h G σ H (fun _ _ z => z) rl⟩
theorem jb_cons (h1 : JS c s f) (h2 : JB c ss g) : JB c (s :: ss) (sSeq f g) := by
  obtain ⟨t, p, st⟩ := h1
  obtain ⟨u, p2, su⟩ := h2
  refine ⟨fun E => tSeq (t E) (u E), fun X E g ps => pss_cons (p X E g ps) (p2 X E g ps), fun B G σ H ρ M Dn E rl h => ?_⟩
  refine st B G σ H ρ M _ E rl ?_
  unfold sSeq at h
  cases hf : f ρ M with
  | nx ρ1 M1 =>
    rw [hf] at h
    exact fun G' σ' H' e' rl' => su B G' σ' H' ρ1 M1 Dn E rl' (OutSat.mono e' h)
  | _ => rw [hf] at h; exact h
theorem jb_one (h1 : JS c s f) : JB c [s] f := let ⟨t, p, st⟩ := h1; ⟨t, fun X E g ps => pss_one (p X E g ps), st⟩
theorem js_pass : JS c (.Pass pos) (fun ρ M => .nx ρ M) := ⟨fun _ => tNext, fun _ _ _ _ => ps_pass, fun B G σ H ρ M Dn E rl h => h G σ H (fun _ _ z => z) rl⟩
theorem js_brk : JS c (.Break pos) (fun ρ M => .bk ρ M) := ⟨fun _ => tBreak, fun _ _ _ _ => ps_break, fun B G σ H ρ M Dn E rl h => h G σ H (fun _ _ z => z) rl⟩
theorem js_cont : JS c (.Continue pos) (fun ρ M => .ct ρ M) := ⟨fun _ => tCont, fun _ _ _ _ => ps_continue, fun B G σ H ρ M Dn E rl h => h G σ H (fun _ _ z => z) rl⟩
theorem js_bad : JS c s (fun _ _ => .bad) := ⟨fun _ => tNever, fun _ _ _ _ => ps_never, fun B G σ H ρ M Dn E rl h => h.elim⟩
theorem jb_bad : JB c ss (fun _ _ => .bad) := ⟨fun _ => tNever, fun _ _ _ _ => pss_never, fun B G σ H ρ M Dn E rl h => h.elim⟩
def sIf (ft : Ev Bool) (f g : Sm) : Sm := fun ρ M => (ft ρ M).out fun k M1 => if k = true then f ρ M1 else g ρ M1
theorem js_if {ft : Ev Bool} {ss2 : List Stmt} (h : RT c e ft) (h1 : JB c ss f) (h2 : JB c ss2 g) : JS c (.If e ss ss2 pos) (sIf ft f g) := by
  obtain ⟨t, p, s⟩ := h
  obtain ⟨t1, p1, s1⟩ := h1
  obtain ⟨t2, p2, s2⟩ := h2
  refine ⟨fun E => tIfS (t E) (t1 E) (t2 E), fun X E g ps => ps_if (p X E g ps.ps) (p1 X E g ps) (p2 X E g ps), fun B G σ H ρ M Dn E rl h => ?_⟩
  refine s.stm rl h fun k M1 k' G1 H1 φ st g ek rl1 => ?_
  cases (show k = k' from ek)
  cases k with
  | true => exact s1 B G1 σ H1 ρ M1 Dn E rl1 φ
  | false => exact s2 B G1 σ H1 ρ M1 Dn E rl1 φ
def sRet (fe : Ev D) : Sm := fun ρ M => (fe ρ M).out fun x M1 => .ret x M1
theorem js_ret (h : RE c e fe) : JS c (.Return (some e) pos) (sRet fe) := by
  obtain ⟨t, p, s⟩ := h
  refine ⟨fun E => tRet (t E), fun X E g ps => ps_ret (p X E g ps.ps), fun B G σ H ρ M Dn E rl h => ?_⟩
  exact s.stm rl h fun x M1 v G1 H1 φ st g r rl1 => φ v G1 H1 rl1.st g r
theorem js_retN : JS c (.Return none pos) (fun _ M => .ret .none M) :=
  ⟨fun _ => tRetN, fun _ _ _ _ => ps_retN, fun B G σ H ρ M Dn E rl h => h .non G H rl.st rl.gr (dtN.mpr rfl)⟩
def sDrop (fe : Ev D) : Sm := fun ρ M => (fe ρ M).out fun _ M1 => .nx ρ M1
theorem js_drop (h : RE c e fe) (hs : ∀ env, env.scope = c.sc → swapsWith e none pos.line env = pure false) : JS c (.Expr e pos) (sDrop fe) := by
  obtain ⟨t, p, s⟩ := h
  refine ⟨fun E => tDrop (t E), fun X E g ps => ps_expr (p X E g ps.ps) (hs _ g.sc), fun B G σ H ρ M Dn E rl h => ?_⟩
  exact s.stm rl h fun x M1 v G1 H1 φ st g r rl1 => φ G1 σ H1 (fun _ _ z => z) rl1
/-- a docstring -/
theorem js_doc {x j pos pos'} : JS c (.Expr (.Constant (.str x) j pos) pos') (fun ρ M => .nx ρ M) := ⟨fun _ => tNext, fun _ _ _ _ => ps_doc, fun B G σ H ρ M Dn E rl h => h G σ H (fun _ _ z => z) rl⟩

/-! ### assignments -/
variable {i : Nat} {x : Str} {p' : Pos}
def sSet (i : Nat) (fe : Ev D) : Sm := fun ρ M => (fe ρ M).out fun x M1 => .nx (ρ.set i (.d x)) M1
def sSetL (i : Nat) (fe : Ev (List D)) : Sm := fun ρ M => (fe ρ M).out fun xs M1 => .nx (ρ.set i (.l xs)) M1
theorem Rl.setD {xd : D} {v : V} (rl : Rl c.K B G σ H ρ M) (d : Dt c.K G xd v) : Rl c.K B G (σ.set i (some v)) H (ρ.set i (.d xd)) M := rl.set i (x := .d xd) ⟨v, rfl, d⟩ fun _ z => nomatch z
theorem Rl.setF {xs : List D} {v : V} {G1 H1 : Hp} {M1 : List Int} (rl : Rl c.K B G σ H ρ M) (st : Stp B.p G H G1 H1) (g : Gr B.p G1 H1 M1) (r : RFr c.K B.p G H G1 H1 xs v) : Rl c.K B G1 (σ.set i (some v)) H1 (ρ.set i (.l xs)) M1 := by
  obtain ⟨a, vs, rfl, n, h1, n1, np, t⟩ := r
  have rl1 := rl.step st g
  refine rl1.set i (x := .l xs) ⟨a, vs, rfl, h1, t, n1, ?_, np⟩ fun ys e b eb j ow => ?_
  · cases q : B.H a with
    | none => rfl
    | some u => have z := rl.st.h a u np q; rw [n] at z; cases z
  · cases eb
    exact rl.not_own n j ow
theorem js_set (hN : c.N.Nodup) (hi : c.N[i]? = some x) (hx : Loc c.sc x) (hst : c.st x = true) (h : RE c e fe) (hs : ∀ env, env.scope = c.sc → swapsWith e (some (.Name x p')) pos.line env = pure false) : JS c (.Assign [.Name x p'] e pos) (sSet i fe) := by
  obtain ⟨t, p, s⟩ := h
  refine ⟨fun E => tAsg (t E) (gName i), fun X E g ps => ps_set (by rw [g.N]; exact hN) (by rw [g.N]; exact hi) (by rw [g.sc]; exact hx) (p X E g ps.ps) (hs _ g.sc) (g.st x hst), fun B G σ H ρ M Dn E rl h => ?_⟩
  exact s.stm rl h fun y M1 v G1 H1 φ st g r rl1 => φ G1 _ H1 (fun _ _ z => z) (rl1.setD r)
theorem js_setL {fl : Ev (List D)} (hN : c.N.Nodup) (hi : c.N[i]? = some x) (hx : Loc c.sc x) (hst : c.st x = true) (h : RF c e fl) (hs : ∀ env, env.scope = c.sc → swapsWith e (some (.Name x p')) pos.line env = pure false) : JS c (.Assign [.Name x p'] e pos) (sSetL i fl) := by
  obtain ⟨t, p, s⟩ := h
  refine ⟨fun E => tAsg (t E) (gName i), fun X E g ps => ps_set (by rw [g.N]; exact hN) (by rw [g.N]; exact hi) (by rw [g.sc]; exact hx) (p X E g ps.ps) (hs _ g.sc) (g.st x hst), fun B G σ H ρ M Dn E rl h => ?_⟩
  exact s.stm rl h fun y M1 v G1 H1 φ st g r rl1 => φ G1 _ H1 (fun _ _ z => z) (rl.setF st g r)
/-- name = [..] on one line -/
theorem js_lc {tg elt iter : Expr} {ifs : List Expr} {scope : Scope} {own : List (Str × Nat)} {ws : List Nat} {g : Pat} {ft : Ev Bool} {fe : Ev D} {fi : Ev (List D)} {py lpos spos : Pos} (hN : c.N.Nodup) (hi : RI c true tg iter fi) (ok : BlkOk c.N c.sc scope own)
    (hg : RP (blk c scope) tg ws g) (hw : ∀ i ∈ ws, i ∈ own.map (·.2)) (ht : RTs (blk c scope) ifs ft) (he : RE (blk c scope) elt fe) (hy : c.N[i]? = some x) (hyl : c.sc.names.lookup x = some .local)
    (hsw : ∀ env, env.scope = c.sc → swapsWith (.ListComp elt [⟨tg, iter, ifs, 0⟩] scope lpos) (some (.Name x py)) spos.line env = pure true) (hs : ∀ env x, foldedSetIterable iter env x = pure x := by intro _ _; rfl) :
    ∃ t : XK → TS, (∀ X E, Good c X → Pss c X E → PS X (.Assign [.Name x py] (.ListComp elt [⟨tg, iter, ifs, 0⟩] scope lpos) spos) (t E)) ∧ ∃ te : TX V, t = (fun E => tAsg (te E) (gName i)) ∧ SdX c (RFr c.K) te (fLc (own.map (·.2)) g ft fe fi) := by
  obtain ⟨wi, pi, si⟩ := hi
  obtain ⟨tg', pg, sg⟩ := hg
  obtain ⟨tt, pt, st⟩ := ht
  obtain ⟨te, pe, se⟩ := he
  refine ⟨fun E => tAsg (tLc (wi E) tg' (tt noE) (te noE) (own.map (·.2))) (gName i), fun X E gd ps => ?_, _, rfl, si.lc sg hw st se⟩
  exact ps_setLc gd.calm (by rw [gd.N]; exact hN) (by rw [gd.N]; exact hy) (by rw [gd.sc]; exact hyl) (hsw _ gd.sc) (pi X E gd ps.ps) (by rw [gd.N, gd.sc]; exact ok) (fun s H C cl fp => pg _ (good_blk gd s H C cl fp)) (fun s H C cl fp => pt _ _ (good_blk gd s H C cl fp) (psx_blk gd s H C cl fp))
    (fun s H C cl fp => pe _ _ (good_blk gd s H C cl fp) (psx_blk gd s H C cl fp)) (hs _)
/-- .. the name data -/
theorem js_setLc {tg elt iter : Expr} {ifs : List Expr} {scope : Scope} {own : List (Str × Nat)} {ws : List Nat} {g : Pat} {ft : Ev Bool} {fe : Ev D} {fi : Ev (List D)} {py lpos spos : Pos} (hN : c.N.Nodup) (hi : RI c true tg iter fi) (ok : BlkOk c.N c.sc scope own)
    (hg : RP (blk c scope) tg ws g) (hw : ∀ i ∈ ws, i ∈ own.map (·.2)) (ht : RTs (blk c scope) ifs ft) (he : RE (blk c scope) elt fe) (hy : c.N[i]? = some x) (hyl : c.sc.names.lookup x = some .local)
    (hsw : ∀ env, env.scope = c.sc → swapsWith (.ListComp elt [⟨tg, iter, ifs, 0⟩] scope lpos) (some (.Name x py)) spos.line env = pure true) (hs : ∀ env x, foldedSetIterable iter env x = pure x := by intro _ _; rfl) :
    JS c (.Assign [.Name x py] (.ListComp elt [⟨tg, iter, ifs, 0⟩] scope lpos) spos) (sSet i (fz (fLc (own.map (·.2)) g ft fe fi))) := by
  obtain ⟨t, pt, te, rfl, s⟩ := js_lc (lpos := lpos) (spos := spos) (py := py) hN hi ok hg hw ht he hy hyl hsw hs
  refine ⟨_, pt, fun B G σ H ρ M Dn E rl h => ?_⟩
  have h : OutSat c.toWb B G Dn E (((fLc (own.map (·.2)) g ft fe fi) ρ M).out fun xs M1 => .nx (ρ.set i (.d (.list xs))) M1) := by
    unfold sSet fz at h
    cases hf : fLc (own.map (·.2)) g ft fe fi ρ M <;> rw [hf] at h <;> exact h
  refine s.stm rl h fun y M1 v G1 H1 φ st g r rl1 => ?_
  obtain ⟨a, vs, rfl, n, h1, n1, np, t⟩ := r
  have rl2 : Rl c.K B (upd G1 a (.lst vs)) σ H1 ρ M1 := rl.step (st.freeze n1 n np) (g.freeze h1 np)
  have ex : Ex G1 (upd G1 a (.lst vs)) := fun b u hb => by rw [upd_ne (fun z => by subst z; rw [n1] at hb; cases hb)]; exact hb
  refine φ _ _ H1 ex (rl2.setD (xd := .list y) ?_)
  simp only [Dt]
  exact ⟨a, vs, rfl, upd_same, DtA.mono ex _ _ t⟩
theorem js_setLcL {tg elt iter : Expr} {ifs : List Expr} {scope : Scope} {own : List (Str × Nat)} {ws : List Nat} {g : Pat} {ft : Ev Bool} {fe : Ev D} {fi : Ev (List D)} {py lpos spos : Pos} (hN : c.N.Nodup) (hi : RI c true tg iter fi) (ok : BlkOk c.N c.sc scope own)
    (hg : RP (blk c scope) tg ws g) (hw : ∀ i ∈ ws, i ∈ own.map (·.2)) (ht : RTs (blk c scope) ifs ft) (he : RE (blk c scope) elt fe) (hy : c.N[i]? = some x) (hyl : c.sc.names.lookup x = some .local)
    (hsw : ∀ env, env.scope = c.sc → swapsWith (.ListComp elt [⟨tg, iter, ifs, 0⟩] scope lpos) (some (.Name x py)) spos.line env = pure true) (hs : ∀ env x, foldedSetIterable iter env x = pure x := by intro _ _; rfl) :
    JS c (.Assign [.Name x py] (.ListComp elt [⟨tg, iter, ifs, 0⟩] scope lpos) spos) (sSetL i (fLc (own.map (·.2)) g ft fe fi)) := by
  obtain ⟨t, pt, te, rfl, s⟩ := js_lc (lpos := lpos) (spos := spos) (py := py) hN hi ok hg hw ht he hy hyl hsw hs
  refine ⟨_, pt, fun B G σ H ρ M Dn E rl h => ?_⟩
  exact s.stm rl h fun y M1 v G1 H1 φ st g r rl1 => φ G1 _ H1 (fun _ _ z => z) (rl.setF st g r)
/-- a pattern = e -/
def sPat (g : Pat) (fe : Ev D) : Sm := fun ρ M => (fe ρ M).out fun x M1 => match g x ρ with | some ρ1 => .nx ρ1 M1 | none => .bad
theorem js_asg {tg : Expr} {ws : List Nat} {g : Pat} (hg : RP c tg ws g) (h : RE c e fe) (hs : ∀ env, env.scope = c.sc → swapsWithSole [tg] e pos.line env = pure false) (hw : ∀ env, env.scope = c.sc → swappedStores [tg] e env = pure none) (h1 : ∀ env, (assignEach [tg] env).map (·.2) = [assign tg env] := by intro _; rfl) : JS c (.Assign [tg] e pos) (sPat g fe) := by
  obtain ⟨t, p, s⟩ := h
  obtain ⟨u, q, sg⟩ := hg
  refine ⟨fun E => tAsg (t E) u, fun X E g ps => ps_asg (p X E g ps.ps) (q X g) (hs _ g.sc) (hw _ g.sc) (h1 _), fun B G σ H ρ M Dn E rl h => ?_⟩
  refine s.stm rl h fun y M1 v G1 H1 φ st g' r rl1 => ?_
  cases hp : g y ρ with
  | none => rw [hp] at φ; exact φ.elim
  | some ρ1 =>
    rw [hp] at φ
    exact sg B G1 σ H1 ρ M1 y v ρ1 _ rl1 r hp fun σ' rl' _ => φ G1 σ' H1 (fun _ _ z => z) rl'

/-! ### loops -/
def Out.turn : Out → Sm → Out
  | .nx ρ M, k => k ρ M
  | .ct ρ M, k => k ρ M
  | .bk ρ M, _ => .nx ρ M
  | o, _ => o
@[simp] theorem turn_nx {ρ : Rho} {M : List Int} {k : Sm} : (Out.nx ρ M).turn k = k ρ M := rfl
@[simp] theorem turn_ct {ρ : Rho} {M : List Int} {k : Sm} : (Out.ct ρ M).turn k = k ρ M := rfl
@[simp] theorem turn_bk {ρ : Rho} {M : List Int} {k : Sm} : (Out.bk ρ M).turn k = .nx ρ M := rfl
@[simp] theorem turn_ret {x : D} {M : List Int} {k : Sm} : (Out.ret x M).turn k = .ret x M := rfl
@[simp] theorem turn_exc {n : Nat} {x : D} {M : List Int} {k : Sm} : (Out.exc n x M).turn k = .exc n x M := rfl
@[simp] theorem turn_bad {k : Sm} : (Out.bad).turn k = .bad := rfl
def forGo (g : Pat) (fb : Sm) : List D → Sm
  | [], ρ, M => .nx ρ M
  | x :: xs, ρ, M => match g x ρ with
    | none => .bad
    | some ρ1 => (fb ρ1 M).turn (forGo g fb xs)
def sFor (g : Pat) (fb : Sm) (fi : Ev (List D)) : Sm := fun ρ M => (fi ρ M).out fun xs M1 => forGo g fb xs ρ M1
theorem js_for {tg iter : Expr} {ws : List Nat} {g : Pat} {fb : Sm} {fi : Ev (List D)} {body : List Stmt} (hi : RI c false tg iter fi) (hg : RP c tg ws g) (hb : JB c body fb) (hs : ∀ env x, foldedSetIterable iter env x = pure x := by intro _ _; rfl) : JS c (.For tg iter body [] pos) (sFor g fb fi) := by
  obtain ⟨wi, pi, si⟩ := hi
  obtain ⟨tg', pg, sg⟩ := hg
  obtain ⟨tb, pb, sb⟩ := hb
  refine ⟨fun E => tFor (wi E) tg' (tb E), fun X E gd ps => ps_for ps.own gd.calm (pi X E gd ps.ps) (pg X gd) (pb X E gd ps) (hs _), fun B G σ H ρ M Dn E rl h => ?_⟩
  refine si.stm rl h fun xs M1 J G1 H1 φ s1 g1 jt rl1 => ?_
  have jt : ItOk c.K B.p false J G1 H1 xs := jt
  refine ⟨fun i m σ H => ∃ G' ρ' M', m = xs.length - i ∧ i ≤ xs.length ∧ Ex G1 G' ∧ Rl c.K B G' σ H ρ' M' ∧ OutSat c.toWb B G' Dn E (forGo g fb (xs.drop i) ρ' M'), ⟨xs.length, G1, ρ, M1, rfl, Nat.zero_le _, fun _ _ z => z, rl1, φ⟩, ?_⟩
  rintro i m σ' H' ⟨G', ρ', M', rfl, hi, e', rl', φ'⟩
  obtain ⟨js, jg⟩ := jt i G' H' M' e' (fun z => nomatch z) rl'.gr
  by_cases hlt : i < xs.length
  · have hx : xs[i]? = some xs[i] := List.getElem?_eq_getElem hlt
    rw [List.drop_eq_getElem_cons hlt] at φ'
    unfold forGo at φ'
    obtain ⟨go, yl⟩ := jg _ hx
    refine .inr ⟨go, fun σ2 H2 => ∃ G2 ρ2 M2, Ex G1 G2 ∧ Rl c.K B G2 σ2 H2 ρ2 M2 ∧ OutSat c.toWb B G2 Dn E (forGo g fb (xs.drop (i + 1)) ρ2 M2), fun σ2 H2 ⟨G2, ρ2, M2, z1, z2, z3⟩ => ⟨_, by omega, G2, ρ2, M2, rfl, hlt, z1, z2, z3⟩, fun v H2 y => ?_⟩
    obtain ⟨G2, s2, g2, d2⟩ := yl v H2 y
    cases hp : g xs[i] ρ' with
    | none => simp only [hp] at φ'; exact φ'.elim
    | some ρ1 =>
      simp only [hp] at φ'
      have rl2 := rl'.step s2 g2
      refine sg B G2 σ' H2 ρ' M' xs[i] v ρ1 _ rl2 d2 hp fun σ3 rl3 _ => ?_
      refine sb B G2 σ3 H2 ρ1 M' _ E rl3 ?_
      have φ' := OutSat.mono s2.g φ'
      have e2 : Ex G1 G2 := fun a u z => s2.g a u (e' a u z)
      cases hf : fb ρ1 M' with
      | bad => rw [hf] at φ'; exact φ'.elim
      | nx ρ4 M4 => rw [hf] at φ'; exact fun G4 σ4 H4 e4 rl4 => ⟨G4, ρ4, M4, fun a u z => e4 a u (e2 a u z), rl4, OutSat.mono e4 φ'⟩
      | ct ρ4 M4 => rw [hf] at φ'; exact fun G4 σ4 H4 e4 rl4 => ⟨G4, ρ4, M4, fun a u z => e4 a u (e2 a u z), rl4, OutSat.mono e4 φ'⟩
      | bk ρ4 M4 => rw [hf] at φ'; exact φ'
      | ret _ _ => rw [hf] at φ'; exact φ'
      | exc _ _ _ => rw [hf] at φ'; exact φ'
  · have e : i = xs.length := by omega
    subst e
    rw [List.drop_eq_nil_of_le (Nat.le_refl _)] at φ'
    exact .inl ⟨js rfl, φ' G' σ' H' (fun _ _ z => z) rl'⟩
def whGo (ft : Ev Bool) (fb : Sm) : Nat → Sm
  | 0, _, _ => .bad
  | n + 1, ρ, M => (ft ρ M).out fun k M1 => if k = true then (fb ρ M1).turn (whGo ft fb n) else .nx ρ M1
theorem js_while {ft : Ev Bool} {fb : Sm} {body : List Stmt} (n : Nat) (h : RT c e ft) (hb : JB c body fb) : JS c (.While e body [] pos) (whGo ft fb n) := by
  obtain ⟨t, p, s⟩ := h
  obtain ⟨tb, pb, sb⟩ := hb
  refine ⟨fun E => tWhile (t E) (tb E), fun X E gd ps => ps_while ps.own (p X E gd ps.ps) (pb X E gd ps), fun B G σ H ρ M Dn E rl h => ?_⟩
  refine ⟨fun m σ H => ∃ G' ρ' M', Rl c.K B G' σ H ρ' M' ∧ OutSat c.toWb B G' Dn E (whGo ft fb m ρ' M'), ⟨n, G, ρ, M, rl, h⟩, ?_⟩
  rintro m σ' H' ⟨G', ρ', M', rl', φ'⟩
  cases m with
  | zero => exact φ'.elim
  | succ m =>
    unfold whGo at φ'
    refine s.stm rl' φ' fun k M1 k' G1 H1 φ st g ek rl1 => ?_
    cases (show k = k' from ek)
    cases k with
    | false => exact φ G1 σ' H1 (fun _ _ z => z) rl1
    | true =>
      rw [if_pos rfl]
      rw [if_pos rfl] at φ
      refine ⟨fun σ2 H2 => ∃ G2 ρ2 M2, Rl c.K B G2 σ2 H2 ρ2 M2 ∧ OutSat c.toWb B G2 Dn E (whGo ft fb m ρ2 M2), fun σ2 H2 ⟨G2, ρ2, M2, z⟩ => ⟨m, Nat.lt_succ_self m, G2, ρ2, M2, z⟩, ?_⟩
      refine sb B G1 σ' H1 ρ' M1 _ E rl1 ?_
      cases hf : fb ρ' M1 with
      | bad => rw [hf] at φ; exact φ.elim
      | nx ρ4 M4 => rw [hf] at φ; exact fun G4 σ4 H4 e4 rl4 => ⟨G4, ρ4, M4, rl4, OutSat.mono e4 φ⟩
      | ct ρ4 M4 => rw [hf] at φ; exact fun G4 σ4 H4 e4 rl4 => ⟨G4, ρ4, M4, rl4, OutSat.mono e4 φ⟩
      | bk ρ4 M4 => rw [hf] at φ; exact φ
      | ret _ _ => rw [hf] at φ; exact φ
      | exc _ _ _ => rw [hf] at φ; exact φ

/-! ### a list of one's own becomes data -/
def frz (i : Nat) (ρ : Rho) : Rho := match ρ[i]? with | some (.l xs) => ρ.set i (.d (.list xs)) | _ => ρ
theorem Rl.frz (rl : Rl c.K B G σ H ρ M) (i : Nat) : ∃ G', Ex G G' ∧ Rl c.K B G' σ H (frz i ρ) M := by
  unfold RL.frz
  cases q : ρ[i]? with
  | none => exact ⟨G, fun _ _ z => z, rl⟩
  | some y =>
    cases y with
    | l xs =>
      obtain ⟨a, vs, e1, h1, t, n1, nb, np⟩ := rl.sl i _ q
      have ex : Ex G (L2.upd G a (.lst vs)) := fun b u hb => by rw [upd_ne (fun z => by subst z; rw [n1] at hb; cases hb)]; exact hb
      have hi : i < ρ.length := (List.getElem?_eq_some_iff.mp q).1
      refine ⟨L2.upd G a (.lst vs), ex, ⟨rl.gr.freeze h1 np, rl.st.freeze n1 nb np, fun j y e => ?_, fun j k b ⟨⟨ys, h2⟩, h3⟩ ⟨⟨zs, h4⟩, h5⟩ => ?_, by rw [List.length_set]; exact rl.ln⟩⟩
      · rcases get_set e with ⟨rfl, rfl, _⟩ | ⟨ne, e⟩
        · refine ⟨_, e1, ?_⟩
          simp only [Dt]
          exact ⟨a, vs, rfl, upd_same, DtA.mono ex _ _ t⟩
        · have z := rl.sl j y e
          cases y with
          | un => trivial
          | pot => exact z
          | r L => exact z
          | d w => obtain ⟨v, hv, dv⟩ := z; exact ⟨v, hv, Dt.mono ex _ _ dv⟩
          | l ws =>
            obtain ⟨a', vs', e1', h1', t', n1', nb', np'⟩ := z
            refine ⟨a', vs', e1', h1', DtA.mono ex _ _ t', ?_, nb', np'⟩
            rw [upd_ne (fun z => by subst z; exact ne (rl.ds i j a' ⟨⟨xs, q⟩, e1⟩ ⟨⟨ws, e⟩, e1'⟩))]
            exact n1'
      · rcases get_set h2 with ⟨_, z, _⟩ | ⟨_, h2⟩
        · cases z
        · rcases get_set h4 with ⟨_, z, _⟩ | ⟨_, h4⟩
          · cases z
          · exact rl.ds j k b ⟨⟨ys, h2⟩, h3⟩ ⟨⟨zs, h4⟩, h5⟩
    | _ => exact ⟨G, fun _ _ z => z, rl⟩
def sFrz (i : Nat) (f : Sm) : Sm := fun ρ M => f (frz i ρ) M
theorem jb_frz (i : Nat) (h : JB c ss f) : JB c ss (sFrz i f) := by
  obtain ⟨t, p, s⟩ := h
  refine ⟨t, p, fun B G σ H ρ M Dn E rl h => ?_⟩
  obtain ⟨G', ex, rl'⟩ := rl.frz i
  exact s B G' σ H _ M Dn E rl' (OutSat.mono ex h)
theorem js_frz (i : Nat) (h : JS c s f) : JS c s (sFrz i f) := by
  obtain ⟨t, p, s⟩ := h
  refine ⟨t, p, fun B G σ H ρ M Dn E rl h => ?_⟩
  obtain ⟨G', ex, rl'⟩ := rl.frz i
  exact s B G' σ H _ M Dn E rl' (OutSat.mono ex h)
end
end RL

set_option Elab.async false
set_option linter.all false
set_option maxRecDepth 100000
set_option maxHeartbeats 1000000
namespace RL
open PySem PySem.Spec PyProof.Rows L2
section
variable {c : Sc} {B : Bs} {G : Hp} {σ : L2.St} {H : Hp} {ρ : Rho} {M : List Int} {E : XK} {Dn : Ends}
variable {s : Stmt} {ss : List Stmt} {f g : Sm} {pos p p1 apos cpos : Pos} {e e2 : Expr} {fe fa fb : Ev D} {i : Nat} {x : Str}

/-! ### lists of one's own -/
theorem Rl.mut (rl : Rl c.K B G σ H ρ M) {xs ys : List D} {ws : List V} {a : Addr} (hi : ρ[i]? = some (.l xs)) (ha : σ[i]? = some (some (.ref a))) (t : DtA c.K G ys ws) : Rl c.K B G σ (L2.upd H a (.lst ws)) (ρ.set i (.l ys)) M := by
  obtain ⟨a', vs, e1, h1x, t1, n1, nb, np⟩ := rl.sl i _ hi
  rw [ha] at e1; cases e1
  refine ⟨⟨fun b u h => ?_, ?_, rl.gr.pg⟩, ⟨rl.st.g, fun b u ne h => ?_, rl.st.n, rl.st.p⟩, fun j y e => ?_, fun j k b ⟨⟨us, h2⟩, h3⟩ ⟨⟨zs, h4⟩, h5⟩ => ?_, by rw [List.length_set]; exact rl.ln⟩
  · rw [upd_ne (fun e => by subst e; rw [n1] at h; cases h)]; exact rl.gr.gh b u h
  · exact upd_keep np rl.gr.pot
  · rw [upd_ne (fun e => by subst e; rw [nb] at h; cases h)]; exact rl.st.h b u ne h
  · rcases get_set e with ⟨rfl, rfl, _⟩ | ⟨ne, e⟩
    · exact ⟨a, ws, ha, upd_same, t, n1, nb, np⟩
    · have z := rl.sl j y e
      cases y with
      | un => trivial
      | pot => exact z
      | r L => obtain ⟨b, e1, h1⟩ := z; exact ⟨b, e1, h1.upd fun ob u q => by rw [h1x] at q; cases q⟩
      | d w => exact z
      | l us =>
        obtain ⟨b, vs', e1', h1', t', n1', nb', np'⟩ := z
        refine ⟨b, vs', e1', ?_, t', n1', nb', np'⟩
        rw [upd_ne (fun z => by subst z; exact ne (rl.ds i j b ⟨⟨xs, hi⟩, ha⟩ ⟨⟨us, e⟩, e1'⟩))]
        exact h1'
  · have q1 : ∃ us, ρ[j]? = some (.l us) := by
      rcases get_set h2 with ⟨rfl, _, _⟩ | ⟨_, h2⟩
      · exact ⟨xs, hi⟩
      · exact ⟨us, h2⟩
    have q2 : ∃ us, ρ[k]? = some (.l us) := by
      rcases get_set h4 with ⟨rfl, _, _⟩ | ⟨_, h4⟩
      · exact ⟨xs, hi⟩
      · exact ⟨zs, h4⟩
    exact rl.ds j k b ⟨q1, h3⟩ ⟨q2, h5⟩
theorem Rl.own (rl : Rl c.K B G σ H ρ M) {xs : List D} (hi : ρ[i]? = some (.l xs)) : ∃ a vs, σ[i]? = some (some (.ref a)) ∧ H a = some (.lst vs) ∧ DtA c.K G xs vs := by
  obtain ⟨a, vs, e1, h1, t1, _⟩ := rl.sl i _ hi
  exact ⟨a, vs, e1, h1, t1⟩
theorem line_of {xs : List D} {ys : List V} {n : Nat} (t : DtA c.K G xs ys) (h : xs.length ≤ 16777215) : ys.length < sizeLine := by rw [t.length, sizeLine_eq]; omega
/-- x.append(e) -/
def sApp (i : Nat) (fe : Ev D) : Sm := fun ρ M => match ρ[i]? with
  | some (.l xs) => (fe ρ M).out fun y M1 => if xs.length ≤ 16777215 then .nx (ρ.set i (.l (xs ++ [y]))) M1 else .bad
  | _ => .bad
theorem js_app (hN : c.N[i]? = some x) (hv : Vis c.sc x) (h : RE c e fe) (hdb : (x == ("__debug__" : Str)) = false := by decide) (hcd : (x == ("__classdict__" : Str)) = false := by decide)
    (hs : ∀ env, starEach [e] env = (false, eval e env) :: starEach [] env := by intro _; rfl)
    (hbase : ∀ env, attributeBase (.Name x p1) "append" env (eval (.Name x p1) env) = eval (.Name x p1) env := by intro _; rfl)
    (hfew : ∀ env, ((backTo cpos (starEach [e] env)).all (fun x => !x.1) && (backToKw cpos (keywordEach [] env)).all (fun x => x.1.isSome) && decide ([e].length + ([] : List Keyword).length + (if ([] : List Keyword).isEmpty then 0 else 1) < 30)) = true := by intro _; rfl)
    (hline : (apos.endLine == cpos.line) = true := by rfl) : JS c (.Expr (.Call (.Attribute (.Name x p1) "append" apos) [e] [] cpos) pos) (sApp i fe) := by
  obtain ⟨t, pe, s⟩ := h
  refine ⟨fun E => tDrop (tBM c.K "list" rAppend (tVar i) (tCons (t E) tNil)), fun X E g ps => ?_, fun B G σ H ρ M Dn E rl h => ?_⟩
  · rw [← g.K]
    exact ps_expr (pe_bm PySem.F.plainAttrs_list PySem.F.slot_list_append PySem.F.type_list_append mt_append (pe_var (by rw [g.N]; exact hN) (vis_of g hv) hdb hcd) (pa_cons (pe X E g ps.ps) pa_nil (hs _)) (hbase _) (hfew _) hline (hs _) rfl)
  · unfold sApp at h
    split at h
    · rename_i xs hx
      obtain ⟨a, vs, e1, h1, t1⟩ := rl.own hx
      refine ⟨_, e1, .inl ⟨rfl, vs, .of h1⟩, ?_⟩
      refine s.stm rl h fun y M1 v G1 H1 φ st g r rl1 => ?_
      split at φ
      · rename_i hl
        obtain ⟨a', vs', e1', h1', t1'⟩ := rl1.own hx
        rw [e1] at e1'; cases e1'
        exact ⟨a, vs', v, rfl, rfl, h1', line_of (n := 0) t1' hl, φ G1 σ _ (fun _ _ z => z) (rl1.mut hx e1 (.append t1' (.cons r .nil)))⟩
      · exact φ.elim
    · exact h.elim
/-- x.extend(e), e a list -/
def sExt (i : Nat) (fe : Ev D) : Sm := fun ρ M => match ρ[i]? with
  | some (.l xs) => (fe ρ M).out fun y M1 => match y with
    | .list ys => if xs.length + ys.length ≤ 16777215 then .nx (ρ.set i (.l (xs ++ ys))) M1 else .bad
    | _ => .bad
  | _ => .bad
theorem js_ext (hN : c.N[i]? = some x) (hv : Vis c.sc x) (h : RV c e fe) (hdb : (x == ("__debug__" : Str)) = false := by decide) (hcd : (x == ("__classdict__" : Str)) = false := by decide)
    (hs : ∀ env, starEach [e] env = (false, eval e env) :: starEach [] env := by intro _; rfl)
    (hbase : ∀ env, attributeBase (.Name x p1) "extend" env (eval (.Name x p1) env) = eval (.Name x p1) env := by intro _; rfl)
    (hfew : ∀ env, ((backTo cpos (starEach [e] env)).all (fun x => !x.1) && (backToKw cpos (keywordEach [] env)).all (fun x => x.1.isSome) && decide ([e].length + ([] : List Keyword).length + (if ([] : List Keyword).isEmpty then 0 else 1) < 30)) = true := by intro _; rfl)
    (hline : (apos.endLine == cpos.line) = true := by rfl) : JS c (.Expr (.Call (.Attribute (.Name x p1) "extend" apos) [e] [] cpos) pos) (sExt i fe) := by
  obtain ⟨t, pe, s⟩ := h
  refine ⟨fun E => tDrop (tBM c.K "list" rExtend (tVar i) (tCons (t E) tNil)), fun X E g ps => ?_, fun B G σ H ρ M Dn E rl h => ?_⟩
  · rw [← g.K]
    exact ps_expr (pe_bm PySem.F.plainAttrs_list PySem.F.slot_list_extend PySem.F.type_list_extend mt_extend (pe_var (by rw [g.N]; exact hN) (vis_of g hv) hdb hcd) (pa_cons (pe X E g ps.ps) pa_nil (hs _)) (hbase _) (hfew _) hline (hs _) rfl)
  · unfold sExt at h
    split at h
    · rename_i xs hx
      obtain ⟨a, vs, e1, h1, t1⟩ := rl.own hx
      refine ⟨_, e1, .inl ⟨rfl, vs, .of h1⟩, ?_⟩
      refine s.stm rl h fun y M1 v G1 H1 φ st g r rl1 => ?_
      split at φ
      · rename_i ys
        split at φ
        · rename_i hl
          obtain ⟨a', vs', e1', h1', t1'⟩ := rl1.own hx
          rw [e1] at e1'; cases e1'
          obtain ⟨b, ws, rfl, h2, t2⟩ := View.list r
          exact ⟨a, b, vs', ws, rfl, rfl, h1', h2, by rw [t1'.length, t2.length, sizeLine_eq]; omega, φ G1 σ _ (fun _ _ z => z) (rl1.mut hx e1 (.append t1' t2))⟩
        · exact φ.elim
      · exact φ.elim
    · exact h.elim
/-- x[k] = e -/
def sPut (i : Nat) (fk fe : Ev D) : Sm := fun ρ M => (fe ρ M).out fun y M1 => match ρ[i]? with
  | some (.l xs) => (fk ρ M1).out fun k M2 => match k with
    | .int k => match ixN xs.length k with
      | some j => .nx (ρ.set i (.l (xs.set j y))) M2
      | none => .bad
    | _ => .bad
  | _ => .bad
theorem js_put {fk : Ev D} (hN : c.N[i]? = some x) (hv : Vis c.sc x) (hk : RV c e2 fk) (h : RE c e fe) (hs : ∀ env, env.scope = c.sc → swapsWithSole [.Subscript (.Name x p1) e2 p] e pos.line env = pure false) (hw : ∀ env, env.scope = c.sc → swappedStores [.Subscript (.Name x p1) e2 p] e env = pure none)
    (hdb : (x == ("__debug__" : Str)) = false := by decide) (hcd : (x == ("__classdict__" : Str)) = false := by decide)
    (ha : ∀ env v, assign (.Subscript (.Name x p1) e2 p) env v = (do
      let ov ← holding [v] (eval (.Name x p1) env)
      let iv ← holding [v, ov] (eval e2 env)
      standAt p
      holding [v, ov, iv] (setItem ov iv v)
      release [v, ov, iv] []) := by intro _ _; rfl) (h1 : ∀ env, (assignEach [.Subscript (.Name x p1) e2 p] env).map (·.2) = [assign (.Subscript (.Name x p1) e2 p) env] := by intro _; rfl) :
    JS c (.Assign [.Subscript (.Name x p1) e2 p] e pos) (sPut i fk fe) := by
  obtain ⟨t, pe, s⟩ := h
  obtain ⟨tk, pk, sk⟩ := hk
  refine ⟨fun E => tAsg (t E) (gSub (tVar i) (tk E) rSetL), fun X E g ps => ?_, fun B G σ H ρ M Dn E rl h => ?_⟩
  · exact ps_asg (pe X E g ps.ps) (pg_sub (pe_var (by rw [g.N]; exact hN) (vis_of g hv) hdb hcd) (pk X E g ps.ps) set_list (ha _)) (hs _ g.sc) (hw _ g.sc) (h1 _)
  · refine s.stm rl h fun y M1 v G1 H1 φ st g r rl1 => ?_
    split at φ
    · rename_i xs hx
      obtain ⟨a, vs, e1, h1, t1⟩ := rl1.own hx
      refine ⟨_, e1, ?_⟩
      refine sk.stm rl1 φ fun k M2 v2 G2 H2 φ2 st2 g2 r2 rl2 => ?_
      split at φ2
      · rename_i k
        split at φ2
        · rename_i j hj
          obtain ⟨a', vs', e1', h1', t1'⟩ := rl2.own hx
          rw [e1] at e1'; cases e1'
          exact ⟨a, vs', k, j, rfl, View.int r2, h1', by rw [t1'.length]; exact hj, φ2 G2 σ _ (fun _ _ z => z) (rl2.mut hx e1 (.set j (Dt.mono st2.g _ _ r) t1'))⟩
        · exact φ2.elim
      · exact φ2.elim
    · exact φ.elim
/-- found.append(left.pop(e)) -/
def sAppPop (i j : Nat) (fe : Ev D) : Sm := fun ρ M => match ρ[i]?, ρ[j]? with
  | some (.l xs), some (.l ys) => (fe ρ M).out fun k M1 => match k with
    | .int k => if 0 ≤ k ∧ xs.length ≤ 16777215 ∧ ys.length ≤ 16777215 ∧ i ≠ j then (match ys[k.toNat]? with
      | some y => .nx ((ρ.set j (.l (ys.eraseIdx k.toNat))).set i (.l (xs ++ [y]))) M1
      | none => .bad) else .bad
    | _ => .bad
  | _, _ => .bad
theorem ix_pop {n k : Nat} (h : k < n) : seqIndex? (k : Int) n = some k := by
  unfold seqIndex?
  first
  | rw [if_pos (by omega), if_pos (by omega)]; simp
  | (simp; omega)
theorem js_appPop {j : Nat} {z : Str} {p2 apos2 cpos2 : Pos} (hN : c.N[i]? = some x) (hv : Vis c.sc x) (hNj : c.N[j]? = some z) (hvj : Vis c.sc z) (h : RV c e fe) (hdb : (x == ("__debug__" : Str)) = false := by decide) (hcd : (x == ("__classdict__" : Str)) = false := by decide)
    (hdb2 : (z == ("__debug__" : Str)) = false := by decide) (hcd2 : (z == ("__classdict__" : Str)) = false := by decide)
    (hs : ∀ env, starEach [e] env = (false, eval e env) :: starEach [] env := by intro _; rfl)
    (hbase2 : ∀ env, attributeBase (.Name z p2) "pop" env (eval (.Name z p2) env) = eval (.Name z p2) env := by intro _; rfl)
    (hfew2 : ∀ env, ((backTo cpos2 (starEach [e] env)).all (fun x => !x.1) && (backToKw cpos2 (keywordEach [] env)).all (fun x => x.1.isSome) && decide ([e].length + ([] : List Keyword).length + (if ([] : List Keyword).isEmpty then 0 else 1) < 30)) = true := by intro _; rfl)
    (hline2 : (apos2.endLine == cpos2.line) = true := by rfl)
    (hs1 : ∀ env, starEach [.Call (.Attribute (.Name z p2) "pop" apos2) [e] [] cpos2] env = (false, eval (.Call (.Attribute (.Name z p2) "pop" apos2) [e] [] cpos2) env) :: starEach [] env := by intro _; rfl)
    (hbase : ∀ env, attributeBase (.Name x p1) "append" env (eval (.Name x p1) env) = eval (.Name x p1) env := by intro _; rfl)
    (hfew : ∀ env, ((backTo cpos (starEach [.Call (.Attribute (.Name z p2) "pop" apos2) [e] [] cpos2] env)).all (fun x => !x.1) && (backToKw cpos (keywordEach [] env)).all (fun x => x.1.isSome) && decide ([Expr.Call (.Attribute (.Name z p2) "pop" apos2) [e] [] cpos2].length + ([] : List Keyword).length + (if ([] : List Keyword).isEmpty then 0 else 1) < 30)) = true := by intro _; rfl)
    (hline : (apos.endLine == cpos.line) = true := by rfl) :
    JS c (.Expr (.Call (.Attribute (.Name x p1) "append" apos) [.Call (.Attribute (.Name z p2) "pop" apos2) [e] [] cpos2] [] cpos) pos) (sAppPop i j fe) := by
  obtain ⟨t, pe, s⟩ := h
  refine ⟨fun E => tDrop (tBM c.K "list" rAppend (tVar i) (tCons (tBM c.K "list" rPopAt (tVar j) (tCons (t E) tNil)) tNil)), fun X E g ps => ?_, fun B G σ H ρ M Dn E rl h => ?_⟩
  · rw [← g.K]
    exact ps_expr (pe_bm PySem.F.plainAttrs_list PySem.F.slot_list_append PySem.F.type_list_append mt_append (pe_var (by rw [g.N]; exact hN) (vis_of g hv) hdb hcd)
      (pa_cons (pe_bm PySem.F.plainAttrs_list PySem.F.slot_list_pop PySem.F.type_list_pop mt_popAt (pe_var (by rw [g.N]; exact hNj) (vis_of g hvj) hdb2 hcd2) (pa_cons (pe X E g ps.ps) pa_nil (hs _)) (hbase2 _) (hfew2 _) hline2 (hs _) rfl) pa_nil (hs1 _)) (hbase _) (hfew _) hline (hs1 _) rfl)
  · unfold sAppPop at h
    split at h
    · rename_i xs ys hx hy
      obtain ⟨a, vs, e1, h1, t1⟩ := rl.own hx
      obtain ⟨b, ws, e2, h2, t2⟩ := rl.own hy
      refine ⟨_, e1, .inl ⟨rfl, vs, .of h1⟩, _, e2, .inl ⟨rfl, ws, .of h2⟩, ?_⟩
      refine s.stm rl h fun k M1 v G1 H1 φ st g r rl1 => ?_
      split at φ
      · rename_i k
        split at φ
        · rename_i hc
          obtain ⟨k0, kl, kl2, ij⟩ := hc
          split at φ
          · rename_i y hyk
            obtain ⟨a', vs', e1', h1', t1'⟩ := rl1.own hx
            rw [e1] at e1'; cases e1'
            obtain ⟨b', ws', e2', h2', t2'⟩ := rl1.own hy
            rw [e2] at e2'; cases e2'
            obtain ⟨u, hu, du⟩ := t2'.get _ _ hyk
            have hlt : k.toNat < ws'.length := (List.getElem?_eq_some_iff.mp hu).1
            have ek : (k.toNat : Int) = k := Int.toNat_of_nonneg k0
            have ab : a ≠ b := fun q => ij (rl1.ds i j a ⟨⟨xs, hx⟩, e1⟩ ⟨⟨ys, hy⟩, q ▸ e2⟩)
            have hz := t2'.length
            refine ⟨b, ws', k, k.toNat, u, rfl, by rw [View.int r], h2', by omega, by omega, by rw [← ek]; exact ix_pop hlt, hu, ?_⟩
            have rl2 := rl1.mut (ys := ys.eraseIdx k.toNat) hy e2 (.eraseIdx k.toNat t2')
            have hx2 : (ρ.set j (.l (ys.eraseIdx k.toNat)))[i]? = some (.l xs) := by rw [List.getElem?_set_ne (Ne.symm ij)]; exact hx
            obtain ⟨a2, vs2, e12, h12, t12⟩ := rl2.own hx2
            rw [e1] at e12; cases e12
            exact ⟨a, vs2, u, rfl, rfl, h12, line_of (n := 0) t12 kl, φ G1 σ _ (fun _ _ z => z) (rl2.mut hx2 e1 (.append t12 (.cons du .nil)))⟩
          · exact φ.elim
        · exact φ.elim
      · exact φ.elim
    · exact h.elim
end
end RL

set_option Elab.async false
set_option linter.all false
set_option maxRecDepth 100000
set_option maxHeartbeats 1000000
namespace RL
open PySem PySem.Spec PyProof.Rows L2
section
variable {c : Sc} {B : Bs} {G : Hp} {σ : L2.St} {H : Hp} {ρ : Rho} {M : List Int} {E : XK} {Dn : Ends}
variable {s : Stmt} {ss : List Stmt} {f g : Sm} {pos p p1 apos cpos : Pos} {a b e e2 : Expr} {es : List Expr} {fe fa fb : Ev D} {i : Nat} {x : Str}

/-! ### the draws -/
def isPot : Option SV → Bool
  | some .pot => true
  | some (.r _) => true
  | _ => false
/-- the ints that are read -/
def potL (o : Option SV) (M : List Int) : List Int := match o with | some (.r L) => L | _ => M
def fPot (i : Nat) (fb : Ev D) : Ev D := fun ρ M => if isPot ρ[i]? = true then (fb ρ M).bnd fun k M1 => match k with | .int k => (Rs.of (atI (potL ρ[i]? M1) k) M1).bnd fun z M1 => .ok (.int z) M1 | _ => .bad else .bad
theorem Rl.isPot (rl : Rl c.K B G σ H ρ M) (h : isPot ρ[i]? = true) : ∃ a, σ[i]? = some (some (.ref a)) ∧ ∀ G' H' M', Stp B.p G H G' H' → Gr B.p G' H' M' → SqL c.K H' a ((potL ρ[i]? M').map .int) := by
  cases q : ρ[i]? with
  | none => rw [q] at h; cases h
  | some y =>
    have z := rl.sl i y q
    rw [q] at h
    cases y with
    | pot => obtain ⟨a, e, e2⟩ := z; exact ⟨a, e2, fun G' H' M' _ g => .of (g.pot a e)⟩
    | r L => obtain ⟨a, e2, ro⟩ := z; exact ⟨a, e2, fun G' H' M' s _ => (ro.step s).sq⟩
    | un => cases h
    | d _ => cases h
    | l _ => cases h
theorem atI_map {α β : Type} {xs : List α} {f : α → β} {k : Int} {z : α} (h : atI xs k = some z) : atI (xs.map f) k = some (f z) := by
  unfold atI at h ⊢
  rw [List.length_map]
  cases q : ixN xs.length k with
  | none => rw [q] at h; cases h
  | some j =>
    rw [q] at h
    have h : xs[j]? = some z := h
    show (xs.map f)[j]? = some (f z)
    rw [List.getElem?_map, h]; rfl
theorem re_pot (hN : c.N[i]? = some x) (hv : Vis c.sc x) (hb : RV c b fb) (hs : PlainIx b := by intro _ _; rfl) (hd : (x == ("__debug__" : Str)) = false := by decide) (hcd : (x == ("__classdict__" : Str)) = false := by decide) : RE c (.Subscript (.Name x p1) b pos) (fPot i fb) := by
  obtain ⟨t, pe, sd⟩ := hb
  refine ⟨fun E => tOp (rIxL c.K) (tVar i) (t E), fun X E g ps => by rw [← g.K]; exact pe_ix ix_list (pe_var (by rw [g.N]; exact hN) (vis_of g hv) hd hcd) (pe X E g ps) hs, fun B G σ H ρ M Q E rl h => ?_⟩
  unfold fPot at h
  split at h
  · rename_i hp
    obtain ⟨pa, e0, ro⟩ := rl.isPot hp
    refine ⟨.ref pa, e0, ?_⟩
    rw [sat_bnd] at h
    refine sd.use rl h fun k M1 v G1 H1 h1 s1 g1 d1 rl1 => ?_
    split at h1
    · rename_i k
      rw [sat_bnd] at h1
      obtain ⟨z, e, q'⟩ := sat_of.mp h1
      exact ⟨pa, _, k, .int z, rfl, View.int d1, ro G1 H1 M1 s1 g1, atI_map e, q' _ G1 H1 s1 g1 (dtI.mpr rfl)⟩
    · exact h1.elim
  · exact h.elim
/-- pot[k] = e -/
def sPot (i : Nat) (k : Nat) (fe : Ev D) : Sm := fun ρ M => (fe ρ M).out fun y M1 => match y, ρ[i]? with
  | .int z, some .pot => if k < M1.length then .nx ρ (M1.set k z) else .bad
  | _, _ => .bad
theorem ixN_nat {n k : Nat} (h : k < n) : ixN n (k : Int) = some k := by
  unfold ixN
  rw [if_pos (by omega), if_pos (by omega)]
  simp
theorem map_set {α β : Type} {xs : List α} {f : α → β} {k : Nat} {z : α} : (xs.map f).set k (f z) = (xs.set k z).map f := by
  rw [List.map_set]
theorem Rl.pot (rl : Rl c.K B G σ H ρ M) {q : Addr} (hq : B.p = some q) (M' : List Int) : Rl c.K B G σ (L2.upd H q (.lst (M'.map .int))) ρ M' where
  gr := ⟨fun b u h => by rw [upd_ne (fun e => by subst e; rw [rl.gr.pg b hq] at h; cases h)]; exact rl.gr.gh b u h, fun b hb => by rw [hq] at hb; cases hb; exact upd_same, rl.gr.pg⟩
  st := ⟨rl.st.g, fun b u ne h => by rw [upd_ne (fun e => ne (by rw [hq, e]))]; exact rl.st.h b u ne h, rl.st.n, rl.st.p⟩
  sl := fun j y e => by
    have z := rl.sl j y e
    cases y with
    | un => trivial
    | d _ => exact z
    | pot => exact z
    | r L => obtain ⟨b, e1, h1⟩ := z; exact ⟨b, e1, h1.upd fun ob u w => by rw [rl.gr.pot q hq] at w; cases w⟩
    | l xs =>
      obtain ⟨a, vs, e1, h1, t, n1, nb, np⟩ := z
      exact ⟨a, vs, e1, by rw [upd_ne (fun e => np (by rw [hq, e]))]; exact h1, t, n1, nb, np⟩
  ds := rl.ds
  ln := rl.ln
theorem js_pot {k : Nat} {kk kp : _} (hN : c.N[i]? = some x) (hv : Vis c.sc x) (h : RE c e fe) (hs : ∀ env, env.scope = c.sc → swapsWithSole [.Subscript (.Name x p1) (.Constant (.int (k : Int)) kk kp) p] e pos.line env = pure false) (hw : ∀ env, env.scope = c.sc → swappedStores [.Subscript (.Name x p1) (.Constant (.int (k : Int)) kk kp) p] e env = pure none)
    (hdb : (x == ("__debug__" : Str)) = false := by decide) (hcd : (x == ("__classdict__" : Str)) = false := by decide)
    (ha : ∀ env v, assign (.Subscript (.Name x p1) (.Constant (.int (k : Int)) kk kp) p) env v = (do
      let ov ← holding [v] (eval (.Name x p1) env)
      let iv ← holding [v, ov] (eval (.Constant (.int (k : Int)) kk kp) env)
      standAt p
      holding [v, ov, iv] (setItem ov iv v)
      release [v, ov, iv] []) := by intro _ _; rfl) (h1 : ∀ env, (assignEach [.Subscript (.Name x p1) (.Constant (.int (k : Int)) kk kp) p] env).map (·.2) = [assign (.Subscript (.Name x p1) (.Constant (.int (k : Int)) kk kp) p) env] := by intro _; rfl) :
    JS c (.Assign [.Subscript (.Name x p1) (.Constant (.int (k : Int)) kk kp) p] e pos) (sPot i k fe) := by
  obtain ⟨t, pe, s⟩ := h
  refine ⟨fun E => tAsg (t E) (gSub (tVar i) (tC (.int (k : Int))) rSetL), fun X E g ps => ?_, fun B G σ H ρ M Dn E rl h => ?_⟩
  · exact ps_asg (pe X E g ps.ps) (pg_sub (pe_var (by rw [g.N]; exact hN) (vis_of g hv) hdb hcd) pe_int set_list (ha _)) (hs _ g.sc) (hw _ g.sc) (h1 _)
  · refine s.stm rl h fun y M1 v G1 H1 φ st g r rl1 => ?_
    split at φ
    · rename_i z hp
      split at φ
      · rename_i hk
        obtain ⟨q, eq, e2⟩ := (show Slot c.K B G1 H1 σ[i]? .pot from rl1.sl i _ hp)
        refine ⟨.ref q, e2, q, M1.map V.int, (k : Int), k, rfl, rfl, g.pot q eq, by rw [List.length_map]; exact ixN_nat hk, ?_⟩
        rw [dtI.mp r, map_set (f := V.int)]
        exact φ G1 σ _ (fun _ _ z => z) (rl1.pot eq _)
      · exact φ.elim
    · exact φ.elim

/-! ### a, b = x, y -/
def MixR (K : PySem.W.Frag) (p : Pt) (G H G' H' : Hp) : SV → V → Prop
  | .d x, v => Dt K G' x v
  | .l xs, v => RFr K p G H G' H' xs v
  | _, _ => False
def RMx (K : PySem.W.Frag) : Rsl (List SV) (List V) := fun p G H G' H' xs vs => Paired (MixR K p G H G' H') xs vs ∧
  ∀ (i j : Nat) a ys zs, xs[i]? = some (.l ys) → xs[j]? = some (.l zs) → vs[i]? = some (.ref a) → vs[j]? = some (.ref a) → i = j
def RM (c : Sc) (es : List Expr) (f : Ev (List SV)) : Prop := ∃ t : TX (List V), (∀ X E, Good c X → Psx c X E → PA X es (t E)) ∧ SdX c (RMx c.K) t f
def mNil : Ev (List SV) := fun _ M => .ok [] M
def mD (fa : Ev D) (fr : Ev (List SV)) : Ev (List SV) := fun ρ M => (fa ρ M).bnd fun x M1 => (fr ρ M1).bnd fun xs M2 => .ok (.d x :: xs) M2
def mL (fa : Ev (List D)) (fr : Ev (List SV)) : Ev (List SV) := fun ρ M => (fa ρ M).bnd fun x M1 => (fr ρ M1).bnd fun xs M2 => .ok (.l x :: xs) M2
theorem rm_nil : RM c [] mNil := ⟨fun _ => tNil, fun _ _ _ _ => pa_nil, fun B G σ H ρ M Q E rl h => h [] G H (.refl rl.gr) rl.gr ⟨.nil, fun i j a ys zs h => by simp at h⟩⟩
theorem RFr.back {K : PySem.W.Frag} {p : Pt} {G H G1 H1 G2 H2 : Hp} {M2 : List Int} {xs : List D} {v : V} (s1 : Stp p G H G1 H1) (s2 : Stp p G1 H1 G2 H2) (g : Gr p G2 H2 M2) (h : RFr K p G1 H1 G2 H2 xs v) : RFr K p G H G2 H2 xs v := Back.back _ _ _ _ _ _ _ _ _ _ s1 s2 g h
theorem MixR.back {K : PySem.W.Frag} {p : Pt} {G H G1 H1 G2 H2 : Hp} {M2 : List Int} (s1 : Stp p G H G1 H1) (s2 : Stp p G1 H1 G2 H2) (g : Gr p G2 H2 M2) : ∀ {x : SV} {v : V}, MixR K p G1 H1 G2 H2 x v → MixR K p G H G2 H2 x v
  | .d _, _, h => h
  | .l _, _, h => RFr.back s1 s2 g h
  | .un, _, h => h
  | .pot, _, h => h
  | .r _, _, h => h
theorem rm_d {fr : Ev (List SV)} (h : RE c e fa) (hr : RM c es fr) (hs : ∀ env, starEach (e :: es) env = (false, eval e env) :: starEach es env := by intro _; rfl) : RM c (e :: es) (mD fa fr) := by
  obtain ⟨t, p, s⟩ := h
  obtain ⟨u, p2, s2⟩ := hr
  refine ⟨fun E => tCons (t E) (u E), fun X E g ps => pa_cons (p X E g ps) (p2 X E g ps) (hs _), fun B G σ H ρ M Q E rl h => ?_⟩
  unfold mD at h
  rw [sat_bnd] at h
  refine s.use rl h fun x M1 v G1 H1 h1 s1 g1 d1 rl1 => ?_
  rw [sat_bnd] at h1
  refine s2.use rl1 (fwd s1 h1) fun xs M2 vs G2 H2 h2 s2 g2 d2 _ => h2 _ G2 H2 (s1.trans s2) g2 ⟨.cons (Dt.mono s2.g _ _ d1) (Paired.mapP d2.1 fun _ _ z => z.back s1 s2 g2), fun i j a ys zs k1 k2 k3 k4 => ?_⟩
  match i, j, k1, k2, k3, k4 with
  | 0, _, k1, _, _, _ => cases k1
  | i + 1, 0, _, k2, _, _ => cases k2
  | i + 1, j + 1, k1, k2, k3, k4 => exact congrArg (· + 1) (d2.2 i j a ys zs (by simpa using k1) (by simpa using k2) (by simpa using k3) (by simpa using k4))
theorem RFr.on {K : PySem.W.Frag} {p : Pt} {G H G1 H1 G2 H2 : Hp} {xs : List D} {v : V} (s2 : Stp p G1 H1 G2 H2) (h : RFr K p G H G1 H1 xs v) : RFr K p G H G2 H2 xs v := by
  obtain ⟨a, vs, e, n, h1, n1, np, t⟩ := h
  refine ⟨a, vs, e, n, s2.h a _ np h1, ?_, np, DtA.mono s2.g _ _ t⟩
  cases q : G2 a with
  | none => rfl
  | some u => have z := s2.n a u q n1; rw [h1] at z; cases z
theorem Paired.getR {α β : Type} {F : α → β → Prop} {l₁ : List α} {l₂ : List β} (h : Paired F l₁ l₂) : ∀ {i : Nat} {a : α} {b : β}, l₁[i]? = some a → l₂[i]? = some b → F a b := by
  induction h with
  | nil => intro i a b e; simp at e
  | cons r t ih =>
    intro i a b e1 e2
    cases i with
    | zero => simp at e1 e2; subst e1 e2; exact r
    | succ i => exact ih (by simpa using e1) (by simpa using e2)
theorem rm_l {fl : Ev (List D)} {fr : Ev (List SV)} (h : RF c e fl) (hr : RM c es fr) (hs : ∀ env, starEach (e :: es) env = (false, eval e env) :: starEach es env := by intro _; rfl) : RM c (e :: es) (mL fl fr) := by
  obtain ⟨t, p, s⟩ := h
  obtain ⟨u, p2, s2⟩ := hr
  refine ⟨fun E => tCons (t E) (u E), fun X E g ps => pa_cons (p X E g ps) (p2 X E g ps) (hs _), fun B G σ H ρ M Q E rl h => ?_⟩
  unfold mL at h
  rw [sat_bnd] at h
  refine s.use rl h fun x M1 v G1 H1 h1 s1 g1 d1 rl1 => ?_
  rw [sat_bnd] at h1
  refine s2.use rl1 (fwd s1 h1) fun xs M2 vs G2 H2 h2 s2 g2 d2 _ => h2 _ G2 H2 (s1.trans s2) g2 ⟨.cons (RFr.on s2 d1) (Paired.mapP d2.1 fun _ _ z => z.back s1 s2 g2), fun i j a ys zs k1 k2 k3 k4 => ?_⟩
  have apart : ∀ (k : Nat) (zs : List D), xs[k]? = some (SV.l zs) → vs[k]? = some (V.ref a) → v = V.ref a → False := fun k zs q1 q2 q3 => by
    have z : RFr c.K B.p G1 H1 G2 H2 zs (.ref a) := Paired.getR d2.1 q1 q2
    obtain ⟨b, ws, eb, nb, _⟩ := z
    obtain ⟨b', ws', eb', _, hb', _⟩ := d1
    cases eb
    rw [q3] at eb'; cases eb'
    rw [hb'] at nb; cases nb
  match i, j, k1, k2, k3, k4 with
  | 0, 0, _, _, _, _ => rfl
  | 0, j + 1, _, k2, k3, k4 => exact (apart j zs (by simpa using k2) (by simpa using k4) (by simpa using k3)).elim
  | i + 1, 0, k1, _, k3, k4 => exact (apart i ys (by simpa using k1) (by simpa using k3) (by simpa using k4)).elim
  | i + 1, j + 1, k1, k2, k3, k4 => exact congrArg (· + 1) (d2.2 i j a ys zs (by simpa using k1) (by simpa using k2) (by simpa using k3) (by simpa using k4))
def setS : L2.St → List Nat → List V → L2.St
  | σ, i :: is, v :: vs => setS (σ.set i (some v)) is vs
  | σ, _, _ => σ
def setR : Rho → List Nat → List SV → Rho
  | ρ, i :: is, x :: xs => setR (ρ.set i x) is xs
  | ρ, _, _ => ρ
theorem own_set {j : Nat} {a : Addr} {xv : SV} {v : V} (hl : σ.length = ρ.length) (h : Own (ρ.set i xv) (σ.set i (some v)) j a) : ((∃ xs, xv = .l xs) ∧ v = .ref a) ∨ Own ρ σ j a := by
  obtain ⟨⟨xs, h1⟩, h2⟩ := h
  rcases get_set h1 with ⟨rfl, e, l⟩ | ⟨ne, h1⟩
  · rw [List.getElem?_set_self (by rw [hl]; exact l)] at h2
    cases h2
    exact .inl ⟨⟨xs, e⟩, rfl⟩
  · rw [List.getElem?_set_ne ne] at h2
    exact .inr ⟨⟨xs, h1⟩, h2⟩
theorem Rl.setMix {G1 H1 : Hp} {M1 : List Int} : ∀ (is : List Nat) (xs : List SV) (vs : List V) (σ : L2.St) (ρ : Rho), xs.length = vs.length → Rl c.K B G1 σ H1 ρ M1 → (∀ (k : Nat) y v, xs[k]? = some y → vs[k]? = some v → Slot c.K B G1 H1 (some (some v)) y) →
    (∀ (k : Nat) ys a, xs[k]? = some (.l ys) → vs[k]? = some (.ref a) → ∀ j, ¬ Own ρ σ j a) →
    (∀ (i j : Nat) a ys zs, xs[i]? = some (.l ys) → xs[j]? = some (.l zs) → vs[i]? = some (.ref a) → vs[j]? = some (.ref a) → i = j) → Rl c.K B G1 (setS σ is vs) H1 (setR ρ is xs) M1
  | [], xs, vs, σ, ρ, _, rl, _, _, _ => by cases xs <;> cases vs <;> exact rl
  | i :: is, [], [], σ, ρ, _, rl, _, _, _ => rl
  | i :: is, [], _ :: _, σ, ρ, hl, _, _, _, _ => by simp at hl
  | i :: is, _ :: _, [], σ, ρ, hl, _, _, _, _ => by simp at hl
  | i :: is, y :: xs, v :: vs, σ, ρ, hl, rl, hs, ho, hd => by
    have rl1 := rl.set i (v := v) (x := y) (hs 0 y v (by simp) (by simp)) fun ys ey a ea j ow => ho 0 ys a (by simp [ey]) (by simp [ea]) j ow
    refine Rl.setMix is xs vs _ _ (by simpa using hl) rl1 (fun k y' v' h1 h2 => hs (k + 1) y' v' (by simpa using h1) (by simpa using h2)) (fun k ys a h1 h2 j ow => ?_) fun i j a ys zs h1 h2 h3 h4 => Nat.succ.inj (hd (i + 1) (j + 1) a ys zs (by simpa using h1) (by simpa using h2) (by simpa using h3) (by simpa using h4))
    rcases own_set rl.ln ow with ⟨⟨zs, ez⟩, ev⟩ | ow
    · exact absurd (hd 0 (k + 1) a zs ys (by simp [ez]) (by simpa using h1) (by simp [ev]) (by simpa using h2)) (by omega)
    · exact ho (k + 1) ys a (by simpa using h1) (by simpa using h2) j ow
theorem Rl.par {K : PySem.W.Frag} {is : List Nat} {xs : List SV} {vs : List V} {G1 H1 : Hp} {M1 : List Int} (hK : K = c.K) (rl : Rl c.K B G σ H ρ M) (st : Stp B.p G H G1 H1) (g : Gr B.p G1 H1 M1) (r : RMx c.K B.p G H G1 H1 xs vs) : Rl c.K B G1 (setS σ is vs) H1 (setR ρ is xs) M1 := by
  refine Rl.setMix is xs vs σ ρ (Paired.length r.1) (rl.step st g) (fun k y v h1 h2 => ?_) (fun k ys a h1 h2 j ow => ?_) r.2
  · have z := Paired.getR r.1 h1 h2
    cases y with
    | un => exact z.elim
    | pot => exact z.elim
    | r _ => exact z.elim
    | d w => exact ⟨v, rfl, z⟩
    | l ys =>
      obtain ⟨a, ws, rfl, n, h1', n1, np, t⟩ := z
      refine ⟨a, ws, rfl, h1', t, n1, ?_, np⟩
      cases q : B.H a with
      | none => rfl
      | some u => have z := rl.st.h a u np q; rw [n] at z; cases z
  · obtain ⟨b, ws, eb, n, _⟩ := (show RFr c.K B.p G H G1 H1 ys (.ref a) from Paired.getR r.1 h1 h2)
    cases eb
    exact rl.not_own n j ow
def sPar (is : List Nat) (fm : Ev (List SV)) : Sm := fun ρ M => (fm ρ M).out fun xs M1 => if xs.length = is.length then .nx (setR ρ is xs) M1 else .bad
theorem js_par2 {i j : Nat} {x y : Str} {px py pt : Pos} {kt k2 pt2} {fm : Ev (List SV)} (hN : c.N.Nodup) (hi : c.N[i]? = some x) (hj : c.N[j]? = some y) (hij : i ≠ j) (hx : c.sc.names.lookup x = some .local) (hy : c.sc.names.lookup y = some .local) (ha : RM c [a, b] fm)
    (hw : ∀ env, env.scope = c.sc → swappedStores [.Tuple [.Name x px, .Name y py] kt pt] (.Tuple [a, b] k2 pt2) env = pure (some [x, y]))
    (hs : ∀ env, swapsWithSole [.Tuple [.Name x px, .Name y py] kt pt] (.Tuple [a, b] k2 pt2) pos.line env = pure false := by intro _; rfl) :
    JS c (.Assign [.Tuple [.Name x px, .Name y py] kt pt] (.Tuple [a, b] k2 pt2) pos) (sPar [i, j] fm) := by
  obtain ⟨t, pa, s⟩ := ha
  refine ⟨fun E => tPar i j (t E), fun X E g ps => ps_par g.calm (by rw [g.N]; exact hN) (by rw [g.N]; exact hi) (by rw [g.N]; exact hj) hij (by rw [g.sc]; exact hx) (by rw [g.sc]; exact hy) (pa X E g ps.ps) (hw _ g.sc) (hs _), fun B G σ H ρ M Dn E rl h => ?_⟩
  refine s.stm rl h fun xs M1 vs G1 H1 φ st g r rl1 => ?_
  split at φ
  · rename_i hl
    have hv : vs.length = 2 := by rw [← Paired.length r.1]; exact hl
    match vs, hv, r with
    | [v, w], _, r => exact ⟨v, w, rfl, φ G1 _ H1 (fun _ _ z => z) (rl.par (is := [i, j]) rfl st g r)⟩
  · exact φ.elim
theorem js_par3 {i j l : Nat} {x y z : Str} {px py pz pt : Pos} {kt k2 pt2} {d : Expr} {fm : Ev (List SV)} (hN : c.N.Nodup) (hi : c.N[i]? = some x) (hj : c.N[j]? = some y) (hl : c.N[l]? = some z) (hij : i ≠ j) (hil : i ≠ l) (hjl : j ≠ l) (hx : c.sc.names.lookup x = some .local) (hy : c.sc.names.lookup y = some .local) (hz : c.sc.names.lookup z = some .local) (ha : RM c [a, b, d] fm)
    (hw : ∀ env, env.scope = c.sc → swappedStores [.Tuple [.Name x px, .Name y py, .Name z pz] kt pt] (.Tuple [a, b, d] k2 pt2) env = pure (some [x, y, z]))
    (hs : ∀ env, swapsWithSole [.Tuple [.Name x px, .Name y py, .Name z pz] kt pt] (.Tuple [a, b, d] k2 pt2) pos.line env = pure false := by intro _; rfl) :
    JS c (.Assign [.Tuple [.Name x px, .Name y py, .Name z pz] kt pt] (.Tuple [a, b, d] k2 pt2) pos) (sPar [i, j, l] fm) := by
  obtain ⟨t, pa, s⟩ := ha
  refine ⟨fun E => tPar3 i j l (t E), fun X E g ps => ps_par3 g.calm (by rw [g.N]; exact hN) (by rw [g.N]; exact hi) (by rw [g.N]; exact hj) (by rw [g.N]; exact hl) hij hil hjl (by rw [g.sc]; exact hx) (by rw [g.sc]; exact hy) (by rw [g.sc]; exact hz) (pa X E g ps.ps) (hw _ g.sc) (hs _), fun B G σ H ρ M Dn E rl h => ?_⟩
  refine s.stm rl h fun xs M1 vs G1 H1 φ st g r rl1 => ?_
  split at φ
  · rename_i hl
    have hv : vs.length = 3 := by rw [← Paired.length r.1]; exact hl
    match vs, hv, r with
    | [u, v, w], _, r => exact ⟨u, v, w, rfl, φ G1 _ H1 (fun _ _ z => z) (rl.par (is := [i, j, l]) rfl st g r)⟩
  · exact φ.elim
/-- any number of names, through the tuple -/
def namesT : List Nat → TGs
  | [] => gNil
  | i :: is => gCons (gName i) (namesT is)
theorem namesT_of {Q : L2.St → Hp → Prop} : ∀ (is : List Nat) (vs : List V) (σ : L2.St) (H : Hp), vs.length = is.length → Q (setS σ is vs) H → namesT is vs σ H Q
  | [], [], _, _, _, q => ⟨rfl, q⟩
  | i :: is, v :: vs, σ, H, hl, q => ⟨v, vs, rfl, namesT_of is vs _ H (by simpa using hl) q⟩
  | [], _ :: _, _, _, hl, _ => by simp at hl
  | _ :: _, [], _, _, hl, _ => by simp at hl
def PNs (c : Sc) (es : List Expr) (is : List Nat) : Prop := ∀ X, Good c X → PGs X es (namesT is)
theorem pn_nil : PNs c [] [] := fun X g => pgs_nil
theorem pn_cons {is : List Nat} (hN : c.N.Nodup) (hi : c.N[i]? = some x) (hx : Loc c.sc x) (hst : c.st x = true) (hr : PNs c es is) (hs : ∀ env, (assignEach (.Name x p :: es) env).map (·.2) = assign (.Name x p) env :: (assignEach es env).map (·.2) := by intro _; rfl) : PNs c (.Name x p :: es) (i :: is) :=
  fun X g => pgs_cons (pg_name (by rw [g.N]; exact hN) (by rw [g.N]; exact hi) (by rw [g.sc]; exact hx) (g.st x hst)) (hr X g) (hs _)
theorem js_parN {is : List Nat} {ts : List Expr} {k k2 : _} {pt pt2 : Pos} {fm : Ev (List SV)} (hn : PNs c ts is) (ha : RM c es fm) (hs : ∀ env, env.scope = c.sc → swapsWithSole [.Tuple ts k pt] (.Tuple es k2 pt2) pos.line env = pure false) (hw : ∀ env, env.scope = c.sc → swappedStores [.Tuple ts k pt] (.Tuple es k2 pt2) env = pure none)
    (hlen : is.length ≤ 1000 := by decide) (hn1 : ∀ env, (assignEach ts env).length = is.length := by intro _; rfl) (hst : ∀ env, (assignEach ts env).findIdx? (·.1) = none := by intro _; rfl) (h1 : ∀ env, (assignEach [.Tuple ts k pt] env).map (·.2) = [assign (.Tuple ts k pt) env] := by intro _; rfl) :
    JS c (.Assign [.Tuple ts k pt] (.Tuple es k2 pt2) pos) (sPar is fm) := by
  obtain ⟨t, pa, s⟩ := ha
  refine ⟨fun E => tAsg (tTup (t E)) (gTup c.K is.length (namesT is)), fun X E g ps => ?_, fun B G σ H ρ M Dn E rl h => ?_⟩
  · rw [← g.K]
    exact ps_asg (pe_tup (pa X E g ps.ps)) (pg_tup g.calm (hn X g) (hn1 _) (hst _)) (hs _ g.sc) (hw _ g.sc) (h1 _)
  · refine s.stm rl h fun xs M1 vs G1 H1 φ st g r rl1 => ?_
    split at φ
    · rename_i hl
      have hv : vs.length = is.length := by rw [← Paired.length r.1]; exact hl
      refine ⟨by rw [hv]; exact le1000 hlen, fun q hq => ⟨q, vs, rfl, .of upd_same, hv, ?_⟩⟩
      refine namesT_of is vs σ _ hv ?_
      have rl2 := rl.par (is := is) rfl st g r
      refine φ G1 _ _ (fun _ _ z => z) (rl2.upd (rl2.not_own hq) (g.free hq) ?_ (g.nep hq) fun ob u z => by rw [hq] at z; cases z)
      cases q' : B.H q with
      | none => rfl
      | some u => have z := rl2.st.h q u (g.nep hq) q'; rw [hq] at z; cases z
    · exact φ.elim

/-! ### a def -/
def Out.rs : Out → Rs D
  | .nx _ M => .ok .none M
  | .ret x M => .ok x M
  | .exc n x M => .exc n x M
  | _ => .bad
def bodyF (n k : Nat) (f : Sm) : Fb := fun as M => if as.length = n then (f (as ++ List.replicate (k - n) .un) M).rs else .bad
def noPl (as : List SV) : Prop := ∀ x ∈ as, ∀ xs, x ≠ .l xs
theorem start_rl {K : PySem.W.Frag} {p : Pt} {G H : Hp} {as : List SV} {vs : List V} {N : List Str} {n : Nat} (g : Gr p G H M) (h : Paired (ArgR K p G H) as vs) (hn : as.length = n) (hk : n ≤ N.length) :
    Rl K ⟨p, G, H⟩ G (L2.start N vs) H (as ++ List.replicate (N.length - n) .un) M := by
  have hlen := Paired.length h
  have cut : ∀ (i : Nat) y, (as ++ List.replicate (N.length - n) SV.un)[i]? = some y → y = .un ∨ as[i]? = some y := fun i y e => by
    by_cases hi : i < as.length
    · rw [List.getElem?_append_left hi] at e; exact .inr e
    · rw [List.getElem?_append_right (by omega), List.getElem?_replicate] at e
      split at e
      · cases e; exact .inl rfl
      · cases e
  have sg : ∀ (i : Nat) y v, as[i]? = some y → vs[i]? = some v → (L2.start N vs)[i]? = some (some v) := fun i y v _ e => by
    have hi : i < vs.length := (List.getElem?_eq_some_iff.mp e).1
    unfold L2.start
    rw [List.getElem?_append_left (by simpa using hi), List.getElem?_map, e]
    rfl
  have nol : ∀ (i : Nat) xs, as[i]? = some (.l xs) → False := fun i xs e => by
    have hi : i < as.length := (List.getElem?_eq_some_iff.mp e).1
    have hv : vs[i]? = some (vs[i]'(by omega)) := List.getElem?_eq_getElem (by omega)
    exact Paired.getR h e hv
  refine ⟨g, .refl g, fun i y e => ?_, fun i j a ⟨⟨xs, e⟩, _⟩ _ => ?_, ?_⟩
  · rcases cut i y e with rfl | e
    · trivial
    · have hi : i < as.length := (List.getElem?_eq_some_iff.mp e).1
      have hv : vs[i]? = some (vs[i]'(by omega)) := List.getElem?_eq_getElem (by omega)
      have r := Paired.getR h e hv
      have z := sg i y _ e hv
      cases y with
      | un => trivial
      | l xs => exact (nol i xs e).elim
      | d x => exact ⟨_, z, r⟩
      | pot => obtain ⟨q, eq, ev⟩ := r; rw [ev] at z; exact ⟨q, eq, z⟩
      | r L => obtain ⟨a, ev, ro⟩ := r; rw [ev] at z; exact ⟨a, z, ro⟩
  · rcases cut i _ e with q | q
    · cases q
    · exact (nol i xs q).elim
  · unfold L2.start
    simp only [List.length_append, List.length_map, List.length_replicate]
    omega
theorem fnG_of {W : Wb} {k : Nat} {f : Addr} {name qual : Str} {params : Arguments} {body : List Stmt} {scope : Scope} {dV kV doc pm cdv ct oc : Value} {an od : Option Addr} {osl : Array (Option Value)} {N ps : List Str} {fb : Sm}
    (lk : W.K.lookup f = some ⟨oc, od, .func (PySem.W.fnOf name qual params body scope dV kV doc pm an cdv ct), osl⟩) (hcd : PySem.W.codeIn W.K cdv qual = true) (S : FnScope N ps scope)
    (hb : JB { toWb := W, N := N, sc := scope, st := fun _ => true, k := k } body fb) :
    FnG W (k + 1) f (PySem.W.fnOf name qual params body scope dV kV doc pm an cdv ct) ps (bodyF ps.length N.length fb) := by
  have hpl : ps.length ≤ N.length := by have := congrArg List.length S.pre; rw [List.length_take] at this; omega
  have hlen : ∀ vs H Q E, spOf W (bodyF ps.length N.length fb) vs H Q E → vs.length = ps.length := fun vs H Q E ⟨p, G, as, M, g, r, h⟩ => by
    unfold bodyF at h
    split at h
    · rename_i e; rw [← Paired.length r]; exact e
    · exact h.elim
  refine ⟨hlen, fun A outer s H args us vs Q E hr hg e0 hbd rv hsp => ?_⟩
  have hl := hlen _ _ _ _ hsp
  obtain ⟨p, G, as, M, g, r, h⟩ := hsp
  obtain ⟨t, pt, st⟩ := hb
  have KX : W.K.In s.heap := e0.mod.kin.keeps fun b o e => (e0.bs b o e).1
  have lim : s.heap.NoLimit := e0.mod.nolimit.keeps fun b o e => (e0.bs b o e).1
  have kinds : ∀ y ∈ ps.zip us, scope.names.lookup y.1 = some .local ∨ (scope.names.lookup y.1 = some .cell ∧ ((cellsFrom (s.heap.objs.size + 1) scope.names []).lookup y.1).isSome = true) := by
    rintro ⟨n, v⟩ hy
    have q := S.par n (List.of_mem_zip hy).1
    exact q.imp id fun q => ⟨q, PySem.W.cellsFrom_some _ _ _ (.inl q)⟩
  refine codeAny_call_function hr.depth (KX _ _ lk) rfl S.co S.gen rfl (PySem.W.codeRec_of KX hcd) (hbd _ _ _ _ ?_)
  refine wpAny_newFunctionEnv_cells S.kind kinds fun env he s1 x => ?_
  subst he
  refine ⟨lim.keeps x.toInCall.keep, codeAny_func ?_⟩
  have I := inv_start (CX := L2N.CX W.P W.w) (E := E) S hr.hd e0 hl rv x
  have tk : L2N.Takes (cxOf (L2N.CX W.P W.w) W.P W.w W.K W.mg W.base N qual scope f cdv A outer s H E) (fun cls d _ H => E cls d H) := L2N.takes_of rfl rfl rfl rfl
  have gd : Good { toWb := W, N := N, sc := scope, st := fun _ => true, k := k } (cxOf (L2N.CX W.P W.w) W.P W.w W.K W.mg W.base N qual scope f cdv A outer s H E) :=
    ⟨rfl, rfl, rfl, rfl, rfl, rfl, rfl, rfl, hr.deeper _, hg, fun _ _ => .inl rfl⟩
  have pss : Pss { toWb := W, N := N, sc := scope, st := fun _ => true, k := k } (cxOf (L2N.CX W.P W.w) W.P W.w W.K W.mg W.base N qual scope f cdv A outer s H E) E :=
    ⟨L2N.passes_call tk fun _ _ _ _ z => z, passes_of rfl, tk⟩
  have run := (pt _ E gd pss).run [] s1 (L2.start N vs) H { nx := fun _ H' => Q .non H', rt := Q } I ?_
  · refine wpAny_mono run (fun fl s' hs => ?_) fun _ _ z => z
    have fin : ∀ {σ' : L2.St} {H' : Hp} {v : V} {u : Value}, Inv (cxOf (L2N.CX W.P W.w) W.P W.w W.K W.mg W.base N qual scope f cdv A outer s H E) [] σ' H' s' → RelV v u → Q v H' → CE outer W.P W.w H s Q u s' :=
      fun J rv q => ⟨_, _, J.os, J.bare, J.base, J.hok, rv, q⟩
    match fl, hs with
    | .ret u, ⟨v, σ', H', J, rv, q⟩ => exact fin J rv q
    | .next, ⟨σ', H', J, q⟩ => exact fin (v := V.non) (u := Value.none) J rfl q
    | .brk, ⟨_, _, _, q⟩ => exact q.elim
    | .cont, ⟨_, _, _, q⟩ => exact q.elim
  · unfold bodyF at h
    split at h
    · rename_i hn
      refine st ⟨p, G, H⟩ G (L2.start N vs) H _ M _ E (start_rl g r hn hpl) ?_
      cases hf : fb (as ++ List.replicate (N.length - ps.length) SV.un) M with
      | bad => rw [hf] at h; exact h.elim
      | bk _ _ => rw [hf] at h; exact h.elim
      | ct _ _ => rw [hf] at h; exact h.elim
      | nx ρ' M' => rw [hf] at h; exact fun G' σ' H' _ rl => h .non G' H' rl.st rl.gr (dtN.mpr rfl)
      | ret x M' => rw [hf] at h; exact h
      | exc n x M' => rw [hf] at h; exact h
    · exact h.elim
theorem FnG.imp {W : Wb} {k : Nat} {f : Addr} {fd : FuncData} {ps : List Str} {F F' : Fb} (h : FnG W k f fd ps F) (e : ∀ as M, F' as M = .bad ∨ F as M = F' as M) : FnG W k f fd ps F' := by
  have q : ∀ vs H Q E, spOf W F' vs H Q E → spOf W F vs H Q E := fun vs H Q E ⟨p, G, as, M, g, r, z⟩ => by
    refine ⟨p, G, as, M, g, r, ?_⟩
    rcases e as M with b | b
    · rw [b] at z; exact z.elim
    · rw [b]; exact z
  exact ⟨fun vs H Q E z => h.len vs H Q E (q _ _ _ _ z), fun A outer s H args us vs Q E a1 a2 a3 a4 a5 z => h.run A outer s H args us vs Q E a1 a2 a3 a4 a5 (q _ _ _ _ z)⟩
theorem FnG.mono {W : Wb} {j k : Nat} {f : Addr} {fd : FuncData} {ps : List Str} {F : Fb} (h : FnG W j f fd ps F) (hk : j ≤ k) : FnG W k f fd ps F :=
  ⟨h.len, fun A outer s H args us vs Q E hr => h.run A outer s H args us vs Q E (hr.mono hk)⟩
end
end RL

set_option Elab.async false
set_option linter.all false
set_option maxRecDepth 100000
set_option maxHeartbeats 1000000
namespace RL
open PySem PySem.Spec PyProof.Rows L2
/-! ### str * int -/
def sRep (x : Str) (n : Int) : Str := ⟨(List.replicate n.toNat x.cps.toList).flatten.toArray⟩
theorem foldl_reps (z : Array Nat) : ∀ (k : Nat) (acc : Array Nat), (List.replicate k z).foldl (fun a b => a ++ b) acc = acc ++ (List.replicate k z.toList).flatten.toArray
  | 0, acc => by simp
  | k + 1, acc => by
    rw [List.replicate_succ, List.foldl_cons, foldl_reps z k, List.replicate_succ, List.flatten_cons]
    apply Array.ext'
    simp
theorem op_mul_str {X : Cx} : OpR X (binaryOp .Mult) (fun x y H Q => ∃ z n, x = .str z ∧ y = .int n ∧ (-(2 ^ 62) ≤ n ∧ n ≤ 16777216 ∧ z.length * n.toNat ≤ 16777216) ∧ Q (.str (sRep z n)) H) := by
  intro pins s σ H x y v u Q I rx ry h
  obtain ⟨z, n, rfl, rfl, ⟨n0, n1, n2⟩, q⟩ := h
  obtain ⟨t, rfl⟩ := rx
  obtain ⟨t', rfl⟩ := ry
  have e0 : (decide (n < -(2 ^ 63 : Int)) || decide (n ≥ 2 ^ 63)) = false := by
    rw [decide_eq_false (by omega), decide_eq_false (by omega)]; rfl
  refine P.mul_str e0 (fun h1 _ h2 => ?_) (fun h1 _ => ?_) ?_
  · have q3 : (z.length : Int) * n ≤ 16777216 := by
      have : ((z.length * n.toNat : Nat) : Int) = (z.length : Int) * n := by rw [Int.natCast_mul, Int.toNat_of_nonneg (by omega)]
      rw [← this]; exact Int.ofNat_le.mpr n2
    have q4 : (z.length : Int) ≤ (2 ^ 63 - 1) / n := by
      rw [Int.le_ediv_iff_mul_le (by omega)]
      omega
    omega
  · unfold Builtin.Str.tooLong
    rw [sizeLine_eq]
    exact decide_eq_false (by omega)
  · by_cases h1 : n < 1
    · rw [if_pos h1]
      have : n.toNat = 0 := by omega
      refine ⟨by decide, ?_⟩
      refine ⟨.str (sRep z n), H, I.tok _, ⟨s.toks, ?_⟩, q⟩
      unfold sRep
      rw [this]
      rfl
    · rw [if_neg h1]
      by_cases h2 : (n == 1 || z.length == 0) = true
      · rw [if_pos h2]
        have e : sRep z n = z := by
          unfold sRep
          rcases Bool.or_eq_true_iff.mp h2 with h3 | h3
          · have : n = 1 := by simpa using h3
            subst this
            simp
          · have h4 : z.cps.size = 0 := beq_iff_eq.mp h3
            have h5 : z.cps = #[] := Array.eq_empty_of_size_eq_zero h4
            obtain ⟨c⟩ := z
            simp only at h5
            subst h5
            simp
        exact ⟨.str (sRep z n), H, I, ⟨t, by rw [e]⟩, q⟩
      · rw [if_neg h2]
        have e : (⟨(List.replicate n.toNat z.cps).foldl (· ++ ·) #[]⟩ : Str) = sRep z n := by
          unfold sRep
          rw [foldl_reps]
          simp
        rw [e]
        refine ⟨?_, ?_⟩
        · have hz : (sRep z n).length = n.toNat * z.length := by
            show (List.replicate n.toNat z.cps.toList).flatten.toArray.size = n.toNat * z.cps.size
            rw [List.size_toArray, List.length_flatten, List.map_replicate, List.sum_replicate_nat, Array.length_toList]
          first
          | (rw [hz, sizeLine_eq]; rw [Nat.mul_comm]; exact n2)
          | (show (sRep z n).cps.size ≤ _; rw [show (sRep z n).cps.size = n.toNat * z.length from hz, sizeLine_eq, Nat.mul_comm]; exact n2)
        · exact ⟨.str (sRep z n), H, I.tok _, ⟨_, rfl⟩, q⟩
set_option maxHeartbeats 4000000
/-! ### tuple * int -/
theorem tuple_mul1 (l : Addr) (items : Array Value) (n : Nat) (dd : Option Addr) (sl : Array (Option Value)) (x : Int) (u : Tok) (c0 : (decide (x < -(2 ^ 63)) || decide (x ≥ 2 ^ 63)) = false) (c1 : (items.isEmpty || x == 1) = true) :
    Meets (Builtin.«tuple.__mul__» ⟨[.ref l, .int x u], []⟩) (fun _ R s => s.heap.get? l = some { cls := .type "tuple", dict := dd, data := .seq items n, slots := sl } ∧ R (.ok (.ret (Value.ref l))) s) :=
  .of_wp fun prog w A R s h => by
    obtain ⟨hp, g, d, tk, os⟩ := s
    obtain ⟨hl, h⟩ := h
    have f1 := AutoSeq1.idx_int
    wp_walk using wpAny_loadPart' hl
    repeat (first
      | (refine wpAny_ite_false (decide_eq_false (by rw [c0]; exact Bool.false_ne_true)) ?_; wp_walk using wpAny_loadPart' hl)
      | (refine wpAny_ite_true (decide_eq_true (by rw [c1])) ?_; wp_walk using wpAny_loadPart' hl))
    exact ⟨_, rfl, h⟩
theorem tuple_mul0 (l : Addr) (items : Array Value) (n : Nat) (dd : Option Addr) (sl : Array (Option Value)) (x : Int) (u : Tok) (c0 : (decide (x < -(2 ^ 63)) || decide (x ≥ 2 ^ 63)) = false) (c1 : (items.isEmpty || x == 1) = false) (c2 : (decide (x ≤ 0) || items.isEmpty) = true) :
    Meets (Builtin.«tuple.__mul__» ⟨[.ref l, .int x u], []⟩) (fun _ R s => s.heap.get? l = some { cls := .type "tuple", dict := dd, data := .seq items n, slots := sl } ∧
      R (.ok (.ret (Value.ref s.heap.objs.size))) { s with heap := s.heap.push { cls := Value.type "tuple", data := Data.seq #[] }, toks := s.toks }) :=
  .of_wp fun prog w A R s h => by
    obtain ⟨hp, g, d, tk, os⟩ := s
    obtain ⟨hl, h⟩ := h
    have f1 := AutoSeq1.idx_int
    wp_walk using wpAny_loadPart' hl
    repeat (first
      | (refine wpAny_ite_false (decide_eq_false (by rw [c0]; exact Bool.false_ne_true)) ?_; wp_walk using wpAny_loadPart' hl)
      | (refine wpAny_ite_false (decide_eq_false (by rw [c1]; exact Bool.false_ne_true)) ?_; wp_walk using wpAny_loadPart' hl)
      | (refine wpAny_ite_true (decide_eq_true (by rw [c2])) ?_; wp_walk using wpAny_loadPart' hl))
    exact ⟨_, rfl, h⟩
def rRepTA (K : PySem.W.Frag) : R2 := fun x y H Q => ∃ l k xs, x = .ref l ∧ y = .int k ∧ SqT K H l xs ∧ xs ≠ [] ∧ -1000 ≤ k ∧ k ≤ 1000 ∧ xs.length ≤ 1000 ∧ (k = 1 → Q (.ref l) H) ∧ (k ≠ 1 → ∀ p, H p = none → Q (.ref p) (upd H p (.tup (List.replicate k.toNat xs).flatten)))
theorem op_repTA {X : Cx} : OpR X (binaryOp .Mult) (rRepTA X.K) := by
  intro pins s σ H x y v u Q I rx ry h
  obtain ⟨l, k, xs, rfl, rfl, hT, hne, h0, h1, hz, q1, q2⟩ := h
  by_cases b : 2 ≤ k
  · exact op_repT pins s σ H _ _ v u Q I rx ry ⟨l, k, xs, rfl, rfl, hT, hne, b, h1, hz, q2 (by omega)⟩
  cases rx
  obtain ⟨t, rfl⟩ := ry
  obtain ⟨its, r, ⟨⟨cls, dd, data, sl⟩, ho, hc, n, hd⟩, hs⟩ := I.tuple hT
  simp only at hc hd
  subst hc hd
  have hle : its.length = xs.length := r.length.symm
  have hn : its ≠ [] := fun e => hne (by
    rw [e] at hle
    exact List.eq_nil_of_length_eq_zero hle.symm)
  have hi : its.toArray.isEmpty = false := by
    cases its with
    | nil => exact absurd rfl hn
    | cons a b => rfl
  have c0 : (decide (k < -(2 ^ 63)) || decide (k ≥ 2 ^ 63)) = false := by
    rw [decide_eq_false (by omega), decide_eq_false (by omega)] <;> rfl
  by_cases b1 : k = 1
  · subst b1
    have c1 : (its.toArray.isEmpty || (1 : Int) == 1) = true := by rw [hi]; rfl
    refine wpAny_binaryOp_repeat_ref (T := "tuple") (U := "int") (by decide) ⟨_, ho, rfl⟩ (fun s' => typeIs_int s' 1 t) noFill_tuple_mul F.fills_int_mul F.slot_int_rmul repeat_tuple F.slot_int_index.lookup
      (call_meets F.slot_int_rmul (typeIs_int s 1 t) F.entry_int_rmul (F.args_int_rmul_2 _ _) (int_rmul_tuple 1 t l its.toArray n dd sl)
        ⟨ho, rfl, ⟨_, ho, rfl⟩, call_meets F.slot_tuple_mul ⟨_, ho, rfl⟩ F.entry_tuple_mul (F.args_tuple_mul_2 _ _) (tuple_mul1 l its.toArray n dd sl 1 t c0 c1) ⟨ho, ?_⟩⟩)
    exact ⟨.ref l, H, I, rfl, q1 rfl⟩
  · have c1 : (its.toArray.isEmpty || k == 1) = false := by
      rw [hi, Bool.false_or]
      exact beq_eq_false_iff_ne.mpr b1
    have c2 : (decide (k ≤ 0) || its.toArray.isEmpty) = true := by
      rw [decide_eq_true (by omega : k ≤ 0)]; rfl
    refine wpAny_binaryOp_repeat_ref (T := "tuple") (U := "int") (by decide) ⟨_, ho, rfl⟩ (fun s' => typeIs_int s' k t) noFill_tuple_mul F.fills_int_mul F.slot_int_rmul repeat_tuple F.slot_int_index.lookup
      (call_meets F.slot_int_rmul (typeIs_int s k t) F.entry_int_rmul (F.args_int_rmul_2 _ _) (int_rmul_tuple k t l its.toArray n dd sl)
        ⟨ho, rfl, ⟨_, ho, rfl⟩, call_meets F.slot_tuple_mul ⟨_, ho, rfl⟩ F.entry_tuple_mul (F.args_tuple_mul_2 _ _) (tuple_mul0 l its.toArray n dd sl k t c0 c1 c2) ⟨ho, ?_⟩⟩)
    have e : (List.replicate k.toNat xs).flatten = [] := by
      rw [show k.toNat = 0 from by omega]; rfl
    have q := q2 b1
    rw [e] at q
    refine ⟨.ref s.heap.objs.size, _, I.laid (t' := s.toks) (o := .tup []) (fun b ob q => Heap.get?_push_of_some _ q) (Nat.le_refl _) ?_, rfl, q _ (I.hok.fresh (Nat.le_refl _))⟩
    exact ⟨by rw [sizeLine_eq]; exact Nat.zero_le _, [], .nil, IsTup.new _ _⟩
end RL

set_option Elab.async false
set_option linter.all false
set_option maxRecDepth 100000
set_option maxHeartbeats 1000000
namespace RL
open PySem PySem.Spec PyProof.Rows L2
section
variable {c : Sc} {K : PySem.W.Frag} {p : Pt} {G H : Hp} {M : List Int} {a : Addr} {ds : List D} {ws : List V} {Q : VK}
theorem layL (g : Gr p G H M) (n : H a = none) (t : DtA K G ds ws) (k : ∀ v' G' H', Stp p G H G' H' → Gr p G' H' M → Dt K G' (.list ds) v' → Q v' H') : Q (.ref a) (upd H a (.lst ws)) := by
  refine k _ _ _ (.lay (o := .lst ws) g n) (g.lay n (g.nep n)) ?_
  simp only [Dt]
  exact ⟨a, ws, rfl, upd_same, DtA.mono (Stp.lay (o := .lst ws) g n).g _ _ t⟩
theorem layT (g : Gr p G H M) (n : H a = none) (t : DtA K G ds ws) (k : ∀ v' G' H', Stp p G H G' H' → Gr p G' H' M → Dt K G' (.tuple ds) v' → Q v' H') : Q (.ref a) (upd H a (.tup ws)) :=
  k _ _ _ (.lay (o := .tup ws) g n) (g.lay n (g.nep n)) (dtup g n t)
theorem layF (g : Gr p G H M) (n : H a = none) (t : DtA K G ds ws) (k : ∀ v' G' H', Stp p G H G' H' → Gr p G' H' M → RFr K p G H G' H' ds v' → Q v' H') : Q (.ref a) (upd H a (.lst ws)) :=
  k _ _ _ (.put (o := .lst ws) g n) (g.put n) ⟨a, ws, rfl, n, upd_same, g.free n, g.nep n, t⟩
theorem nowD {x : D} {v : V} (g : Gr p G H M) (d : Dt K G x v) (k : ∀ v' G' H', Stp p G H G' H' → Gr p G' H' M → Dt K G' x v' → Q v' H') : Q v H := k v G H (.refl g) g d
theorem viewT {ds : List D} {v : V} (h : View K p G H (.tuple ds) v) : ∃ a xs, v = .ref a ∧ SqT K G a xs ∧ DtA K G ds xs := by
  have h : Dt K G (.tuple ds) v := h
  simp only [Dt] at h
  exact h
theorem dtT {a : Addr} {xs : List V} (h : SqT K G a xs) (t : DtA K G ds xs) : Dt K G (.tuple ds) (.ref a) := by
  simp only [Dt]; exact ⟨a, xs, rfl, h, t⟩

/-! ### + -/
def dAdd : D → D → Option D
  | .int i, .int j => some (.int (i + j))
  | .str a, .str b => if a.length + b.length ≤ 16777216 then some (.str (a ++ b)) else none
  | .list xs, .list ys => if xs.length + ys.length ≤ 16777216 then some (.list (xs ++ ys)) else none
  | .tuple xs, .tuple ys => if xs.length + ys.length ≤ 16777216 then some (.tuple (xs ++ ys)) else none
  | _, _ => none
theorem ox_add : OpX c (RDt c.K) (binaryOp .Add) dAdd := by
  refine ⟨fun x y H Q => rI0 (fun i j => .int (i + j)) x y H Q ∨ ((∃ i j, x = .str i ∧ y = .str j ∧ i.length + j.length ≤ sizeLine ∧ Q (.str (i ++ j)) H) ∨ (rCat x y H Q ∨ rCatA c.K x y H Q)), fun X g => by (rw [← g.K]; exact op_add.or (op_add_str.or (op_cat.or op_catA))), fun p G H M x y z v u Q g hx hy e k => ?_⟩
  unfold dAdd at e
  split at e
  · cases e
    exact .inl ⟨_, _, View.int hx, View.int hy, nowD g (dtI.mpr rfl) k⟩
  · split at e
    · rename_i hl
      cases e
      exact .inr (.inl ⟨_, _, View.str hx, View.str hy, by rw [sizeLine_eq]; exact hl, nowD g (dtS.mpr rfl) k⟩)
    · cases e
  · split at e
    · rename_i hl
      cases e
      obtain ⟨a, vs, rfl, h1, t1⟩ := View.list hx
      obtain ⟨b, us, rfl, h2, t2⟩ := View.list hy
      exact .inr (.inr (.inl ⟨a, b, vs, us, rfl, rfl, h1, h2, by rw [t1.length, t2.length, sizeLine_eq]; exact hl, fun q hq => layL g hq (t1.append t2) k⟩))
    · cases e
  · split at e
    · rename_i hl
      cases e
      obtain ⟨a, vs, rfl, h1, t1⟩ := viewT hx
      obtain ⟨b, us, rfl, h2, t2⟩ := viewT hy
      refine .inr (.inr (.inr ⟨a, b, vs, us, rfl, rfl, sqT_mono g.gh h1, sqT_mono g.gh h2, by rw [t1.length, t2.length, sizeLine_eq]; exact hl, fun e0 => ?_, fun _ e0 => ?_, fun _ _ q hq => layT g hq (t1.append t2) k⟩))
      · subst e0
        have l := t1.length
        have : _ = [] := List.length_eq_zero_iff.mp l.symm
        subst this
        exact nowD g (dtT h2 t2) k
      · subst e0
        have l := t2.length
        have : _ = [] := List.length_eq_zero_iff.mp l.symm
        subst this
        rw [List.append_nil] at k
        exact nowD g (dtT h1 t1) k
    · cases e
  · cases e
/-- a new list -/
def lAdd : D → D → Option (List D)
  | .list xs, .list ys => if xs.length + ys.length ≤ 16777216 then some (xs ++ ys) else none
  | _, _ => none
theorem ox_addF : OpX c (RFr c.K) (binaryOp .Add) lAdd := by
  refine ⟨_, fun X g => op_cat, fun p G H M x y z v u Q g hx hy e k => ?_⟩
  unfold lAdd at e
  split at e
  · split at e
    · rename_i hl
      cases e
      obtain ⟨a, vs, rfl, h1, t1⟩ := View.list hx
      obtain ⟨b, us, rfl, h2, t2⟩ := View.list hy
      exact ⟨a, b, vs, us, rfl, rfl, h1, h2, by rw [t1.length, t2.length, sizeLine_eq]; exact hl, fun q hq => layF g hq (t1.append t2) k⟩
    · cases e
  · cases e

/-! ### -, *, //, %, ** -/
def dSub : D → D → Option D
  | .int i, .int j => some (.int (i - j))
  | _, _ => none
theorem ox_sub : OpX c (RDt c.K) (binaryOp .Sub) dSub := by
  refine ⟨_, fun X g => op_sub, fun p G H M x y z v u Q g hx hy e k => ?_⟩
  unfold dSub at e
  split at e
  · cases e
    exact ⟨_, _, View.int hx, View.int hy, nowD g (dtI.mpr rfl) k⟩
  · cases e
noncomputable def dMul : D → D → Option D
  | .int i, .int j => cIf (CMul i j) (some (.int (i * j))) none
  | .str x, .int n => cIf (-(2 ^ 62) ≤ n ∧ n ≤ 16777216 ∧ x.length * n.toNat ≤ 16777216) (some (.str (sRep x n))) none
  | .list xs, .int n => cIf (-(2 ^ 62) ≤ n ∧ n ≤ 16777216 ∧ xs.length * n.toNat ≤ 16777216) (some (.list (List.replicate n.toNat xs).flatten)) none
  | .tuple xs, .int n => cIf (-1000 ≤ n ∧ n ≤ 1000 ∧ xs ≠ [] ∧ xs.length ≤ 1000) (some (.tuple (List.replicate n.toNat xs).flatten)) none
  | _, _ => none
theorem ox_mul : OpX c (RDt c.K) (binaryOp .Mult) dMul := by
  refine ⟨fun x y H Q => rI CMul (fun i j => .int (i * j)) x y H Q ∨ ((∃ z n, x = .str z ∧ y = .int n ∧ (-(2 ^ 62) ≤ n ∧ n ≤ 16777216 ∧ z.length * n.toNat ≤ 16777216) ∧ Q (.str (sRep z n)) H) ∨ (rRep x y H Q ∨ rRepTA c.K x y H Q)), fun X g => by (rw [← g.K]; exact op_mul.or (op_mul_str.or (op_rep.or op_repTA))), fun p G H M x y z v u Q g hx hy e k => ?_⟩
  unfold dMul at e
  split at e
  · unfold cIf at e
    split at e
    · rename_i hc
      cases e
      exact .inl ⟨_, _, View.int hx, View.int hy, hc, nowD g (dtI.mpr rfl) k⟩
    · cases e
  · unfold cIf at e
    split at e
    · rename_i hc
      cases e
      exact .inr (.inl ⟨_, _, View.str hx, View.int hy, hc, nowD g (dtS.mpr rfl) k⟩)
    · cases e
  · unfold cIf at e
    split at e
    · rename_i hc
      cases e
      obtain ⟨a, vs, rfl, h1, t1⟩ := View.list hx
      exact .inr (.inr (.inl ⟨a, _, vs, rfl, View.int hy, h1, by omega, by omega, by rw [t1.length, sizeLine_eq]; exact hc.2.2, fun q hq => layL g hq (t1.rep _) k⟩))
    · cases e
  · unfold cIf at e
    split at e
    · rename_i hc
      cases e
      obtain ⟨a, vs, rfl, h1, t1⟩ := viewT hx
      refine .inr (.inr (.inr ⟨a, _, vs, rfl, View.int hy, sqT_mono g.gh h1, fun e0 => hc.2.2.1 (by
        subst e0
        exact List.length_eq_zero_iff.mp t1.length.symm), hc.1, hc.2.1, by rw [t1.length]; exact hc.2.2.2, fun e1 => ?_, fun _ q hq => layT g hq (t1.rep _) k⟩))
      subst e1
      rename_i ys
      have e1 : (List.replicate (1 : Int).toNat ys).flatten = ys := by
        show (List.replicate 1 ys).flatten = ys
        rw [List.replicate_succ, List.replicate_zero, List.flatten_cons, List.flatten_nil, List.append_nil]
      rw [e1] at k
      exact nowD g (dtT h1 t1) k
    · cases e
  · cases e
noncomputable def lMul : D → D → Option (List D)
  | .list xs, .int n => cIf (-(2 ^ 62) ≤ n ∧ n ≤ 16777216 ∧ xs.length * n.toNat ≤ 16777216) (some (List.replicate n.toNat xs).flatten) none
  | _, _ => none
theorem ox_mulF : OpX c (RFr c.K) (binaryOp .Mult) lMul := by
  refine ⟨_, fun X g => op_rep, fun p G H M x y z v u Q g hx hy e k => ?_⟩
  unfold lMul at e
  split at e
  · unfold cIf at e
    split at e
    · rename_i hc
      cases e
      obtain ⟨a, vs, rfl, h1, t1⟩ := View.list hx
      exact ⟨a, _, vs, rfl, View.int hy, h1, by omega, by omega, by rw [t1.length, sizeLine_eq]; exact hc.2.2, fun q hq => layF g hq (t1.rep _) k⟩
    · cases e
  · cases e
noncomputable def dFdiv : D → D → Option D
  | .int i, .int j => cIf (0 < j ∧ j < 1073741824) (some (.int (i / j))) none
  | _, _ => none
theorem ox_fdiv : OpX c (RDt c.K) (binaryOp .FloorDiv) dFdiv := by
  refine ⟨_, fun X g => op_fdiv, fun p G H M x y z v u Q g hx hy e k => ?_⟩
  unfold dFdiv at e
  split at e
  · unfold cIf at e
    split at e
    · rename_i hc
      cases e
      exact ⟨_, _, View.int hx, View.int hy, hc, nowD g (dtI.mpr rfl) k⟩
    · cases e
  · cases e
noncomputable def dMod : D → D → Option D
  | .int i, .int j => cIf (0 < j) (some (.int (i % j))) none
  | _, _ => none
theorem ox_mod : OpX c (RDt c.K) (binaryOp .Mod) dMod := by
  refine ⟨_, fun X g => op_mod, fun p G H M x y z v u Q g hx hy e k => ?_⟩
  unfold dMod at e
  split at e
  · unfold cIf at e
    split at e
    · rename_i hc
      cases e
      exact ⟨_, _, View.int hx, View.int hy, hc, nowD g (dtI.mpr rfl) k⟩
    · cases e
  · cases e
def CPw (i j : Int) : Prop := 0 ≤ j ∧ (Builtin.Int.intBits i : Int) * j ≤ 2 ^ 27
theorem op_powB {X : Cx} : OpR X (binaryOp .Pow) (rI CPw fun i j => .int (i ^ j.toNat)) := opI fun _ _ _ _ _ _ _ hc q => PyProof.Rows.pow_int hc.1 hc.2 q
noncomputable def dPow : D → D → Option D
  | .int i, .int j => cIf (CPw i j) (some (.int (i ^ j.toNat))) none
  | _, _ => none
theorem ox_pow : OpX c (RDt c.K) (binaryOp .Pow) dPow := by
  refine ⟨_, fun X g => op_powB, fun p G H M x y z v u Q g hx hy e k => ?_⟩
  unfold dPow at e
  split at e
  · unfold cIf at e
    split at e
    · rename_i hc
      cases e
      exact ⟨_, _, View.int hx, View.int hy, hc, nowD g (dtI.mpr rfl) k⟩
    · cases e
  · cases e

/-! ### comparisons -/
def dCmp (f : Int → Int → Bool) : D → D → Option D
  | .int i, .int j => some (.bool (f i j))
  | _, _ => none
theorem ox_cmp {op : CmpOp} {f : Int → Int → Bool} (h : ∀ X : Cx, OpR X (compareOp op) (rI0 fun i j => .bl (f i j))) : OpX c (RDt c.K) (compareOp op) (dCmp f) := by
  refine ⟨_, fun X g => h X, fun p G H M x y z v u Q g hx hy e k => ?_⟩
  unfold dCmp at e
  split at e
  · cases e
    exact ⟨_, _, View.int hx, View.int hy, nowD g (dtB.mpr rfl) k⟩
  · cases e
abbrev dLt := dCmp fun i j => decide (i < j)
abbrev dLe := dCmp fun i j => decide (i ≤ j)
abbrev dGt := dCmp fun i j => decide (j < i)
abbrev dGe := dCmp fun i j => decide (j ≤ i)
theorem ox_lt : OpX c (RDt c.K) (compareOp .Lt) dLt := ox_cmp fun _ => op_lt
theorem ox_le : OpX c (RDt c.K) (compareOp .LtE) dLe := ox_cmp fun _ => op_le
theorem ox_gt : OpX c (RDt c.K) (compareOp .Gt) dGt := ox_cmp fun _ => op_gt
theorem ox_ge : OpX c (RDt c.K) (compareOp .GtE) dGe := ox_cmp fun _ => op_ge
/-- both texts -/
def isS : D → Bool
  | .str _ => true
  | _ => false
def eqOk (x y : D) : Prop := (SeqAt.shaped x = true ∧ SeqAt.shaped y = true) ∨ (isS x = true ∧ isS y = true)
instance (x y : D) : Decidable (eqOk x y) := inferInstanceAs (Decidable (_ ∨ _))
def dEq (x y : D) : Option D := if eqOk x y then some (.bool (PyData.eqv x y)) else none
def dNe (x y : D) : Option D := if eqOk x y then some (.bool (!PyData.eqv x y)) else none
theorem isS_of {x : D} (h : isS x = true) : ∃ s, x = .str s := by cases x <;> first | exact ⟨_, rfl⟩ | cases h
theorem ox_eq : OpX c (RDt c.K) (compareOp .Eq) dEq := by
  refine ⟨fun x y H Q => rEqD c.K x y H Q ∨ rEq x y H Q, fun X g => by (rw [← g.K]; exact (op_eqD (by have := g.rm.units; exact this)).or op_eq), fun p G H M x y z v u Q g hx hy e k => ?_⟩
  unfold dEq at e
  split at e
  · rename_i hc
    cases e
    rcases hc with hc | ⟨h1, h2⟩
    · exact .inl ⟨_, _, View.dp g hx, View.dp g hy, hc.1, hc.2, nowD g (dtB.mpr rfl) k⟩
    · obtain ⟨s, rfl⟩ := isS_of h1
      obtain ⟨t, rfl⟩ := isS_of h2
      rw [View.str hx, View.str hy]
      refine .inr ⟨rfl, ?_⟩
      rw [dec_str]
      exact nowD g (dtB.mpr (by simp only [PyData.eqv])) k
  · cases e
theorem ox_ne : OpX c (RDt c.K) (compareOp .NotEq) dNe := by
  refine ⟨fun x y H Q => rNeD c.K x y H Q ∨ rNe x y H Q, fun X g => by (rw [← g.K]; exact (op_neD (by have := g.rm.units; exact this)).or op_ne), fun p G H M x y z v u Q g hx hy e k => ?_⟩
  unfold dNe at e
  split at e
  · rename_i hc
    cases e
    rcases hc with hc | ⟨h1, h2⟩
    · exact .inl ⟨_, _, View.dp g hx, View.dp g hy, hc.1, hc.2, nowD g (dtB.mpr rfl) k⟩
    · obtain ⟨s, rfl⟩ := isS_of h1
      obtain ⟨t, rfl⟩ := isS_of h2
      rw [View.str hx, View.str hy]
      refine .inr ⟨rfl, ?_⟩
      rw [dec_str]
      exact nowD g (dtB.mpr (by simp only [PyData.eqv])) k
  · cases e
def isN : D → Bool
  | .none => true
  | _ => false
def dIs (neg : Bool) : D → D → Option D
  | x, .none => some (.bool (neg != isN x))
  | .bool a, .bool b => some (.bool (neg != decide (a = b)))
  | _, _ => none
theorem view_non {x : D} {v : V} (hx : View K p G H x v) : decide (v = V.non) = isN x := by
  cases x with
  | none => rw [View.none hx]; rfl
  | bool b => rw [View.bool hx]; rfl
  | int b => rw [View.int hx]; rfl
  | str b => rw [View.str hx]; rfl
  | list b => obtain ⟨a, xs, rfl, _⟩ := View.list hx; rfl
  | tuple b => obtain ⟨a, xs, rfl, _⟩ := viewT hx; rfl
  | dict b =>
    have h : Dt K G (.dict b) v := hx
    simp only [Dt] at h
theorem ox_is : OpX c (RDt c.K) (compareOp .Is) (dIs false) := by
  refine ⟨_, fun X g => op_isN.or op_is_bl, fun p G H M x y z v u Q g hx hy e k => ?_⟩
  unfold dIs at e
  split at e
  · cases e
    exact .inl ⟨View.none hy, nowD g (dtB.mpr (by rw [view_non hx]; simp)) k⟩
  · cases e
    exact .inr ⟨_, _, View.bool hx, View.bool hy, nowD g (dtB.mpr (by simp)) k⟩
  · cases e
theorem ox_isnot : OpX c (RDt c.K) (compareOp .IsNot) (dIs true) := by
  refine ⟨_, fun X g => op_notN.or op_isnot_bl, fun p G H M x y z v u Q g hx hy e k => ?_⟩
  unfold dIs at e
  split at e
  · cases e
    exact .inl ⟨View.none hy, nowD g (dtB.mpr (by rw [view_non hx]; simp)) k⟩
  · cases e
    exact .inr ⟨_, _, View.bool hx, View.bool hy, nowD g (dtB.mpr (by simp)) k⟩
  · cases e

/-! ### index, slices -/
def dIx : D → D → Option D
  | .list xs, .int i => atI xs i
  | .tuple xs, .int i => atI xs i
  | .str z, .int i => if z.length ≤ 16777216 then (atI z.cps.toList i).map fun k => .str ⟨#[k]⟩ else none
  | _, _ => none
theorem DtA.atI {xs : List D} {vs : List V} {i : Int} {z : D} (t : DtA K G xs vs) (h : L2.atI xs i = some z) : ∃ v, L2.atI vs i = some v ∧ Dt K G z v := by
  unfold L2.atI at h ⊢
  rw [t.length]
  cases q : ixN xs.length i with
  | none => rw [q] at h; cases h
  | some j =>
    rw [q] at h
    exact t.get j z h
theorem ix_any : IxX c (RDt c.K) dIx := by
  refine ⟨rIx c.K, fun X g => by (rw [← g.K]; exact ix_seq), fun p G H M x y z v u Q g hx hy e k => ?_⟩
  unfold dIx at e
  split at e
  · obtain ⟨a, vs, rfl, h1, t1⟩ := View.list hx
    obtain ⟨w, hw, dw⟩ := t1.atI e
    exact .inl ⟨a, vs, _, w, rfl, View.int hy, .of h1, hw, nowD g dw k⟩
  · obtain ⟨a, vs, rfl, h1, t1⟩ := viewT hx
    obtain ⟨w, hw, dw⟩ := t1.atI e
    exact .inr (.inl ⟨a, vs, _, w, rfl, View.int hy, sqT_mono g.gh h1, hw, nowD g dw k⟩)
  · split at e
    · rename_i hl
      rename_i z0 i0
      cases q : L2.atI z0.cps.toList i0 with
      | none => rw [q] at e; cases e
      | some k0 =>
        rw [q] at e
        cases e
        exact .inr (.inr ⟨z0, i0, k0, View.str hx, View.int hy, by rw [sizeLine_eq]; exact hl, q, nowD g (dtS.mpr rfl) k⟩)
    · cases e
  · cases e
/-- xs[lo:hi] -/
def cutD (xs : List D) (lo hi : Option Int) : List D := (xs.drop (HT.sIx xs.length 0 lo)).take (HT.sIx xs.length xs.length hi - HT.sIx xs.length 0 lo)
theorem DtA.cut {xs : List D} {vs : List V} (t : DtA K G xs vs) (lo hi : Option Int) : DtA K G (cutD xs lo hi) (cutV vs lo hi) := by
  unfold cutD cutV
  rw [t.length]
  exact (t.drop _).take _
def dSl : D → Option Int → Option Int → Option D
  | .str z, lo, hi => if z.length ≤ 16777216 then some (.str (cutS z lo hi)) else none
  | .list xs, lo, hi => some (.list (cutD xs lo hi))
  | .tuple xs, lo, hi => some (.tuple (cutD xs lo hi))
  | _, _, _ => none
theorem sl_any : SlX c (RDt c.K) dSl := by
  refine ⟨fun x lo hi H Q => rSlS x lo hi H Q ∨ (rSlL c.K x lo hi H Q ∨ rSlA c.K x lo hi H Q), fun X g => by (rw [← g.K]; exact sl_str.or (sl_list.or sl_tupA)), fun p G H M x lo hi z v Q g hx e k => ?_⟩
  unfold dSl at e
  split at e
  · split at e
    · rename_i hl
      cases e
      exact .inl ⟨_, View.str hx, by rw [sizeLine_eq]; exact hl, nowD g (dtS.mpr rfl) k⟩
    · cases e
  · cases e
    obtain ⟨a, vs, rfl, h1, t1⟩ := View.list hx
    exact .inr (.inl ⟨a, vs, rfl, .of h1, fun q hq => layL g hq (t1.cut _ _) k⟩)
  · cases e
    obtain ⟨a, vs, rfl, h1, t1⟩ := viewT hx
    refine .inr (.inr ⟨a, vs, rfl, sqT_mono g.gh h1, fun hw => ?_, fun hw q hq => layT g hq (t1.cut _ _) k⟩)
    have e1 : ∀ ys : List D, DtA c.K G ys vs → cutD ys lo hi = ys := fun ys t => by
      unfold cutD
      rw [← t.length, hw.1, hw.2, List.drop_zero, Nat.sub_zero, t.length, List.take_length]
    rw [e1 _ t1] at k
    exact nowD g (dtT h1 t1) k
  · cases e
def lSl : D → Option Int → Option Int → Option (List D)
  | .list xs, lo, hi => some (cutD xs lo hi)
  | _, _, _ => none
theorem sl_anyF : SlX c (RFr c.K) lSl := by
  refine ⟨rSlL c.K, fun X g => by (rw [← g.K]; exact sl_list), fun p G H M x lo hi z v Q g hx e k => ?_⟩
  unfold lSl at e
  split at e
  · cases e
    obtain ⟨a, vs, rfl, h1, t1⟩ := View.list hx
    exact ⟨a, vs, rfl, .of h1, fun q hq => layF g hq (t1.cut _ _) k⟩
  · cases e

/-! ### calls -/
def dLen : List D → Option D
  | [.str z] => if z.length ≤ 16777216 then some (.int z.length) else none
  | [.list xs] => some (.int xs.length)
  | [.tuple xs] => some (.int xs.length)
  | _ => none
theorem cx_len : CallX c (RDt c.K) (.builtin "len") dLen := by
  refine ⟨fun xs H Q => ∃ x n, xs = [x] ∧ LenV c.K x H n ∧ Q (.int n) H, fun X g => by (rw [← g.K]; exact call_len), fun p G H M xs z vs Q g hx e k => ?_⟩
  unfold dLen at e
  split at e
  · split at e
    · rename_i hl
      cases e
      obtain ⟨v, rfl, d⟩ := vws1 hx
      exact ⟨v, _, rfl, by rw [View.str d]; exact ⟨by rw [sizeLine_eq]; exact hl, rfl⟩, nowD g (dtI.mpr rfl) k⟩
    · cases e
  · cases e
    obtain ⟨v, rfl, d⟩ := vws1 hx
    obtain ⟨a, us, rfl, h1, t1⟩ := View.list d
    exact ⟨_, us.length, rfl, .inl ⟨us, .of h1, rfl⟩, nowD g (dtI.mpr (by rw [t1.length])) k⟩
  · cases e
    obtain ⟨v, rfl, d⟩ := vws1 hx
    obtain ⟨a, us, rfl, h1, t1⟩ := viewT d
    exact ⟨_, us.length, rfl, .inr ⟨us, sqT_mono g.gh h1, rfl⟩, nowD g (dtI.mpr (by rw [t1.length])) k⟩
  · cases e
def dAbs : List D → Option D
  | [.int i] => some (.int (if i < 0 then -i else i))
  | _ => none
theorem cx_abs : CallX c (RDt c.K) (.builtin "abs") dAbs := by
  refine ⟨_, fun X g => call_abs, fun p G H M xs z vs Q g hx e k => ?_⟩
  unfold dAbs at e
  split at e
  · cases e
    obtain ⟨v, rfl, d⟩ := vws1 hx
    exact ⟨_, by rw [View.int d], nowD g (dtI.mpr rfl) k⟩
  · cases e
def dInt : List D → Option D
  | [.int i] => some (.int i)
  | [.bool b] => some (.int (if b then 1 else 0))
  | _ => none
theorem cx_int : CallX c (RDt c.K) (.type "int") dInt := by
  refine ⟨_, fun X g => call_int1, fun p G H M xs z vs Q g hx e k => ?_⟩
  unfold dInt at e
  split at e
  · cases e
    obtain ⟨v, rfl, d⟩ := vws1 hx
    exact .inl ⟨_, by rw [View.int d], nowD g (dtI.mpr rfl) k⟩
  · cases e
    obtain ⟨v, rfl, d⟩ := vws1 hx
    exact .inr ⟨_, by rw [View.bool d], nowD g (dtI.mpr rfl) k⟩
  · cases e
theorem ints_of : ∀ {xs : List D} {ns : List Int}, xs.mapM (fun x => match x with | .int i => some i | _ => none) = some ns → xs = ns.map .int
  | [], ns, h => by simp at h; subst h; rfl
  | x :: xs, ns, h => by
    rw [List.mapM_cons] at h
    cases x with
    | int i =>
      simp only [Option.bind_eq_bind, Option.bind_some] at h
      cases q : xs.mapM (fun x => match x with | .int i => some i | _ => none) with
      | none => rw [q] at h; cases h
      | some ms =>
        rw [q] at h
        cases h
        rw [List.map_cons, ints_of q]
    | _ => cases h
def intsD (xs : List D) : Option (List Int) := xs.mapM fun x => match x with | .int i => some i | _ => none
def boolsD (xs : List D) : Option (List Bool) := xs.mapM fun x => match x with | .bool i => some i | _ => none
def strsD (xs : List D) : Option (List Str) := xs.mapM fun x => match x with | .str i => some i | _ => none
theorem intsD_map (ns : List Int) : intsD (ns.map .int) = some ns := by
  unfold intsD
  induction ns with
  | nil => rfl
  | cons n ns ih => rw [List.map_cons, List.mapM_cons]; simp only [Option.bind_eq_bind, Option.bind_some, ih]; rfl
theorem boolsD_map (ns : List Bool) : boolsD (ns.map .bool) = some ns := by
  unfold boolsD
  induction ns with
  | nil => rfl
  | cons n ns ih => rw [List.map_cons, List.mapM_cons]; simp only [Option.bind_eq_bind, Option.bind_some, ih]; rfl
theorem strsD_map (ns : List Str) : strsD (ns.map .str) = some ns := by
  unfold strsD
  induction ns with
  | nil => rfl
  | cons n ns ih => rw [List.map_cons, List.mapM_cons]; simp only [Option.bind_eq_bind, Option.bind_some, ih]; rfl
theorem bools_of : ∀ {xs : List D} {ns : List Bool}, boolsD xs = some ns → xs = ns.map .bool
  | [], ns, h => by simp [boolsD] at h; subst h; rfl
  | x :: xs, ns, h => by
    unfold boolsD at h
    rw [List.mapM_cons] at h
    cases x with
    | bool i =>
      simp only [Option.bind_eq_bind, Option.bind_some] at h
      cases q : xs.mapM (fun x => match x with | .bool i => some i | _ => none) with
      | none => rw [q] at h; cases h
      | some ms =>
        rw [q] at h
        cases h
        rw [List.map_cons, bools_of q]
    | _ => cases h
theorem strs_of : ∀ {xs : List D} {ns : List Str}, strsD xs = some ns → xs = ns.map .str
  | [], ns, h => by simp [strsD] at h; subst h; rfl
  | x :: xs, ns, h => by
    unfold strsD at h
    rw [List.mapM_cons] at h
    cases x with
    | str i =>
      simp only [Option.bind_eq_bind, Option.bind_some] at h
      cases q : xs.mapM (fun x => match x with | .str i => some i | _ => none) with
      | none => rw [q] at h; cases h
      | some ms =>
        rw [q] at h
        cases h
        rw [List.map_cons, strs_of q]
    | _ => cases h
theorem DtA.bools : ∀ {ns : List Bool} {xs : List V}, DtA K G (ns.map .bool) xs → xs = ns.map .bl
  | [], xs, h => by simpa [DtA.nil_iff] using h
  | n :: ns, xs, h => by
    rw [List.map_cons, DtA.cons_iff] at h
    obtain ⟨v, vs, rfl, h, t⟩ := h
    simp only [Dt] at h
    rw [h, DtA.bools t]; rfl
theorem DtA.strs : ∀ {ns : List Str} {xs : List V}, DtA K G (ns.map .str) xs → xs = ns.map .str
  | [], xs, h => by simpa [DtA.nil_iff] using h
  | n :: ns, xs, h => by
    rw [List.map_cons, DtA.cons_iff] at h
    obtain ⟨v, vs, rfl, h, t⟩ := h
    simp only [Dt] at h
    rw [h, DtA.strs t]; rfl
/-- the least, the greatest -/
def leastI : List Int → Int
  | [] => 0
  | [n] => n
  | n :: m :: r => min n (leastI (m :: r))
def mostI : List Int → Int
  | [] => 0
  | [n] => n
  | n :: m :: r => max n (mostI (m :: r))
theorem leastI_mem : ∀ {ns : List Int}, 0 < ns.length → leastI ns ∈ ns ∧ ∀ y ∈ ns, leastI ns ≤ y
  | [], h => by simp at h
  | [n], _ => by simp [leastI]
  | n :: m :: r, _ => by
    obtain ⟨h1, h2⟩ := leastI_mem (ns := m :: r) (by simp)
    unfold leastI
    refine ⟨?_, fun y hy => ?_⟩
    · rcases Int.le_total n (leastI (m :: r)) with q | q
      · rw [Int.min_eq_left q]; exact List.mem_cons_self
      · rw [Int.min_eq_right q]; exact List.mem_cons_of_mem _ h1
    · rcases List.mem_cons.mp hy with rfl | hy
      · exact Int.min_le_left _ _
      · exact Int.le_trans (Int.min_le_right _ _) (h2 y hy)
theorem mostI_mem : ∀ {ns : List Int}, 0 < ns.length → mostI ns ∈ ns ∧ ∀ y ∈ ns, y ≤ mostI ns
  | [], h => by simp at h
  | [n], _ => by simp [mostI]
  | n :: m :: r, _ => by
    obtain ⟨h1, h2⟩ := mostI_mem (ns := m :: r) (by simp)
    unfold mostI
    refine ⟨?_, fun y hy => ?_⟩
    · rcases Int.le_total n (mostI (m :: r)) with q | q
      · rw [Int.max_eq_right q]; exact List.mem_cons_of_mem _ h1
      · rw [Int.max_eq_left q]; exact List.mem_cons_self
    · rcases List.mem_cons.mp hy with rfl | hy
      · exact Int.le_max_left _ _
      · exact Int.le_trans (h2 y hy) (Int.le_max_right _ _)
def dMin : List D → Option D
  | [.int i, .int j] => some (.int (min i j))
  | [.list xs] => (intsD xs).bind fun ns => if ns.length = 0 then none else some (.int (leastI ns))
  | _ => none
def dMax : List D → Option D
  | [.int i, .int j] => some (.int (max i j))
  | [.list xs] => (intsD xs).bind fun ns => if ns.length = 0 then none else some (.int (mostI ns))
  | _ => none
theorem cx_min : CallX c (RDt c.K) (.builtin "min") dMin := by
  refine ⟨fun xs H Q => (∃ i j, xs = [.int i, .int j] ∧ Q (.int (if j < i then j else i)) H) ∨ rMin c.K xs H Q, fun X g => by (rw [← g.K]; exact (call_min2 g.calm).or (cr_min g.calm)), fun p G H M xs z vs Q g hx e k => ?_⟩
  unfold dMin at e
  split at e
  · cases e
    obtain ⟨v, w, rfl, d, d'⟩ := vws2 hx
    refine .inl ⟨_, _, by rw [View.int d, View.int d'], nowD g (dtI.mpr ?_) k⟩
    congr 1
    split <;> omega
  · obtain ⟨v, rfl, d⟩ := vws1 hx
    obtain ⟨a, us, rfl, h1, t1⟩ := View.list d
    rename_i ys
    cases q : intsD ys with
    | none => rw [q] at e; cases e
    | some ns =>
      rw [q] at e
      have e : (if ns.length = 0 then none else some (PyData.int (leastI ns))) = some z := e
      split at e
      · cases e
      · rename_i hne
        cases e
        rw [ints_of q, DtA.ints] at t1
        subst t1
        obtain ⟨m1, m2⟩ := leastI_mem (ns := ns) (by omega)
        refine .inr ⟨a, ns, rfl, .of h1, by omega, fun m hm hle => nowD g (dtI.mpr ?_) k⟩
        have l1 := hle _ m1
        have l2 := m2 m hm
        congr 1; omega
  · cases e
theorem cx_max : CallX c (RDt c.K) (.builtin "max") dMax := by
  refine ⟨fun xs H Q => (∃ i j, xs = [.int i, .int j] ∧ Q (.int (if j > i then j else i)) H) ∨ rMax c.K xs H Q, fun X g => by (rw [← g.K]; exact (call_max2 g.calm).or (cr_max g.calm)), fun p G H M xs z vs Q g hx e k => ?_⟩
  unfold dMax at e
  split at e
  · cases e
    obtain ⟨v, w, rfl, d, d'⟩ := vws2 hx
    refine .inl ⟨_, _, by rw [View.int d, View.int d'], nowD g (dtI.mpr ?_) k⟩
    congr 1
    split <;> omega
  · obtain ⟨v, rfl, d⟩ := vws1 hx
    obtain ⟨a, us, rfl, h1, t1⟩ := View.list d
    rename_i ys
    cases q : intsD ys with
    | none => rw [q] at e; cases e
    | some ns =>
      rw [q] at e
      have e : (if ns.length = 0 then none else some (PyData.int (mostI ns))) = some z := e
      split at e
      · cases e
      · rename_i hne
        cases e
        rw [ints_of q, DtA.ints] at t1
        subst t1
        obtain ⟨m1, m2⟩ := mostI_mem (ns := ns) (by omega)
        refine .inr ⟨a, ns, rfl, .of h1, by omega, fun m hm hle => nowD g (dtI.mpr ?_) k⟩
        have l1 := hle _ m1
        have l2 := m2 m hm
        congr 1; omega
  · cases e
def dSum : List D → Option D
  | [.list xs] => (intsD xs).map fun ns => .int ns.sum
  | _ => none
theorem cx_sum : CallX c (RDt c.K) (.builtin "sum") dSum := by
  refine ⟨rSum c.K, fun X g => by (rw [← g.K]; exact cr_sum g.calm), fun p G H M xs z vs Q g hx e k => ?_⟩
  unfold dSum at e
  split at e
  · obtain ⟨v, rfl, d⟩ := vws1 hx
    obtain ⟨a, us, rfl, h1, t1⟩ := View.list d
    rename_i ys
    cases q : intsD ys with
    | none => rw [q] at e; cases e
    | some ns =>
      rw [q] at e
      cases e
      rw [ints_of q, DtA.ints] at t1
      subst t1
      exact ⟨a, ns, rfl, .of h1, nowD g (dtI.mpr rfl) k⟩
  · cases e
def dAll : List D → Option D
  | [.list xs] => (boolsD xs).map fun ns => .bool (ns.all id)
  | _ => none
def dAny : List D → Option D
  | [.list xs] => (boolsD xs).map fun ns => .bool (ns.any id)
  | _ => none
theorem cx_all : CallX c (RDt c.K) (.builtin "all") dAll := by
  refine ⟨rAll c.K, fun X g => by (rw [← g.K]; exact cr_all g.calm), fun p G H M xs z vs Q g hx e k => ?_⟩
  unfold dAll at e
  split at e
  · obtain ⟨v, rfl, d⟩ := vws1 hx
    obtain ⟨a, us, rfl, h1, t1⟩ := View.list d
    rename_i ys
    cases q : boolsD ys with
    | none => rw [q] at e; cases e
    | some ns =>
      rw [q] at e
      cases e
      rw [bools_of q] at t1
      have t1 := DtA.bools t1
      subst t1
      exact ⟨a, ns, rfl, .of h1, nowD g (dtB.mpr rfl) k⟩
  · cases e
theorem cx_any : CallX c (RDt c.K) (.builtin "any") dAny := by
  refine ⟨rAny c.K, fun X g => by (rw [← g.K]; exact cr_any g.calm), fun p G H M xs z vs Q g hx e k => ?_⟩
  unfold dAny at e
  split at e
  · obtain ⟨v, rfl, d⟩ := vws1 hx
    obtain ⟨a, us, rfl, h1, t1⟩ := View.list d
    rename_i ys
    cases q : boolsD ys with
    | none => rw [q] at e; cases e
    | some ns =>
      rw [q] at e
      cases e
      rw [bools_of q] at t1
      have t1 := DtA.bools t1
      subst t1
      exact ⟨a, ns, rfl, .of h1, nowD g (dtB.mpr rfl) k⟩
  · cases e
def lList : List D → Option (List D)
  | [.list xs] => some xs
  | [.tuple xs] => some xs
  | [.str x] => if x.length ≤ 16777216 then some (x.cps.toList.map fun k => .str ⟨#[k]⟩) else none
  | _ => none
theorem vals_by : ∀ {xs : List V} {us : List Value}, xs.length = us.length → (∀ (j : Nat) v u, xs[j]? = some v → us[j]? = some u → RelV v u) → Vals xs us
  | [], [], _, _ => .nil
  | [], _ :: _, h, _ => by simp at h
  | _ :: _, [], h, _ => by simp at h
  | x :: xs, u :: us, h, r => .cons (r 0 x u rfl rfl) (vals_by (by simpa using h) fun j v u h1 h2 => r (j + 1) v u (by simpa using h1) (by simpa using h2))
/-- list(x), x a text -/
theorem call_listStr {X : Cx} (hc : X.calm = true) : CallR X (.type "list") (fun xs H Q => ∃ x : Str, xs = [.str x] ∧ x.length ≤ sizeLine ∧ ∀ l, H l = none → Q (.ref l) (upd H l (.lst (x.cps.toList.map fun k => .str ⟨#[k]⟩)))) := by
  intro pins s σ H xs us Q I r h
  obtain ⟨x, rfl, hl, q⟩ := h
  obtain ⟨u, rfl, rx⟩ := vals1 r
  obtain ⟨t, rfl⟩ : ∃ t, u = .str x t := rx
  refine call_list_str (I.ok.hd hc) x t (hn := hl) fun h' tk acc' c' kp e it => ?_
  have rv : Vals (x.cps.toList.map fun k => V.str ⟨#[k]⟩) acc'.toList := by
    refine vals_by (by rw [List.length_map, Array.length_toList, Array.length_toList]; exact it.1.symm) fun j v u h1 h2 => ?_
    obtain ⟨k, tk, hk, rfl⟩ := it.2 j u (by rw [← Array.getElem?_toList]; exact h2)
    rw [List.getElem?_map, Array.getElem?_toList, hk] at h1
    cases h1
    exact ⟨tk, rfl⟩
  refine ⟨.ref s.heap.objs.size, _, I.laid (t' := tk) kp (Nat.le_refl _) (show ObjOk X.prog X.w _ h' _ (.lst _) from ⟨by rw [List.length_map, Array.length_toList]; exact hl, acc'.toList, c', rv, by simpa using e⟩), rfl, q _ (I.hok.fresh (Nat.le_refl _))⟩
theorem dtChars {K : PySem.W.Frag} {G : Hp} : ∀ (ks : List Nat), DtA K G (ks.map fun k => .str ⟨#[k]⟩) (ks.map fun k => V.str ⟨#[k]⟩)
  | [] => DtA.nil
  | k :: ks => .cons (dtS.mpr rfl) (dtChars ks)
theorem cx_listF : CallX c (RFr c.K) (.type "list") lList := by
  refine ⟨fun xs H Q => (∃ p ys, xs = [.ref p] ∧ (SqL c.K H p ys ∨ SqT c.K H p ys) ∧ ∀ l, H l = none → Q (.ref l) (upd H l (.lst ys))) ∨ (∃ x : Str, xs = [.str x] ∧ x.length ≤ sizeLine ∧ ∀ l, H l = none → Q (.ref l) (upd H l (.lst (x.cps.toList.map fun k => .str ⟨#[k]⟩)))), fun X g => by (rw [← g.K]; exact CallR.or call_list_of (call_listStr g.calm)), fun p G H M xs z vs Q g hx e k => ?_⟩
  unfold lList at e
  split at e
  · cases e
    obtain ⟨v, rfl, d⟩ := vws1 hx
    obtain ⟨a, us, rfl, h1, t1⟩ := View.list d
    exact .inl ⟨a, us, rfl, .inl (.of h1), fun q hq => layF g hq t1 k⟩
  · cases e
    obtain ⟨v, rfl, d⟩ := vws1 hx
    obtain ⟨a, us, rfl, h1, t1⟩ := viewT d
    exact .inl ⟨a, us, rfl, .inr (sqT_mono g.gh h1), fun q hq => layF g hq t1 k⟩
  · split at e
    · rename_i hl
      cases e
      obtain ⟨v, rfl, d⟩ := vws1 hx
      exact .inr ⟨_, by rw [View.str d], by rw [sizeLine_eq]; exact hl, fun q hq => layF g hq (dtChars _) k⟩
    · cases e
  · cases e
def dTuple : List D → Option D
  | [.list xs] => some (.tuple xs)
  | [.tuple xs] => some (.tuple xs)
  | _ => none
theorem cx_tuple : CallX c (RDt c.K) (.type "tuple") dTuple := by
  refine ⟨fun xs H Q => ∃ p ys, xs = [.ref p] ∧ ((SqL c.K H p ys ∧ ∀ l, H l = none → Q (.ref l) (upd H l (.tup ys))) ∨ (SqT c.K H p ys ∧ Q (.ref p) H)), fun X g => by (rw [← g.K]; exact call_tuple_of), fun p G H M xs z vs Q g hx e k => ?_⟩
  unfold dTuple at e
  split at e
  · cases e
    obtain ⟨v, rfl, d⟩ := vws1 hx
    obtain ⟨a, us, rfl, h1, t1⟩ := View.list d
    exact ⟨a, us, rfl, .inl ⟨.of h1, fun q hq => layT g hq t1 k⟩⟩
  · cases e
    obtain ⟨v, rfl, d⟩ := vws1 hx
    obtain ⟨a, us, rfl, h1, t1⟩ := viewT d
    exact ⟨a, us, rfl, .inr ⟨sqT_mono g.gh h1, nowD g (dtT h1 t1) k⟩⟩
  · cases e
/-- repr of what needs no guard -/
def dRepr0 : List D → Option D
  | [.bool b] => some (.str (if b then "True" else "False"))
  | [.none] => some (.str "None")
  | _ => none
theorem call_repr0 {X : Cx} : CallR X (.builtin "repr") (fun xs H Q => (∃ b, xs = [.bl b] ∧ Q (.str (if b then "True" else "False")) H) ∨ (xs = [.non] ∧ Q (.str "None") H)) := by
  intro pins s σ H xs us Q I r h
  rcases h with ⟨b, rfl, q⟩ | ⟨rfl, q⟩
  · obtain ⟨u, rfl, ru⟩ := vals1 r
    cases ru
    exact PySem.P.repr_of_bool ⟨.str _, H, I.tok _, ⟨_, rfl⟩, q⟩
  · obtain ⟨u, rfl, ru⟩ := vals1 r
    cases ru
    exact PySem.P.repr_of_none ⟨.str _, H, I.tok _, ⟨_, rfl⟩, q⟩
theorem cx_repr0 : CallX c (RDt c.K) (.builtin "repr") dRepr0 := by
  refine ⟨_, fun X g => call_repr0, fun p G H M xs z vs Q g hx e k => ?_⟩
  unfold dRepr0 at e
  split at e
  · cases e
    obtain ⟨v, rfl, d⟩ := vws1 hx
    exact .inl ⟨_, by rw [View.bool d], nowD g (dtS.mpr rfl) k⟩
  · cases e
    obtain ⟨v, rfl, d⟩ := vws1 hx
    exact .inr ⟨by rw [View.none d], nowD g (dtS.mpr rfl) k⟩
  · cases e
end
end RL

set_option Elab.async false
set_option linter.all false
set_option maxRecDepth 100000
set_option maxHeartbeats 1000000
namespace RL
open PySem PySem.Spec PyProof.Rows L2
section
variable {c : Sc} {K : PySem.W.Frag} {p : Pt} {G H : Hp} {M : List Int} {Q : VK}
variable {a b e e2 : Expr} {es : List Expr} {fe fa fb : Ev D} {i : Nat} {x : Str} {pos p1 p2 apos : Pos}

/-! ### isinstance -/
def tyS : D → Option String
  | .none => some "NoneType"
  | .bool _ => some "bool"
  | .int _ => some "int"
  | .str _ => some "str"
  | .list _ => some "list"
  | .tuple _ => some "tuple"
  | .dict _ => none
theorem tyX_of {x : D} {v : V} {t : String} (g : Gr p G H M) (h : View K p G H x v) (e : tyS x = some t) : TyX K H v (.type t) := by
  cases x with
  | none => cases e; rw [View.none h]; exact .base .non
  | bool k => cases e; rw [View.bool h]; exact .base (.bl k)
  | int k => cases e; rw [View.int h]; exact .base (.int k)
  | str k => cases e; rw [View.str h]; exact .base (.str k)
  | list k =>
    cases e
    obtain ⟨a, xs, rfl, h1, _⟩ := View.list h
    exact .base (.lst h1)
  | tuple k =>
    cases e
    obtain ⟨a, xs, rfl, h1, _⟩ := View.tuple g h
    rcases h1 with (h1 | ⟨o, h1⟩) | ⟨o, its, n, h1, h2, _⟩
    · exact .base (.tup h1)
    · exact .fTuple h1
    · exact .kTuple h1 h2
  | dict k => cases e
def fIsi (T : String) (fa : Ev D) : Ev D := fun ρ M => (fa ρ M).bnd fun x M1 => Rs.of ((tyS x).bind fun t => (kitB t T).map .bool) M1
theorem re_isi {T : String} {Ts : Str} (ha : RV c a fa) (hg : c.sc.names.lookup ("isinstance" : Str) = some .globalImplicit) (hm : c.mg "isinstance" = none) (hgT : c.sc.names.lookup Ts = some .globalImplicit) (hmT : c.mg Ts = none) (hvT : bootBuiltins Ts = some (.type T))
    (hnT : Ts ≠ "__name__" := by decide) (hdT : (Ts == ("__debug__" : Str)) = false := by decide)
    (he : ∀ env, starEach [a, .Name Ts p2] env = (false, eval a env) :: starEach [.Name Ts p2] env := by intro _; rfl) (he2 : ∀ env, starEach [.Name Ts p2] env = (false, eval (.Name Ts p2) env) :: starEach [] env := by intro _; rfl)
    (hpl : ∀ env, (backTo pos (starEach [.Name Ts p2] env)).any (·.1) = false := by intro _; rfl) : RE c (.Call (.Name "isinstance" p1) [a, .Name Ts p2] [] pos) (fIsi T fa) := by
  obtain ⟨t, pa, s⟩ := ha
  refine ⟨fun E => tCB (rIsi c.K) (tCons (t E) (tCons (tC (.ty T)) tNil)), fun X E g ps => ?_, fun B G σ H ρ M Q E rl h => ?_⟩
  · rw [← g.K]
    exact pe_callB call_isi (glI g hg) (by rw [g.mg]; exact hm) rfl (pa_cons (pa X E g ps) (pa_cons (pe_bltn (glI g hgT) (by rw [g.mg]; exact hmT) hvT rfl hnT hdT) pa_nil (he2 _)) (he _)) (by decide) (by decide) (he _) (hpl _)
  · unfold fIsi at h
    rw [sat_bnd] at h
    refine s.use rl h fun x M1 v G1 H1 h1 s1 g1 d1 rl1 => ?_
    obtain ⟨z, e, q⟩ := sat_of.mp h1
    cases q1 : tyS x with
    | none => rw [q1] at e; cases e
    | some t1 =>
      rw [q1] at e
      have e : (kitB t1 T).map PyData.bool = some z := e
      cases q2 : kitB t1 T with
      | none => rw [q2] at e; cases e
      | some k =>
        rw [q2] at e
        cases e
        exact ⟨v, .ty T, _, _, k, rfl, .ty T, tyX_of g1 d1 q1, kit_ty q2, q _ G1 H1 s1 g1 (dtB.mpr rfl)⟩

/-! ### repr -/
def dRepr : List D → Option D
  | [x] => if SeqAt.shaped x = true ∧ x.showable = true ∧ x.shown.length ≤ 16777216 then some (.str x.shown) else none
  | _ => none
theorem depth_of {x : D} (h : SeqAt.shaped x = true) : x.depth ≤ 64 := by
  have h : (x.canLay0 && decide (x.depth ≤ 64)) = true := h
  rw [Bool.and_eq_true] at h
  exact of_decide_eq_true h.2
theorem call_reprD {X : Cx} {k : Nat} (rm : Room k X.A) (gd : X.A.guards = some []) : CallR X (.builtin "repr") (fun xs H Q => ∃ v d, xs = [v] ∧ Dp X.K H v d ∧ (SeqAt.shaped d = true ∧ d.showable = true ∧ d.shown.length ≤ 16777216) ∧ Q (.str d.shown) H) := by
  intro pins s σ H xs us Q I r h
  obtain ⟨v, d, rfl, hd, ⟨h1, h2, h3⟩, q⟩ := h
  obtain ⟨u, rfl, ru⟩ := vals1 r
  obtain ⟨as, rd⟩ := Dp.reads I d v u hd ru
  have h3' : d.shown.length ≤ sizeLine := by rw [sizeLine_eq]; exact h3
  cases d with
  | none =>
    cases hd
    cases ru
    have e : (PyData.none).shown = "None" := by simp only [PyData.shown]
    rw [e] at q
    exact PySem.P.repr_of_none ⟨.str _, H, I.tok _, ⟨_, rfl⟩, q⟩
  | bool b =>
    cases hd
    cases ru
    have e : (PyData.bool b).shown = if b = true then ("True" : Str) else ("False" : Str) := by simp only [PyData.shown]
    rw [e] at q
    exact PySem.P.repr_of_bool ⟨.str _, H, I.tok _, ⟨_, rfl⟩, q⟩
  | int i =>
    cases hd
    obtain ⟨t, rfl⟩ := ru
    have e : (PyData.int i).shown = toString i := by simp only [PyData.shown]
    rw [e] at q
    have h2 : decide (i.natAbs.log2 < 1920) = true := by simpa only [PyData.showable] using h2
    exact PySem.P.repr_of_int (of_decide_eq_true h2) ⟨.str _, H, I.tok _, ⟨_, rfl⟩, q⟩
  | str y =>
    cases hd
    obtain ⟨t, rfl⟩ := ru
    have e : (PyData.str y).shown = reprText y := by simp only [PyData.shown]
    rw [e] at q h3'
    exact PySem.P.repr_of_str ⟨.str _, H, I.tok _, ⟨_, rfl⟩, q⟩ h3'
  | dict kvs => cases hd
  | list ds =>
    cases hd with
    | lst hs ha =>
      cases ru
      have hh : PyData.hasDict (.list ds) = false := PyData.hasDict_of_canLay _ (SeqAt.canLay_of_shaped h1)
      refine repr_of_reads' (h₀ := s.heap) rd h2 (PyData.noDict_hsm hh) gd (by have := rm.units; have := depth_of h1; have := rm.un; omega) (fun _ _ e => e) (fun h' u tk hk => ?_) h3'
      exact ⟨.str _, H, I.kept (t' := tk) hk, ⟨u, rfl⟩, q⟩
  | tuple ds =>
    cases hd with
    | tup hs ha =>
      cases ru
      have hh : PyData.hasDict (.tuple ds) = false := PyData.hasDict_of_canLay _ (SeqAt.canLay_of_shaped h1)
      refine repr_of_reads' (h₀ := s.heap) rd h2 (PyData.noDict_hsm hh) gd (by have := rm.units; have := depth_of h1; have := rm.un; omega) (fun _ _ e => e) (fun h' u tk hk => ?_) h3'
      exact ⟨.str _, H, I.kept (t' := tk) hk, ⟨u, rfl⟩, q⟩
theorem cx_repr : CallX c (RDt c.K) (.builtin "repr") dRepr := by
  refine ⟨fun xs H Q => ∃ v d, xs = [v] ∧ Dp c.K H v d ∧ (SeqAt.shaped d = true ∧ d.showable = true ∧ d.shown.length ≤ 16777216) ∧ Q (.str d.shown) H, fun X g => by (rw [← g.K]; exact call_reprD g.rm g.gd), fun p G H M xs z vs Q g hx e k => ?_⟩
  unfold dRepr at e
  split at e
  · split at e
    · rename_i hc
      cases e
      obtain ⟨v, rfl, d⟩ := vws1 hx
      exact ⟨v, _, rfl, View.dp g d, hc, nowD g (dtS.mpr rfl) k⟩
    · cases e
  · cases e

/-! ### in -/
def dIn (neg : Bool) : D → D → Option D
  | x, .list ys => if SeqAt.shaped x = true ∧ SeqAt.shaped (.list ys) = true then some (.bool (neg != ys.any fun z => PyData.eqv z x)) else none
  | x, .tuple ys => if SeqAt.shaped x = true ∧ SeqAt.shaped (.tuple ys) = true then some (.bool (neg != ys.any fun z => PyData.eqv z x)) else none
  | .str i, .str j => some (.bool (neg != !(Builtin.Str.occurrences j i 0 j.length 1).isEmpty))
  | _, _ => none
def rInT (K : PySem.W.Frag) (neg : Bool) : R2 := fun x y H Q => ∃ d ds, Dp K H x d ∧ Dp K H y (.tuple ds) ∧ SeqAt.shaped d = true ∧ SeqAt.shaped (.tuple ds) = true ∧ Q (.bl (neg != ds.any fun z => PyData.eqv z d)) H
theorem op_inTd {X : Cx} (hu : X.A.units + 65 < cLine) : OpR X (compareOp .In) (rInT X.K false) := by
  intro pins s σ H x y v u Q I rx ry h
  obtain ⟨d, ds, hd, he, sd, se, q⟩ := h
  obtain ⟨as, r1⟩ := Dp.reads I d x v hd rx
  obtain ⟨bs, r2⟩ := Dp.reads I (.tuple ds) y u he ry
  exact SeqAt.in_tuple_reads r2 r1 (SeqAt.canLay_of_shaped se) (SeqAt.canLay_of_shaped sd) (room_in_shaped sd hu) ⟨.bl _, H, I, rfl, by simpa using q⟩
theorem op_notInTd {X : Cx} (hu : X.A.units + 65 < cLine) : OpR X (compareOp .NotIn) (rInT X.K true) := by
  intro pins s σ H x y v u Q I rx ry h
  obtain ⟨d, ds, hd, he, sd, se, q⟩ := h
  obtain ⟨as, r1⟩ := Dp.reads I d x v hd rx
  obtain ⟨bs, r2⟩ := Dp.reads I (.tuple ds) y u he ry
  exact SeqAt.notIn_tuple_reads r2 r1 (SeqAt.canLay_of_shaped se) (SeqAt.canLay_of_shaped sd) (room_in_shaped sd hu) ⟨.bl _, H, I, rfl, by simpa using q⟩
theorem ox_in : OpX c (RDt c.K) (compareOp .In) (dIn false) := by
  refine ⟨fun x y H Q => (rInD c.K x y H Q ∨ rInT c.K false x y H Q) ∨ (∃ i j, x = .str i ∧ y = .str j ∧ Q (.bl (!(Builtin.Str.occurrences j i 0 j.length 1).isEmpty)) H), fun X g => by (rw [← g.K]; exact ((op_inD (by have := g.rm.un; omega)).or (op_inTd (by have := g.rm.un; omega))).or op_in_str), fun p G H M x y z v u Q g hx hy e k => ?_⟩
  unfold dIn at e
  split at e
  · split at e
    · rename_i hc
      cases e
      exact .inl (.inl ⟨_, _, View.dp g hx, View.dp g hy, hc.1, hc.2, nowD g (dtB.mpr (by simp)) k⟩)
    · cases e
  · split at e
    · rename_i hc
      cases e
      exact .inl (.inr ⟨_, _, View.dp g hx, View.dp g hy, hc.1, hc.2, nowD g (dtB.mpr rfl) k⟩)
    · cases e
  · cases e
    exact .inr ⟨_, _, View.str hx, View.str hy, nowD g (dtB.mpr (by simp)) k⟩
  · cases e
theorem ox_notin : OpX c (RDt c.K) (compareOp .NotIn) (dIn true) := by
  refine ⟨fun x y H Q => (rNotInD c.K x y H Q ∨ rInT c.K true x y H Q) ∨ (∃ i j, x = .str i ∧ y = .str j ∧ Q (.bl (!(!(Builtin.Str.occurrences j i 0 j.length 1).isEmpty))) H), fun X g => by (rw [← g.K]; exact ((op_notInD (by have := g.rm.un; omega)).or (op_notInTd (by have := g.rm.un; omega))).or op_notIn_str), fun p G H M x y z v u Q g hx hy e k => ?_⟩
  unfold dIn at e
  split at e
  · split at e
    · rename_i hc
      cases e
      exact .inl (.inl ⟨_, _, View.dp g hx, View.dp g hy, hc.1, hc.2, nowD g (dtB.mpr (by simp)) k⟩)
    · cases e
  · split at e
    · rename_i hc
      cases e
      exact .inl (.inr ⟨_, _, View.dp g hx, View.dp g hy, hc.1, hc.2, nowD g (dtB.mpr rfl) k⟩)
    · cases e
  · cases e
    exact .inr ⟨_, _, View.str hx, View.str hy, nowD g (dtB.mpr (by simp)) k⟩
  · cases e

/-! ### join -/
def dJoin : D → D → Option D
  | .str a, .list xs => (strsD xs).bind fun ys => if (ys.map (·.length)).sum + ys.length * a.length ≤ 16777216 then some (.str (Txt.join a ys)) else none
  | _, _ => none
def fJoin (fa fb : Ev D) : Ev D := fun ρ M => (fa ρ M).bnd fun x M1 => match x with
  | .str a => (fb ρ M1).bnd fun y M2 => Rs.of (dJoin (.str a) y) M2
  | _ => .bad
theorem re_join (ha : RV c a fa) (hb : RV c b fb) (hs : ∀ env, starEach [b] env = [(false, eval b env)] := by intro _; rfl) (hbase : ∀ env, attributeBase a "join" env (eval a env) = eval a env := by intro _; rfl) (hline : (apos.endLine == pos.line) = true := by rfl) :
    RE c (.Call (.Attribute a "join" apos) [b] [] pos) (fJoin fa fb) := by
  obtain ⟨ta, pa, sa⟩ := ha
  obtain ⟨tb, pb, sb⟩ := hb
  refine ⟨fun E => tM1 (fun x xs H Q => ∃ a p, ∃ ys : List Str, x = .str a ∧ xs = [.ref p] ∧ (SqL c.K H p (ys.map V.str) ∨ SqT c.K H p (ys.map V.str)) ∧
      (ys.map (·.length)).sum + ys.length * a.length ≤ 16777216 ∧ Q (.str (Txt.join a ys)) H) (ta E) (tb E), fun X E g ps => by (rw [← g.K]; exact pe_join (pa X E g ps) (pb X E g ps) (hs _) (hbase _) hline), fun B G σ H ρ M Q E rl h => ?_⟩
  unfold fJoin at h
  rw [sat_bnd] at h
  refine sa.use rl h fun x M1 v G1 H1 h1 s1 g1 d1 rl1 => ?_
  cases x with
  | str y =>
    refine ⟨⟨y, View.str d1⟩, ?_⟩
    rw [sat_bnd] at h1
    refine sb.use rl1 (fwd s1 h1) fun w M2 u G2 H2 h2 s2 g2 d2 _ => ?_
    obtain ⟨z, e, q⟩ := sat_of.mp h2
    cases w with
    | list xs =>
      obtain ⟨l, us, rfl, k1, k2⟩ := View.list d2
      simp only [dJoin] at e
      cases qs : strsD xs with
      | none => rw [qs] at e; cases e
      | some ys =>
        rw [qs] at e
        have e : (if (ys.map (·.length)).sum + ys.length * y.length ≤ 16777216 then some (PyData.str (Txt.join y ys)) else none) = some z := e
        split at e
        · rename_i hl
          cases e
          rw [strs_of qs] at k2
          have k2 := DtA.strs k2
          subst k2
          exact ⟨y, l, ys, View.str d1, rfl, .inl (.of k1), hl, q _ G2 H2 (s1.trans s2) g2 (dtS.mpr rfl)⟩
        · cases e
    | _ => cases e
  | _ => exact h1.elim

/-! ### the draws, read -/
def fLenP (i : Nat) : Ev D := fun ρ M => if isPot ρ[i]? = true then .ok (.int (potL ρ[i]? M).length) M else .bad
theorem re_lenP (hN : c.N[i]? = some x) (hv : Vis c.sc x) (hg : c.sc.names.lookup ("len" : Str) = some .globalImplicit) (hm : c.mg "len" = none) (hd : (x == ("__debug__" : Str)) = false := by decide) (hcd : (x == ("__classdict__" : Str)) = false := by decide)
    (he : ∀ env, starEach [.Name x p2] env = (false, eval (.Name x p2) env) :: starEach [] env := by intro _; rfl) (hpl : ∀ env, (backTo pos (starEach [] env)).any (·.1) = false := by intro _; rfl) : RE c (.Call (.Name "len" p1) [.Name x p2] [] pos) (fLenP i) := by
  refine ⟨fun E => tCB (fun xs H Q => ∃ x n, xs = [x] ∧ LenV c.K x H n ∧ Q (.int n) H) (tCons (tVar i) tNil), fun X E g ps => ?_, fun B G σ H ρ M Q E rl h => ?_⟩
  · rw [← g.K]
    exact pe_callB call_len (glI g hg) (by rw [g.mg]; exact hm) rfl (pa_cons (pe_var (by rw [g.N]; exact hN) (vis_of g hv) hd hcd) pa_nil (he _)) (by decide) (by decide) (he _) (hpl _)
  · unfold fLenP at h
    split at h
    · rename_i hp
      obtain ⟨pa, e0, ro⟩ := rl.isPot hp
      refine ⟨_, e0, .ref pa, (potL ρ[i]? M).length, rfl, .inl ⟨_, ro G H M (.refl rl.gr) rl.gr, by rw [List.length_map]⟩, ?_⟩
      exact h _ G H (.refl rl.gr) rl.gr (dtI.mpr rfl)
    · exact h.elim
def fSlP (i : Nat) (fl fh : Ev (Option Int)) : Ev (List D) := fun ρ M => if isPot ρ[i]? = true then (fl ρ M).bnd fun l M1 => (fh ρ M1).bnd fun h M2 => .ok (cutD ((potL ρ[i]? M2).map .int) l h) M2 else .bad
theorem rf_slP {lo hi : Option Expr} {fl fh : Ev (Option Int)} {p3 : Pos} (hN : c.N[i]? = some x) (hv : Vis c.sc x) (hl : RO c lo fl) (hh : RO c hi fh) (hd : (x == ("__debug__" : Str)) = false := by decide) (hcd : (x == ("__classdict__" : Str)) = false := by decide) : RF c (.Subscript (.Name x p2) (.Slice lo hi none p3) pos) (fSlP i fl fh) := by
  obtain ⟨tl, pl, sl⟩ := hl
  obtain ⟨th, ph, sh⟩ := hh
  refine ⟨fun E => tSl (rSlL c.K) (tVar i) (tl E) (th E), fun X E g ps => ?_, fun B G σ H ρ M Q E rl h => ?_⟩
  · rw [← g.K]
    exact pe_slice sl_list (pe_var (by rw [g.N]; exact hN) (vis_of g hv) hd hcd) (pl X E g ps) (ph X E g ps)
  · unfold fSlP at h
    split at h
    · rename_i hp
      obtain ⟨pa, e0, ro⟩ := rl.isPot hp
      refine ⟨_, e0, ?_⟩
      rw [sat_bnd] at h
      refine sl.use rl h fun l M1 l' G1 H1 h1 s1 g1 d1 rl1 => ?_
      cases (show l = l' from d1)
      rw [sat_bnd] at h1
      refine sh.use rl1 (fwd s1 h1) fun u M2 u' G2 H2 h2 s2 g2 d2 rl2 => ?_
      cases (show u = u' from d2)
      refine ⟨pa, _, rfl, ro G2 H2 M2 (s1.trans s2) g2, fun q hq => ?_⟩
      have t : DtA c.K G2 ((potL ρ[i]? M2).map .int) ((potL ρ[i]? M2).map .int) := DtA.ints.mpr rfl
      exact h2 _ _ _ ((s1.trans s2).trans (.put g2 hq)) (g2.put hq) ⟨q, _, rfl, (s1.trans s2).fresh g2 hq, upd_same, g2.free hq, g2.nep hq, t.cut _ _⟩
    · exact h.elim

/-! ### list(range(..)) -/
def fLr1 (f : Ev D) : Ev (List D) := fun ρ M => (f ρ M).bnd fun x M1 => match x with
  | .int j => if 0 ≤ j ∧ j ≤ 16777216 then .ok (rgItems 0 j.toNat) M1 else .bad
  | _ => .bad
theorem rg_dt {i j : Int} : DtA K G (rgItems i (j - i).toNat) (rgV i j) := by
  unfold rgItems rgV
  rw [show (List.range (j - i).toNat).map (fun k => PyData.int (i + (k : Nat))) = ((List.range (j - i).toNat).map fun (k : Nat) => i + (k : Int)).map PyData.int from by rw [List.map_map]; rfl,
    show (List.range (j - i).toNat).map (fun k => V.int (i + (k : Nat))) = ((List.range (j - i).toNat).map fun (k : Nat) => i + (k : Int)).map V.int from by rw [List.map_map]; rfl]
  exact DtA.ints.mpr rfl
theorem rf_lr1 {p3 pos2 : Pos} (ha : RE c a fa) (hg : c.sc.names.lookup ("list" : Str) = some .globalImplicit) (hm : c.mg "list" = none) (hg2 : c.sc.names.lookup ("range" : Str) = some .globalImplicit) (hm2 : c.mg "range" = none)
    (he : ∀ env, starEach [a] env = (false, eval a env) :: starEach [] env := by intro _; rfl)
    (he2 : ∀ env, starEach [.Call (.Name "range" p3) [a] [] pos2] env = (false, eval (.Call (.Name "range" p3) [a] [] pos2) env) :: starEach [] env := by intro _; rfl) : RF c (.Call (.Name "list" p1) [.Call (.Name "range" p3) [a] [] pos2] [] pos) (fLr1 fa) := by
  obtain ⟨t, pa, s⟩ := ha
  refine ⟨fun E => tLstRg (tRg1 (t E)), fun X E g ps => pe_listRg g.calm (glI g hg) (by rw [g.mg]; exact hm) (prg_1 (glI g hg2) (by rw [g.mg]; exact hm2) (pa X E g ps) (he _)) (he2 _), fun B G σ H ρ M Q E rl h => ?_⟩
  unfold fLr1 at h
  rw [sat_bnd] at h
  refine s.use rl h fun x M1 v G1 H1 h1 s1 g1 d1 rl1 => ?_
  split at h1
  · rename_i j
    split at h1
    · rename_i hj
      refine ⟨j, dtI.mp d1, .of_le (by omega) (by omega) (by omega) (by omega), fun q hq => ?_⟩
      refine h1 _ _ _ (s1.trans (.put g1 hq)) (g1.put hq) ⟨q, _, rfl, s1.fresh g1 hq, upd_same, g1.free hq, g1.nep hq, ?_⟩
      have := rg_dt (K := c.K) (G := G1) (i := 0) (j := j)
      rwa [Int.sub_zero] at this
    · exact h1.elim
  · exact h1.elim
end
end RL

set_option Elab.async false
set_option linter.all false
set_option maxRecDepth 100000
set_option maxHeartbeats 2000000
namespace PySem
open Sem (wp)
/-- enumerate(v), v told by what iter(v) makes -/
theorem meets_enumB1 {v : Value} {o : Obj} {H : Heap → Prop} (B : Begins v o H) :
    Meets (Builtin.«enumerate.__new__» ⟨[.type "enumerate", v], []⟩) (fun _ R s => H s.heap ∧
      R (.ok (.ret (.ref (s.heap.push o).objs.size))) { s with heap := (s.heap.push o).push { cls := .type "enumerate", data := .fields #[.none, .bool false, .ref s.heap.objs.size, rawInt 0, .none, .none] } }) :=
  .of_wp fun prog w A R s h => by
    obtain ⟨hp, g, d, tk, os⟩ := s
    obtain ⟨h1, h⟩ := h
    have hsub := sub_enumerate
    have q1 : ∀ {A' : Around} {E : Value → Shared → Prop} {Q : Value → Shared → Prop}, Q (.ref hp.objs.size) ⟨hp.push o, g, d, tk, os⟩ → wpAny (model prog w) A' (pyIter v) Q E ⟨hp, g, d, tk, os⟩ :=
      fun q => B.iter prog w _ _ ⟨hp, g, d, tk, os⟩ _ h1 q
    wp_walk
    refine wpAny_stack_any fun st => wpAny_pure ?_
    split
    · rename_i c _ _ _ _ _
      cases (c == Value.type "enumerate") <;>
        (wp_walk using q1
         exact ⟨_, rfl, h⟩)
    · wp_walk using q1
      exact ⟨_, rfl, h⟩
theorem enum_begins1 {prog : Program} {w : World} {A : Around} {E : Value → Shared → Prop} {s : Shared} {v : Value} {o : Obj} {H : Heap → Prop} {Q : Value → Shared → Prop} (B : Begins v o H) (h1 : H s.heap)
    (h : ∀ h', IsEnum h' (s.heap.objs.size + 1) s.heap.objs.size 0 .none → h'.get? s.heap.objs.size = some o → (∀ b o, s.heap.get? b = some o → h'.get? b = some o) → Q (.ref (s.heap.objs.size + 1)) { s with heap := h' }) :
    wpAny (model prog w) A (call (.type "enumerate") [v]) Q E s := by
  refine callType_new F.called_enumerate (by decide) (F.typeCall_enumerate_1 _) (F.newCall_enumerate_1 _) (fun obj => F.args_object_init_2 obj _) F.entry_enumerate_new (meets_enumB1 B) ⟨h1, ?_⟩
  have hz : (s.heap.push o).objs.size = s.heap.objs.size + 1 := Heap.size_push ..
  have at1 : (s.heap.push o).get? s.heap.objs.size = some o := Heap.get?_push_size _ B.free
  have he := Heap.get?_push_size (s.heap.push o) (o := { cls := .type "enumerate", data := .fields #[.none, .bool false, .ref s.heap.objs.size, rawInt 0, .none, .none] }) rfl
  show _ ∧ _
  rw [hz] at he ⊢
  exact ⟨⟨_, he, rfl⟩, h _ he (Heap.get?_push_of_some _ at1) fun b u e => Heap.get?_push_of_some _ (Heap.get?_push_of_some _ e)⟩
end PySem
namespace RL
open PySem PySem.Spec PyProof.Rows L2
/-! ### what zip and enumerate draw from -/
inductive Src where
  | lst (a : Addr) (vs : List V)
  | tup (a : Addr) (vs : List V)
  | txt (x : Str)
def Src.v : Src → V
  | .lst a _ => .ref a
  | .tup a _ => .ref a
  | .txt x => .str x
def Src.n : Src → Nat
  | .lst _ vs => vs.length
  | .tup _ vs => vs.length
  | .txt x => x.cps.size
def Src.item : Src → Nat → V → Prop
  | .lst _ vs, i, v => vs[i]? = some v
  | .tup _ vs, i, v => vs[i]? = some v
  | .txt x, i, v => ∃ k, x.cps[i]? = some k ∧ v = .str ⟨#[k]⟩
def Src.ok (K : PySem.W.Frag) (H : Hp) : Src → Prop
  | .lst a vs => SqL K H a vs
  | .tup a vs => SqT K H a vs
  | .txt _ => True
/-- the value itself, its content, its iterator -/
def Src.val (t : Tok) : Src → Value
  | .lst a _ => .ref a
  | .tup a _ => .ref a
  | .txt x => .str x t
def Src.obj (t : Tok) : Src → Obj
  | .lst a _ => { cls := .type "list_iterator", data := .fields #[.ref a, .int 0 0] }
  | .tup a _ => { cls := .type "tuple_iterator", data := .fields #[.ref a, .int 0 0] }
  | .txt x => { cls := .type (strIterType x), data := .fields #[.str x t, .int 0 0] }
def Src.con (its : List Value) : Src → Heap → Prop
  | .lst a vs, h => h.IsList a its.toArray ∧ its.length = vs.length
  | .tup a vs, h => h.IsTuple a its.toArray ∧ its.length = vs.length
  | .txt _, _ => True
def Src.cad : Src → List Addr
  | .lst a _ => [a]
  | .tup a _ => [a]
  | .txt _ => []
def Src.tn (t : Tok) (it : Addr) : Src → Nat → Heap → Prop
  | .lst a _, i, h => h.IsListIter it a i
  | .tup a _, i, h => h.IsTupleIter it a i
  | .txt x, i, h => h.IsStrIter it (strIterType x) x t i
def Src.P (its : List Value) : Src → Nat → Value → Prop
  | .lst _ _, i, v => its.toArray[i]? = some v
  | .tup _ _, i, v => its.toArray[i]? = some v
  | .txt x, i, v => ∃ c u, x.cps[i]? = some c ∧ v = .str ⟨#[c]⟩ u
theorem Src.rel {S : Src} {u : Value} (r : RelV S.v u) : ∃ t, u = S.val t := by
  cases S with
  | lst a vs => cases r; exact ⟨0, rfl⟩
  | tup a vs => cases r; exact ⟨0, rfl⟩
  | txt x => obtain ⟨t, rfl⟩ := r; exact ⟨t, rfl⟩
theorem Src.begins (S : Src) (t : Tok) (its : List Value) : Begins (S.val t) (S.obj t) (S.con its) := by
  cases S with
  | lst a vs =>
    have B := begins_list a its.toArray
    exact ⟨fun prog w A E s Q h q => B.iter prog w A E s Q h.1 q, fun h h' x k => ⟨B.keeps h h' x.1 k, x.2⟩, B.free⟩
  | tup a vs =>
    have B := begins_tuple a its.toArray
    exact ⟨fun prog w A E s Q h q => B.iter prog w A E s Q h.1 q, fun h h' x k => ⟨B.keeps h h' x.1 k, x.2⟩, B.free⟩
  | txt x => exact begins_text x t
theorem Src.draws {P : Program} {w : World} {A : Around} (S : Src) (t : Tok) (its : List Value) (hh : A.handled = none) (it : Addr) (hne : it ∉ S.cad) :
    Draws P w A it (it :: S.cad) S.n (S.P its) (fun i h => S.tn t it i h ∧ S.con its h) := by
  cases S with
  | lst a vs =>
    have ne : a ≠ it := fun e => hne (by simp [Src.cad, e])
    have D := Draws.list (prog := P) (w := w) hh it a ne its.toArray
    exact ⟨fun i h st => D.live i h ⟨st.1, st.2.1⟩, fun i h h' st k => by
        have z := D.frame i h h' ⟨st.1, st.2.1⟩ k
        exact ⟨z.1, z.2, st.2.2⟩, fun i s Q E hi st hQ => D.item i s Q E (by rw [List.size_toArray, st.2.2]; exact hi) ⟨st.1, st.2.1⟩ fun x h' tk p st' sb => hQ x h' tk p ⟨st'.1, st'.2, st.2.2⟩ sb,
      fun s Q E st hE => D.done s Q E (by
        rw [List.size_toArray, st.2.2]
        exact ⟨st.1, st.2.1⟩) hE⟩
  | tup a vs =>
    have ne : a ≠ it := fun e => hne (by simp [Src.cad, e])
    have D := Draws.tuple (prog := P) (w := w) hh it a ne its.toArray
    exact ⟨fun i h st => D.live i h ⟨st.1, st.2.1⟩, fun i h h' st k => by
        have z := D.frame i h h' ⟨st.1, st.2.1⟩ k
        exact ⟨z.1, z.2, st.2.2⟩, fun i s Q E hi st hQ => D.item i s Q E (by rw [List.size_toArray, st.2.2]; exact hi) ⟨st.1, st.2.1⟩ fun x h' tk p st' sb => hQ x h' tk p ⟨st'.1, st'.2, st.2.2⟩ sb,
      fun s Q E st hE => D.done s Q E (by
        rw [List.size_toArray, st.2.2]
        exact ⟨st.1, st.2.1⟩) hE⟩
  | txt x =>
    have D := Draws.text (prog := P) (w := w) hh it x t
    exact ⟨fun i h st => D.live i h st.1, fun i h h' st k => ⟨D.frame i h h' st.1 k, trivial⟩, fun i s Q E hi st hQ => D.item i s Q E hi st.1 fun x h' tk p st' sb => hQ x h' tk p ⟨st', trivial⟩ sb, fun s Q E st hE => D.done s Q E st.1 hE⟩
theorem Src.tn0 {S : Src} {t : Tok} {it : Addr} {h : Heap} (e : h.get? it = some (S.obj t)) : S.tn t it 0 h := by
  cases S with
  | lst a vs => exact ⟨_, e, rfl, rfl⟩
  | tup a vs => exact ⟨_, e, rfl, rfl⟩
  | txt x => exact ⟨_, e, rfl, rfl⟩
theorem Src.tn_keep {S : Src} {t : Tok} {it : Addr} {i : Nat} {h h' : Heap} (st : S.tn t it i h) (k : ∀ o, h.get? it = some o → h'.get? it = some o) : S.tn t it i h' := by
  cases S with
  | lst a vs => exact (show h.IsListIter it a i from st).at k
  | tup a vs => exact (show h.IsTupleIter it a i from st).at k
  | txt x =>
    obtain ⟨o, e, r⟩ := (show h.IsStrIter it (strIterType x) x t i from st)
    exact ⟨o, k o e, r⟩
theorem Src.tn_obj {S : Src} {t : Tok} {it : Addr} {i : Nat} {h : Heap} (st : S.tn t it i h) : ∃ o, h.get? it = some o ∧ ∀ v, o.data ≠ .cell v := by
  cases S with
  | lst a vs => obtain ⟨o, e, _, d⟩ := (show h.IsListIter it a i from st); exact ⟨o, e, fun v q => by rw [d] at q; cases q⟩
  | tup a vs => obtain ⟨o, e, _, d⟩ := (show h.IsTupleIter it a i from st); exact ⟨o, e, fun v q => by rw [d] at q; cases q⟩
  | txt x => obtain ⟨o, e, _, d⟩ := (show h.IsStrIter it (strIterType x) x t i from st); exact ⟨o, e, fun v q => by rw [d] at q; cases q⟩
section
variable {X : Cx} {pins : List (Addr × Obj)} {σ : L2.St} {H : Hp} {s : Shared}
/-- from the abstract heap to the content -/
theorem Src.content {S : Src} (I : L2.Inv X pins σ H s) (ok : S.ok X.K H) : ∃ its, S.con its s.heap ∧ ∀ i u, i < S.n → S.P its i u → ∃ v, S.item i v ∧ RelV v u := by
  cases S with
  | lst a vs =>
    obtain ⟨its, r, p, _⟩ := I.list ok
    refine ⟨its, ⟨p.isList, r.length.symm⟩, fun i u hi hu => ?_⟩
    have hu : its.toArray[i]? = some u := hu
    have hv : vs[i]? = some vs[i] := List.getElem?_eq_getElem hi
    obtain ⟨w, hw, rw'⟩ := r.get hv
    have : its[i]? = some u := by simpa using hu
    rw [hw] at this; cases this
    exact ⟨_, hv, rw'⟩
  | tup a vs =>
    obtain ⟨its, r, p, _⟩ := I.tuple ok
    refine ⟨its, ⟨p, r.length.symm⟩, fun i u hi hu => ?_⟩
    have hu : its.toArray[i]? = some u := hu
    have hv : vs[i]? = some vs[i] := List.getElem?_eq_getElem hi
    obtain ⟨w, hw, rw'⟩ := r.get hv
    have : its[i]? = some u := by simpa using hu
    rw [hw] at this; cases this
    exact ⟨_, hv, rw'⟩
  | txt x =>
    refine ⟨[], trivial, fun i u hi ⟨k, t, e1, e2⟩ => ⟨_, ⟨k, e1, rfl⟩, ⟨t, e2⟩⟩⟩
theorem Src.cad_lt {S : Src} {its : List Value} {h : Heap} (c : S.con its h) : ∀ b ∈ S.cad, b < h.objs.size := by
  cases S with
  | lst a vs =>
    intro b hb
    have e : b = a := by simpa [Src.cad] using hb
    subst e
    obtain ⟨⟨o, e, _⟩, _⟩ := c
    exact Heap.lt_size e
  | tup a vs =>
    intro b hb
    have e : b = a := by simpa [Src.cad] using hb
    subst e
    obtain ⟨⟨o, e, _⟩, _⟩ := c
    exact Heap.lt_size e
  | txt x => intro b hb; simp [Src.cad] at hb
end
/-- pairs of two -/
def ItZ (K : PySem.W.Frag) (S1 S2 : Src) : It :=
  ⟨fun i H => i < min S1.n S2.n ∧ S1.ok K H ∧ S2.ok K H,
    fun i H v H' => ∃ T x y, v = .ref T ∧ H T = none ∧ H' = upd H T (.tup [x, y]) ∧ S1.item i x ∧ S2.item i y,
    fun i H => i = min S1.n S2.n ∧ S1.ok K H ∧ S2.ok K H⟩
theorem turn_Z {P : Program} {w : World} {K : PySem.W.Frag} {elts : List Expr} {kk : Nat} {tpos : Pos} {S1 S2 : Src} {t1 t2 : Tok} {N : Addr} (a1 : ∀ b ∈ S1.cad, b < N) (a2 : ∀ b ∈ S2.cad, b < N) :
    Turn P w K (.Tuple elts kk tpos) (ItZ K S1 S2) [N + 4, N + 2, N + 3, N, N + 1] (N + 4)
      (fun i h => IsZip h (N + 4) (N + 2) (N + 3) .none ∧ IsTupOf2 h (N + 2) (.ref N) (.ref (N + 1)) ∧ (∃ x y, IsTupOf2 h (N + 3) x y) ∧ S1.tn t1 N i h ∧ S2.tn t2 (N + 1) i h) where
  mem := by simp
  obj := fun i h st c hc => by
    obtain ⟨hz, hTI, ⟨x, y, hTO⟩, s1, s2⟩ := st
    have e' : c = N + 4 ∨ c = N + 2 ∨ c = N + 3 ∨ c = N ∨ c = N + 1 := by simpa using hc
    rcases e' with q | q | q | q | q
    · rw [q]; exact ⟨_, hz, fun v q => nomatch q⟩
    · rw [q]; exact ⟨_, hTI, fun v q => nomatch q⟩
    · rw [q]; exact ⟨_, hTO, fun v q => nomatch q⟩
    · rw [q]; exact Src.tn_obj s1
    · rw [q]; exact Src.tn_obj s2
  keep := fun i h h' st k => by
    obtain ⟨hz, hTI, ⟨x, y, hTO⟩, s1, s2⟩ := st
    exact ⟨k (N + 4) (by simp) _ hz, k (N + 2) (by simp) _ hTI, ⟨x, y, k (N + 3) (by simp) _ hTO⟩, Src.tn_keep s1 (k N (by simp)), Src.tn_keep s2 (k (N + 1) (by simp))⟩
  item := by
    intro X hP hw hK hc i pins s σ H E I hf st hg
    subst hP hw hK
    obtain ⟨hlt, ok1, ok2⟩ := hg
    obtain ⟨hz, hTI, hTO, s1, s2⟩ := st
    obtain ⟨its1, c1, f1⟩ := Src.content I ok1
    obtain ⟨its2, c2, f2⟩ := Src.content I ok2
    have hh : X.A.in1.handled = none := I.ok.hd hc
    have D1 := Src.draws (P := X.prog) (w := X.w) S1 t1 its1 hh N (fun m => absurd (a1 N m) (Nat.lt_irrefl _))
    have D2 := Src.draws (P := X.prog) (w := X.w) S2 t2 its2 hh (N + 1) (fun m => absurd (a2 _ m) (Nat.not_lt.mpr (Nat.le_succ N)))
    have W := GoesN.zip2 (elts := elts) (x1 := kk) (pos := tpos) (zip_sep2 a1 a2) D1 D2
    refine W.goes i s _ E hlt ⟨hz, hTI, hTO, ⟨s1, c1⟩, ⟨s2, c2⟩⟩ fun v h' tk hY st' hk _ => ?_
    obtain ⟨T, x, y, rfl, hnew, hx, hy, hT⟩ := hY
    obtain ⟨xv, ix, rx⟩ := f1 i x (Nat.lt_of_lt_of_le hlt (Nat.min_le_left _ _)) hx
    obtain ⟨yv, iy, ry⟩ := f2 i y (Nat.lt_of_lt_of_le hlt (Nat.min_le_right _ _)) hy
    obtain ⟨z1, z2, z3, z4, z5⟩ := st'
    have new : ObjOk X.prog X.w (upd H T (.tup [xv, yv])) h' T (.tup [xv, yv]) := ⟨by show 2 ≤ sizeLine; decide, [x, y], .cons rx (.cons ry .nil), hT⟩
    have wr : ∀ b, b ∈ [N + 4, N + 3, N, N + 1] → b ∈ [N + 4, N + 2, N + 3, N, N + 1] := by
      intro b hb
      have e' : b = N + 4 ∨ b = N + 3 ∨ b = N ∨ b = N + 1 := by simpa using hb
      rcases e' with q | q | q | q <;> simp [q]
    have I1 := I.turnedNew (t' := tk) (ch := [N + 4, N + 2, N + 3, N, N + 1]) (fun b o hb e => hk b o (fun m => hb (wr b m)) e) hf hnew new
    refine ⟨.ref T, _, I1, rfl, ⟨T, xv, yv, rfl, I.hok.fresh hnew, rfl, ix, iy⟩, ⟨z1, z2, z3, z4.1, z5.1⟩, fun b hb => ?_⟩
    obtain ⟨o, ho, _⟩ : ∃ o, s.heap.get? b = some o ∧ True := by
      have e' : b = N + 4 ∨ b = N + 2 ∨ b = N + 3 ∨ b = N ∨ b = N + 1 := by simpa using hb
      rcases e' with q | q | q | q | q
      · rw [q]; exact ⟨_, hz, trivial⟩
      · rw [q]; exact ⟨_, hTI, trivial⟩
      · rw [q]; obtain ⟨_, _, z⟩ := hTO; exact ⟨_, z, trivial⟩
      · rw [q]; obtain ⟨o, z, _⟩ := Src.tn_obj s1; exact ⟨o, z, trivial⟩
      · rw [q]; obtain ⟨o, z, _⟩ := Src.tn_obj s2; exact ⟨o, z, trivial⟩
    rw [upd_ne (Nat.ne_of_lt (Nat.lt_of_lt_of_le (Heap.lt_size ho) hnew))]
    exact (hf b hb).1
  done := by
    intro X hP hw hK hc i pins s σ H E I hf st hg
    subst hP hw hK
    obtain ⟨rfl, ok1, ok2⟩ := hg
    obtain ⟨hz, hTI, hTO, s1, s2⟩ := st
    obtain ⟨its1, c1, f1⟩ := Src.content I ok1
    obtain ⟨its2, c2, f2⟩ := Src.content I ok2
    have hh : X.A.in1.handled = none := I.ok.hd hc
    have D1 := Src.draws (P := X.prog) (w := X.w) S1 t1 its1 hh N (fun m => absurd (a1 N m) (Nat.lt_irrefl _))
    have D2 := Src.draws (P := X.prog) (w := X.w) S2 t2 its2 hh (N + 1) (fun m => absurd (a2 _ m) (Nat.not_lt.mpr (Nat.le_succ N)))
    have W := GoesN.zip2 (elts := elts) (x1 := kk) (pos := tpos) (zip_sep2 a1 a2) D1 D2
    have wr : ∀ b, b ∈ [N + 4, N + 3, N, N + 1] → b ∈ [N + 4, N + 2, N + 3, N, N + 1] := by
      intro b hb
      have e' : b = N + 4 ∨ b = N + 3 ∨ b = N ∨ b = N + 1 := by simpa using hb
      rcases e' with q | q | q | q <;> simp [q]
    exact W.stops s (fun s1 => L2.Inv X pins σ H s1) E ⟨hz, hTI, hTO, ⟨s1, c1⟩, ⟨s2, c2⟩⟩ fun h' tk hk _ => I.turnedL (ch := [N + 4, N + 2, N + 3, N, N + 1]) (fun b o hb e => hk b o (fun m => hb (wr b m)) e) hf
  self := fun A i s Q E st h => wpAny_pyIter_zip st.1 h
/-- numbered items -/
def ItE (K : PySem.W.Frag) (S : Src) : It :=
  ⟨fun i H => i < S.n ∧ S.ok K H, fun i H v H' => ∃ T x, v = .ref T ∧ H T = none ∧ H' = upd H T (.tup [.int (i : Nat), x]) ∧ S.item i x, fun i H => i = S.n ∧ S.ok K H⟩
theorem turn_E {P : Program} {w : World} {K : PySem.W.Frag} {elts : List Expr} {kk : Nat} {tpos : Pos} {S : Src} {t : Tok} {N : Addr} (a1 : ∀ b ∈ S.cad, b < N) :
    Turn P w K (.Tuple elts kk tpos) (ItE K S) [N + 1, N] (N + 1) (fun i h => (∃ old, IsEnum h (N + 1) N (0 + (i : Int)) old) ∧ S.tn t N i h) where
  mem := by simp
  obj := fun i h st c hc => by
    obtain ⟨⟨old, he⟩, s1⟩ := st
    have e' : c = N + 1 ∨ c = N := by simpa using hc
    rcases e' with q | q
    · rw [q]; exact ⟨_, he, fun v q => nomatch q⟩
    · rw [q]; exact Src.tn_obj s1
  keep := fun i h h' st k => by
    obtain ⟨⟨old, he⟩, s1⟩ := st
    exact ⟨⟨old, k (N + 1) (by simp) _ he⟩, Src.tn_keep s1 (k N (by simp))⟩
  item := by
    intro X hP hw hK hc i pins s σ H E I hf st hg
    subst hP hw hK
    obtain ⟨hlt, ok1⟩ := hg
    obtain ⟨⟨old, he⟩, s1⟩ := st
    obtain ⟨its1, c1, f1⟩ := Src.content I ok1
    have hh : X.A.in1.handled = none := I.ok.hd hc
    have D1 := Src.draws (P := X.prog) (w := X.w) S t its1 hh N (fun m => absurd (a1 N m) (Nat.lt_irrefl _))
    have W := GoesN.enumFrom (elts := elts) (x1 := kk) (pos := tpos) 0 D1 (N + 1) (Nat.succ_ne_self N) (fun m => by
      rcases List.mem_cons.mp m with q | q
      · exact absurd q (Nat.succ_ne_self N)
      · exact absurd (a1 _ q) (Nat.not_lt.mpr (Nat.le_succ N))) (by simp)
    refine W.goes i s _ E hlt ⟨⟨old, he⟩, s1, c1⟩ fun v h' tk hY st' hk _ => ?_
    obtain ⟨T, tt, x, rfl, hnew, hx, hT⟩ := hY
    obtain ⟨xv, ix, rx⟩ := f1 i x hlt hx
    obtain ⟨z1, z2⟩ := st'
    have new : ObjOk X.prog X.w (upd H T (.tup [.int (i : Nat), xv])) h' T (.tup [.int (i : Nat), xv]) := ⟨by show 2 ≤ sizeLine; decide, [.int (0 + (i : Int)) tt, x], .cons ⟨tt, by rw [Int.zero_add]⟩ (.cons rx .nil), hT⟩
    have I1 := I.turnedNew (t' := tk) (ch := [N + 1, N]) (fun b o hb e => hk b o hb e) hf hnew new
    refine ⟨.ref T, _, I1, rfl, ⟨T, xv, rfl, I.hok.fresh hnew, rfl, ix⟩, ⟨z1, z2.1⟩, fun b hb => ?_⟩
    obtain ⟨o, ho⟩ : ∃ o, s.heap.get? b = some o := by
      have e' : b = N + 1 ∨ b = N := by simpa using hb
      rcases e' with q | q
      · rw [q]; exact ⟨_, he⟩
      · rw [q]; obtain ⟨o, z, _⟩ := Src.tn_obj s1; exact ⟨o, z⟩
    rw [upd_ne (Nat.ne_of_lt (Nat.lt_of_lt_of_le (Heap.lt_size ho) hnew))]
    exact (hf b hb).1
  done := by
    intro X hP hw hK hc i pins s σ H E I hf st hg
    subst hP hw hK
    obtain ⟨rfl, ok1⟩ := hg
    obtain ⟨⟨old, he⟩, s1⟩ := st
    obtain ⟨its1, c1, f1⟩ := Src.content I ok1
    have hh : X.A.in1.handled = none := I.ok.hd hc
    have D1 := Src.draws (P := X.prog) (w := X.w) S t its1 hh N (fun m => absurd (a1 N m) (Nat.lt_irrefl _))
    have W := GoesN.enumFrom (elts := elts) (x1 := kk) (pos := tpos) 0 D1 (N + 1) (Nat.succ_ne_self N) (fun m => by
      rcases List.mem_cons.mp m with q | q
      · exact absurd q (Nat.succ_ne_self N)
      · exact absurd (a1 _ q) (Nat.not_lt.mpr (Nat.le_succ N))) (by simp)
    exact W.stops s (fun s1 => L2.Inv X pins σ H s1) E ⟨⟨old, he⟩, s1, c1⟩ fun h' tk hk _ => I.turnedL (ch := [N + 1, N]) (fun b o hb e => hk b o hb e) hf
  self := fun A i s Q E st h => let ⟨⟨_, he⟩, _⟩ := st; wpAny_pyIter_enum he h
section
variable {X : Cx} {a b : Expr} {ta : TA} {p pos tpos : Pos} {elts : List Expr} {kk : Nat}
def iZ (K : PySem.W.Frag) (ta : TA) : TI := fun σ H R => ta σ H fun vs H1 => ∃ S1 S2 : Src, vs = [S1.v, S2.v] ∧ S1.ok K H1 ∧ S2.ok K H1 ∧ R (ItZ K S1 S2) H1
theorem pi_Z (hg : Gl X "zip") (hm : X.mg "zip" = none) (ha : PA X [a, b] ta) (hs : starEach [a, b] X.env = (false, eval a X.env) :: starEach [b] X.env := by rfl) (hpl : (backTo pos (starEach [b] X.env)).any (·.1) = false := by rfl) :
    PI X (.Tuple elts kk tpos) (.Call (.Name "zip" p) [a, b] [] pos) (iZ X.K ta) := by
  refine ⟨fun pins s σ H R I h => ?_⟩
  refine Call_ (ld_blt I hg hm PyProof.Rows.boot_zip (PyProof.Rows.callWith_type1 (thn (ha.run pos pins s σ H _ I h) fun us s1 ⟨vs, H1, I1, r1, q1⟩ => ?_) hs hpl))
  obtain ⟨S1, S2, rfl, ok1, ok2, q⟩ := q1
  obtain ⟨u1, u2, rfl, r, r'⟩ := vals2 r1
  obtain ⟨t1, rfl⟩ := Src.rel r
  obtain ⟨t2, rfl⟩ := Src.rel r'
  obtain ⟨its1, c1, _⟩ := Src.content I1 ok1
  obtain ⟨its2, c2, _⟩ := Src.content I1 ok2
  refine zip_begins2 (Src.begins S1 t1 its1) (Src.begins S2 t2 its2) c1 c2 fun h' hz hTI hTO h1 h2 hsz hk => wpAny_pyIter_zip hz ?_
  have I2 : L2.Inv X pins σ H1 { s1 with heap := h' } := I1.kept (t' := s1.toks) hk
  refine ⟨_, _, _, _, H1, rfl, I2, turn_Z (t1 := t1) (t2 := t2) (Src.cad_lt c1) (Src.cad_lt c2), ⟨hz, hTI, ⟨_, _, hTO⟩, Src.tn0 h1, Src.tn0 h2⟩, fun c hc => ?_, q⟩
  have hle : s1.heap.objs.size ≤ c := by
    have e' : c = s1.heap.objs.size + 4 ∨ c = s1.heap.objs.size + 2 ∨ c = s1.heap.objs.size + 3 ∨ c = s1.heap.objs.size ∨ c = s1.heap.objs.size + 1 := by simpa using hc
    rcases e' with z | z | z | z | z
    · rw [z]; exact Nat.le_add_right _ _
    · rw [z]; exact Nat.le_add_right _ _
    · rw [z]; exact Nat.le_add_right _ _
    · rw [z]; exact Nat.le_refl _
    · rw [z]; exact Nat.le_add_right _ _
  exact I1.fpOk hle (I1.hok.fresh hle)
def iE (K : PySem.W.Frag) (ta : TA) : TI := fun σ H R => ta σ H fun vs H1 => ∃ S : Src, vs = [S.v] ∧ S.ok K H1 ∧ R (ItE K S) H1
theorem pi_E (hg : Gl X "enumerate") (hm : X.mg "enumerate" = none) (ha : PA X [a] ta) (hs : starEach [a] X.env = [(false, eval a X.env)] := by rfl) :
    PI X (.Tuple elts kk tpos) (.Call (.Name "enumerate" p) [a] [] pos) (iE X.K ta) := by
  refine ⟨fun pins s σ H R I h => ?_⟩
  refine Call_ (ld_blt I hg hm PyProof.Rows.boot_enumerate (PyProof.Rows.callWith_type1 (thn (ha.run pos pins s σ H _ I h) fun us s1 ⟨vs, H1, I1, r1, q1⟩ => ?_) hs rfl))
  obtain ⟨S, rfl, ok, q⟩ := q1
  obtain ⟨u1, rfl, r⟩ := vals1 r1
  obtain ⟨t1, rfl⟩ := Src.rel r
  obtain ⟨its1, c1, _⟩ := Src.content I1 ok
  refine enum_begins1 (Src.begins S t1 its1) c1 fun h' he h1 hk => wpAny_pyIter_enum he ?_
  have I2 : L2.Inv X pins σ H1 { s1 with heap := h' } := I1.kept (t' := s1.toks) hk
  refine ⟨_, _, _, _, H1, rfl, I2, turn_E (t := t1) (Src.cad_lt c1), ⟨⟨_, by simpa using he⟩, Src.tn0 h1⟩, fun c hc => ?_, q⟩
  have hle : s1.heap.objs.size ≤ c := by
    have e' : c = s1.heap.objs.size + 1 ∨ c = s1.heap.objs.size := by simpa using hc
    rcases e' with z | z
    · rw [z]; exact Nat.le_add_right _ _
    · rw [z]; exact Nat.le_refl _
  exact I1.fpOk hle (I1.hok.fresh hle)
end

/-! ### .. over data -/
section
variable {c : Sc} {K : PySem.W.Frag} {p : Pt} {G H : Hp} {M : List Int} {vw : Bool}
/-- it stays a source -/
def SrcSt (K : PySem.W.Frag) (p : Pt) (vw : Bool) (G H : Hp) (S : Src) : Prop := ∀ G2 H2 M2, Ex G G2 → (vw = true → ∀ a o, p ≠ some a → H a = some o → H2 a = some o) → Gr p G2 H2 M2 → S.ok K H2
def SrcOf (K : PySem.W.Frag) (p : Pt) (vw : Bool) (G H : Hp) (xs : List D) (S : Src) : Prop := S.ok K H ∧ S.n = xs.length ∧ (∀ G2, Ex G G2 → ∀ (i : Nat) w y, S.item i w → xs[i]? = some y → Dt K G2 y w) ∧ SrcSt K p vw G H S
/-- the lists of which it is said stay -/
def Stays (p : Pt) (vw : Bool) (G H : Hp) (v : V) : Prop := ∀ G2 H2 M2, Ex G G2 → (vw = true → ∀ a o, p ≠ some a → H a = some o → H2 a = some o) → Gr p G2 H2 M2 → ∀ a xs, v = .ref a → H a = some (.lst xs) → H2 a = some (.lst xs)
theorem src_of {x : D} {xs : List D} {v : V} (g : Gr p G H M) (h : View K p G H x v) (st : Stays p vw G H v ∨ ∃ ds, x = .tuple ds) (e : seqItems x = some xs) : ∃ S : Src, v = S.v ∧ SrcOf K p vw G H xs S := by
  cases x with
  | list ds =>
    cases e
    obtain ⟨a, vs, rfl, h1, t1⟩ := View.list h
    refine ⟨.lst a vs, rfl, .of h1, t1.length, fun G2 ex i w y hw hy => ?_, fun G2 H2 M2 ex k g2 => ?_⟩
    · obtain ⟨w', hw', d⟩ := t1.get i y hy
      have hw : vs[i]? = some w := hw
      rw [hw'] at hw; cases hw
      exact Dt.mono ex _ _ d
    · rcases st with st | ⟨ds', e⟩
      · exact .of (st G2 H2 M2 ex k g2 a vs rfl h1)
      · cases e
  | tuple ds =>
    cases e
    obtain ⟨a, vs, rfl, h1, t1⟩ := viewT h
    refine ⟨.tup a vs, rfl, sqT_mono g.gh h1, t1.length, fun G2 ex i w y hw hy => ?_, fun G2 H2 M2 ex k g2 => sqT_mono g2.gh (sqT_mono ex h1)⟩
    obtain ⟨w', hw', d⟩ := t1.get i y hy
    have hw : vs[i]? = some w := hw
    rw [hw'] at hw; cases hw
    exact Dt.mono ex _ _ d
  | str z =>
    cases e
    refine ⟨.txt z, View.str h, trivial, by rw [List.length_map, Array.length_toList]; rfl, fun G2 ex i w y hw hy => ?_, fun _ _ _ _ _ _ => trivial⟩
    obtain ⟨k, e1, rfl⟩ := (show ∃ k, z.cps[i]? = some k ∧ w = .str ⟨#[k]⟩ from hw)
    rw [List.getElem?_map, Array.getElem?_toList, e1] at hy
    cases hy
    exact dtS.mpr rfl
  | _ => cases e
theorem stays_dt {x : D} {v : V} (g : Gr p G H M) (h : Dt K G x v) : Stays p vw G H v ∨ ∃ ds, x = .tuple ds := by
  cases x with
  | tuple ds => exact .inr ⟨ds, rfl⟩
  | list ds =>
    simp only [Dt] at h
    obtain ⟨a, xs, rfl, h1, _⟩ := h
    refine .inl fun G2 H2 M2 ex k g2 b ys eb hb => ?_
    cases eb
    have q := g.gh a _ h1
    rw [hb] at q; cases q
    exact g2.gh a _ (ex a _ h1)
  | none => simp only [Dt] at h; exact .inl fun _ _ _ _ _ _ a ys e => by rw [h] at e; cases e
  | bool b => simp only [Dt] at h; exact .inl fun _ _ _ _ _ _ a ys e => by rw [h] at e; cases e
  | int b => simp only [Dt] at h; exact .inl fun _ _ _ _ _ _ a ys e => by rw [h] at e; cases e
  | str b => simp only [Dt] at h; exact .inl fun _ _ _ _ _ _ a ys e => by rw [h] at e; cases e
  | dict b => simp only [Dt] at h
theorem stays_vw {x : D} {v : V} (g : Gr p G H M) (h : View K p G H x v) : Stays p true G H v ∨ ∃ ds, x = .tuple ds := by
  cases x with
  | tuple ds => exact .inr ⟨ds, rfl⟩
  | list ds =>
    obtain ⟨a, xs, rfl, h1, _, np⟩ := h
    refine .inl fun G2 H2 M2 ex k g2 b ys eb hb => ?_
    cases eb
    exact k rfl a _ np hb
  | none => have h := View.none h; exact .inl fun _ _ _ _ _ _ a ys e => by rw [h] at e; cases e
  | bool b => have h := View.bool h; exact .inl fun _ _ _ _ _ _ a ys e => by rw [h] at e; cases e
  | int b => have h := View.int h; exact .inl fun _ _ _ _ _ _ a ys e => by rw [h] at e; cases e
  | str b => have h := View.str h; exact .inl fun _ _ _ _ _ _ a ys e => by rw [h] at e; cases e
  | dict b =>
    have h : Dt K G (.dict b) v := h
    simp only [Dt] at h
def zipD : List D → List D → List D
  | x :: xs, y :: ys => .tuple [x, y] :: zipD xs ys
  | _, _ => []
def numD : Nat → List D → List D
  | _, [] => []
  | k, x :: xs => .tuple [.int (k : Nat), x] :: numD (k + 1) xs
theorem zipD_get : ∀ {xs ys : List D} {i : Nat} {z : D}, (zipD xs ys)[i]? = some z → ∃ x y, xs[i]? = some x ∧ ys[i]? = some y ∧ z = .tuple [x, y]
  | [], _, _, _, h => by simp [zipD] at h
  | _ :: _, [], _, _, h => by simp [zipD] at h
  | x :: xs, y :: ys, 0, z, h => by
    simp [zipD] at h
    exact ⟨x, y, rfl, rfl, h.symm⟩
  | x :: xs, y :: ys, i + 1, z, h => by
    have h : (zipD xs ys)[i]? = some z := by simpa [zipD] using h
    simpa using zipD_get h
theorem zipD_len : ∀ {xs ys : List D}, (zipD xs ys).length = min xs.length ys.length
  | [], _ => by simp [zipD]
  | _ :: _, [] => by simp [zipD]
  | x :: xs, y :: ys => by simp only [zipD, List.length_cons, zipD_len]; omega
theorem numD_get : ∀ {k : Nat} {xs : List D} {i : Nat} {z : D}, (numD k xs)[i]? = some z → ∃ x, xs[i]? = some x ∧ z = .tuple [.int ((k + i : Nat) : Int), x]
  | _, [], _, _, h => by simp [numD] at h
  | k, x :: xs, 0, z, h => by
    simp [numD] at h
    exact ⟨x, rfl, h.symm⟩
  | k, x :: xs, i + 1, z, h => by
    have h : (numD (k + 1) xs)[i]? = some z := by simpa [numD] using h
    obtain ⟨y, e, q⟩ := numD_get h
    exact ⟨y, by simpa using e, by rw [q, show k + 1 + i = k + (i + 1) from by omega]⟩
theorem numD_len : ∀ {k : Nat} {xs : List D}, (numD k xs).length = xs.length
  | _, [] => rfl
  | k, x :: xs => by simp only [numD, List.length_cons, numD_len]
theorem pair_dt {G2 H2 : Hp} {M2 : List Int} {T : Addr} {x y : D} {v w : V} (g2 : Gr p G2 H2 M2) (n : H2 T = none) (d : Dt K G2 x v) (e : Dt K G2 y w) : ∃ G3, Stp p G2 H2 G3 (upd H2 T (.tup [v, w])) ∧ Gr p G3 (upd H2 T (.tup [v, w])) M2 ∧ Dt K G3 (.tuple [x, y]) (.ref T) :=
  ⟨_, .lay g2 n, g2.lay n (g2.nep n), dtup g2 n (.cons d (.cons e .nil))⟩
theorem itZ_ok {xs ys : List D} {S1 S2 : Src} (h1 : SrcOf K p vw G H xs S1) (h2 : SrcOf K p vw G H ys S2) : ItOk K p vw (ItZ K S1 S2) G H (zipD xs ys) := fun i G2 H2 M2 ex k g2 => by
  obtain ⟨_, n1, d1, s1⟩ := h1
  obtain ⟨_, n2, d2, s2⟩ := h2
  have o1 := s1 G2 H2 M2 ex k g2
  have o2 := s2 G2 H2 M2 ex k g2
  refine ⟨fun hi => ⟨by rw [hi, zipD_len, n1, n2], o1, o2⟩, fun z hz => ?_⟩
  have hl : i < min xs.length ys.length := by rw [← zipD_len]; exact (List.getElem?_eq_some_iff.mp hz).1
  refine ⟨⟨by rw [n1, n2]; exact hl, o1, o2⟩, fun v H3 ⟨T, a, b, ev, hn, eH, ia, ib⟩ => ?_⟩
  subst ev eH
  obtain ⟨x, y, hx, hy, rfl⟩ := zipD_get hz
  exact pair_dt g2 hn (d1 G2 ex i a x ia hx) (d2 G2 ex i b y ib hy)
theorem itE_ok {xs : List D} {S : Src} (h : SrcOf K p vw G H xs S) : ItOk K p vw (ItE K S) G H (numD 0 xs) := fun i G2 H2 M2 ex k g2 => by
  obtain ⟨_, n1, d1, s1⟩ := h
  have o1 := s1 G2 H2 M2 ex k g2
  refine ⟨fun hi => ⟨by rw [hi, numD_len, n1], o1⟩, fun z hz => ?_⟩
  have hl : i < xs.length := by rw [← numD_len (k := 0)]; exact (List.getElem?_eq_some_iff.mp hz).1
  refine ⟨⟨by rw [n1]; exact hl, o1⟩, fun v H3 ⟨T, a, ev, hn, eH, ia⟩ => ?_⟩
  subst ev eH
  obtain ⟨x, hx, rfl⟩ := numD_get hz
  rw [Nat.zero_add]
  exact pair_dt g2 hn (dtI.mpr rfl) (d1 G2 ex i a x ia hx)
end
section
variable {c : Sc} {a b : Expr} {fa fb : Ev D} {f : Ev (List D)} {p pos tpos : Pos} {elts : List Expr} {kk : Nat} {vw : Bool}
def fZip (f : Ev (List D)) : Ev (List D) := fun ρ M => (f ρ M).bnd fun xs M1 => match xs with
  | [x, y] => Rs.of ((seqItems x).bind fun xs => (seqItems y).map fun ys => zipD xs ys) M1
  | _ => .bad
def fEnum (f : Ev (List D)) : Ev (List D) := fun ρ M => (f ρ M).bnd fun xs M1 => match xs with
  | [x] => Rs.of ((seqItems x).map fun xs => numD 0 xs) M1
  | _ => .bad
theorem zip_sat {x y : D} {z : List D} (e : ((seqItems x).bind fun xs => (seqItems y).map fun ys => zipD xs ys) = some z) : ∃ xs ys, seqItems x = some xs ∧ seqItems y = some ys ∧ z = zipD xs ys := by
  cases q1 : seqItems x with
  | none => rw [q1] at e; cases e
  | some xs =>
    cases q2 : seqItems y with
    | none => rw [q1, q2] at e; cases e
    | some ys => rw [q1, q2] at e; cases e; exact ⟨xs, ys, rfl, rfl, rfl⟩
/-- over what is read -/
theorem ri_zipV (ha : RA c [a, b] f) (hg : c.sc.names.lookup ("zip" : Str) = some .globalImplicit) (hm : c.mg "zip" = none) (hs : ∀ env, starEach [a, b] env = (false, eval a env) :: starEach [b] env := by intro _; rfl) (hpl : ∀ env, (backTo pos (starEach [b] env)).any (·.1) = false := by intro _; rfl) :
    RI c true (.Tuple elts kk tpos) (.Call (.Name "zip" p) [a, b] [] pos) (fZip f) := by
  obtain ⟨t, pa, s⟩ := ha
  refine ⟨fun E => iZ c.K (t E), fun X E g ps => by (rw [← g.K]; exact pi_Z (glI g hg) (by rw [g.mg]; exact hm) (pa X E g ps) (hs _) (hpl _)), fun B G σ H ρ M Q E rl h => ?_⟩
  unfold fZip at h
  rw [sat_bnd] at h
  refine s.use rl h fun xs M1 vs G1 H1 h1 s1 g1 d1 rl1 => ?_
  split at h1
  · obtain ⟨z, e, q⟩ := sat_of.mp h1
    obtain ⟨us, ws, e1, e2, rfl⟩ := zip_sat e
    obtain ⟨v, w, rfl, dv, dw⟩ := vws2 d1
    obtain ⟨S1, rfl, o1⟩ := src_of (vw := true) g1 dv (stays_vw g1 dv) e1
    obtain ⟨S2, rfl, o2⟩ := src_of (vw := true) g1 dw (stays_vw g1 dw) e2
    exact ⟨S1, S2, rfl, o1.1, o2.1, q _ G1 H1 s1 g1 (itZ_ok o1 o2)⟩
  · exact h1.elim
theorem ri_enumV (ha : RA c [a] f) (hg : c.sc.names.lookup ("enumerate" : Str) = some .globalImplicit) (hm : c.mg "enumerate" = none) (hs : ∀ env, starEach [a] env = [(false, eval a env)] := by intro _; rfl) :
    RI c true (.Tuple elts kk tpos) (.Call (.Name "enumerate" p) [a] [] pos) (fEnum f) := by
  obtain ⟨t, pa, s⟩ := ha
  refine ⟨fun E => iE c.K (t E), fun X E g ps => by (rw [← g.K]; exact pi_E (glI g hg) (by rw [g.mg]; exact hm) (pa X E g ps) (hs _)), fun B G σ H ρ M Q E rl h => ?_⟩
  unfold fEnum at h
  rw [sat_bnd] at h
  refine s.use rl h fun xs M1 vs G1 H1 h1 s1 g1 d1 rl1 => ?_
  split at h1
  · rename_i x
    obtain ⟨z, e, q⟩ := sat_of.mp h1
    obtain ⟨v, rfl, dv⟩ := vws1 d1
    cases q1 : seqItems x with
    | none => rw [q1] at e; cases e
    | some us =>
      rw [q1] at e
      cases e
      obtain ⟨S1, rfl, o1⟩ := src_of (vw := true) g1 dv (stays_vw g1 dv) q1
      exact ⟨S1, rfl, o1.1, q _ G1 H1 s1 g1 (itE_ok o1)⟩
  · exact h1.elim
/-- over data -/
theorem ri_zip (ha : RL c [a, b] f) (hg : c.sc.names.lookup ("zip" : Str) = some .globalImplicit) (hm : c.mg "zip" = none) (hs : ∀ env, starEach [a, b] env = (false, eval a env) :: starEach [b] env := by intro _; rfl) (hpl : ∀ env, (backTo pos (starEach [b] env)).any (·.1) = false := by intro _; rfl) :
    RI c false (.Tuple elts kk tpos) (.Call (.Name "zip" p) [a, b] [] pos) (fZip f) := by
  obtain ⟨t, pa, s⟩ := ha
  refine ⟨fun E => iZ c.K (t E), fun X E g ps => by (rw [← g.K]; exact pi_Z (glI g hg) (by rw [g.mg]; exact hm) (pa X E g ps) (hs _) (hpl _)), fun B G σ H ρ M Q E rl h => ?_⟩
  unfold fZip at h
  rw [sat_bnd] at h
  refine s.use rl h fun xs M1 vs G1 H1 h1 s1 g1 d1 rl1 => ?_
  split at h1
  · obtain ⟨z, e, q⟩ := sat_of.mp h1
    obtain ⟨us, ws, e1, e2, rfl⟩ := zip_sat e
    obtain ⟨v, r, rfl, dv, d2⟩ := DtA.cons_iff.mp d1
    obtain ⟨w, r, rfl, dw, d3⟩ := DtA.cons_iff.mp d2
    have := DtA.nil_iff.mp d3
    subst this
    obtain ⟨S1, rfl, o1⟩ := src_of (vw := false) g1 (View.of g1 dv) (stays_dt g1 dv) e1
    obtain ⟨S2, rfl, o2⟩ := src_of (vw := false) g1 (View.of g1 dw) (stays_dt g1 dw) e2
    exact ⟨S1, S2, rfl, o1.1, o2.1, q _ G1 H1 s1 g1 (itZ_ok o1 o2)⟩
  · exact h1.elim
theorem ri_enum (ha : RL c [a] f) (hg : c.sc.names.lookup ("enumerate" : Str) = some .globalImplicit) (hm : c.mg "enumerate" = none) (hs : ∀ env, starEach [a] env = [(false, eval a env)] := by intro _; rfl) :
    RI c false (.Tuple elts kk tpos) (.Call (.Name "enumerate" p) [a] [] pos) (fEnum f) := by
  obtain ⟨t, pa, s⟩ := ha
  refine ⟨fun E => iE c.K (t E), fun X E g ps => by (rw [← g.K]; exact pi_E (glI g hg) (by rw [g.mg]; exact hm) (pa X E g ps) (hs _)), fun B G σ H ρ M Q E rl h => ?_⟩
  unfold fEnum at h
  rw [sat_bnd] at h
  refine s.use rl h fun xs M1 vs G1 H1 h1 s1 g1 d1 rl1 => ?_
  split at h1
  · rename_i x
    obtain ⟨z, e, q⟩ := sat_of.mp h1
    obtain ⟨v, r, rfl, dv, d3⟩ := DtA.cons_iff.mp d1
    have := DtA.nil_iff.mp d3
    subst this
    cases q1 : seqItems x with
    | none => rw [q1] at e; cases e
    | some us =>
      rw [q1] at e
      cases e
      obtain ⟨S1, rfl, o1⟩ := src_of (vw := false) g1 (View.of g1 dv) (stays_dt g1 dv) q1
      exact ⟨S1, rfl, o1.1, q _ G1 H1 s1 g1 (itE_ok o1)⟩
  · exact h1.elim
end
end RL

set_option Elab.async false
set_option linter.all false
set_option maxRecDepth 100000
set_option maxHeartbeats 2000000
namespace RL
open PySem PySem.Spec PyProof.Rows L2
abbrev cx (W : Wb) (N : List Str) (sc : Scope) (k : Nat) : Sc := { toWb := W, N := N, sc := sc, st := fun _ => true, k := k }
/-- a def of the program, as its callers see it: n parameters -/
def Dfn (W : Wb) (x : Str) (k n : Nat) (F : Fb) : Prop := ∃ (f : Addr) (fd : FuncData) (ps : List Str), FnG W k f fd ps F ∧ W.mg x = some (.ref f) ∧ PySem.W.keepIn W.K (.ref f) = true ∧ Binds W.K fd ps [] ∧ ps.length = n
theorem re_dfn {c : Sc} {k n : Nat} {F : Fb} {x : Str} {e : Expr} {es : List Expr} {fe : Ev (List SV)} {p pos : Pos} (h : Dfn c.toWb x k n F) (hk : k ≤ c.k) (hg : c.sc.names.lookup x = some .globalImplicit) (ha : RG c (e :: es) fe)
    (hdb : (x == ("__debug__" : Str)) = false := by decide) (he : ∀ env, starEach (e :: es) env = (false, eval e env) :: starEach es env := by intro _; rfl) (hpl : ∀ env, (backTo pos (starEach es env)).any (·.1) = false := by intro _; rfl) :
    RE c (.Call (.Name x p) (e :: es) [] pos) (fFn F fe) := by
  obtain ⟨f, fd, ps, h1, h2, h3, h4, _⟩ := h
  exact re_fn h1 hk hg h2 h3 h4 ha hdb he hpl
end RL

set_option Elab.async false
set_option linter.all false
set_option maxRecDepth 100000
set_option maxHeartbeats 2000000
namespace RL
open PySem PySem.Spec PyProof.Rows L2
section
variable {c : Sc} {B : Bs} {G : Hp} {σ : L2.St} {H : Hp} {ρ : Rho} {M : List Int} {E : XK} {Dn : Ends}
/-! ### the law's turn: a new list of draws, the test -/
def scal1 : SV → SV
  | .d (.int i) => .d (.int i)
  | .r L => .r L
  | _ => .un
def scal (ρ : Rho) : Rho := ρ.map scal1
def onlyPot (i n : Nat) : Rho := (List.replicate n .un).set i .pot
def sTurn (i : Nat) (fe : Ev D) (ft : Ev Bool) : Sm := fun ρ M => match fe (scal ρ) [] with
  | .ok (.list xs) _ => (match intsD xs with
    | some L => (match ft (onlyPot i ρ.length) L with
      | .ok k _ => if k = true then .ret (.bool false) M else .nx (ρ.set i .un) M
      | _ => .bad)
    | none => .bad)
  | _ => .bad
theorem scal_get {i : Nat} {x : SV} (h : (scal ρ)[i]? = some x) : x = .un ∨ (ρ[i]? = some x ∧ ((∃ k, x = .d (.int k)) ∨ ∃ L, x = .r L)) := by
  unfold scal at h
  rw [List.getElem?_map] at h
  cases q : ρ[i]? with
  | none => rw [q] at h; cases h
  | some y =>
    rw [q] at h
    have h : scal1 y = x := Option.some.inj h
    unfold scal1 at h
    split at h
    · exact .inr ⟨by rw [← h], .inl ⟨_, h.symm⟩⟩
    · exact .inr ⟨by rw [← h], .inr ⟨_, h.symm⟩⟩
    · exact .inl h.symm
theorem Rl.scal (rl : Rl c.K B G σ H ρ M) (hp : ∀ L a, (∃ i : Nat, ρ[i]? = some (SV.r L)) → RoL c.K B.p H a L → RoL c.K none H a L) : Rl c.K ⟨none, fun _ => none, H⟩ (fun _ => none) σ H (scal ρ) [] where
  gr := ⟨fun _ _ h => (by cases h), fun _ h => (by cases h), fun _ h => (by cases h)⟩
  st := ⟨fun _ _ h => (by cases h), fun _ _ _ h => h, fun _ _ h => (by cases h), fun _ h => (by cases h)⟩
  sl := fun i x e => by
    rcases scal_get e with rfl | ⟨e, ⟨k, rfl⟩ | ⟨L, rfl⟩⟩
    · trivial
    · obtain ⟨v, ev, d⟩ := rl.sl i _ e
      exact ⟨v, ev, by rw [dtI.mp d]; exact dtI.mpr rfl⟩
    · obtain ⟨a, ev, ro⟩ := rl.sl i _ e
      exact ⟨a, ev, hp L a ⟨i, e⟩ ro⟩
  ds := fun i j a ⟨⟨xs, h1⟩, _⟩ _ => by
    rcases scal_get h1 with h | ⟨_, ⟨k, h⟩ | ⟨L, h⟩⟩ <;> cases h
  ln := by unfold RL.scal; rw [List.length_map]; exact rl.ln
theorem onlyPot_get {i n j : Nat} {x : SV} (h : (onlyPot i n)[j]? = some x) : x = .un ∨ (x = .pot ∧ j = i) := by
  rcases get_set h with ⟨rfl, rfl, _⟩ | ⟨_, h⟩
  · exact .inr ⟨rfl, rfl⟩
  · rw [List.getElem?_replicate] at h
    split at h
    · cases h; exact .inl rfl
    · cases h
theorem jb_turn {i : Nat} {x : Str} {e tst : Expr} {pos p' pos2 pos3 p3 : Pos} {j : _} {fe : Ev D} {ft : Ev Bool} (hN : c.N.Nodup) (hi : c.N[i]? = some x) (hx : Loc c.sc x) (hst : c.st x = true) (h : RE c e fe) (ht : RT c tst ft)
    (hs : ∀ env, env.scope = c.sc → swapsWith e (some (.Name x p')) pos.line env = pure false) : JB c [.Assign [.Name x p'] e pos, .If tst [.Return (some (.Constant (.bool false) j p3)) pos3] [] pos2] (sTurn i fe ft) := by
  obtain ⟨t, pe, s⟩ := h
  obtain ⟨u, pt, s2⟩ := ht
  refine ⟨fun E => tSeq (tAsg (t E) (gName i)) (tIfS (u E) (tRet (tC (.bl false))) tNext), fun X E g ps => ?_, fun B G σ H ρ M Dn E rl h => ?_⟩
  · exact pss_cons (ps_set (by rw [g.N]; exact hN) (by rw [g.N]; exact hi) (by rw [g.sc]; exact hx) (pe X E g ps.ps) (hs _ g.sc) (g.st x hst)) (pss_one (ps_if (pt X E g ps.ps) (pss_one (ps_ret pe_bl)) pss_nil))
  · unfold sTurn at h
    have lt : i < ρ.length ∨ ρ.length ≤ i := Nat.lt_or_ge _ _
    split at h
    · rename_i xs M1 hf
      split at h
      · rename_i L hL
        split at h
        · rename_i k M2 ht
          have rl1 := rl.scal fun L a _ ro => ro.imp (fun ⟨_, z⟩ => ⟨fun q => (nomatch q), z⟩) (fun z => z)
          refine s.use (Φ := fun y _ => y = .list xs) rl1 (by rw [hf]; exact rfl) fun y M1' v G1 H1 ey s1 g1 d1 _ => ?_
          subst ey
          have d1 : Dt c.K G1 (.list xs) v := d1
          simp only [Dt] at d1
          obtain ⟨a, vs, rfl, ga, da⟩ := d1
          have na : H a = none := s1.n a _ ga rfl
          rw [ints_of hL, DtA.ints] at da
          subst da
          have ha : H1 a = some (.lst (L.map .int)) := g1.gh a _ ga
          have rl2 : Rl c.K ⟨some a, fun _ => none, H1⟩ (fun _ => none) (σ.set i (some (.ref a))) H1 (onlyPot i ρ.length) L := by
            refine ⟨⟨fun _ _ h => (by cases h), fun q hq => (by cases hq; exact ha), fun _ _ => rfl⟩, ⟨fun _ _ h => (by cases h), fun _ _ _ h => h, fun _ _ h => (by cases h), fun _ _ => rfl⟩, fun j y e => ?_, fun k l b ⟨⟨ys, h1⟩, _⟩ _ => ?_, ?_⟩
            · rcases onlyPot_get e with rfl | ⟨rfl, rfl⟩
              · trivial
              · have hj : j < (onlyPot j ρ.length).length := (List.getElem?_eq_some_iff.mp e).1
                have hj : j < ρ.length := by simpa [onlyPot] using hj
                exact ⟨a, rfl, List.getElem?_set_self (by rw [rl.ln]; exact hj)⟩
            · rcases onlyPot_get h1 with q | ⟨q, _⟩ <;> cases q
            · simp only [onlyPot, List.length_set, List.length_replicate]; exact rl.ln
          refine s2.use (Φ := fun z _ => z = k) rl2 (by rw [ht]; exact rfl) fun z M3 z' G3 H3 ez s3 g3 e3 _ => ?_
          subst ez
          cases (show z = z' from e3)
          have kept : ∀ b o, H b = some o → H3 b = some o := fun b o e => s3.h b o (fun q => by cases q; rw [na] at e; cases e) (s1.h b o (fun q => nomatch q) e)
          have st : Stp B.p G H G H3 := ⟨fun _ _ z => z, fun b o _ e => kept b o e, fun b o e1 e2 => (by rw [e2] at e1; cases e1), rl.gr.pg⟩
          have gr : Gr B.p G H3 M := ⟨fun b o e => kept b o (rl.gr.gh b o e), fun q e => kept q _ (rl.gr.pot q e), rl.gr.pg⟩
          have rl3 : Rl c.K B G (σ.set i (some (.ref a))) H3 (ρ.set i .un) M := (rl.step st gr).set i (x := .un) trivial fun ys e => nomatch e
          cases z with
          | true =>
            rw [if_pos rfl] at h ⊢
            exact h _ G H3 (rl.st.trans st) gr (dtB.mpr rfl)
          | false =>
            rw [if_neg (by decide)] at h ⊢
            exact h G _ H3 (fun _ _ z => z) rl3
        · exact h.elim
      · exact h.elim
    · exact h.elim
end

/-! ### from the body to the law -/
/-- a def's datum and its body's derivation -/
theorem dfn_of {W : Wb} {k : Nat} {f : Addr} {x qual : Str} {params : Arguments} {body : List Stmt} {scope : Scope} {fd : FuncData} {N ps : List Str} {fb : Sm} {F : Fb} (FD : FunD W.K x qual params body scope [] [] f fd) (S : FnScope N ps scope)
    (hb : JB (cx W N scope k) body fb) (gm : W.mg x = some (.ref f)) (bd : Binds W.K fd ps []) (hF : F = bodyF ps.length N.length fb) {n : Nat} (hn : ps.length = n) : Dfn W x (k + 1) n F := by
  obtain ⟨oc, od, dV, kV, doc, pm, an, cdv, ct, osl, rfl, lk, hcd, _, _⟩ := FD.ex
  subst hF
  exact ⟨f, _, ps, fnG_of lk hcd S hb, gm, FD.kp, bd, hn⟩
theorem Dfn.fn {W : Wb} {x : Str} {k n : Nat} {F : Fb} {f : Addr} (h : Dfn W x k n F) (e : W.mg x = some (.ref f)) : ∃ fd ps, FnG W k f fd ps F ∧ ps.length = n := by
  obtain ⟨f', fd, ps, h1, h2, _, _, h5⟩ := h
  rw [e] at h2; cases h2
  exact ⟨fd, ps, h1, h5⟩
/-- the abstract heap at the law's call: the script alone -/
def scrH (a : Addr) (vs : List Value) (ns : List Int) : Hp := fun b => if b = a then some (.frz { cls := .type "list", data := .seq vs.toArray } (.lst (ns.map V.int))) else none
theorem law_run {W : Wb} {mb : Str → Option Value} {k : Nat} {fa a : Addr} {fd : FuncData} {x : Str} {F : Fb} {s₁ : Shared} {vs : List Value} {ns : List Int} (H : Hp) (hH : H = scrH a vs ns ∧ W.K.lookup a = none ∨ H = (fun _ => none) ∧ ∃ o, W.K.lookup a = some o)
    (KX : W.K.In s₁.heap) (hns : s₁.heap.Ns mainGlobals W.mg) (hb : s₁.heap.Ns builtinsNs mb) (hbb : ∀ x : Str, x ≠ "__name__" → mb x = bootBuiltins x) (hlim : s₁.heap.NoLimit) (hg : s₁.gens = #[])
    (ha : s₁.heap.get? a = some { cls := .type "list", data := .seq vs.toArray }) (hi : IntsAre vs ns) (hl : ns.length ≤ sizeLine) (hr : Room k callerA) (hbase : W.base = hidT s₁.heap H)
    (hF : W.K.In W.base → W.base.Ns mainGlobals W.mg → FnG W k fa fd [x] F) (bd : BindsTo s₁ fd ⟨[.ref a], []⟩ [(x, .ref a)]) (hT : ∃ M, F [.r ns] [] = .ok (.bool true) M) :
    codeAny (model W.P W.w) callerA (.call (.ref fa) ⟨[.ref a], []⟩) (fun r s' => r = .ok (.ret (.bool true)) ∧ OldK s₁.heap s'.heap ∧ s'.os = s₁.os ∧ AllBare s'.gens) s₁ := by
  have rv := vals_ints hi
  have only : ∀ b u, H b = some u → b = a ∧ u = .frz { cls := .type "list", data := .seq vs.toArray } (.lst (ns.map V.int)) := fun b u e => by
    rcases hH with ⟨rfl, _⟩ | ⟨rfl, _⟩
    · unfold scrH at e
      split at e
      · rename_i q; cases e; exact ⟨q, rfl⟩
      · cases e
    · cases e
  have hok : HOk W.P W.w H s₁.heap := fun b u e => by
    obtain ⟨rfl, rfl⟩ := only b u e
    exact ⟨ha, by rw [List.length_map]; exact hl, vs, _, rv, ha⟩
  have hid : ∀ {b : Addr} {o : Obj}, s₁.heap.get? b = some o → (∀ xs n, o.data ≠ .seq xs n) → (hidT s₁.heap H).get? b = some o := fun {b o} e d => by
    refine hidT_get e ?_
    cases q : H b with
    | none => rfl
    | some u =>
      obtain ⟨rfl, _⟩ := only b u q
      rw [ha] at e; cases e
      exact absurd rfl (d _ _)
  have nsH : ∀ {b : Addr} {m : Str → Option Value}, s₁.heap.Ns b m → (hidT s₁.heap H).Ns b m := fun ⟨o, es, ep, e, d, r⟩ => ⟨o, es, ep, hid e (fun xs n z => by rw [d] at z; cases z), d, r⟩
  have KB : W.K.In W.base := fun b o e => by
    rw [hbase]
    refine hidT_get (KX b o e) ?_
    cases q : H b with
    | none => rfl
    | some u =>
      obtain ⟨rfl, _⟩ := only b u q
      rcases hH with ⟨_, z⟩ | ⟨z, _⟩
      · rw [z] at e; cases e
      · rw [z] at q; cases q
  have nsB : W.base.Ns mainGlobals W.mg := by rw [hbase]; exact nsH hns
  have hM : Mod W.K W.mg W.base := ⟨KB, nsB, ⟨mb, by rw [hbase]; exact nsH hb, hbb⟩, by
    obtain ⟨mc, h1, h2⟩ := hlim
    rw [hbase]
    exact ⟨mc, nsH h1, h2⟩⟩
  have e0 : Env0 W.P W.w W.K W.mg W.base callerA [] s₁ H := by
    refine ⟨rfl, hM, fun b o e => ?_, ?_, trivial, fun b z => (nomatch z), hok, .of_eq hg⟩
    · rw [hbase] at e; exact of_hidT e
    · rw [hbase]; exact Nat.le_of_eq (hidT_size _ _)
  have ro : RoL W.K none H a ns := by
    rcases hH with ⟨rfl, _⟩ | ⟨_, o, e⟩
    · exact .inl ⟨fun q => (nomatch q), _, if_pos rfl⟩
    · have z := KX a o e
      rw [ha] at z; cases z
      exact .inr ⟨_, vs.toArray, _, e, rfl, rfl, rfl, by rw [List.size_toArray, hi.length]; exact hl, by simpa using rv⟩
  have sp : spOf W F [.ref a] H (fun v _ => v = .bl true) (fun _ _ _ => False) := by
    obtain ⟨M, e⟩ := hT
    refine ⟨none, fun _ => none, [.r ns], [], ⟨fun _ _ h => (by cases h), fun _ h => (by cases h), fun _ h => (by cases h)⟩, .cons ⟨a, rfl, ro⟩ .nil, ?_⟩
    rw [e]
    exact fun v G' H' _ _ d => dtB.mp d
  refine codeAny_mono ((hF KB nsB).run callerA [] s₁ H ⟨[.ref a], []⟩ [.ref a] [.ref a] _ _ hr rfl e0 bd (.cons rfl .nil) sp) fun r s' h => ?_
  match r, h with
  | .error e, ⟨_, _, _, _, _, _, _, _, _, _, _, _, z⟩ => exact z.elim
  | .ok .next, h => exact h.elim
  | .ok .brk, h => exact h.elim
  | .ok .cont, h => exact h.elim
  | .ok (.ret u), ⟨v, H', os, bare, un, hok', r', q⟩ =>
    have q' : v = .bl true := q
    subst q'
    cases (show u = Value.bool true from r')
    refine ⟨rfl, OldK.of_keep fun b o e => ?_, os, bare⟩
    cases q : H b with
    | none => exact un.keep b o e q (fun z => nomatch z) (by simp)
    | some u =>
      obtain ⟨rfl, rfl⟩ := only b u q
      obtain ⟨e1, _⟩ := hok b _ q
      obtain ⟨e2, _⟩ := hok' b _ (un.frzs b _ _ q)
      rw [e] at e1; cases e1
      exact e2
/-- the end of a law whose head is told by facts -/
theorem walk_ofR {l : PySem.W.OpenLaw} {n k : Nat} {q : Program} {loose : List Str} {XP : (Str → Option Value) → Heap → Prop} {YP : World → Heap → Prop} {d : DefRec} {x : Str} {F : Fb} {exq : Nat → D → Value → Option Addr → Hp → Hp → Prop}
    (hn : l.most = some n) (hn2 : n ≤ sizeLine) (hdf : d.params.defaults = []) (hr : Room k callerA)
    (hF : ∀ (w : World) (mg : Str → Option Value) (fa : Addr) (h : Heap), YP w h → h.Ns mainGlobals mg → mg d.name = some (.ref fa) →
      ∃ (K : PySem.W.Frag) (fd : FuncData), K.In h ∧ (∀ (s : Shared) (u : Value), BindsTo s fd ⟨[u], []⟩ [(x, u)]) ∧
        ∀ base : Heap, K.In base → base.Ns mainGlobals mg → FnG { P := l.prog, w := w, K := K, mg := mg, base := base, exq := exq } k fa fd [x] F)
    (hT : ∀ ns : List Int, ns.length ≤ n → ∃ M, F [.r ns] [] = .ok (.bool true) M) :
    PySem.W.WalkO q loose XP YP l.row.toRowW d [] (fun f vs => PySem.call f vs) := by
  refine Att.attach_call hn hdf fun w s₀ s₁ mg mb fa o pm cd doc a vs ns G Y ho hd hcd hmg hobj hints hlen hg => ?_
  obtain ⟨K, fd, KX, hb, hF⟩ := hF w mg fa _ Y G.T.g hmg
  cases e : K.lookup a with
  | none =>
    exact law_run (W := { P := l.prog, w := w, K := K, mg := mg, base := hidT s₁.heap (scrH a vs ns), exq := exq }) (scrH a vs ns) (.inl ⟨rfl, e⟩) KX G.T.g G.T.b G.T.builtins G.T.nolimit hg hobj hints (Nat.le_trans hlen hn2) hr rfl (hF _) (hb _ _) (hT ns hlen)
  | some o =>
    exact law_run (W := { P := l.prog, w := w, K := K, mg := mg, base := hidT s₁.heap fun _ => none, exq := exq }) (fun _ => none) (.inr ⟨rfl, o, e⟩) KX G.T.g G.T.b G.T.builtins G.T.nolimit hg hobj hints (Nat.le_trans hlen hn2) hr rfl (hF _) (hb _ _) (hT ns hlen)
end RL

set_option Elab.async false
set_option linter.all false
set_option maxRecDepth 100000
set_option maxHeartbeats 2000000
/-! list(zip(a, b)): the tuples that zip gives out stay in the list -/
namespace PySem
open Sem (wp)
section
variable {prog : Program} {w : World} {A : Around} {E : Value → Shared → Prop} {s : Shared} {z TI TO i1 i2 : Addr} {fp1 fp2 : List Addr} {n1 n2 i : Nat} {P1 P2 : Nat → Value → Prop} {St1 St2 : Nat → Heap → Prop} {a1 a2 : Value}
theorem zipD2_item_held {T : Addr} {f : Bool} {oT : Obj} {Q : Value → Shared → Prop} (S : ZipSep2 z TI TO i1 i2 fp1 fp2) (D1 : Draws prog w A i1 fp1 n1 P1 St1) (D2 : Draws prog w A i2 fp2 n2 P2 St2)
    (hz : IsZipHeld s.heap z TI TO T f) (hT : s.heap.get? T = some oT) (hTI : IsTupOf2 s.heap TI (.ref i1) (.ref i2)) (st1 : St1 i s.heap) (st2 : St2 i s.heap) (hlt1 : i < n1) (hlt2 : i < n2)
    (hQ : ∀ x1 x2 h' tk, P1 i x1 → P2 i x2 → IsZipHeld h' z TI TO T true → St1 (i + 1) h' → St2 (i + 1) h' → IsTupOf2 h' s.heap.objs.size x1 x2 → h'.objs.size = s.heap.objs.size + 1 →
      (∀ c o, c ≠ z → c ≠ i1 → c ≠ i2 → s.heap.get? c = some o → h'.get? c = some o) → Q (.ref s.heap.objs.size) { s with heap := h', toks := tk }) :
    wpAny (model prog w) A (Builtin.«zip.__next__» ⟨[.ref z], []⟩) (fun fin s' => ∃ v, fin = .done (.ret v) ∧ Q v s') E s := by
  obtain ⟨hp, g, d, tk0, os⟩ := s
  show wpAny _ _ (field (.ref z) 2 >>= _) _ _ _
  refine wpAny_bind (wpAny_field hz rfl (x := .bool false) rfl ?_)
  show wpAny _ _ (field (.ref z) 3 >>= _) _ _ _
  refine wpAny_bind (wpAny_field hz rfl (x := .ref TI) rfl ?_)
  refine wpAny_bind (wpAny_seqItems hTI rfl ?_)
  show wpAny _ _ (Builtin.SmallTypes.ownedTupleIsFree (.ref z) >>= _) _ _ _
  refine wpAny_bind (wpAny_tupleHeld_zip hz hT fun g0 hz0 hs0 => ?_)
  replace hs0 : Heap.SameBut z hp g0 := hs0
  simp only [Bool.false_eq_true, if_false]
  refine wpAny_bind ?_
  rw [← Array.forIn_toList]
  simp only [List.forIn_cons, List.forIn_nil]
  refine wpAny_bind (wpAny_bind (wpAny_holding ?_))
  show wpAny _ _ (Builtin.SmallTypes.nextOf (.ref i1) >>= _) _ _ ⟨g0, g, d, tk0, os⟩
  refine wpAny_bind (D1.item i _ _ _ hlt1 (D1.over st1 hs0 S.zf1) fun x1 p1 tk1 hx1 sn1 hp1 => wpAny_pure ?_)
  replace hp1 : Heap.SameBut i1 g0 p1 := hp1
  refine wpAny_pure ?_
  refine wpAny_bind (wpAny_bind (wpAny_holding ?_))
  show wpAny _ _ (Builtin.SmallTypes.nextOf (.ref i2) >>= _) _ _ ⟨p1, g, d, tk1, os⟩
  refine wpAny_bind (D2.item i _ _ _ hlt2 (D2.over (D2.over st2 hs0 S.zf2) hp1 S.sep1_2) fun x2 p2 tk2 hx2 sn2 hp2 => wpAny_pure ?_)
  replace hp2 : Heap.SameBut i2 p1 p2 := hp2
  refine wpAny_pure (wpAny_pure ?_)
  show wpAny _ _ (newTuple [x1, x2] >>= _) _ _ ⟨p2, g, d, tk2, os⟩
  refine wpAny_bind (wpAny_newTuple ?_)
  have hsz : p2.objs.size = hp.objs.size := by rw [hp2.1, hp1.1, hs0.1]
  have hzz : IsZipHeld p2 z TI TO T true := hp2.extBut _ _ S.zi2 (hp1.extBut _ _ S.zi1 hz0)
  have hkk : ∀ c o, c ≠ z → c ≠ i1 → c ≠ i2 → hp.get? c = some o → p2.get? c = some o := fun c o cz c1 c2 e => hp2.extBut _ _ c2 (hp1.extBut _ _ c1 (hs0.extBut _ _ cz e))
  have hj1 : St1 (i + 1) p2 := D1.over sn1 hp2 S.sep2_1
  have hj2 : St2 (i + 1) p2 := sn2
  refine wpAny_pure ⟨_, rfl, ?_⟩
  show Q (.ref p2.objs.size) ⟨p2.push { cls := .type "tuple", data := .seq #[x1, x2] }, g, d, tk2, os⟩
  have hp' : IsTupOf2 (p2.push { cls := .type "tuple", data := .seq #[x1, x2] }) p2.objs.size x1 x2 := Heap.get?_push_size _ rfl
  have hz4 : (p2.push { cls := .type "tuple", data := .seq #[x1, x2] }).objs.size = p2.objs.size + 1 := Heap.size_push ..
  rw [hsz] at hp' hz4 ⊢
  exact hQ x1 x2 _ tk2 hx1 hx2 (Heap.get?_push_of_some _ hzz) (D1.frame _ _ _ hj1 fun b hb o e => Heap.get?_push_of_some _ e) (D2.frame _ _ _ hj2 fun b hb o e => Heap.get?_push_of_some _ e) hp' hz4 fun c o cz c1 c2 e => Heap.get?_push_of_some _ (hkk c o cz c1 c2 e)
theorem zipD2_end_held {T : Addr} {f : Bool} {oT : Obj} {Q : Fin → Shared → Prop} (S : ZipSep2 z TI TO i1 i2 fp1 fp2) (D1 : Draws prog w A i1 fp1 n1 P1 St1) (D2 : Draws prog w A i2 fp2 n2 P2 St2)
    (hz : IsZipHeld s.heap z TI TO T f) (hT : s.heap.get? T = some oT) (hTI : IsTupOf2 s.heap TI (.ref i1) (.ref i2)) (st1 : St1 i s.heap) (st2 : St2 i s.heap) (hle1 : i ≤ n1) (hle2 : i ≤ n2) (hend : i = n1 ∨ i = n2)
    (hE : ∀ h' tk e, (∀ c o, c ≠ z → c ≠ i1 → c ≠ i2 → s.heap.get? c = some o → h'.get? c = some o) → (∃ o, h'.get? e = some o ∧ o.cls = .type "StopIteration") → E (.ref e) { s with heap := h', toks := tk }) :
    wpAny (model prog w) A (Builtin.«zip.__next__» ⟨[.ref z], []⟩) Q E s := by
  obtain ⟨hp, g, d, tk0, os⟩ := s
  show wpAny _ _ (field (.ref z) 2 >>= _) _ _ _
  refine wpAny_bind (wpAny_field hz rfl (x := .bool false) rfl ?_)
  show wpAny _ _ (field (.ref z) 3 >>= _) _ _ _
  refine wpAny_bind (wpAny_field hz rfl (x := .ref TI) rfl ?_)
  refine wpAny_bind (wpAny_seqItems hTI rfl ?_)
  show wpAny _ _ (Builtin.SmallTypes.ownedTupleIsFree (.ref z) >>= _) _ _ _
  refine wpAny_bind (wpAny_tupleHeld_zip hz hT fun g0 hz0 hs0 => ?_)
  replace hs0 : Heap.SameBut z hp g0 := hs0
  simp only [Bool.false_eq_true, if_false]
  refine wpAny_bind ?_
  rw [← Array.forIn_toList]
  simp only [List.forIn_cons, List.forIn_nil]
  refine wpAny_bind (wpAny_bind (wpAny_holding ?_))
  show wpAny _ _ (Builtin.SmallTypes.nextOf (.ref i1) >>= _) _ _ ⟨g0, g, d, tk0, os⟩
  by_cases hlt1 : i < n1
  · refine wpAny_bind (D1.item i _ _ _ hlt1 (D1.over st1 hs0 S.zf1) fun x1 p1 tk1 hx1 sn1 hp1 => wpAny_pure ?_)
    replace hp1 : Heap.SameBut i1 g0 p1 := hp1
    refine wpAny_pure ?_
    refine wpAny_bind (wpAny_bind (wpAny_holding ?_))
    show wpAny _ _ (Builtin.SmallTypes.nextOf (.ref i2) >>= _) _ _ ⟨p1, g, d, tk1, os⟩
    have e2 : i = n2 := by omega
    subst e2
    refine wpAny_bind (D2.done ⟨p1, g, d, tk1, os⟩ _ _ (D2.over (D2.over st2 hs0 S.zf2) hp1 S.sep1_2) fun h' e hk he => ?_)
    exact hE h' tk1 e (fun c o cz c1 c2 q => hk _ _ c2 (hp1.extBut _ _ c1 (hs0.extBut _ _ cz q))) he
  · have e1 : i = n1 := by omega
    subst e1
    refine wpAny_bind (D1.done ⟨g0, g, d, tk0, os⟩ _ _ (D1.over st1 hs0 S.zf1) fun h' e hk he => ?_)
    exact hE h' tk0 e (fun c o cz c1 c2 q => hk _ _ c1 (hs0.extBut _ _ cz q)) he
theorem pyNext_zipD2_held {T : Addr} {f : Bool} {oT : Obj} {Q : Option Value → Shared → Prop} (S : ZipSep2 z TI TO i1 i2 fp1 fp2) (D1 : Draws prog w A.in1 i1 fp1 n1 P1 St1) (D2 : Draws prog w A.in1 i2 fp2 n2 P2 St2)
    (hz : IsZipHeld s.heap z TI TO T f) (hT : s.heap.get? T = some oT) (hTI : IsTupOf2 s.heap TI (.ref i1) (.ref i2)) (st1 : St1 i s.heap) (st2 : St2 i s.heap) (hlt1 : i < n1) (hlt2 : i < n2)
    (hQ : ∀ x1 x2 h' tk, P1 i x1 → P2 i x2 → IsZipHeld h' z TI TO T true → St1 (i + 1) h' → St2 (i + 1) h' → IsTupOf2 h' s.heap.objs.size x1 x2 → h'.objs.size = s.heap.objs.size + 1 →
      (∀ c o, c ≠ z → c ≠ i1 → c ≠ i2 → s.heap.get? c = some o → h'.get? c = some o) → Q (some (.ref s.heap.objs.size)) { s with heap := h', toks := tk }) :
    wpAny (model prog w) A (pyNext (.ref z)) Q E s := by
  have hTy : s.TypeIs (.ref z) "zip" := ⟨_, hz, rfl⟩
  unfold pyNext
  exact wpAny_bind (wpAny_attempt (wpAny_callSpecial?_slot (name := Str.ofString "__next__") hTy F.slot_zip_next
    (wpAny_call_entry F.slot_zip_next hTy F.entry_zip_next
      (zipD2_item_held S D1 D2 hz hT hTI st1 st2 hlt1 hlt2 fun x1 x2 h' tk y1 y2 b1 d1 d2 b5 b6 b7 => wpAny_pure (hQ x1 x2 h' tk y1 y2 b1 d1 d2 b5 b6 b7)) (F.args_zip_next_1 _))))
theorem pyNext_zipD2_held_end {T : Addr} {f : Bool} {oT : Obj} {Q : Option Value → Shared → Prop} (S : ZipSep2 z TI TO i1 i2 fp1 fp2) (D1 : Draws prog w A.in1 i1 fp1 n1 P1 St1) (D2 : Draws prog w A.in1 i2 fp2 n2 P2 St2)
    (hz : IsZipHeld s.heap z TI TO T f) (hT : s.heap.get? T = some oT) (hTI : IsTupOf2 s.heap TI (.ref i1) (.ref i2)) (st1 : St1 i s.heap) (st2 : St2 i s.heap) (hle1 : i ≤ n1) (hle2 : i ≤ n2) (hend : i = n1 ∨ i = n2)
    (hQ : ∀ h' tk, (∀ c o, c ≠ z → c ≠ i1 → c ≠ i2 → s.heap.get? c = some o → h'.get? c = some o) → Q none { s with heap := h', toks := tk }) : wpAny (model prog w) A (pyNext (.ref z)) Q E s := by
  have hTy : s.TypeIs (.ref z) "zip" := ⟨_, hz, rfl⟩
  unfold pyNext
  refine wpAny_bind (wpAny_attempt (wpAny_callSpecial?_slot (name := Str.ofString "__next__") hTy F.slot_zip_next
    (wpAny_call_entry F.slot_zip_next hTy F.entry_zip_next (zipD2_end_held S D1 D2 hz hT hTI st1 st2 hle1 hle2 hend fun h' tk e hk he => ?_) (F.args_zip_next_1 _))))
  obtain ⟨o, ho, hc⟩ := he
  refine wpAny_bind (wpAny_isInstance (T := "StopIteration") (b := true) ⟨o, ho, hc⟩ isSubtype_stop ?_)
  exact wpAny_pure (hQ _ _ hk)
/-- zip's own state, whether its tuple is out or not -/
def ZAny (h : Heap) (z TI TO : Addr) : Prop := (IsZip h z TI TO .none ∧ ∃ x y, IsTupOf2 h TO x y) ∨ ∃ T f o, IsZipHeld h z TI TO T f ∧ h.get? T = some o
theorem ZAny.keep {h h' : Heap} (zs : ZAny h z TI TO) (k : ∀ b o, h.get? b = some o → h'.get? b = some o) : ZAny h' z TI TO := by
  rcases zs with ⟨a, x, y, b⟩ | ⟨T, f, o, a, b⟩
  · exact .inl ⟨k _ _ a, x, y, k _ _ b⟩
  · exact .inr ⟨T, f, o, k _ _ a, k _ _ b⟩
theorem ZAny.obj {h : Heap} (zs : ZAny h z TI TO) : ∃ o, h.get? z = some o ∧ o.cls = .type "zip" := by
  rcases zs with ⟨a, _⟩ | ⟨T, f, o, a, _⟩
  · exact ⟨_, a, rfl⟩
  · exact ⟨_, a, rfl⟩
/-- the list's items so far: tuples, each at an address of its own -/
def Tups (P1 P2 : Nat → Value → Prop) (h : Heap) (lo : Nat) (Ts : List Addr) : Prop := Ts.Pairwise (· < ·) ∧ (∀ T ∈ Ts, lo ≤ T) ∧ ∀ (j : Nat) T, Ts[j]? = some T → ∃ x y, IsTupOf2 h T x y ∧ P1 j x ∧ P2 j y
theorem Tups.keep {h h' : Heap} {lo : Nat} {Ts : List Addr} (t : Tups P1 P2 h lo Ts) (k : ∀ (b : Nat) o, lo ≤ b → h.get? b = some o → h'.get? b = some o) : Tups P1 P2 h' lo Ts :=
  ⟨t.1, t.2.1, fun j T e => by
    obtain ⟨x, y, a, b, c⟩ := t.2.2 j T e
    exact ⟨x, y, k _ _ (t.2.1 T (List.mem_of_getElem? e)) a, b, c⟩⟩
theorem Tups.snoc {h : Heap} {lo : Nat} {Ts : List Addr} {T : Addr} {x y : Value} (t : Tups P1 P2 h lo Ts) (hl : ∀ U ∈ Ts, U < T) (h0 : lo ≤ T) (hT : IsTupOf2 h T x y) (p1 : P1 Ts.length x) (p2 : P2 Ts.length y) : Tups P1 P2 h lo (Ts ++ [T]) := by
  refine ⟨?_, fun U m => ?_, fun j U e => ?_⟩
  · rw [List.pairwise_append]
    exact ⟨t.1, List.pairwise_singleton _ _, fun a ha b hb => by rw [List.mem_singleton.mp hb]; exact hl a ha⟩
  · rcases List.mem_append.mp m with m | m
    · exact t.2.1 U m
    · rw [List.mem_singleton.mp m]; exact h0
  · by_cases hj : j < Ts.length
    · rw [List.getElem?_append_left hj] at e
      exact t.2.2 j U e
    · have hj' : Ts.length ≤ j := by omega
      rw [List.getElem?_append_right hj'] at e
      by_cases q : j = Ts.length
      · subst q
        simp at e
        subst e
        exact ⟨x, y, hT, p1, p2⟩
      · obtain ⟨m, hm⟩ : ∃ m, j - Ts.length = m + 1 := ⟨j - Ts.length - 1, by omega⟩
        rw [hm] at e
        simp at e
theorem extend_zip {R : Result → Shared → Prop} (S : ZipSep2 z TI TO i1 i2 fp1 fp2) (D1 : Draws prog w A.in1.in1 i1 fp1 n1 P1 St1) (D2 : Draws prog w A.in1.in1 i2 fp2 n2 P2 St2) (hn : min n1 n2 ≤ sizeLine) (L : Addr) (lo : Nat) (hL : Nat.lt L lo)
    (cells : ∀ b : Nat, b = z ∨ b = TO ∨ b = TI ∨ b = i1 ∨ b = i2 → Nat.lt b L) (hL1 : L ∉ fp1) (hL2 : L ∉ fp2) (res : Value) :
    ∀ (k i : Nat) (s : Shared) (Ts : List Addr) (c : Nat), min n1 n2 - i = k → i ≤ min n1 n2 → Nat.le lo s.heap.objs.size → ZAny s.heap z TI TO → IsTupOf2 s.heap TI (.ref i1) (.ref i2) → St1 i s.heap → St2 i s.heap →
    s.heap.get? L = some { cls := .type "list", dict := none, data := .seq (Ts.map Value.ref).toArray c, slots := #[] } → Ts.length = i → Tups P1 P2 s.heap lo Ts → (∀ T ∈ Ts, T < s.heap.objs.size) →
    (∀ h' tk Ts' c', (∀ b o, b ∉ [L, z, TO, i1, i2] → s.heap.get? b = some o → h'.get? b = some o) → h'.get? L = some { cls := .type "list", dict := none, data := .seq (Ts'.map Value.ref).toArray c', slots := #[] } → Ts'.length = min n1 n2 → Tups P1 P2 h' lo Ts' →
      R (.ok (.ret res)) { s with heap := h', toks := tk }) →
    codeAny (model prog w) A (.builtin "list.extend.loop" ⟨[.ref L, .ref z, res], []⟩) R s := by
  have lz : z ≠ L := Nat.ne_of_lt (cells z (.inl rfl))
  have lTO : TO ≠ L := Nat.ne_of_lt (cells TO (.inr (.inl rfl)))
  have lTI : TI ≠ L := Nat.ne_of_lt (cells TI (.inr (.inr (.inl rfl))))
  have l1 : i1 ≠ L := Nat.ne_of_lt (cells i1 (.inr (.inr (.inr (.inl rfl)))))
  have l2 : i2 ≠ L := Nat.ne_of_lt (cells i2 (.inr (.inr (.inr (.inr rfl)))))
  have above : ∀ b : Nat, lo ≤ b → b ≠ L ∧ b ≠ z ∧ b ≠ TO ∧ b ≠ TI ∧ b ≠ i1 ∧ b ≠ i2 := fun b hb => by
    have q : Nat.lt L b := Nat.lt_of_lt_of_le hL hb
    have r : ∀ x : Nat, x = z ∨ x = TO ∨ x = TI ∨ x = i1 ∨ x = i2 → b ≠ x := fun x hx e => by
      subst e
      exact Nat.lt_asymm q (cells b hx)
    exact ⟨Nat.ne_of_gt q, r z (.inl rfl), r TO (.inr (.inl rfl)), r TI (.inr (.inr (.inl rfl))), r i1 (.inr (.inr (.inr (.inl rfl)))), r i2 (.inr (.inr (.inr (.inr rfl))))⟩
  intro k
  induction k with
  | zero =>
    intro i s Ts c hk hi hlo hz hTI h1 h2 hS hl ht hlt hR
    have hin : i = min n1 n2 := by omega
    refine codeAny_builtin F.entry_extend_loop ?_
    rw [Around.under_plainId F.plain_extend_loop _]
    show wpAny _ A.in1 (pyNext (.ref z) >>= _) _ _ s
    have fin : ∀ h' tk, (∀ c o, c ≠ z → c ≠ TO → c ≠ i1 → c ≠ i2 → s.heap.get? c = some o → h'.get? c = some o) → R (.ok (.ret res)) { s with heap := h', toks := tk } := fun h' tk k =>
      hR h' tk Ts c (fun b o hb e => k b o (fun q => hb (by simp [q])) (fun q => hb (by simp [q])) (fun q => hb (by simp [q])) (fun q => hb (by simp [q])) e) (k L _ (Ne.symm lz) (Ne.symm lTO) (Ne.symm l1) (Ne.symm l2) hS) (by rw [hl, hin])
        (ht.keep fun b o hb e => let ⟨_, q1, q2, _, q3, q4⟩ := above b hb; k b o q1 q2 q3 q4 e)
    have e12 : i ≤ n1 ∧ i ≤ n2 ∧ (i = n1 ∨ i = n2) := by omega
    rcases hz with ⟨hz, x, y, hTO⟩ | ⟨T, f, o, hz, hT⟩
    · exact wpAny_bind (wpAny_pyNext_zipD2_end S D1 D2 hz hTI hTO h1 h2 e12.1 e12.2.1 e12.2.2 fun h' tk k => wpAny_pure (fin h' tk k))
    · exact wpAny_bind (pyNext_zipD2_held_end S D1 D2 hz hT hTI h1 h2 e12.1 e12.2.1 e12.2.2 fun h' tk k => wpAny_pure (fin h' tk fun c o q1 _ q3 q4 e => k c o q1 q3 q4 e))
  | succ k ih =>
    intro i s Ts c hk hi hlo hz hTI h1 h2 hS hl ht hlt hR
    have e12 : i < n1 ∧ i < n2 := by omega
    refine codeAny_builtin F.entry_extend_loop ?_
    rw [Around.under_plainId F.plain_extend_loop _]
    show wpAny _ A.in1 (pyNext (.ref z) >>= _) _ _ s
    have go : ∀ x1 x2 h' tk, P1 i x1 → P2 i x2 → ZAny h' z TI TO → St1 (i + 1) h' → St2 (i + 1) h' → IsTupOf2 h' s.heap.objs.size x1 x2 → h'.objs.size = s.heap.objs.size + 1 →
        (∀ c o, c ≠ z → c ≠ TO → c ≠ i1 → c ≠ i2 → s.heap.get? c = some o → h'.get? c = some o) →
        wpAny (model prog w) A.in1 (updateSeq L (·.push (.ref s.heap.objs.size)) >>= fun _ => again (.builtin "list.extend.loop" ⟨[.ref L, .ref z, res], []⟩))
          (fun fin s' => match fin with | .done f => R (.ok f) s' | .again c' => c'.quiet = true ∧ codeAny (model prog w) A c' R s') (fun e s' => R (.error e) s') { s with heap := h', toks := tk } := by
      intro x1 x2 h' tk y1 y2 hz' d1 d2 hT' hsz k'
      have hS' := k' L _ (Ne.symm lz) (Ne.symm lTO) (Ne.symm l1) (Ne.symm l2) hS
      refine wpAny_bind ?_
      refine wpAny_updateSeq (s := { s with heap := h', toks := tk }) hS' rfl (wpAny_pure ⟨plainId_quiet F.plain_extend_loop _, ?_⟩) (by simp only [List.size_toArray, List.length_map]; omega) (by simp only [Array.size_push, List.size_toArray, List.length_map]; omega)
      have hS2 := Heap.get?_update_self (Obj.mapSeq (·.push (Value.ref s.heap.objs.size))) hS' rfl
      obtain ⟨c2, hS2'⟩ : ∃ c2, (h'.update L (Obj.mapSeq (·.push (Value.ref s.heap.objs.size)))).get? L = some { cls := .type "list", dict := none, data := .seq ((Ts ++ [s.heap.objs.size]).map Value.ref).toArray c2, slots := #[] } := by
        rw [show ((Ts ++ [s.heap.objs.size]).map Value.ref).toArray = (Ts.map Value.ref).toArray.push (.ref s.heap.objs.size) from by simp]
        exact ⟨_, hS2⟩
      have oth : ∀ b o, b ≠ L → h'.get? b = some o → (h'.update L (Obj.mapSeq (·.push (Value.ref s.heap.objs.size)))).get? b = some o := fun b o hb e => (Heap.get?_update_other _ _ (Ne.symm hb)).trans e
      have sz2 : (h'.update L (Obj.mapSeq (·.push (Value.ref s.heap.objs.size)))).objs.size = h'.objs.size := (Heap.SameBut.update ..).1
      have T0 : Nat.le lo s.heap.objs.size := hlo
      have Tne : s.heap.objs.size ≠ L := (above _ T0).1
      refine ih (i + 1) _ (Ts ++ [s.heap.objs.size]) c2 (by omega) (by omega) ?_ ?_ ?_ ?_ ?_ ?_ (by rw [List.length_append, hl]; rfl) ?_ ?_ ?_
      · show Nat.le lo (h'.update L _).objs.size
        rw [sz2, hsz]; exact Nat.le_succ_of_le hlo
      · rcases hz' with ⟨a, x, y, b⟩ | ⟨T, f, o, a, b⟩
        · exact .inl ⟨oth _ _ lz a, x, y, oth _ _ lTO b⟩
        · refine .inr ⟨T, f, ?_⟩
          by_cases q : T = L
          · subst q
            exact ⟨_, oth _ _ lz a, hS2⟩
          · exact ⟨o, oth _ _ lz a, oth _ _ q b⟩
      · exact oth _ _ lTI (k' TI _ S.TIz S.TITO S.TIi1 S.TIi2 hTI)
      · exact D1.frame _ _ _ d1 fun b hb o e => oth b o (fun q => hL1 (q ▸ hb)) e
      · exact D2.frame _ _ _ d2 fun b hb o e => oth b o (fun q => hL2 (q ▸ hb)) e
      · exact hS2'
      · refine Tups.snoc (ht.keep fun b o hb e => let ⟨q0, q1, q2, _, q3, q4⟩ := above b hb; oth b o q0 (k' b o q1 q2 q3 q4 e)) hlt T0 (oth _ _ Tne hT') (by rw [hl]; exact y1) (by rw [hl]; exact y2)
      · intro U m
        show Nat.lt U (h'.update L _).objs.size
        rw [sz2, hsz]
        rcases List.mem_append.mp m with m | m
        · exact Nat.lt_succ_of_lt (hlt U m)
        · rw [List.mem_singleton.mp m]; exact Nat.lt_succ_self _
      · intro h'' tk'' Ts' c' k'' hS'' hl'' ht''
        refine hR h'' tk'' Ts' c' (fun b o hb e => k'' b o hb (oth b o (fun q => hb (by simp [q])) (k' b o (fun q => hb (by simp [q])) (fun q => hb (by simp [q])) (fun q => hb (by simp [q])) (fun q => hb (by simp [q])) e))) hS'' hl'' ht''
    rcases hz with ⟨hz, x, y, hTO⟩ | ⟨T, f, o, hz, hT⟩
    · refine wpAny_bind (wpAny_pyNext_zipD2_item S D1 D2 hz hTI hTO h1 h2 e12.1 e12.2 fun x1 x2 h' tk y1 y2 b1 b2 d1 d2 b5 b6 b7 => go x1 x2 h' tk y1 y2 (.inr ⟨s.heap.objs.size, false, _, b1, b5⟩) d1 d2 b5 b6 b7)
    · refine wpAny_bind (pyNext_zipD2_held S D1 D2 hz hT hTI h1 h2 e12.1 e12.2 fun x1 x2 h' tk y1 y2 b1 d1 d2 b5 b6 b7 => go x1 x2 h' tk y1 y2 ?_ d1 d2 b5 b6 fun c o q1 _ q3 q4 e => b7 c o q1 q3 q4 e)
      by_cases qT : T = z ∨ T = i1 ∨ T = i2
      · obtain ⟨o', ho'⟩ : ∃ o', h'.get? T = some o' := by
          rcases qT with rfl | rfl | rfl
          · exact ⟨_, b1⟩
          · exact D1.live _ _ d1
          · exact D2.live _ _ d2
        exact .inr ⟨T, true, o', b1, ho'⟩
      · have : T ≠ z ∧ T ≠ i1 ∧ T ≠ i2 := ⟨fun q => qT (.inl q), fun q => qT (.inr (.inl q)), fun q => qT (.inr (.inr q))⟩
        exact .inr ⟨T, true, o, b1, b7 T o this.1 this.2.1 this.2.2 hT⟩

theorem zip_nolen : typeLookup (.type "zip") "__len__" = pure none := by rw [typeLookup_type, builtinLookup_eq_fast]; kernel_rfl
theorem zip_nohint : typeLookup (.type "zip") "__length_hint__" = pure none := by rw [typeLookup_type, builtinLookup_eq_fast]; kernel_rfl
/-- list(z), z a zip -/
theorem call_list_zip {Q : Value → Shared → Prop} (S : ZipSep2 z TI TO i1 i2 fp1 fp2) (D1 : Draws prog w A.in1.in1.in1 i1 fp1 n1 P1 St1) (D2 : Draws prog w A.in1.in1.in1 i2 fp2 n2 P2 St2) (hn : min n1 n2 ≤ sizeLine)
    (cells : ∀ b : Nat, b ∈ z :: TI :: TO :: (fp1 ++ fp2) → Nat.lt b s.heap.objs.size) (hz : IsZip s.heap z TI TO .none) (hTI : IsTupOf2 s.heap TI (.ref i1) (.ref i2)) (hTO : IsTupOf2 s.heap TO a1 a2) (st1 : St1 0 s.heap) (st2 : St2 0 s.heap)
    (hQ : ∀ h' tk Ts c', (∀ b o, b ∉ [z, TO, i1, i2] → s.heap.get? b = some o → h'.get? b = some o) → h'.get? s.heap.objs.size = some { cls := .type "list", dict := none, data := .seq (Ts.map Value.ref).toArray c', slots := #[] } → Ts.length = min n1 n2 → Tups P1 P2 h' (s.heap.objs.size + 1) Ts →
      Q (.ref s.heap.objs.size) { s with heap := h', toks := tk }) :
    wpAny (model prog w) A (call (.type "list") [.ref z]) Q E s := by
  have lt0 : ∀ b : Nat, b ∈ z :: TI :: TO :: (fp1 ++ fp2) → b ≠ s.heap.objs.size := fun b hb => Nat.ne_of_lt (cells b hb)
  have mz : z ∈ z :: TI :: TO :: (fp1 ++ fp2) := by simp
  have m1 : ∀ b ∈ fp1, b ∈ z :: TI :: TO :: (fp1 ++ fp2) := fun b hb => by simp [hb]
  have m2 : ∀ b ∈ fp2, b ∈ z :: TI :: TO :: (fp1 ++ fp2) := fun b hb => by simp [hb]
  refine callType_codes (Q₁ := fun obj s₁ => obj = .ref s.heap.objs.size ∧ s₁ = { s with heap := s.heap.push { cls := .type "list", data := .seq #[] } }) F.called_list (F.typeCall_list_1 _) F.entry_list_init
    (code_list_new _ ⟨rfl, rfl⟩) fun obj s₁ h₁ => ?_
  obtain ⟨rfl, rfl⟩ := h₁
  have hS : (s.heap.push { cls := .type "list", data := .seq #[] }).get? s.heap.objs.size = some { cls := .type "list", data := .seq #[] } := Heap.get?_push_size _ rfl
  refine ⟨⟨_, hS, rfl⟩, F.args_list_init_2 _ _, ?_⟩
  show wpAny _ _ (do let old ← Builtin.List.listItems (.ref s.heap.objs.size); Builtin.List.listUpdate (.ref s.heap.objs.size) (fun _ => #[]); letGo old.toList.reverse; Builtin.List.listExtendWith (.ref s.heap.objs.size) (.ref z) .none) _ _ _
  refine wpAny_bind ?_
  unfold Builtin.List.listItems
  refine wpAny_bind (wpAny_seqItems hS rfl (wpAny_pure ?_))
  show wpAny _ _ (updateSeq s.heap.objs.size (fun _ => #[]) >>= fun _ => letGo (#[] : Array Value).toList.reverse >>= fun _ => Builtin.List.listExtendWith (.ref s.heap.objs.size) (.ref z) .none) _ _ _
  refine wpAny_bind (wpAny_updateSeq hS rfl ?_)
  have hS₂ := Heap.get?_update_self (Obj.mapSeq (fun _ => (#[] : Array Value))) hS rfl
  have oth : ∀ b o, b ≠ s.heap.objs.size → s.heap.get? b = some o → ((s.heap.push { cls := .type "list", data := .seq #[] }).update s.heap.objs.size (Obj.mapSeq (fun _ => (#[] : Array Value)))).get? b = some o :=
    fun b o hb e => (Heap.get?_update_other _ _ (Ne.symm hb)).trans (Heap.get?_push_of_some _ e)
  have sz2 : ((s.heap.push { cls := .type "list", data := .seq #[] }).update s.heap.objs.size (Obj.mapSeq (fun _ => (#[] : Array Value)))).objs.size = s.heap.objs.size + 1 := by
    rw [(Heap.SameBut.update ..).1, Heap.size_push]
  refine wpAny_bind (wpAny_letGo ?_)
  have hz2 := oth z _ (lt0 z mz) hz
  generalize hH : (s.heap.push { cls := .type "list", data := .seq #[] }).update s.heap.objs.size (Obj.mapSeq (fun _ => (#[] : Array Value))) = H2 at hS₂ oth sz2 hz2 ⊢
  have hT : ({ s with heap := H2 } : Shared).TypeIs (.ref z) "zip" := ⟨_, hz2, rfl⟩
  unfold Builtin.List.listExtendWith
  refine wpAny_bind (wpAny_typeOf hT ?_)
  have h1 : Builtin.List.listSameRef (.ref s.heap.objs.size) (.ref z) = false := by simp [Builtin.List.listSameRef, Ne.symm (lt0 z mz)]
  have h2 : (Value.type "zip" == Value.type "list") = false := by decide
  have h3 : (Value.type "zip" == Value.type "tuple") = false := by decide
  simp only [h1, h2, h3, Bool.or_false, Bool.false_eq_true, if_false]
  refine wpAny_bind (wpAny_pyIter_zip hz2 ?_)
  refine wpAny_bind (wpAny_holding ?_)
  unfold Builtin.List.listLengthHint
  refine wpAny_bind (wpAny_specialOf hT zip_nolen ?_)
  show wpAny _ _ (specialOf (Value.ref z) (Str.ofString "__length_hint__") >>= _) _ _ _
  refine wpAny_bind (wpAny_specialOf hT zip_nohint ?_)
  refine wpAny_pure ?_
  show wpAny _ _ (rule "list.extend.makes-room" >>= fun _ => Builtin.List.listTouch (.ref s.heap.objs.size) >>= fun _ => again (.builtin "list.extend.loop" ⟨[.ref s.heap.objs.size, .ref z, .none], []⟩)) _ _ _
  refine wpAny_bind (wpAny_rule ?_)
  refine wpAny_bind ?_
  show wpAny _ _ (updateSeq s.heap.objs.size (·.push .none) >>= fun _ => updateSeq s.heap.objs.size (·.pop)) _ _ _
  refine wpAny_bind (wpAny_updateSeq (s := { s with heap := H2 }) hS₂ rfl ?_)
  have hS3 := Heap.get?_update_self (Obj.mapSeq (·.push Value.none)) hS₂ rfl
  refine wpAny_updateSeq hS3 rfl ?_
  have hS4 := Heap.get?_update_self (Obj.mapSeq (·.pop)) hS3 rfl
  have oth4 : ∀ b o, b ≠ s.heap.objs.size → s.heap.get? b = some o → ((H2.update s.heap.objs.size (Obj.mapSeq (·.push Value.none))).update s.heap.objs.size (Obj.mapSeq (·.pop))).get? b = some o :=
    fun b o hb e => (Heap.get?_update_other _ _ (Ne.symm hb)).trans ((Heap.get?_update_other _ _ (Ne.symm hb)).trans (oth b o hb e))
  have sz4 : ((H2.update s.heap.objs.size (Obj.mapSeq (·.push Value.none))).update s.heap.objs.size (Obj.mapSeq (·.pop))).objs.size = s.heap.objs.size + 1 := by
    rw [(Heap.SameBut.update ..).1, (Heap.SameBut.update ..).1, sz2]
  generalize hH4 : (H2.update s.heap.objs.size (Obj.mapSeq (·.push Value.none))).update s.heap.objs.size (Obj.mapSeq (·.pop)) = H4 at hS4 oth4 sz4 ⊢
  have cl : ∀ b, b ∈ z :: TI :: TO :: (fp1 ++ fp2) → ∀ o, s.heap.get? b = some o → H4.get? b = some o := fun b hb o e => oth4 b o (lt0 b hb) e
  refine wpAny_pure ⟨plainId_quiet F.plain_extend_loop _, ?_⟩
  refine extend_zip (A := A.in1) (lo := s.heap.objs.size + 1) S D1 D2 hn _ (Nat.lt_succ_self _) (fun b hb => cells b ?_) (fun q => lt0 _ (m1 _ q) rfl) (fun q => lt0 _ (m2 _ q) rfl) .none _ 0 { s with heap := H4 } [] _ rfl (Nat.zero_le _) (by rw [sz4]; exact Nat.le_refl _) (.inl ⟨cl z mz _ hz, a1, a2, cl TO (by simp) _ hTO⟩) (cl TI (by simp) _ hTI)
    (D1.frame _ _ _ st1 fun b hb o e => cl b (m1 b hb) o e) (D2.frame _ _ _ st2 fun b hb o e => cl b (m2 b hb) o e) hS4 rfl ⟨List.Pairwise.nil, fun _ m => by simp at m, fun j T e => by simp at e⟩ (fun _ m => by simp at m) fun h' tk Ts' c' k hS' hl ht => ?_
  · rcases hb with q | q | q | q | q
    · rw [q]; simp
    · rw [q]; simp
    · rw [q]; simp
    · rw [q]; exact m1 _ S.mem1
    · rw [q]; exact m2 _ S.mem2
  · refine ⟨rfl, hQ h' tk Ts' c' (fun b o hb e => ?_) hS' hl ht⟩
    have hb' : b ≠ s.heap.objs.size := Nat.ne_of_lt (Heap.lt_size e)
    refine k b o (fun m => ?_) (oth4 b o hb' e)
    rcases List.mem_cons.mp m with m | m
    · exact hb' m
    · exact hb m
end
end PySem

set_option Elab.async false
set_option linter.all false
set_option maxRecDepth 100000
set_option maxHeartbeats 2000000
namespace RL
open PySem PySem.Spec PyProof.Rows L2
theorem pick {α β : Type} {R : Nat → α → β → Prop} : ∀ (l : List α), (∀ j a, l[j]? = some a → ∃ b, R j a b) → ∃ l' : List β, l'.length = l.length ∧ ∀ j a b, l[j]? = some a → l'[j]? = some b → R j a b
  | [], _ => ⟨[], rfl, fun j a b e => by simp at e⟩
  | a :: l, h => by
    obtain ⟨b, hb⟩ := h 0 a rfl
    obtain ⟨l', h1, h2⟩ := pick (R := fun j => R (j + 1)) l fun j a e => h (j + 1) a (by simpa using e)
    refine ⟨b :: l', by simp [h1], fun j x y e1 e2 => ?_⟩
    cases j with
    | zero => simp at e1 e2; subst e1 e2; exact hb
    | succ j => exact h2 j x y (by simpa using e1) (by simpa using e2)
def layZ : List Addr → List (V × V) → Hp → Hp
  | T :: Ts, q :: qs, H => layZ Ts qs (L2.upd H T (.tup [q.1, q.2]))
  | _, _, H => H
theorem layZ_out {a : Addr} : ∀ {Ts : List Addr} {qs : List (V × V)} {H : Hp}, a ∉ Ts → layZ Ts qs H a = H a
  | [], _, _, _ => by unfold layZ; rfl
  | T :: Ts, [], _, _ => by unfold layZ; rfl
  | T :: Ts, q :: qs, H, h => by
    unfold layZ
    rw [layZ_out (fun m => h (List.mem_cons_of_mem _ m)), upd_ne (fun e => h (by rw [e]; exact List.mem_cons_self))]
theorem layZ_at : ∀ {Ts : List Addr} {qs : List (V × V)} {H : Hp} {j : Nat} {T : Addr} {q : V × V}, Ts.Pairwise (· < ·) → Ts[j]? = some T → qs[j]? = some q → layZ Ts qs H T = some (.tup [q.1, q.2])
  | [], _, _, _, _, _, _, e, _ => by simp at e
  | _ :: _, [], _, _, _, _, _, _, e => by simp at e
  | T :: Ts, q :: qs, H, 0, T', q', h, e1, e2 => by
    simp at e1 e2
    subst e1 e2
    unfold layZ
    rw [layZ_out (fun m => Nat.lt_irrefl _ ((List.pairwise_cons.mp h).1 T m)), upd_same]
  | T :: Ts, q :: qs, H, j + 1, T', q', h, e1, e2 => by
    unfold layZ
    exact layZ_at (List.pairwise_cons.mp h).2 (by simpa using e1) (by simpa using e2)
theorem layZ_in {Ts : List Addr} {qs : List (V × V)} {a : Addr} (hl : qs.length = Ts.length) (h : Ts.Pairwise (· < ·)) (m : a ∈ Ts) : ∃ q : V × V, ∀ H : Hp, layZ Ts qs H a = some (.tup [q.1, q.2]) := by
  obtain ⟨j, hj, e⟩ := List.mem_iff_getElem.mp m
  have e1 : Ts[j]? = some a := by rw [List.getElem?_eq_getElem hj, e]
  have e2 : qs[j]? = some qs[j] := List.getElem?_eq_getElem (by rw [hl]; exact hj)
  exact ⟨_, fun H => layZ_at h e1 e2⟩
theorem inv_layZ {X : Cx} {pins : List (Addr × Obj)} {σ : L2.St} {s : Shared} {N : Nat} (fp : ∀ b : Nat, N ≤ b → ∀ H' : Hp, H' b = none → FpOk X pins H' b) : ∀ (Ts : List Addr) (qs : List (V × V)) (H : Hp), L2.Inv X pins σ H s → Ts.Pairwise (· < ·) → (∀ T ∈ Ts, N ≤ T ∧ H T = none) →
    (∀ (j : Nat) (T : Addr) (q : V × V), Ts[j]? = some T → qs[j]? = some q → ∃ x y, IsTupOf2 s.heap T x y ∧ RelV q.1 x ∧ RelV q.2 y) → L2.Inv X pins σ (layZ Ts qs H) s
  | [], _, _, I, _, _, _ => by unfold layZ; exact I
  | _ :: _, [], _, I, _, _, _ => by unfold layZ; exact I
  | T :: Ts, q :: qs, H, I, hp, hn, hq => by
    unfold layZ
    obtain ⟨x, y, hT, r1, r2⟩ := hq 0 T q rfl rfl
    have new : ObjOk X.prog X.w (L2.upd H T (.tup [q.1, q.2])) s.heap T (.tup [q.1, q.2]) := ⟨by show 2 ≤ sizeLine; decide, [x, y], .cons r1 (.cons r2 .nil), ⟨_, hT, rfl, _, rfl⟩⟩
    have hT0 := hn T List.mem_cons_self
    have I1 : L2.Inv X pins σ (L2.upd H T (.tup [q.1, q.2])) { s with heap := s.heap, toks := s.toks } := I.take (h' := s.heap) (t' := s.toks) (fun _ _ _ e => e) (fp T hT0.1 H hT0.2) new
    refine inv_layZ fp Ts qs _ I1 (List.pairwise_cons.mp hp).2 (fun U m => ⟨(hn U (List.mem_cons_of_mem _ m)).1, ?_⟩) fun j U q' e1 e2 => hq (j + 1) U q' (by simpa using e1) (by simpa using e2)
    rw [upd_ne (fun e => by subst e; exact Nat.lt_irrefl _ ((List.pairwise_cons.mp hp).1 U m))]
    exact (hn U (List.mem_cons_of_mem _ m)).2
/-- what list(zip(a, b)) lays -/
def tLz (K : PySem.W.Frag) (ta : TA) : TE := fun σ H Q => ta σ H fun vs H1 => ∃ S1 S2 : Src, vs = [S1.v, S2.v] ∧ S1.ok K H1 ∧ S2.ok K H1 ∧ min S1.n S2.n ≤ sizeLine ∧
  ∀ (L : Addr) (Ts : List Addr) (qs : List (V × V)), Ts.Pairwise (· < ·) → L ∉ Ts → qs.length = Ts.length → Ts.length = min S1.n S2.n → H1 L = none → (∀ T ∈ Ts, H1 T = none) → (∀ j q, qs[j]? = some q → S1.item j q.1 ∧ S2.item j q.2) →
    Q (.ref L) (L2.upd (layZ Ts qs H1) L (.lst (Ts.map V.ref)))
theorem vals_refs : ∀ Ts : List Addr, Vals (Ts.map V.ref) (Ts.map Value.ref)
  | [] => .nil
  | T :: Ts => .cons (show RelV (.ref T) (.ref T) from rfl) (vals_refs Ts)
theorem pe_lzip {X : Cx} {a b : Expr} {ta : TA} {p p2 pos pos2 : Pos} (hcal : X.calm = true) (hgl : Gl X "list") (hml : X.mg "list" = none) (hg : Gl X "zip") (hm : X.mg "zip" = none) (ha : PA X [a, b] ta) (hs : starEach [a, b] X.env = (false, eval a X.env) :: starEach [b] X.env := by rfl) (hpl : (backTo pos2 (starEach [b] X.env)).any (·.1) = false := by rfl)
    (na : starEach [.Call (.Name "zip" p2) [a, b] [] pos2] X.env = (false, eval (.Call (.Name "zip" p2) [a, b] [] pos2) X.env) :: starEach [] X.env := by rfl) : PE X (.Call (.Name "list" p) [.Call (.Name "zip" p2) [a, b] [] pos2] [] pos) (tLz X.K ta) := by
  refine ⟨fun pins s σ H Q I h => ?_⟩
  refine Call_ (ld_blt I hgl hml PyProof.Rows.boot_list (PyProof.Rows.callWith_type1 (PyProof.Rows.args_cons ?_ na) na))
  refine Call_ (ld_blt I hg hm PyProof.Rows.boot_zip (PyProof.Rows.callWith_type1 (thn (ha.run pos2 pins s σ H _ I h) fun us s1 ⟨vs, H1, I1, r1, q1⟩ => ?_) hs hpl))
  obtain ⟨S1, S2, rfl, ok1, ok2, hn, q⟩ := q1
  obtain ⟨u1, u2, rfl, r, r'⟩ := vals2 r1
  obtain ⟨t1, rfl⟩ := Src.rel r
  obtain ⟨t2, rfl⟩ := Src.rel r'
  obtain ⟨its1, c1, f1⟩ := Src.content I1 ok1
  obtain ⟨its2, c2, f2⟩ := Src.content I1 ok2
  refine zip_begins2 (Src.begins S1 t1 its1) (Src.begins S2 t2 its2) c1 c2 fun h' hz hTI hTO h1 h2 hsz hk => PyProof.Rows.args_nil ?_
  have I2 : L2.Inv X pins σ H1 { s1 with heap := h' } := I1.kept (t' := s1.toks) hk
  have hh : X.A.in1.in1.in1.handled = none := I1.ok.hd hcal
  have l1 := Src.cad_lt c1
  have l2 := Src.cad_lt c2
  have D1 := Src.draws (P := X.prog) (w := X.w) S1 t1 its1 hh s1.heap.objs.size (fun m => absurd (l1 _ m) (Nat.lt_irrefl _))
  have D2 := Src.draws (P := X.prog) (w := X.w) S2 t2 its2 hh (s1.heap.objs.size + 1) (fun m => absurd (l2 _ m) (Nat.not_lt.mpr (Nat.le_succ _)))
  have cc1 : S1.con its1 h' := (Src.begins S1 t1 its1).keeps _ _ c1 hk
  have cc2 : S2.con its2 h' := (Src.begins S2 t2 its2).keeps _ _ c2 hk
  have hbig : ∀ b : Nat, b ∈ [s1.heap.objs.size + 4, s1.heap.objs.size + 3, s1.heap.objs.size, s1.heap.objs.size + 1] → s1.heap.objs.size ≤ b := fun b hb => by
    have e' : b = s1.heap.objs.size + 4 ∨ b = s1.heap.objs.size + 3 ∨ b = s1.heap.objs.size ∨ b = s1.heap.objs.size + 1 := by simpa using hb
    rcases e' with z | z | z | z <;> omega
  refine call_list_zip (s := { s1 with heap := h' }) (zip_sep2 l1 l2) D1 D2 hn (fun b hb => ?_) hz hTI hTO ⟨Src.tn0 h1, cc1⟩ ⟨Src.tn0 h2, cc2⟩ fun h'' tk Ts c' k hS hl ht => ?_
  · show Nat.lt b h'.objs.size
    rw [hsz]
    have e' : b = s1.heap.objs.size + 4 ∨ b = s1.heap.objs.size + 2 ∨ b = s1.heap.objs.size + 3 ∨ b = s1.heap.objs.size ∨ b ∈ S1.cad ∨ b = s1.heap.objs.size + 1 ∨ b ∈ S2.cad := by simpa using hb
    have q1 : b ∈ S1.cad → Nat.lt b s1.heap.objs.size := l1 b
    have q2 : b ∈ S2.cad → Nat.lt b s1.heap.objs.size := l2 b
    rcases e' with z | z | z | z | z | z | z
    · rw [z]; exact Nat.lt_succ_self _
    · rw [z]; exact Nat.add_lt_add_left (by decide) _
    · rw [z]; exact Nat.add_lt_add_left (by decide) _
    · rw [z]; exact Nat.lt_add_of_pos_right (by decide)
    · exact Nat.lt_of_lt_of_le (q1 z) (Nat.le_add_right _ _)
    · rw [z]; exact Nat.add_lt_add_left (by decide) _
    · exact Nat.lt_of_lt_of_le (q2 z) (Nat.le_add_right _ _)
  · have kk : ∀ b o, s1.heap.get? b = some o → h''.get? b = some o := fun b o e => k b o (fun m => absurd (hbig b m) (Nat.not_le.mpr (Heap.lt_size e))) (hk b o e)
    have I3 : L2.Inv X pins σ H1 { s1 with heap := h'', toks := tk } := I1.kept kk
    have hge : ∀ b : Nat, h'.objs.size ≤ b → s1.heap.objs.size ≤ b := fun b hb => Nat.le_trans (by rw [hsz]; exact Nat.le_add_right _ _) hb
    have fp : ∀ b : Nat, s1.heap.objs.size ≤ b → ∀ H' : Hp, H' b = none → FpOk X pins H' b := fun b hb H' n => I1.fpOk hb n
    obtain ⟨tp, tlo, tat⟩ := ht
    have thi : ∀ T ∈ Ts, s1.heap.objs.size ≤ T := fun T m => hge T (Nat.le_trans (Nat.le_succ _) (tlo T m))
    have lT : h'.objs.size ∉ Ts := fun m => Nat.lt_irrefl _ (Nat.lt_of_lt_of_le (Nat.lt_succ_self _) (tlo _ m))
    obtain ⟨qs, ql, qa⟩ := pick (β := V × V) (R := fun j T q => S1.item j q.1 ∧ S2.item j q.2 ∧ ∃ x y, IsTupOf2 h'' T x y ∧ RelV q.1 x ∧ RelV q.2 y) Ts fun j T e => by
      obtain ⟨x, y, hT, p1, p2⟩ := tat j T e
      have hj : j < min S1.n S2.n := by rw [← hl]; exact (List.getElem?_eq_some_iff.mp e).1
      obtain ⟨v, i1, r1⟩ := f1 j x (Nat.lt_of_lt_of_le hj (Nat.min_le_left _ _)) p1
      obtain ⟨u, i2, r2⟩ := f2 j y (Nat.lt_of_lt_of_le hj (Nat.min_le_right _ _)) p2
      exact ⟨(v, u), i1, i2, x, y, hT, r1, r2⟩
    have I4 := inv_layZ fp Ts qs H1 I3 tp (fun T m => ⟨thi T m, I1.hok.fresh (thi T m)⟩) fun j T q e1 e2 => (qa j T q e1 e2).2.2
    have hL1 : H1 h'.objs.size = none := I1.hok.fresh (hge _ (Nat.le_refl _))
    have hL : layZ Ts qs H1 h'.objs.size = none := by rw [layZ_out lT]; exact hL1
    have I5 : L2.Inv X pins σ (L2.upd (layZ Ts qs H1) h'.objs.size (.lst (Ts.map V.ref))) { s1 with heap := h'', toks := tk } := I4.take (h' := h'') (t' := tk) (fun _ _ _ e => e) (fp _ (hge _ (Nat.le_refl _)) _ hL)
      ⟨by rw [List.length_map, hl]; exact hn, Ts.map Value.ref, c', vals_refs Ts, hS⟩
    exact ⟨.ref h'.objs.size, _, I5, rfl, q _ Ts qs tp lT ql hl hL1 (fun T m => I1.hok.fresh (thi T m)) fun j q e => by
      have hj : j < Ts.length := by rw [← ql]; exact (List.getElem?_eq_some_iff.mp e).1
      obtain ⟨a1, a2, _⟩ := qa j _ q (List.getElem?_eq_getElem hj) e
      exact ⟨a1, a2⟩⟩
section
variable {c : Sc} {a b : Expr} {fa fb : Ev D} {f : Ev (List D)} {p pos tpos : Pos} {elts : List Expr} {kk : Nat} {vw : Bool}
theorem DtA.of_get {K : PySem.W.Frag} {G : Hp} : ∀ {ds : List D} {xs : List V}, xs.length = ds.length → (∀ (j : Nat) d v, ds[j]? = some d → xs[j]? = some v → Dt K G d v) → DtA K G ds xs
  | [], [], _, _ => .nil
  | [], _ :: _, h, _ => by simp at h
  | _ :: _, [], h, _ => by simp at h
  | d :: ds, v :: xs, h, g => .cons (g 0 d v rfl rfl) (DtA.of_get (by simpa using h) fun j d' v' e1 e2 => g (j + 1) d' v' (by simpa using e1) (by simpa using e2))
def fLzip (f : Ev (List D)) : Ev (List D) := fun ρ M => (f ρ M).bnd fun xs M1 => match xs with
  | [x, y] => Rs.of ((seqItems x).bind fun xs => (seqItems y).bind fun ys => if min xs.length ys.length ≤ 16777216 then some (zipD xs ys) else none) M1
  | _ => .bad
theorem rf_lzip {p2 pos2 : Pos} (ha : RA c [a, b] f) (hgl : c.sc.names.lookup ("list" : Str) = some .globalImplicit) (hml : c.mg "list" = none) (hg : c.sc.names.lookup ("zip" : Str) = some .globalImplicit) (hm : c.mg "zip" = none)
    (hs : ∀ env, starEach [a, b] env = (false, eval a env) :: starEach [b] env := by intro _; rfl) (hpl : ∀ env, (backTo pos2 (starEach [b] env)).any (·.1) = false := by intro _; rfl)
    (na : ∀ env, starEach [.Call (.Name "zip" p2) [a, b] [] pos2] env = (false, eval (.Call (.Name "zip" p2) [a, b] [] pos2) env) :: starEach [] env := by intro _; rfl) :
    RF c (.Call (.Name "list" p) [.Call (.Name "zip" p2) [a, b] [] pos2] [] pos) (fLzip f) := by
  obtain ⟨t, pa, s⟩ := ha
  refine ⟨fun E => tLz c.K (t E), fun X E g ps => by (rw [← g.K]; exact pe_lzip g.calm (glI g hgl) (by rw [g.mg]; exact hml) (glI g hg) (by rw [g.mg]; exact hm) (pa X E g ps) (hs _) (hpl _) (na _)), fun B G σ H ρ M Q E rl h => ?_⟩
  unfold fLzip at h
  rw [sat_bnd] at h
  refine s.use rl h fun xs M1 vs G1 H1 h1 s1 g1 d1 rl1 => ?_
  split at h1
  · rename_i x y
    obtain ⟨z, e, q⟩ := sat_of.mp h1
    cases e1 : seqItems x with
    | none => rw [e1] at e; cases e
    | some us =>
      cases e2 : seqItems y with
      | none => rw [e1, e2] at e; cases e
      | some ws =>
        rw [e1, e2] at e
        simp only [Option.bind] at e
        split at e
        · rename_i hn
          cases e
          obtain ⟨v, w, rfl, dv, dw⟩ := vws2 d1
          obtain ⟨S1, rfl, o1⟩ := src_of (vw := true) g1 dv (stays_vw g1 dv) e1
          obtain ⟨S2, rfl, o2⟩ := src_of (vw := true) g1 dw (stays_vw g1 dw) e2
          refine ⟨S1, S2, rfl, o1.1, o2.1, by rw [o1.2.1, o2.2.1, sizeLine_eq]; exact hn, fun L Ts qs tp lT ql tl nL nT it => ?_⟩
          have exG : Ex G1 (layZ Ts qs G1) := fun b u hb => by
            rw [layZ_out (fun m => by rw [g1.free (nT b m)] at hb; cases hb)]; exact hb
          have up : ∀ b u, H1 b = some u → L2.upd (layZ Ts qs H1) L (.lst (Ts.map V.ref)) b = some u := fun b u hb => by
            rw [upd_ne (fun e => by subst e; rw [nL] at hb; cases hb), layZ_out (fun m => by rw [nT b m] at hb; cases hb)]; exact hb
          have gG : ∀ b, (layZ Ts qs G1) b = G1 b ∨ (b ∈ Ts ∧ ∃ q : V × V, ∀ H, layZ Ts qs H b = some (.tup [q.1, q.2])) := fun b => by
            by_cases m : b ∈ Ts
            · exact .inr ⟨m, layZ_in ql tp m⟩
            · exact .inl (layZ_out m)
          have st : Stp B.p G1 H1 (layZ Ts qs G1) (L2.upd (layZ Ts qs H1) L (.lst (Ts.map V.ref))) := ⟨exG, fun b u _ hb => up b u hb, fun b u hb n => by
            rcases gG b with e | ⟨m, _⟩
            · rw [e, n] at hb; cases hb
            · exact nT b m, fun r hr => by
            rcases gG r with e | ⟨m, _⟩
            · rw [e]; exact g1.pg r hr
            · exact absurd hr (g1.nep (nT r m))⟩
          have gr : Gr B.p (layZ Ts qs G1) (L2.upd (layZ Ts qs H1) L (.lst (Ts.map V.ref))) M1 := ⟨fun b u hb => by
            rcases gG b with e | ⟨m, q, hq⟩
            · rw [e] at hb; exact up b u (g1.gh b u hb)
            · rw [hq] at hb
              rw [upd_ne (fun e => lT (by rw [← e]; exact m)), hq]; exact hb, fun r hr => up r _ (g1.pot r hr), st.p⟩
          refine q _ _ _ (s1.trans st) gr ⟨L, Ts.map V.ref, rfl, s1.fresh g1 nL, upd_same, by rw [layZ_out lT]; exact g1.free nL, g1.nep nL, ?_⟩
          refine DtA.of_get (by rw [List.length_map, tl, zipD_len, o1.2.1, o2.2.1]) fun j d v hd hv => ?_
          obtain ⟨x', y', hx, hy, rfl⟩ := zipD_get hd
          rw [List.getElem?_map] at hv
          cases hT : Ts[j]? with
          | none => rw [hT] at hv; cases hv
          | some T =>
            rw [hT] at hv
            cases hv
            have hj : j < qs.length := by rw [ql]; exact (List.getElem?_eq_some_iff.mp hT).1
            have hq : qs[j]? = some qs[j] := List.getElem?_eq_getElem hj
            obtain ⟨i1, i2⟩ := it j _ hq
            have hl : layZ Ts qs G1 T = some (.tup [qs[j].1, qs[j].2]) := layZ_at tp hT hq
            simp only [Dt]
            exact ⟨T, [qs[j].1, qs[j].2], rfl, .inl (.inl hl), .cons (o1.2.2.1 _ exG j _ _ i1 hx) (.cons (o2.2.2.1 _ exG j _ _ i2 hy) .nil)⟩
        · cases e
  · exact h1.elim
end
end RL

set_option Elab.async false
set_option linter.all false
set_option maxRecDepth 100000
set_option maxHeartbeats 2000000
namespace RL
open PySem PySem.Spec PyProof.Rows L2
section
variable {c : Sc} {B : Bs} {G : Hp} {σ : L2.St} {H : Hp} {ρ : Rho} {M : List Int} {E : XK} {Dn : Ends} {R : Rsl D V}
variable {a b e : Expr} {es : List Expr} {fa fb fe : Ev D} {i : Nat} {x : Str} {pos p p1 apos cpos : Pos}
/-! ### a pattern = x.pop() -/
def sPop (i : Nat) (g : Pat) : Sm := fun ρ M => match ρ[i]? with
  | some (.l xs) => (match xs[xs.length - 1]? with
    | some y => (match g y (ρ.set i (.l xs.dropLast)) with | some ρ1 => .nx ρ1 M | none => .bad)
    | none => .bad)
  | _ => .bad
theorem DtA.dropLast {K : PySem.W.Frag} {G : Hp} {ds : List D} {xs : List V} (h : DtA K G ds xs) : DtA K G ds.dropLast xs.dropLast := by
  rw [List.dropLast_eq_take, List.dropLast_eq_take, h.length]; exact h.take _
theorem js_pop {tg : Expr} {ws : List Nat} {g : Pat} (hg : RP c tg ws g) (hN : c.N[i]? = some x) (hv : Vis c.sc x)
    (hs : ∀ env, env.scope = c.sc → swapsWithSole [tg] (.Call (.Attribute (.Name x p1) "pop" apos) [] [] cpos) pos.line env = pure false) (hw : ∀ env, env.scope = c.sc → swappedStores [tg] (.Call (.Attribute (.Name x p1) "pop" apos) [] [] cpos) env = pure none)
    (h1 : ∀ env, (assignEach [tg] env).map (·.2) = [assign tg env] := by intro _; rfl)
    (hdb : (x == ("__debug__" : Str)) = false := by decide) (hcd : (x == ("__classdict__" : Str)) = false := by decide)
    (hbase : ∀ env, attributeBase (.Name x p1) "pop" env (eval (.Name x p1) env) = eval (.Name x p1) env := by intro _; rfl) (hline : (apos.endLine == cpos.line) = true := by rfl) :
    JS c (.Assign [tg] (.Call (.Attribute (.Name x p1) "pop" apos) [] [] cpos) pos) (sPop i g) := by
  obtain ⟨u, q, sg⟩ := hg
  refine ⟨fun E => tAsg (tBM0 c.K "list" rPop (tVar i)) u, fun X E g ps => by (rw [← g.K]; exact ps_asg (pe_bm0 PySem.F.plainAttrs_list PySem.F.slot_list_pop PySem.F.type_list_pop mt_pop (pe_var (by rw [g.N]; exact hN) (vis_of g hv) hdb hcd) (hbase _) hline) (q X g) (hs _ g.sc) (hw _ g.sc) (h1 _)), fun B G σ H ρ M Dn E rl h => ?_⟩
  unfold sPop at h
  split at h
  · rename_i xs hx
    split at h
    · rename_i y hy
      obtain ⟨a, vs, e1, h1, t1⟩ := rl.own hx
      obtain ⟨v, hv', dv⟩ := t1.get _ _ hy
      have rl2 := rl.mut hx e1 t1.dropLast
      refine ⟨_, e1, .inl ⟨rfl, vs, .of h1⟩, a, vs, v, rfl, rfl, h1, by rw [t1.length]; exact hv', ?_⟩
      split at h
      · rename_i ρ1 hp
        exact sg B G σ _ _ M y v ρ1 _ rl2 dv hp fun σ' rl' _ => h G σ' _ (fun _ _ z => z) rl'
      · exact h.elim
    · exact h.elim
  · exact h.elim

/-! ### gcd -/
def dGcd : List D → Option D
  | [.int i, .int j] => some (.int (Nat.gcd i.natAbs j.natAbs : Nat))
  | _ => none
theorem cx_gcd : CallX c (RDt c.K) (.builtin "math.gcd") dGcd := by
  refine ⟨rGcd, fun X g => cr_gcd, fun p G H M xs z vs Q g hx e k => ?_⟩
  unfold dGcd at e
  split at e
  · cases e
    obtain ⟨v, w, rfl, d, d'⟩ := vws2 hx
    exact ⟨_, _, by rw [View.int d, View.int d'], nowD g (dtI.mpr rfl) k⟩
  · cases e
/-- a module's name for a built-in function -/
theorem j_callF [Back R] {id : String} {g : List D → Option D} {f : Ev (List D)} (hc : CallX c R (.builtin id) g) (ha : RA c (e :: es) f) (hg : c.sc.names.lookup x = some .globalImplicit) (hm : c.mg x = some (.builtin id))
    (hdb : (x == ("__debug__" : Str)) = false := by decide) (he : ∀ env, starEach (e :: es) env = (false, eval e env) :: starEach es env := by intro _; rfl) (hpl : ∀ env, (backTo pos (starEach es env)).any (·.1) = false := by intro _; rfl) :
    J c R (.Call (.Name x p) (e :: es) [] pos) (fCall g f) := by
  obtain ⟨r, o1, o2⟩ := hc
  obtain ⟨t, pa, s⟩ := ha
  exact ⟨_, fun X E gd ps => pe_callBfun (o1 X gd) (glI gd hg) (by rw [gd.mg]; exact hm) (pa X E gd ps) hdb (he _) (hpl _), s.call o2⟩

/-! ### a tuple of the module -/
theorem re_globT {u : Addr} {ds : List D} {vs : List V} (hg : c.sc.names.lookup x = some .globalImplicit) (hm : c.mg x = some (.ref u)) (hT : ∀ H, SqT c.K H u vs) (hd : ∀ G, DtA c.K G ds vs) (hb : (x == ("__debug__" : Str)) = false := by decide) : RE c (.Name x pos) (fun _ M => .ok (.tuple ds) M) :=
  re_glob hg hm (v := .ref u) rfl (fun G => by simp only [Dt]; exact ⟨u, vs, rfl, hT G, hd G⟩) hb

/-! ### sorted(xs), xs a list of data that can be compared -/
def tupQ : D → Bool
  | .tuple (_ :: _) => true
  | _ => false
def atomQ : D → Bool
  | .none => false
  | .tuple _ => false
  | _ => true
def sortQ (ds : List D) : Bool := ds.all (fun d => ds.all fun d' => PySem.W.alike d d') && ((ds.all tupQ || ds.all atomQ) && (ds.all (fun d => decide (d.depth ≤ 64)) && decide (ds.length ≤ 16777216)))
def lSorted : List D → Option (List D)
  | [.list ds] => if sortQ ds = true then some (ds.mergeSort (PySem.W.dataLe false id)) else none
  | _ => none
def rSortD (K : PySem.W.Frag) : List V → Hp → VK → Prop := fun vs H Q => ∃ (a : Addr) (bs : List (V × D)), vs = [.ref a] ∧ SqL K H a (bs.map Prod.fst) ∧ (∀ b ∈ bs, Dp K H b.1 b.2) ∧ PySem.W.AllAlike (bs.map Prod.snd) ∧ PySem.W.Sortable (bs.map Prod.snd) ∧ (∀ b ∈ bs, b.2.depth ≤ 64) ∧ bs.length ≤ 16777216 ∧
  ∀ p, H p = none → Q (.ref p) (L2.upd H p (.lst ((bs.mergeSort (PySem.W.dataLe false Prod.snd)).map Prod.fst)))
theorem each_of {X : Cx} {pins : List (Addr × Obj)} {σ : L2.St} {H : Hp} {s : Shared} (I : L2.Inv X pins σ H s) : ∀ (bs : List (V × D)) (its : List Value), Vals (bs.map Prod.fst) its → (∀ b ∈ bs, Dp X.K H b.1 b.2) →
    PySem.W.EachIs (fun v (b : V × D) => RelV b.1 v) its bs ∧ PySem.W.EachIs (fun v (b : V × D) => ∃ as, Reads s.heap v b.2 as) its bs
  | [], its, r, _ => by cases r; exact ⟨.nil, .nil⟩
  | b :: bs, its, r, h => by
    cases r with
    | cons r t =>
      obtain ⟨e1, e2⟩ := each_of I bs _ t fun b m => h b (List.mem_cons_of_mem _ m)
      exact ⟨.cons r e1, .cons (Dp.reads I b.2 b.1 _ (h b List.mem_cons_self) r) e2⟩
theorem vals_each : ∀ {out : List Value} {bs : List (V × D)}, PySem.W.EachIs (fun v (b : V × D) => RelV b.1 v) out bs → Vals (bs.map Prod.fst) out
  | _, _, .nil => .nil
  | _, _, .cons r t => .cons r (vals_each t)
theorem cr_sortD {X : Cx} {k : Nat} (rm : Room k X.A) : CallR X (.builtin "sorted") (rSortD X.K) := by
  intro pins s σ H vs us Q I r h
  obtain ⟨a, bs, rfl, hs, hd, hal, hsb, hdp, hlen, q⟩ := h
  obtain ⟨its, rv, hl, hz⟩ := I.list hs
  rw [Vals.ref1 r]
  obtain ⟨e1, e2⟩ := each_of I bs its rv hd
  refine PySem.W.sorted_data (enc := Prod.snd) hl.isList e1 e2 hal hsb (by rw [sizeLine_eq]; exact hlen) (fun b m => by have := rm.units; have := hdp b m; have := rm.un; omega) fun out ho eo => ?_
  obtain ⟨ep, he'⟩ := PyProof.Rows.sortedAll_at s.heap its out.toArray
  have hv := vals_each eo
  refine ⟨.ref _, L2.upd H (s.heap.objs.size + 1) (.lst ((bs.mergeSort (PySem.W.dataLe false Prod.snd)).map Prod.fst)), I.laid (t' := s.toks) (fun _ _ => PyProof.Rows.sortedAll_old) (Nat.le_succ _) ⟨?_, out, ep, hv, he'⟩, rfl, q _ (I.hok.fresh (Nat.le_succ _))⟩
  rw [List.length_map, (List.mergeSort_perm _ _).length_eq, sizeLine_eq]; exact hlen
theorem DtA.zip_mem {K : PySem.W.Frag} {G : Hp} : ∀ {ds : List D} {xs : List V}, DtA K G ds xs → ∀ b ∈ xs.zip ds, Dt K G b.2 b.1
  | [], xs, h, b, m => by simp at m
  | d :: ds, xs, h, b, m => by
    obtain ⟨v, vs, rfl, q, t⟩ := DtA.cons_iff.mp h
    rw [List.zip_cons_cons] at m
    rcases List.mem_cons.mp m with rfl | m
    · exact q
    · exact DtA.zip_mem t b m
theorem DtA.of_mem {K : PySem.W.Frag} {G : Hp} : ∀ {bs : List (V × D)}, (∀ b ∈ bs, Dt K G b.2 b.1) → DtA K G (bs.map Prod.snd) (bs.map Prod.fst)
  | [], _ => .nil
  | b :: bs, h => .cons (h b List.mem_cons_self) (DtA.of_mem fun b m => h b (List.mem_cons_of_mem _ m))
theorem cx_sorted : CallX c (RFr c.K) (.builtin "sorted") lSorted := by
  refine ⟨rSortD c.K, fun X g => by (rw [← g.K]; exact cr_sortD g.rm), fun p G H M xs z vs Q g hx e k => ?_⟩
  unfold lSorted at e
  split at e
  · rename_i ds
    split at e
    · rename_i hq
      cases e
      obtain ⟨v, rfl, d⟩ := vws1 hx
      obtain ⟨a, us, rfl, h1, t1⟩ := View.list d
      simp only [sortQ, Bool.and_eq_true, Bool.or_eq_true, List.all_eq_true, decide_eq_true_eq] at hq
      obtain ⟨q1, q2, q3, q4⟩ := hq
      have z1 : (us.zip ds).map Prod.fst = us := List.map_fst_zip (by rw [t1.length]; exact Nat.le_refl _)
      have z2 : (us.zip ds).map Prod.snd = ds := List.map_snd_zip (by rw [t1.length]; exact Nat.le_refl _)
      have zm : ∀ b ∈ us.zip ds, b.2 ∈ ds := fun b m => (List.of_mem_zip (a := b.1) (b := b.2) m).2
      have srt : ((us.zip ds).mergeSort (PySem.W.dataLe false Prod.snd)).map Prod.snd = ds.mergeSort (PySem.W.dataLe false id) := by
        have := PySem.W.sort_maps (r := PySem.W.dataLe false (Prod.snd : V × D → D)) (s := PySem.W.dataLe false (id : D → D)) Prod.snd (l := us.zip ds) fun a _ b _ => rfl
        rw [z2] at this
        exact this
      refine ⟨a, us.zip ds, rfl, by rw [z1]; exact .of h1, fun b m => Dt.dp _ _ (Dt.mono g.gh _ _ (DtA.zip_mem t1 b m)), by rw [z2]; exact q1, ?_, fun b m => q3 _ (zm b m), ?_, fun q hq => ?_⟩
      · rw [z2]
        rcases q2 with q2 | q2
        · refine .inl fun d m => ?_
          have := q2 d m
          cases d with
          | tuple ys => cases ys with
            | nil => cases this
            | cons y ys => exact ⟨y, ys, rfl⟩
          | _ => cases this
        · refine .inr fun d m => ?_
          have := q2 d m
          cases d with
          | none => cases this
          | tuple ys => cases this
          | _ => exact ⟨(fun e => nomatch e), (fun ys e => nomatch e)⟩
      · rw [List.length_zip, t1.length]; omega
      · refine layF g hq ?_ k
        rw [← srt]
        exact DtA.of_mem fun b m => DtA.zip_mem t1 b ((List.mergeSort_perm _ _).mem_iff.mp m)
    · cases e
  · cases e
end
end RL

set_option Elab.async false
set_option linter.all false
set_option maxRecDepth 100000
set_option maxHeartbeats 2000000
namespace RL
open PySem PySem.Spec PyProof.Rows L2
theorem fng_of {W : Wb} {k : Nat} {f : Addr} {x qual : Str} {params : Arguments} {body : List Stmt} {scope : Scope} {fd : FuncData} {N ps : List Str} {fb : Sm} {F : Fb} (FD : FunD W.K x qual params body scope [] [] f fd) (S : FnScope N ps scope)
    (hb : JB (cx W N scope k) body fb) (hF : F = bodyF ps.length N.length fb) : FnG W (k + 1) f fd ps F := by
  obtain ⟨oc, od, dV, kV, doc, pm, an, cdv, ct, osl, rfl, lk, hcd, _, _⟩ := FD.ex
  subst hF
  exact fnG_of lk hcd S hb
end RL

set_option Elab.async false
set_option linter.all false
set_option maxRecDepth 100000
set_option maxHeartbeats 2000000
namespace PySem
open Sem (wp)
/-- a zip's cell, whatever became of the tuple that it gave out -/
abbrev ZipC (h : Heap) (z TI TO : Addr) (f0 f1 : Value) : Prop :=
  h.get? z = some { cls := .type "zip", dict := none, data := .fields #[f0, f1, .bool false, .ref TI, .ref TO], slots := #[] }
section
variable {prog : Program} {w : World} {A : Around} {E : Value → Shared → Prop} {s : Shared} {z TI TO : Addr} {f0 f1 : Value}
theorem own_free {Q : Bool → Shared → Prop} (hz : ZipC s.heap z TI TO f0 f1) (hf : f0 = .none ∨ ∃ a : Int, f0 = .int a 0) (q1 : Q true s)
    (q2 : ∀ h1 g1, ZipC h1 z TI TO f0 g1 → Heap.SameBut z s.heap h1 → Q false { s with heap := h1 }) : wpAny (model prog w) A (Builtin.SmallTypes.ownedTupleIsFree (.ref z)) Q E s := by
  unfold Builtin.SmallTypes.ownedTupleIsFree
  refine wpAny_bind (wpAny_field hz rfl (x := f0) rfl ?_)
  rcases hf with rfl | ⟨a, rfl⟩
  · exact wpAny_pure q1
  · have ld : ∀ {R : Option Obj → Shared → Prop}, R (s.heap.get? a.toNat) s → wpAny (model prog w) A (loadIfAlive a.toNat) R E s := fun {R} r Γ p hΓ => by
      show wp _ _ (Sem.loadIfAlive a.toNat Sem.pure) _ _ _ _
      rw [Sem.wp_loadIfAlive, Sem.wp_pure]
      exact r
    refine wpAny_bind (ld ?_)
    cases he : s.heap.get? a.toNat with
    | none =>
      simp only [Option.isNone_none, if_true]
      exact wpAny_pure q1
    | some o =>
      simp only [Option.isNone_some, Bool.false_eq_true, if_false]
      skip
      refine wpAny_bind (wpAny_field hz rfl (x := f1) rfl ?_)
      by_cases e : (f1 != .bool true) = true
      · rw [if_pos e]
        refine wpAny_bind (wpAny_setField_rec hz (by simp) fun h1 k1 b1 => ?_)
        exact wpAny_pure (q2 h1 _ k1 b1)
      · rw [if_neg e]
        refine wpAny_bind (wpAny_pure (wpAny_pure ?_))
        exact q2 s.heap f1 hz (.refl _ _)

variable {i1 i2 : Addr} {fp1 fp2 : List Addr} {n1 n2 i : Nat} {P1 P2 : Nat → Value → Prop} {St1 St2 : Nat → Heap → Prop}
abbrev ZipFree (f0 : Value) : Prop := f0 = .none ∨ ∃ a : Int, f0 = .int a 0
/-- all but the cells of the zip is kept -/
abbrev ZipKeeps (z TO i1 i2 : Addr) (h h1 : Heap) : Prop := ∀ c o, c ≠ z → c ≠ TO → c ≠ i1 → c ≠ i2 → h.get? c = some o → h1.get? c = some o
/-- what is left behind next -/
structure ZipPast (z TI TO i1 i2 : Addr) (St1 St2 : Nat → Heap → Prop) (i : Nat) (h : Heap) : Prop where
  zc : ∃ g0 g1, ZipC h z TI TO g0 g1 ∧ ZipFree g0
  ti : IsTupOf2 h TI (.ref i1) (.ref i2)
  to : ∃ a b, IsTupOf2 h TO a b
  s1 : St1 i h
  s2 : St2 i h
theorem zipN_item {Q : Value → Shared → Prop} (S : ZipSep2 z TI TO i1 i2 fp1 fp2) (D1 : Draws prog w A i1 fp1 n1 P1 St1) (D2 : Draws prog w A i2 fp2 n2 P2 St2)
    (zp : ZipPast z TI TO i1 i2 St1 St2 i s.heap) (l1 : i < n1) (l2 : i < n2)
    (hQ : ∀ x y h1 tk, P1 i x → P2 i y → ZipPast z TI TO i1 i2 St1 St2 (i + 1) h1 → IsTupOf2 h1 s.heap.objs.size x y → h1.objs.size = s.heap.objs.size + 1 → ZipKeeps z TO i1 i2 s.heap h1 → Q (.ref s.heap.objs.size) { s with heap := h1, toks := tk }) :
    wpAny (model prog w) A (Builtin.«zip.__next__» ⟨[.ref z], []⟩) (fun fin t => ∃ v, fin = .done (.ret v) ∧ Q v t) E s := by
  obtain ⟨⟨f0, f1, zc, zf⟩, ti, ⟨a, b, to⟩, sa, sb⟩ := zp
  obtain ⟨hp, ge, dr, tk, os⟩ := s
  show wpAny _ _ (field (.ref z) 2 >>= _) _ _ _
  refine wpAny_bind (wpAny_field zc rfl (x := .bool false) rfl ?_)
  show wpAny _ _ (field (.ref z) 3 >>= _) _ _ _
  refine wpAny_bind (wpAny_field zc rfl (x := .ref TI) rfl ?_)
  refine wpAny_bind (wpAny_seqItems ti rfl ?_)
  show wpAny _ _ (Builtin.SmallTypes.ownedTupleIsFree (.ref z) >>= _) _ _ _
  refine wpAny_bind (own_free zc zf ?_ fun h1 g1 zc1 k1 => ?_)
  · -- the tuple of its own again
    simp only [if_true]
    refine wpAny_bind (wpAny_rule (wpAny_bind (wpAny_field zc rfl (x := .ref TO) rfl ?_)))
    refine wpAny_bind (wpAny_setField_rec zc (by simp) fun u0 zu0 bu0 => wpAny_bind ?_)
    have zu0 : ZipC u0 z TI TO .ellipsis f1 := zu0
    have bu0 : Heap.SameBut z hp u0 := bu0
    simp only [List.zipIdx_cons, List.zipIdx_nil, List.forIn_cons, List.forIn_nil]
    refine wpAny_bind (wpAny_bind (wpAny_onRaise ?_))
    show wpAny _ _ (Builtin.SmallTypes.nextOf (.ref i1) >>= _) _ _ ⟨u0, ge, dr, tk, os⟩
    refine wpAny_bind (D1.item i _ _ _ l1 (D1.over sa bu0 S.zf1) fun x v1 tk1 px sx bx => wpAny_pure ?_)
    have bx : Heap.SameBut i1 u0 v1 := bx
    have t1 : IsTupOf2 v1 TO a b := bx.extBut _ _ S.Ti1 (bu0.extBut _ _ S.TOz to)
    refine wpAny_bind (wpAny_seqItems (s := ⟨v1, ge, dr, tk1, os⟩) t1 rfl (wpAny_bind (updateSeq_IsTupOf2 (s := ⟨v1, ge, dr, tk1, os⟩) t1 fun w1 t2 bw => ?_)))
    have t2 : IsTupOf2 w1 TO x b := t2
    have bw : Heap.SameBut TO v1 w1 := bw
    refine wpAny_bind (wpAny_letGo (wpAny_pure (wpAny_bind (wpAny_bind (wpAny_onRaise ?_)))))
    show wpAny _ _ (Builtin.SmallTypes.nextOf (.ref i2) >>= _) _ _ ⟨w1, ge, dr, tk1, os⟩
    refine wpAny_bind (D2.item i _ _ _ l2 (D2.over (D2.over (D2.over sb bu0 S.zf2) bx S.sep1_2) bw S.Tf2) fun y v2 tk2 py sy by_ => wpAny_pure ?_)
    have by_ : Heap.SameBut i2 w1 v2 := by_
    have t3 : IsTupOf2 v2 TO x b := by_.extBut _ _ S.Ti2 t2
    refine wpAny_bind (wpAny_seqItems (s := ⟨v2, ge, dr, tk2, os⟩) t3 rfl (wpAny_bind (updateSeq_IsTupOf2 (s := ⟨v2, ge, dr, tk2, os⟩) t3 fun w2 t4 bz => ?_)))
    have t4 : IsTupOf2 w2 TO x y := t4
    have bz : Heap.SameBut TO v2 w2 := bz
    refine wpAny_bind (wpAny_letGo (wpAny_pure (wpAny_pure (wpAny_bind (wpAny_seqItems (s := ⟨w2, ge, dr, tk2, os⟩) t4 rfl (wpAny_bind (wpAny_newTuple ?_)))))))
    have size2 : w2.objs.size = hp.objs.size := by rw [bz.1, by_.1, bw.1, bx.1, bu0.1]
    have zw2 : ZipC w2 z TI TO .ellipsis f1 := bz.extBut _ _ S.TOz.symm (by_.extBut _ _ S.zi2 (bw.extBut _ _ S.TOz.symm (bx.extBut _ _ S.zi1 zu0)))
    have keeps : ZipKeeps z TO i1 i2 hp w2 := fun c o n0 n1 n2 n3 e => bz.extBut _ _ n1 (by_.extBut _ _ n3 (bw.extBut _ _ n1 (bx.extBut _ _ n2 (bu0.extBut _ _ n0 e))))
    have sx2 : St1 (i + 1) w2 := D1.over (D1.over (D1.over sx bw S.Tf1) by_ S.sep2_1) bz S.Tf1
    have sy2 : St2 (i + 1) w2 := D2.over sy bz S.Tf2
    have zlt : z < w2.objs.size := Heap.lt_size zw2
    show wpAny _ _ (Builtin.SmallTypes.ownedTupleHandOut (.ref z) (.ref w2.objs.size) >>= _) _ _ ⟨w2.push { cls := .type "tuple", data := .seq #[x, y] }, ge, dr, tk2, os⟩
    refine wpAny_bind ?_
    unfold Builtin.SmallTypes.ownedTupleHandOut
    have zq : ZipC (w2.push { cls := .type "tuple", data := .seq #[x, y] }) z TI TO .ellipsis f1 := Heap.get?_push_of_some _ zw2
    refine wpAny_bind (wpAny_setField_rec zq (by simp) fun q1 zq1 bq1 => wpAny_setField_rec (a := z) (cls := .type "zip") (vs := #[rawInt w2.objs.size, f1, .bool false, .ref TI, .ref TO]) zq1 (by simp) fun q2 zq2 bq2 => wpAny_pure ⟨_, rfl, ?_⟩)
    have bq1 : Heap.SameBut z (w2.push { cls := .type "tuple", data := .seq #[x, y] }) q1 := bq1
    have bq2 : Heap.SameBut z q1 q2 := bq2
    have zq2 : ZipC q2 z TI TO (rawInt w2.objs.size) (.bool false) := zq2
    have up : ∀ c o, c ≠ z → w2.get? c = some o → q2.get? c = some o := fun c o n0 e => bq2.extBut _ _ n0 (bq1.extBut _ _ n0 (Heap.get?_push_of_some _ e))
    have made : IsTupOf2 q2 w2.objs.size x y := bq2.extBut _ _ (Nat.ne_of_gt zlt) (bq1.extBut _ _ (Nat.ne_of_gt zlt) (Heap.get?_push_size _ rfl))
    have size3 : q2.objs.size = w2.objs.size + 1 := by rw [bq2.1, bq1.1, Heap.size_push]
    show Q (.ref w2.objs.size) ⟨q2, ge, dr, tk2, os⟩
    rw [size2] at made size3 ⊢
    exact hQ x y q2 tk2 px py ⟨⟨_, _, zq2, .inr ⟨_, rfl⟩⟩, up _ _ S.TIz (keeps _ _ S.TIz S.TITO S.TIi1 S.TIi2 ti), ⟨x, y, up _ _ S.TOz t4⟩, D1.frame _ _ _ sx2 fun c hc o e => up c o (fun q => S.zf1 (q ▸ hc)) e, D2.frame _ _ _ sy2 fun c hc o e => up c o (fun q => S.zf2 (q ▸ hc)) e⟩ made size3 fun c o n0 n1 n2 n3 e => up c o n0 (keeps c o n0 n1 n2 n3 e)
  · -- a new one
    simp only [Bool.false_eq_true, if_false]
    have k1 : Heap.SameBut z hp h1 := k1
    have lst : ∀ {α β : Type} (u v : α) (z0 : β) (g : α → β → Sem (ForInStep β)), forIn #[u, v] z0 g = forIn [u, v] z0 g := fun u v z0 g => by rw [← Array.forIn_toList]
    rw [lst]
    simp only [List.forIn_cons, List.forIn_nil]
    refine wpAny_bind (wpAny_bind (wpAny_bind (wpAny_holding ?_)))
    show wpAny _ _ (Builtin.SmallTypes.nextOf (.ref i1) >>= _) _ _ ⟨h1, ge, dr, tk, os⟩
    refine wpAny_bind (D1.item i _ _ _ l1 (D1.over sa k1 S.zf1) fun x v1 tk1 px sx bx => wpAny_pure (wpAny_pure (wpAny_bind (wpAny_bind (wpAny_holding ?_)))))
    have bx : Heap.SameBut i1 h1 v1 := bx
    show wpAny _ _ (Builtin.SmallTypes.nextOf (.ref i2) >>= _) _ _ ⟨v1, ge, dr, tk1, os⟩
    refine wpAny_bind (D2.item i _ _ _ l2 (D2.over (D2.over sb k1 S.zf2) bx S.sep1_2) fun y v2 tk2 py sy by_ => wpAny_pure (wpAny_pure (wpAny_pure ?_)))
    have by_ : Heap.SameBut i2 v1 v2 := by_
    refine wpAny_bind (wpAny_newTuple (wpAny_pure ⟨_, rfl, ?_⟩) (by show 2 ≤ sizeLine; decide))
    have size2 : v2.objs.size = hp.objs.size := by rw [by_.1, bx.1, k1.1]
    have zv2 : ZipC v2 z TI TO f0 g1 := by_.extBut _ _ S.zi2 (bx.extBut _ _ S.zi1 zc1)
    have keeps : ∀ c o, c ≠ z → c ≠ i1 → c ≠ i2 → hp.get? c = some o → v2.get? c = some o := fun c o n0 n2 n3 e => by_.extBut _ _ n3 (bx.extBut _ _ n2 (k1.extBut _ _ n0 e))
    have sx2 : St1 (i + 1) v2 := D1.over sx by_ S.sep2_1
    have made : IsTupOf2 (v2.push { cls := .type "tuple", data := .seq #[x, y] }) v2.objs.size x y := Heap.get?_push_size _ rfl
    have size3 : (v2.push { cls := .type "tuple", data := .seq #[x, y] }).objs.size = v2.objs.size + 1 := Heap.size_push ..
    have up : ∀ c o, v2.get? c = some o → (v2.push { cls := .type "tuple", data := .seq #[x, y] }).get? c = some o := fun c o e => Heap.get?_push_of_some _ e
    show Q (.ref v2.objs.size) ⟨v2.push { cls := .type "tuple", data := .seq #[x, y] }, ge, dr, tk2, os⟩
    generalize (v2.push { cls := .type "tuple", data := .seq #[x, y] }) = q2 at made size3 up ⊢
    rw [size2] at made size3 ⊢
    exact hQ x y q2 tk2 px py ⟨⟨_, _, up _ _ zv2, zf⟩, up _ _ (keeps _ _ S.TIz S.TIi1 S.TIi2 ti), ⟨a, b, up _ _ (keeps _ _ S.TOz S.Ti1 S.Ti2 to)⟩, D1.frame _ _ _ sx2 fun c _ o e => up c o e, D2.frame _ _ _ sy fun c _ o e => up c o e⟩ made size3 fun c o n0 _ n2 n3 e => up c o (keeps c o n0 n2 n3 e)

theorem zipN_end {Q : Fin → Shared → Prop} (S : ZipSep2 z TI TO i1 i2 fp1 fp2) (D1 : Draws prog w A i1 fp1 n1 P1 St1) (D2 : Draws prog w A i2 fp2 n2 P2 St2)
    (zp : ZipPast z TI TO i1 i2 St1 St2 i s.heap) (l1 : i ≤ n1) (l2 : i ≤ n2) (le : i = n1 ∨ i = n2)
    (hE : ∀ h1 tk e, ZipKeeps z TO i1 i2 s.heap h1 → (∃ o, h1.get? e = some o ∧ o.cls = .type "StopIteration") → E (.ref e) { s with heap := h1, toks := tk }) :
    wpAny (model prog w) A (Builtin.«zip.__next__» ⟨[.ref z], []⟩) Q E s := by
  obtain ⟨⟨f0, f1, zc, zf⟩, ti, ⟨a, b, to⟩, sa, sb⟩ := zp
  obtain ⟨hp, ge, dr, tk, os⟩ := s
  show wpAny _ _ (field (.ref z) 2 >>= _) _ _ _
  refine wpAny_bind (wpAny_field zc rfl (x := .bool false) rfl ?_)
  show wpAny _ _ (field (.ref z) 3 >>= _) _ _ _
  refine wpAny_bind (wpAny_field zc rfl (x := .ref TI) rfl ?_)
  refine wpAny_bind (wpAny_seqItems ti rfl ?_)
  show wpAny _ _ (Builtin.SmallTypes.ownedTupleIsFree (.ref z) >>= _) _ _ _
  refine wpAny_bind (own_free zc zf ?_ fun h1 g1 zc1 k1 => ?_)
  · simp only [if_true]
    refine wpAny_bind (wpAny_rule (wpAny_bind (wpAny_field zc rfl (x := .ref TO) rfl ?_)))
    refine wpAny_bind (wpAny_setField_rec zc (by simp) fun u0 zu0 bu0 => wpAny_bind ?_)
    have zu0 : ZipC u0 z TI TO .ellipsis f1 := zu0
    have bu0 : Heap.SameBut z hp u0 := bu0
    -- what is raised leaves the zip free
    have last : ∀ {v : Heap} {t : Tok} {e : Addr}, ZipC v z TI TO .ellipsis f1 → (∃ o, v.get? e = some o ∧ o.cls = .type "StopIteration") → ZipKeeps z TO i1 i2 hp v →
        wpAny (model prog w) A (setField (.ref z) 0 .none) (fun _ s2 => E (.ref e) s2) E ⟨v, ge, dr, t, os⟩ := fun {v t e} zv he kv => by
      obtain ⟨oe, eo, ec⟩ := he
      have ne : e ≠ z := fun q => by
        subst q
        have zv' : v.get? e = _ := zv
        rw [zv'] at eo; cases eo; simp at ec
      refine wpAny_setField_rec (s := ⟨v, ge, dr, t, os⟩) zv (by simp) fun v2 _ b2 => ?_
      have b2 : Heap.SameBut z v v2 := b2
      exact hE v2 t e (fun c o n0 n1 n2 n3 x => b2.extBut _ _ n0 (kv c o n0 n1 n2 n3 x)) ⟨oe, b2.extBut _ _ ne eo, ec⟩
    simp only [List.zipIdx_cons, List.zipIdx_nil, List.forIn_cons, List.forIn_nil]
    refine wpAny_bind (wpAny_bind (wpAny_onRaise ?_))
    show wpAny _ _ (Builtin.SmallTypes.nextOf (.ref i1) >>= _) _ _ ⟨u0, ge, dr, tk, os⟩
    by_cases q1 : i < n1
    · refine wpAny_bind (D1.item i _ _ _ q1 (D1.over sa bu0 S.zf1) fun x v1 tk1 px sx bx => wpAny_pure ?_)
      have bx : Heap.SameBut i1 u0 v1 := bx
      have t1 : IsTupOf2 v1 TO a b := bx.extBut _ _ S.Ti1 (bu0.extBut _ _ S.TOz to)
      refine wpAny_bind (wpAny_seqItems (s := ⟨v1, ge, dr, tk1, os⟩) t1 rfl (wpAny_bind (updateSeq_IsTupOf2 (s := ⟨v1, ge, dr, tk1, os⟩) t1 fun w1 t2 bw => ?_)))
      have bw : Heap.SameBut TO v1 w1 := bw
      refine wpAny_bind (wpAny_letGo (wpAny_pure (wpAny_bind (wpAny_bind (wpAny_onRaise ?_)))))
      show wpAny _ _ (Builtin.SmallTypes.nextOf (.ref i2) >>= _) _ _ ⟨w1, ge, dr, tk1, os⟩
      have e2 : n2 = i := by omega
      subst e2
      refine wpAny_bind (D2.done ⟨w1, ge, dr, tk1, os⟩ _ _ (D2.over (D2.over (D2.over sb bu0 S.zf2) bx S.sep1_2) bw S.Tf2) fun v e kv he => ?_)
      have kv : Heap.ExtBut i2 w1 v := kv
      exact last (kv _ _ S.zi2 (bw.extBut _ _ S.TOz.symm (bx.extBut _ _ S.zi1 zu0))) he fun c o n0 n1 n2 n3 x => kv _ _ n3 (bw.extBut _ _ n1 (bx.extBut _ _ n2 (bu0.extBut _ _ n0 x)))
    · have e1 : n1 = i := by omega
      subst e1
      refine wpAny_bind (D1.done ⟨u0, ge, dr, tk, os⟩ _ _ (D1.over sa bu0 S.zf1) fun v e kv he => ?_)
      have kv : Heap.ExtBut i1 u0 v := kv
      exact last (kv _ _ S.zi1 zu0) he fun c o n0 n1 n2 n3 x => kv _ _ n2 (bu0.extBut _ _ n0 x)
  · simp only [Bool.false_eq_true, if_false]
    have k1 : Heap.SameBut z hp h1 := k1
    have lst : ∀ {α β : Type} (u v : α) (z0 : β) (g : α → β → Sem (ForInStep β)), forIn #[u, v] z0 g = forIn [u, v] z0 g := fun u v z0 g => by rw [← Array.forIn_toList]
    rw [lst]
    simp only [List.forIn_cons, List.forIn_nil]
    refine wpAny_bind (wpAny_bind (wpAny_bind (wpAny_holding ?_)))
    show wpAny _ _ (Builtin.SmallTypes.nextOf (.ref i1) >>= _) _ _ ⟨h1, ge, dr, tk, os⟩
    by_cases q1 : i < n1
    · refine wpAny_bind (D1.item i _ _ _ q1 (D1.over sa k1 S.zf1) fun x v1 tk1 px sx bx => wpAny_pure (wpAny_pure (wpAny_bind (wpAny_bind (wpAny_holding ?_)))))
      have bx : Heap.SameBut i1 h1 v1 := bx
      show wpAny _ _ (Builtin.SmallTypes.nextOf (.ref i2) >>= _) _ _ ⟨v1, ge, dr, tk1, os⟩
      have e2 : n2 = i := by omega
      subst e2
      refine wpAny_bind (D2.done ⟨v1, ge, dr, tk1, os⟩ _ _ (D2.over (D2.over sb k1 S.zf2) bx S.sep1_2) fun v e kv he => ?_)
      have kv : Heap.ExtBut i2 v1 v := kv
      exact hE v tk1 e (fun c o n0 _ n2 n3 x => kv _ _ n3 (bx.extBut _ _ n2 (k1.extBut _ _ n0 x))) he
    · have e1 : n1 = i := by omega
      subst e1
      refine wpAny_bind (D1.done ⟨h1, ge, dr, tk, os⟩ _ _ (D1.over sa k1 S.zf1) fun v e kv he => ?_)
      have kv : Heap.ExtBut i1 h1 v := kv
      exact hE v tk e (fun c o n0 _ n2 n3 x => kv _ _ n2 (k1.extBut _ _ n0 x)) he
theorem nextOf_zip {Q : Value → Shared → Prop} (S : ZipSep2 z TI TO i1 i2 fp1 fp2) (D1 : Draws prog w A.in1 i1 fp1 n1 P1 St1) (D2 : Draws prog w A.in1 i2 fp2 n2 P2 St2)
    (zp : ZipPast z TI TO i1 i2 St1 St2 i s.heap) (l1 : i < n1) (l2 : i < n2)
    (hQ : ∀ x y h1 tk, P1 i x → P2 i y → ZipPast z TI TO i1 i2 St1 St2 (i + 1) h1 → IsTupOf2 h1 s.heap.objs.size x y → h1.objs.size = s.heap.objs.size + 1 → ZipKeeps z TO i1 i2 s.heap h1 → Q (.ref s.heap.objs.size) { s with heap := h1, toks := tk }) :
    wpAny (model prog w) A (Builtin.SmallTypes.nextOf (.ref z)) Q E s := by
  have ty : s.TypeIs (.ref z) "zip" := by obtain ⟨f0, f1, zc, _⟩ := zp.zc; exact ⟨_, zc, rfl⟩
  unfold Builtin.SmallTypes.nextOf
  exact wpAny_bind (wpAny_callSpecial?_slot (name := Str.ofString "__next__") ty F.slot_zip_next (wpAny_call_entry F.slot_zip_next ty F.entry_zip_next
    (zipN_item S D1 D2 zp l1 l2 fun x y h1 tk q1 q2 q3 q4 q5 q6 => wpAny_pure (hQ x y h1 tk q1 q2 q3 q4 q5 q6)) (F.args_zip_next_1 _)))
theorem nextOf_zip_end {Q : Value → Shared → Prop} (S : ZipSep2 z TI TO i1 i2 fp1 fp2) (D1 : Draws prog w A.in1 i1 fp1 n1 P1 St1) (D2 : Draws prog w A.in1 i2 fp2 n2 P2 St2)
    (zp : ZipPast z TI TO i1 i2 St1 St2 i s.heap) (l1 : i ≤ n1) (l2 : i ≤ n2) (le : i = n1 ∨ i = n2)
    (hE : ∀ h1 tk e, ZipKeeps z TO i1 i2 s.heap h1 → (∃ o, h1.get? e = some o ∧ o.cls = .type "StopIteration") → E (.ref e) { s with heap := h1, toks := tk }) :
    wpAny (model prog w) A (Builtin.SmallTypes.nextOf (.ref z)) Q E s := by
  have ty : s.TypeIs (.ref z) "zip" := by obtain ⟨f0, f1, zc, _⟩ := zp.zc; exact ⟨_, zc, rfl⟩
  unfold Builtin.SmallTypes.nextOf
  exact wpAny_bind (wpAny_callSpecial?_slot (name := Str.ofString "__next__") ty F.slot_zip_next (wpAny_call_entry F.slot_zip_next ty F.entry_zip_next
    (zipN_end S D1 D2 zp l1 l2 le hE) (F.args_zip_next_1 _)))

theorem ZipPast.frame (D1 : Draws prog w A i1 fp1 n1 P1 St1) (D2 : Draws prog w A i2 fp2 n2 P2 St2) {h h1 : Heap} (zp : ZipPast z TI TO i1 i2 St1 St2 i h)
    (k : ∀ b ∈ z :: TI :: TO :: (fp1 ++ fp2), ∀ o, h.get? b = some o → h1.get? b = some o) : ZipPast z TI TO i1 i2 St1 St2 i h1 := by
  obtain ⟨⟨f0, f1, zc, zf⟩, ti, ⟨a, b, to⟩, sa, sb⟩ := zp
  exact ⟨⟨f0, f1, k z (by simp) _ zc, zf⟩, k TI (by simp) _ ti, ⟨a, b, k TO (by simp) _ to⟩, D1.frame _ _ _ sa fun c hc o e => k c (by simp [hc]) o e, D2.frame _ _ _ sb fun c hc o e => k c (by simp [hc]) o e⟩
/-- the cells of an enumerate over a zip -/
abbrev ezCells (e z TI TO : Addr) (fp1 fp2 : List Addr) : List Addr := e :: z :: TI :: TO :: (fp1 ++ fp2)
theorem enumZip_next {e : Addr} {c : Int} {old : Value} {Q : Value → Shared → Prop} (S : ZipSep2 z TI TO i1 i2 fp1 fp2) (D1 : Draws prog w A.in1 i1 fp1 n1 P1 St1) (D2 : Draws prog w A.in1 i2 fp2 n2 P2 St2)
    (he : IsEnum s.heap e z c old) (zp : ZipPast z TI TO i1 i2 St1 St2 i s.heap) (l1 : i < n1) (l2 : i < n2) (hne : e ∉ z :: TI :: TO :: (fp1 ++ fp2))
    (hQ : ∀ x y h1 tk it, P1 i x → P2 i y → IsEnumOut h1 e z (c + 1) it (s.heap.objs.size + 1) → ZipPast z TI TO i1 i2 St1 St2 (i + 1) h1 → IsTupOf2 h1 s.heap.objs.size x y →
      h1.get? (s.heap.objs.size + 1) = some { cls := .type "tuple", data := .seq #[.int c tk, .ref s.heap.objs.size] } → ZipKeeps z TO i1 i2 s.heap h1 ∨ True →
      (∀ b o, b ∉ [e, z, TO, i1, i2] → s.heap.get? b = some o → h1.get? b = some o) → Q (.ref (s.heap.objs.size + 1)) { s with heap := h1, toks := tk + 1 }) :
    wpAny (model prog w) A (Builtin.«enumerate.__next__» ⟨[.ref e], []⟩) (fun fin t => ∃ v, fin = .done (.ret v) ∧ Q v t) E s := by
  obtain ⟨hp, ge, dr, tk, os⟩ := s
  have ez : e ≠ z := fun q => hne (by simp [q])
  have eTO : e ≠ TO := fun q => hne (by simp [q])
  have e1 : e ≠ i1 := fun q => hne (by simp [q, S.mem1])
  have e2 : e ≠ i2 := fun q => hne (by simp [q, S.mem2])
  show wpAny _ _ (field (.ref e) 2 >>= _) _ _ _
  refine wpAny_bind (wpAny_field he rfl (x := .ref z) rfl (wpAny_bind (nextOf_zip S D1 D2 zp l1 l2 fun x y h1 tk1 px py zp1 tup sz kp => ?_)))
  have tup : IsTupOf2 h1 hp.objs.size x y := tup
  have sz : h1.objs.size = hp.objs.size + 1 := sz
  have kp : ZipKeeps z TO i1 i2 hp h1 := kp
  have he1 : IsEnum h1 e z c old := kp e _ ez eTO e1 e2 he
  have elt : e < hp.objs.size := Heap.lt_size he
  show wpAny _ _ (field (.ref e) 3 >>= _) _ _ ⟨h1, ge, dr, tk1, os⟩
  refine wpAny_bind (wpAny_field he1 rfl (x := rawInt c) rfl ?_)
  show wpAny _ _ (field (.ref e) 4 >>= _) _ _ ⟨h1, ge, dr, tk1, os⟩
  refine wpAny_bind (wpAny_field he1 rfl (x := .none) rfl ?_)
  show wpAny _ _ (mkInt c >>= _) _ _ ⟨h1, ge, dr, tk1, os⟩
  refine wpAny_bind (wpAny_mkInt ?_)
  show wpAny _ _ (setField (.ref e) 3 (rawInt (c + 1)) >>= _) _ _ ⟨h1, ge, dr, tk1 + 1, os⟩
  refine wpAny_bind (wpAny_setField_rec he1 (by simp) fun h2 he2 b2 => ?_)
  have b2 : Heap.SameBut e h1 h2 := b2
  have he2 : IsEnum h2 e z (c + 1) old := he2
  show wpAny _ _ (setField (.ref e) 4 .none >>= _) _ _ ⟨h2, ge, dr, tk1 + 1, os⟩
  refine wpAny_bind (wpAny_setField_rec he2 (by simp) fun h3 he3 b3 => ?_)
  have b3 : Heap.SameBut e h2 h3 := b3
  have he3 : IsEnum h3 e z (c + 1) old := he3
  have s3 : h3.objs.size = hp.objs.size + 1 := by rw [b3.1, b2.1, sz]
  show wpAny _ _ (newTuple [.int c tk1, .ref hp.objs.size] >>= _) _ _ ⟨h3, ge, dr, tk1 + 1, os⟩
  refine wpAny_bind (wpAny_newTuple ?_)
  have made : (h3.push { cls := .type "tuple", data := .seq #[.int c tk1, .ref hp.objs.size] }).get? h3.objs.size = some { cls := .type "tuple", data := .seq #[.int c tk1, .ref hp.objs.size] } := Heap.get?_push_size _ rfl
  have up3 : ∀ b o, h3.get? b = some o → (h3.push { cls := .type "tuple", data := .seq #[.int c tk1, .ref hp.objs.size] }).get? b = some o := fun b o q => Heap.get?_push_of_some _ q
  generalize hq : h3.push { cls := .type "tuple", data := .seq #[.int c tk1, .ref hp.objs.size] } = h4 at made up3
  have he4 : IsEnum h4 e z (c + 1) old := up3 _ _ he3
  rw [s3] at made
  show wpAny _ _ (Builtin.SmallTypes.ownedTupleIsFree (.ref e) >>= _) _ _ ⟨h4, ge, dr, tk1 + 1, os⟩
  refine wpAny_bind ?_
  unfold Builtin.SmallTypes.ownedTupleIsFree
  refine wpAny_bind (wpAny_field he4 rfl (x := .none) rfl (wpAny_pure ?_))
  simp only [if_true]
  refine wpAny_bind (wpAny_rule (wpAny_bind (wpAny_field he4 rfl (x := old) rfl (wpAny_bind (wpAny_setField_rec he4 (by simp) fun h5 he5 b5 => ?_)))))
  have b5 : Heap.SameBut e h4 h5 := b5
  have he5 : IsEnum h5 e z (c + 1) (.ref hp.objs.size) := he5
  show wpAny _ _ (Builtin.SmallTypes.ownedTupleHandOut (.ref e) (.ref h3.objs.size) >>= _) _ _ ⟨h5, ge, dr, tk1 + 1, os⟩
  rw [s3]
  refine wpAny_bind ?_
  unfold Builtin.SmallTypes.ownedTupleHandOut
  refine wpAny_bind (wpAny_setField_rec he5 (by simp) fun h6 he6 b6 => ?_)
  have b6 : Heap.SameBut e h5 h6 := b6
  have he6 : IsEnumOut h6 e z (c + 1) (.ref hp.objs.size) (hp.objs.size + 1) := he6
  refine wpAny_setField_rec he6 (by simp) fun h7 he7 b7 => ?_
  have b7 : Heap.SameBut e h6 h7 := b7
  have he7 : IsEnumOut h7 e z (c + 1) (.ref hp.objs.size) (hp.objs.size + 1) := he7
  have up : ∀ b o, b ≠ e → h1.get? b = some o → h7.get? b = some o := fun b o n q => b7.extBut _ _ n (b6.extBut _ _ n (b5.extBut _ _ n (up3 _ _ (b3.extBut _ _ n (b2.extBut _ _ n q)))))
  refine wpAny_bind (wpAny_letGo (wpAny_pure ⟨_, rfl, hQ x y h7 tk1 _ px py he7 ?_ ?_ ?_ (.inr trivial) ?_⟩))
  · exact zp1.frame D1 D2 fun b hb o q => up b o (fun z => hne (z ▸ hb)) q
  · exact up _ _ (Nat.ne_of_gt elt) tup
  · have n : hp.objs.size + 1 ≠ e := Nat.ne_of_gt (Nat.lt_succ_of_lt elt)
    exact b7.extBut _ _ n (b6.extBut _ _ n (b5.extBut _ _ n made))
  · intro b o hb q
    simp only [List.mem_cons, List.not_mem_nil, or_false, not_or] at hb
    exact up b o hb.1 (kp b o hb.2.1 hb.2.2.1 hb.2.2.2.1 hb.2.2.2.2 q)
end
/-- for k, (a, b) in enumerate(zip(x, y)) -/
theorem GoesN.enumZip {prog : Program} {w : World} {A : Around} {elts : List Expr} {x1 : Nat} {pos : Pos} {e z TI TO i1 i2 : Addr} {fp1 fp2 : List Addr} {n1 n2 : Nat} {P1 P2 : Nat → Value → Prop} {St1 St2 : Nat → Heap → Prop}
    (S : ZipSep2 z TI TO i1 i2 fp1 fp2) (D1 : Draws prog w A.in1.in1 i1 fp1 n1 P1 St1) (D2 : Draws prog w A.in1.in1 i2 fp2 n2 P2 St2) (hne : e ∉ z :: TI :: TO :: (fp1 ++ fp2)) :
    GoesN prog w A (.Tuple elts x1 pos) e (ezCells e z TI TO fp1 fp2) [e, z, TO, i1, i2] (min n1 n2)
      (fun i h0 v h => ∃ T1 t x y, v = .ref (T1 + 1) ∧ h0.objs.size ≤ T1 ∧ P1 i x ∧ P2 i y ∧ h.IsTuple (T1 + 1) #[.int (0 + (i : Int)) t, .ref T1] ∧ h.IsTuple T1 #[x, y])
      (fun i h => (∃ old, IsEnum h e z (0 + (i : Int)) old) ∧ ZipPast z TI TO i1 i2 St1 St2 i h) where
  sub := fun b hb => by
    simp only [List.mem_cons, List.not_mem_nil, or_false] at hb
    rcases hb with q | q | q | q | q <;> subst q <;> simp [ezCells, S.mem1, S.mem2]
  frame := fun i h h1 ⟨⟨old, he⟩, zp⟩ k => ⟨⟨old, k e (by simp) _ he⟩, zp.frame D1 D2 fun b hb o q => k b (List.mem_cons_of_mem _ hb) o q⟩
  goes := fun i s Q E hi ⟨⟨old, he⟩, zp⟩ hQ => by
    have ty : s.TypeIs (.ref e) "enumerate" := ⟨_, he, rfl⟩
    refine wpAny_with_toks (n := s.toks) (Nat.le_refl _) ?_
    unfold pyNext
    refine wpAny_bind (wpAny_attempt (wpAny_callSpecial?_slot (name := Str.ofString "__next__") ty F.slot_enumerate_next (wpAny_call_entry F.slot_enumerate_next ty F.entry_enumerate_next
      (enumZip_next S D1 D2 he zp (Nat.lt_of_lt_of_le hi (Nat.min_le_left _ _)) (Nat.lt_of_lt_of_le hi (Nat.min_le_right _ _)) hne fun x y h1 tk it px py ho zp1 t1 t2 _ kp => wpAny_pure fun htk => ⟨_, rfl, ?_⟩) (F.args_enumerate_next_1 _))))
    have elt : e < s.heap.objs.size := Heap.lt_size he
    refine wpAny_letOwnedTupleGo_enum ho fun h2 he2 b2 => ?_
    have b2 : Heap.SameBut e h1 h2 := b2
    have ze : ((i + 1 : Nat) : Int) = (i : Int) + 1 := by omega
    refine hQ _ h2 _ ⟨s.heap.objs.size, tk, x, y, rfl, Nat.le_refl _, px, py, ⟨_, b2.extBut _ _ (Nat.ne_of_gt (Nat.lt_succ_of_lt elt)) t2, rfl, _, rfl⟩, ⟨_, b2.extBut _ _ (Nat.ne_of_gt elt) t1, rfl, _, rfl⟩⟩
      ⟨⟨_, by rw [ze, ← Int.add_assoc]; exact he2⟩, zp1.frame D1 D2 fun b hb o q => b2.extBut _ _ (fun z => hne (z ▸ hb)) q⟩ (fun b o hb q => b2.extBut _ _ (fun z => hb (by simp [z])) (kp b o hb q)) htk
  stops := fun s Q E ⟨⟨old, he⟩, zp⟩ hQ => by
    have ty : s.TypeIs (.ref e) "enumerate" := ⟨_, he, rfl⟩
    refine wpAny_with_toks (n := s.toks) (Nat.le_refl _) ?_
    unfold pyNext
    refine wpAny_bind (wpAny_attempt (wpAny_callSpecial?_slot (name := Str.ofString "__next__") ty F.slot_enumerate_next (wpAny_call_entry F.slot_enumerate_next ty F.entry_enumerate_next ?_ (F.args_enumerate_next_1 _))))
    show wpAny _ _ (field (.ref e) 2 >>= _) _ _ _
    refine wpAny_bind (wpAny_field he rfl (x := .ref z) rfl (wpAny_bind (nextOf_zip_end S D1 D2 zp (Nat.min_le_left _ _) (Nat.min_le_right _ _) (by omega) fun h1 tk x kp hx => ?_)))
    obtain ⟨o, eo, ec⟩ := hx
    refine wpAny_bind (wpAny_isInstance (T := "StopIteration") (b := true) ⟨o, eo, ec⟩ isSubtype_stop (wpAny_pure fun htk => ⟨rfl, ?_⟩))
    exact hQ _ _ (fun b o hb q => by
      simp only [List.mem_cons, List.not_mem_nil, or_false, not_or] at hb
      exact kp b o hb.2.1 hb.2.2.1 hb.2.2.2.1 hb.2.2.2.2 q) htk
  self := fun i s Q E ⟨⟨old, he⟩, _⟩ hQ => wpAny_pyIter_enum he hQ
end PySem

set_option Elab.async false
set_option linter.all false
set_option maxRecDepth 100000
set_option maxHeartbeats 2000000
namespace PySem
open Sem (wp)
/-- enumerate(z), z a zip: iter(z) is z -/
theorem meets_enumZ {z TI TO : Addr} {f0 : Value} :
    Meets (Builtin.«enumerate.__new__» ⟨[.type "enumerate", .ref z], []⟩) (fun _ R s => IsZip s.heap z TI TO f0 ∧
      R (.ok (.ret (.ref s.heap.objs.size))) { s with heap := s.heap.push { cls := .type "enumerate", data := .fields #[.none, .bool false, .ref z, rawInt 0, .none, .none] } }) :=
  .of_wp fun prog w A R s h => by
    obtain ⟨hp, g, d, tk, os⟩ := s
    obtain ⟨h1, h⟩ := h
    have hsub := sub_enumerate
    have q1 : ∀ {A' : Around} {E : Value → Shared → Prop} {Q : Value → Shared → Prop}, Q (.ref z) ⟨hp, g, d, tk, os⟩ → wpAny (model prog w) A' (pyIter (.ref z)) Q E ⟨hp, g, d, tk, os⟩ := fun q => wpAny_pyIter_zip h1 q
    wp_walk
    refine wpAny_stack_any fun st => wpAny_pure ?_
    split
    · rename_i c _ _ _ _ _
      cases (c == Value.type "enumerate") <;>
        (wp_walk using q1
         exact ⟨_, rfl, h⟩)
    · wp_walk using q1
      exact ⟨_, rfl, h⟩
theorem enum_beginsZ {prog : Program} {w : World} {A : Around} {E : Value → Shared → Prop} {s : Shared} {z TI TO : Addr} {f0 : Value} {Q : Value → Shared → Prop} (hz : IsZip s.heap z TI TO f0)
    (h : ∀ h1, IsEnum h1 s.heap.objs.size z 0 .none → (∀ b o, s.heap.get? b = some o → h1.get? b = some o) → Q (.ref s.heap.objs.size) { s with heap := h1 }) :
    wpAny (model prog w) A (call (.type "enumerate") [.ref z]) Q E s := by
  refine callType_new F.called_enumerate (by decide) (F.typeCall_enumerate_1 _) (F.newCall_enumerate_1 _) (fun obj => F.args_object_init_2 obj _) F.entry_enumerate_new meets_enumZ ⟨hz, ?_⟩
  have he := Heap.get?_push_size s.heap (o := { cls := .type "enumerate", data := .fields #[.none, .bool false, .ref z, rawInt 0, .none, .none] }) rfl
  exact ⟨⟨_, he, rfl⟩, h _ he fun b u e => Heap.get?_push_of_some _ e⟩
end PySem
namespace RL
open PySem PySem.Spec PyProof.Rows L2
section
variable {X : Cx} {pins : List (Addr × Obj)} {σ : L2.St} {H H1 : Hp} {s : Shared} {h' : Heap}
/-- cells of ours have turned, new objects are laid -/
theorem turnedAll {t' : Nat} {ch : List Addr} (I : L2.Inv X pins σ H s) (k : ∀ b o, b ∉ ch → s.heap.get? b = some o → h'.get? b = some o) (hf : ∀ b ∈ ch, FpOk X pins H b) (ext : ∀ b u, H b = some u → H1 b = some u)
    (old : ∀ b, b < s.heap.objs.size → H b = none → H1 b = none) (new : ∀ b u, H1 b = some u → H b = some u ∨ ObjOk X.prog X.w H1 h' b u) : L2.Inv X pins σ H1 { s with heap := h', toks := t' } := by
  have nit : ∀ b u, H b = some u → b ∉ ch := fun b u e z => by
    have q := (hf b z).1
    rw [q] at e; cases e
  refine I.step (g' := s.gens) (d' := s.drawn) (ch := ch) (fun b hb => let q := hf b hb; ⟨q.2.2.2.1, q.2.1, q.2.2.2.2.1, q.2.2.2.2.2⟩) (fun b o _ _ hc e _ => k b o hc e) (fun b o _ _ hc e _ => ⟨o.slots, k b o hc e⟩)
    (fun b o _ e n => old b (Heap.lt_size e) n) (fun b o hc e => ⟨o, k b o hc e⟩) (fun b xs e => ext b _ e) (fun b o u e => ext b _ e) (fun b ps e => ⟨#[], by rw [ext b _ e]; simp⟩) (fun m ⟨o, es, ep, ho, r⟩ => ⟨o, es, ep, k _ o (fun z => (hf _ z).2.1 rfl) ho, r⟩) (fun b u e => ?_) I.bare
  rcases new b u e with e | q
  · refine (I.hok b u e).stay (fun c v hc q => k c v (hc.elim (fun z => z ▸ nit b u e) fun z => nit c _ z) q) (fun c q => ext c _ q) fun c xs q => ext c _ q
  · exact q
end
/-- numbered pairs of two -/
def ItEZ (K : PySem.W.Frag) (S1 S2 : Src) : It :=
  ⟨fun i H => i < min S1.n S2.n ∧ S1.ok K H ∧ S2.ok K H,
    fun i H v H' => ∃ T x y, v = .ref (T + 1) ∧ H T = none ∧ H (T + 1) = none ∧ H' = upd (upd H T (.tup [x, y])) (T + 1) (.tup [.int (i : Nat), .ref T]) ∧ S1.item i x ∧ S2.item i y,
    fun i H => i = min S1.n S2.n ∧ S1.ok K H ∧ S2.ok K H⟩
theorem turn_EZ {P : Program} {w : World} {K : PySem.W.Frag} {elts : List Expr} {kk : Nat} {tpos : Pos} {S1 S2 : Src} {t1 t2 : Tok} {N : Addr} (a1 : ∀ b ∈ S1.cad, b < N) (a2 : ∀ b ∈ S2.cad, b < N) :
    Turn P w K (.Tuple elts kk tpos) (ItEZ K S1 S2) [N + 5, N + 4, N + 2, N + 3, N, N + 1] (N + 5)
      (fun i h => (∃ old, IsEnum h (N + 5) (N + 4) (0 + (i : Int)) old) ∧ ZipPast (N + 4) (N + 2) (N + 3) N (N + 1) (S1.tn t1 N) (S2.tn t2 (N + 1)) i h) where
  mem := by simp
  obj := fun i h st c hc => by
    obtain ⟨⟨old, he⟩, ⟨f0, f1, zc, _⟩, ti, ⟨x, y, to⟩, sa, sb⟩ := st
    have e' : c = N + 5 ∨ c = N + 4 ∨ c = N + 2 ∨ c = N + 3 ∨ c = N ∨ c = N + 1 := by simpa using hc
    rcases e' with q | q | q | q | q | q
    · rw [q]; exact ⟨_, he, fun v q => nomatch q⟩
    · rw [q]; exact ⟨_, zc, fun v q => nomatch q⟩
    · rw [q]; exact ⟨_, ti, fun v q => nomatch q⟩
    · rw [q]; exact ⟨_, to, fun v q => nomatch q⟩
    · rw [q]; exact Src.tn_obj sa
    · rw [q]; exact Src.tn_obj sb
  keep := fun i h h' st k => by
    obtain ⟨⟨old, he⟩, ⟨f0, f1, zc, zf⟩, ti, ⟨x, y, to⟩, sa, sb⟩ := st
    exact ⟨⟨old, k (N + 5) (by simp) _ he⟩, ⟨f0, f1, k (N + 4) (by simp) _ zc, zf⟩, k (N + 2) (by simp) _ ti, ⟨x, y, k (N + 3) (by simp) _ to⟩, Src.tn_keep sa (k N (by simp)), Src.tn_keep sb (k (N + 1) (by simp))⟩
  item := by
    intro X hP hw hK hc i pins s σ H E I hf st hg
    subst hP hw hK
    obtain ⟨hlt, ok1, ok2⟩ := hg
    obtain ⟨he, zc, ti, to, sa, sb⟩ := st
    obtain ⟨its1, c1, f1⟩ := Src.content I ok1
    obtain ⟨its2, c2, f2⟩ := Src.content I ok2
    have hh : X.A.in1.in1.handled = none := I.ok.hd hc
    have D1 := Src.draws (P := X.prog) (w := X.w) S1 t1 its1 hh N (fun m => absurd (a1 N m) (Nat.lt_irrefl _))
    have D2 := Src.draws (P := X.prog) (w := X.w) S2 t2 its2 hh (N + 1) (fun m => absurd (a2 _ m) (Nat.not_lt.mpr (Nat.le_succ N)))
    have W := GoesN.enumZip (A := X.A) (elts := elts) (x1 := kk) (pos := tpos) (e := N + 5) (zip_sep2 a1 a2) D1 D2 (by
      have q1 : N + 5 ∉ S1.cad := fun m => absurd (a1 _ m) (Nat.not_lt.mpr (Nat.le_add_right N 5))
      have q2 : N + 5 ∉ S2.cad := fun m => absurd (a2 _ m) (Nat.not_lt.mpr (Nat.le_add_right N 5))
      simp [q1, q2])
    refine W.goes i s _ E hlt ⟨he, zc, ti, to, ⟨sa, c1⟩, ⟨sb, c2⟩⟩ fun v h' tk hY st' hk _ => ?_
    obtain ⟨T, tt, x, y, rfl, hnew, hx, hy, hT2, hT1⟩ := hY
    obtain ⟨xv, ix, rx⟩ := f1 i x (Nat.lt_of_lt_of_le hlt (Nat.min_le_left _ _)) hx
    obtain ⟨yv, iy, ry⟩ := f2 i y (Nat.lt_of_lt_of_le hlt (Nat.min_le_right _ _)) hy
    obtain ⟨z0, z1, z2, z3, z4, z5⟩ := st'
    have wr : ∀ b, b ∈ [N + 5, N + 4, N + 3, N, N + 1] → b ∈ [N + 5, N + 4, N + 2, N + 3, N, N + 1] := by
      intro b hb
      have e' : b = N + 5 ∨ b = N + 4 ∨ b = N + 3 ∨ b = N ∨ b = N + 1 := by simpa using hb
      rcases e' with q | q | q | q | q <;> simp [q]
    have n1 : H T = none := I.hok.fresh hnew
    have n2 : H (T + 1) = none := I.hok.fresh (Nat.le_succ_of_le hnew)
    have I1 := turnedAll (H1 := upd (upd H T (.tup [xv, yv])) (T + 1) (.tup [.int (i : Nat), .ref T])) (t' := tk) (ch := [N + 5, N + 4, N + 2, N + 3, N, N + 1]) I (fun b o hb e => hk b o (fun m => hb (wr b m)) e) hf
      (fun b u e => by rw [upd_ne (fun q => by rw [q, n2] at e; cases e), upd_ne (fun q => by rw [q, n1] at e; cases e)]; exact e)
      (fun b hb e => by rw [upd_ne (Nat.ne_of_lt (Nat.lt_of_lt_of_le hb (Nat.le_succ_of_le hnew))), upd_ne (Nat.ne_of_lt (Nat.lt_of_lt_of_le hb hnew))]; exact e) fun b u e => by
        by_cases q2 : b = T + 1
        · subst q2
          rw [upd_same] at e; cases e
          exact .inr ⟨by show 2 ≤ sizeLine; decide, [.int (0 + (i : Int)) tt, .ref T], .cons ⟨tt, by rw [Int.zero_add]⟩ (.cons rfl .nil), hT2⟩
        · rw [upd_ne q2] at e
          by_cases q1 : b = T
          · subst q1
            rw [upd_same] at e; cases e
            exact .inr ⟨by show 2 ≤ sizeLine; decide, [x, y], .cons rx (.cons ry .nil), hT1⟩
          · rw [upd_ne q1] at e; exact .inl e
    refine ⟨.ref (T + 1), _, I1, rfl, ⟨T, xv, yv, rfl, n1, n2, rfl, ix, iy⟩, ⟨z0, z1, z2, z3, z4.1, z5.1⟩, fun b hb => ?_⟩
    obtain ⟨o, ho⟩ : ∃ o, s.heap.get? b = some o := by
      have e' : b = N + 5 ∨ b = N + 4 ∨ b = N + 2 ∨ b = N + 3 ∨ b = N ∨ b = N + 1 := by simpa using hb
      rcases e' with q | q | q | q | q | q
      · rw [q]; obtain ⟨_, z⟩ := he; exact ⟨_, z⟩
      · rw [q]; obtain ⟨_, _, z, _⟩ := zc; exact ⟨_, z⟩
      · rw [q]; exact ⟨_, ti⟩
      · rw [q]; obtain ⟨_, _, z⟩ := to; exact ⟨_, z⟩
      · rw [q]; obtain ⟨o, z, _⟩ := Src.tn_obj sa; exact ⟨o, z⟩
      · rw [q]; obtain ⟨o, z, _⟩ := Src.tn_obj sb; exact ⟨o, z⟩
    have lt := Heap.lt_size ho
    rw [upd_ne (Nat.ne_of_lt (Nat.lt_of_lt_of_le lt (Nat.le_succ_of_le hnew))), upd_ne (Nat.ne_of_lt (Nat.lt_of_lt_of_le lt hnew))]
    exact (hf b hb).1
  done := by
    intro X hP hw hK hc i pins s σ H E I hf st hg
    subst hP hw hK
    obtain ⟨rfl, ok1, ok2⟩ := hg
    obtain ⟨he, zc, ti, to, sa, sb⟩ := st
    obtain ⟨its1, c1, f1⟩ := Src.content I ok1
    obtain ⟨its2, c2, f2⟩ := Src.content I ok2
    have hh : X.A.in1.in1.handled = none := I.ok.hd hc
    have D1 := Src.draws (P := X.prog) (w := X.w) S1 t1 its1 hh N (fun m => absurd (a1 N m) (Nat.lt_irrefl _))
    have D2 := Src.draws (P := X.prog) (w := X.w) S2 t2 its2 hh (N + 1) (fun m => absurd (a2 _ m) (Nat.not_lt.mpr (Nat.le_succ N)))
    have W := GoesN.enumZip (A := X.A) (elts := elts) (x1 := kk) (pos := tpos) (e := N + 5) (zip_sep2 a1 a2) D1 D2 (by
      have q1 : N + 5 ∉ S1.cad := fun m => absurd (a1 _ m) (Nat.not_lt.mpr (Nat.le_add_right N 5))
      have q2 : N + 5 ∉ S2.cad := fun m => absurd (a2 _ m) (Nat.not_lt.mpr (Nat.le_add_right N 5))
      simp [q1, q2])
    have wr : ∀ b, b ∈ [N + 5, N + 4, N + 3, N, N + 1] → b ∈ [N + 5, N + 4, N + 2, N + 3, N, N + 1] := by
      intro b hb
      have e' : b = N + 5 ∨ b = N + 4 ∨ b = N + 3 ∨ b = N ∨ b = N + 1 := by simpa using hb
      rcases e' with q | q | q | q | q <;> simp [q]
    exact W.stops s (fun s1 => L2.Inv X pins σ H s1) E ⟨he, zc, ti, to, ⟨sa, c1⟩, ⟨sb, c2⟩⟩ fun h' tk hk _ => I.turnedL (ch := [N + 5, N + 4, N + 2, N + 3, N, N + 1]) (fun b o hb e => hk b o (fun m => hb (wr b m)) e) hf
  self := fun A i s Q E st h => let ⟨⟨_, he⟩, _⟩ := st; wpAny_pyIter_enum he h
section
variable {X : Cx} {a b : Expr} {ta : TA} {p p2 pos pos2 tpos : Pos} {elts : List Expr} {kk : Nat}
def iEZ (K : PySem.W.Frag) (ta : TA) : TI := fun σ H R => ta σ H fun vs H1 => ∃ S1 S2 : Src, vs = [S1.v, S2.v] ∧ S1.ok K H1 ∧ S2.ok K H1 ∧ R (ItEZ K S1 S2) H1
theorem pi_EZ (hge : Gl X "enumerate") (hme : X.mg "enumerate" = none) (hg : Gl X "zip") (hm : X.mg "zip" = none) (ha : PA X [a, b] ta) (hs : starEach [a, b] X.env = (false, eval a X.env) :: starEach [b] X.env := by rfl) (hpl : (backTo pos2 (starEach [b] X.env)).any (·.1) = false := by rfl)
    (hse : starEach [.Call (.Name "zip" p2) [a, b] [] pos2] X.env = [(false, eval (.Call (.Name "zip" p2) [a, b] [] pos2) X.env)] := by rfl) :
    PI X (.Tuple elts kk tpos) (.Call (.Name "enumerate" p) [.Call (.Name "zip" p2) [a, b] [] pos2] [] pos) (iEZ X.K ta) := by
  refine ⟨fun pins s σ H R I h => ?_⟩
  refine Call_ (ld_blt I hge hme PyProof.Rows.boot_enumerate (PyProof.Rows.callWith_type1 ?_ hse rfl))
  rw [hse]
  show wpAny _ _ (spliced [(false, eval (.Call (.Name "zip" p2) [a, b] [] pos2) X.env)]) _ _ s
  refine Calls.spliced_cons ?_
  refine Call_ (ld_blt I hg hm PyProof.Rows.boot_zip (PyProof.Rows.callWith_type1 (thn (ha.run pos2 pins s σ H _ I h) fun us s1 ⟨vs, H1, I1, r1, q1⟩ => ?_) hs hpl))
  obtain ⟨S1, S2, rfl, ok1, ok2, q⟩ := q1
  obtain ⟨u1, u2, rfl, r, r'⟩ := vals2 r1
  obtain ⟨t1, rfl⟩ := Src.rel r
  obtain ⟨t2, rfl⟩ := Src.rel r'
  obtain ⟨its1, c1, _⟩ := Src.content I1 ok1
  obtain ⟨its2, c2, _⟩ := Src.content I1 ok2
  refine zip_begins2 (Src.begins S1 t1 its1) (Src.begins S2 t2 its2) c1 c2 fun h' hz hTI hTO h1 h2 hsz hk => Calls.spliced_nil ?_
  refine enum_beginsZ hz fun h'' he hk2 => wpAny_pyIter_enum he ?_
  have hsz : h'.objs.size = s1.heap.objs.size + 5 := hsz
  have he : IsEnum h'' h'.objs.size (s1.heap.objs.size + 4) 0 .none := he
  rw [hsz] at he
  have kk2 : ∀ b o, s1.heap.get? b = some o → h''.get? b = some o := fun b o e => hk2 b o (hk b o e)
  have I2 : L2.Inv X pins σ H1 { s1 with heap := h'' } := I1.kept (t' := s1.toks) kk2
  refine ⟨s1.heap.objs.size + 5, _, _, _, H1, by show Value.ref h'.objs.size = _; rw [hsz], I2, turn_EZ (t1 := t1) (t2 := t2) (Src.cad_lt c1) (Src.cad_lt c2), ⟨⟨.none, by simpa using he⟩, ⟨.none, .bool false, hk2 _ _ hz, .inl rfl⟩, hk2 _ _ hTI, ⟨_, _, hk2 _ _ hTO⟩, Src.tn_keep (Src.tn0 h1) (hk2 _), Src.tn_keep (Src.tn0 h2) (hk2 _)⟩, fun c hc => ?_, q⟩
  have hle : s1.heap.objs.size ≤ c := by
    have e' : c = s1.heap.objs.size + 5 ∨ c = s1.heap.objs.size + 4 ∨ c = s1.heap.objs.size + 2 ∨ c = s1.heap.objs.size + 3 ∨ c = s1.heap.objs.size ∨ c = s1.heap.objs.size + 1 := by simpa using hc
    rcases e' with z | z | z | z | z | z
    · rw [z]; exact Nat.le_add_right _ _
    · rw [z]; exact Nat.le_add_right _ _
    · rw [z]; exact Nat.le_add_right _ _
    · rw [z]; exact Nat.le_add_right _ _
    · rw [z]; exact Nat.le_refl _
    · rw [z]; exact Nat.le_add_right _ _
  exact I1.fpOk hle (I1.hok.fresh hle)
end
section
variable {c : Sc} {K : PySem.W.Frag} {p : Pt} {G H : Hp} {M : List Int} {vw : Bool}
theorem itEZ_ok {xs ys : List D} {S1 S2 : Src} (h1 : SrcOf K p vw G H xs S1) (h2 : SrcOf K p vw G H ys S2) : ItOk K p vw (ItEZ K S1 S2) G H (numD 0 (zipD xs ys)) := fun i G2 H2 M2 ex k g2 => by
  obtain ⟨_, n1, d1, s1⟩ := h1
  obtain ⟨_, n2, d2, s2⟩ := h2
  have o1 := s1 G2 H2 M2 ex k g2
  have o2 := s2 G2 H2 M2 ex k g2
  refine ⟨fun hi => ⟨by rw [hi, numD_len, zipD_len, n1, n2], o1, o2⟩, fun z hz => ?_⟩
  have hl : i < min xs.length ys.length := by rw [← zipD_len, ← numD_len (k := 0)]; exact (List.getElem?_eq_some_iff.mp hz).1
  refine ⟨⟨by rw [n1, n2]; exact hl, o1, o2⟩, fun v H3 ⟨T, a, b, ev, hn1, hn2, eH, ia, ib⟩ => ?_⟩
  subst ev eH
  obtain ⟨w, hw, rfl⟩ := numD_get hz
  obtain ⟨x, y, hx, hy, rfl⟩ := zipD_get hw
  obtain ⟨G3, st3, g3, dt3⟩ := pair_dt g2 hn1 (d1 G2 ex i a x ia hx) (d2 G2 ex i b y ib hy)
  have hn3 : (upd H2 T (.tup [a, b])) (T + 1) = none := by rw [upd_ne (Nat.succ_ne_self T)]; exact hn2
  rw [Nat.zero_add]
  obtain ⟨G4, st4, g4, dt4⟩ := pair_dt g3 hn3 (dtI.mpr rfl : Dt K G3 (.int ((i : Nat) : Int)) _) dt3
  exact ⟨G4, st3.trans st4, g4, dt4⟩
end
section
variable {c : Sc} {a b : Expr} {fa fb : Ev D} {f : Ev (List D)} {p p2 pos pos2 tpos : Pos} {elts : List Expr} {kk : Nat} {vw : Bool}
def fEnumZip (f : Ev (List D)) : Ev (List D) := fun ρ M => (f ρ M).bnd fun xs M1 => match xs with
  | [x, y] => Rs.of ((seqItems x).bind fun xs => (seqItems y).map fun ys => numD 0 (zipD xs ys)) M1
  | _ => .bad
theorem ezip_sat {x y : D} {z : List D} (e : ((seqItems x).bind fun xs => (seqItems y).map fun ys => numD 0 (zipD xs ys)) = some z) : ∃ xs ys, seqItems x = some xs ∧ seqItems y = some ys ∧ z = numD 0 (zipD xs ys) := by
  cases q1 : seqItems x with
  | none => rw [q1] at e; cases e
  | some xs =>
    cases q2 : seqItems y with
    | none => rw [q1, q2] at e; cases e
    | some ys => rw [q1, q2] at e; cases e; exact ⟨xs, ys, rfl, rfl, rfl⟩
theorem ri_enumzipV (ha : RA c [a, b] f) (hge : c.sc.names.lookup ("enumerate" : Str) = some .globalImplicit) (hme : c.mg "enumerate" = none) (hg : c.sc.names.lookup ("zip" : Str) = some .globalImplicit) (hm : c.mg "zip" = none) (hs : ∀ env, starEach [a, b] env = (false, eval a env) :: starEach [b] env := by intro _; rfl) (hpl : ∀ env, (backTo pos2 (starEach [b] env)).any (·.1) = false := by intro _; rfl)
    (hse : ∀ env, starEach [.Call (.Name "zip" p2) [a, b] [] pos2] env = [(false, eval (.Call (.Name "zip" p2) [a, b] [] pos2) env)] := by intro _; rfl) :
    RI c true (.Tuple elts kk tpos) (.Call (.Name "enumerate" p) [.Call (.Name "zip" p2) [a, b] [] pos2] [] pos) (fEnumZip f) := by
  obtain ⟨t, pa, s⟩ := ha
  refine ⟨fun E => iEZ c.K (t E), fun X E g ps => by (rw [← g.K]; exact pi_EZ (glI g hge) (by rw [g.mg]; exact hme) (glI g hg) (by rw [g.mg]; exact hm) (pa X E g ps) (hs _) (hpl _) (hse _)), fun B G σ H ρ M Q E rl h => ?_⟩
  unfold fEnumZip at h
  rw [sat_bnd] at h
  refine s.use rl h fun xs M1 vs G1 H1 h1 s1 g1 d1 rl1 => ?_
  split at h1
  · obtain ⟨z, e, q⟩ := sat_of.mp h1
    obtain ⟨us, ws, e1, e2, rfl⟩ := ezip_sat e
    obtain ⟨v, w, rfl, dv, dw⟩ := vws2 d1
    obtain ⟨S1, rfl, o1⟩ := src_of (vw := true) g1 dv (stays_vw g1 dv) e1
    obtain ⟨S2, rfl, o2⟩ := src_of (vw := true) g1 dw (stays_vw g1 dw) e2
    exact ⟨S1, S2, rfl, o1.1, o2.1, q _ G1 H1 s1 g1 (itEZ_ok o1 o2)⟩
  · exact h1.elim
theorem ri_enumzip (ha : RL c [a, b] f) (hge : c.sc.names.lookup ("enumerate" : Str) = some .globalImplicit) (hme : c.mg "enumerate" = none) (hg : c.sc.names.lookup ("zip" : Str) = some .globalImplicit) (hm : c.mg "zip" = none) (hs : ∀ env, starEach [a, b] env = (false, eval a env) :: starEach [b] env := by intro _; rfl) (hpl : ∀ env, (backTo pos2 (starEach [b] env)).any (·.1) = false := by intro _; rfl)
    (hse : ∀ env, starEach [.Call (.Name "zip" p2) [a, b] [] pos2] env = [(false, eval (.Call (.Name "zip" p2) [a, b] [] pos2) env)] := by intro _; rfl) :
    RI c false (.Tuple elts kk tpos) (.Call (.Name "enumerate" p) [.Call (.Name "zip" p2) [a, b] [] pos2] [] pos) (fEnumZip f) := by
  obtain ⟨t, pa, s⟩ := ha
  refine ⟨fun E => iEZ c.K (t E), fun X E g ps => by (rw [← g.K]; exact pi_EZ (glI g hge) (by rw [g.mg]; exact hme) (glI g hg) (by rw [g.mg]; exact hm) (pa X E g ps) (hs _) (hpl _) (hse _)), fun B G σ H ρ M Q E rl h => ?_⟩
  unfold fEnumZip at h
  rw [sat_bnd] at h
  refine s.use rl h fun xs M1 vs G1 H1 h1 s1 g1 d1 rl1 => ?_
  split at h1
  · obtain ⟨z, e, q⟩ := sat_of.mp h1
    obtain ⟨us, ws, e1, e2, rfl⟩ := ezip_sat e
    obtain ⟨v, r, rfl, dv, d2⟩ := DtA.cons_iff.mp d1
    obtain ⟨w, r, rfl, dw, d3⟩ := DtA.cons_iff.mp d2
    have := DtA.nil_iff.mp d3
    subst this
    obtain ⟨S1, rfl, o1⟩ := src_of (vw := false) g1 (View.of g1 dv) (stays_dt g1 dv) e1
    obtain ⟨S2, rfl, o2⟩ := src_of (vw := false) g1 (View.of g1 dw) (stays_dt g1 dw) e2
    exact ⟨S1, S2, rfl, o1.1, o2.1, q _ G1 H1 s1 g1 (itEZ_ok o1 o2)⟩
  · exact h1.elim
end
end RL

set_option Elab.async false
set_option linter.all false
set_option maxRecDepth 100000
set_option maxHeartbeats 2000000
/-! xs[::-1] of tuples and lists -/
namespace HT
open PySem PySem.Spec PyProof.Rows
theorem back_adjust (n : Nat) : Builtin.Slice.sliceAdjust none none (-1) (n : Int) = ((n : Int) - 1, -1) := by
  unfold Builtin.Slice.sliceAdjust
  rfl
theorem back_places (n : Nat) : Builtin.Slice.slicePlaces ((n : Int) - 1) (-1) (-1) = n := by
  unfold Builtin.Slice.slicePlaces
  simp
  omega
theorem fm_some {α β : Type} {f : α → Option β} {g : α → β} : ∀ (l : List α), (∀ k ∈ l, f k = some (g k)) → l.filterMap f = l.map g
  | [], _ => rfl
  | a :: l, h => by
    rw [List.filterMap_cons_some (h a List.mem_cons_self), List.map_cons, fm_some l fun k m => h k (List.mem_cons_of_mem _ m)]
theorem back_pick (xs : Array Value) : ((List.range xs.size).filterMap fun (k : Nat) => xs[(((xs.size : Nat) : Int) - 1 + (k : Int) * -1).toNat]?).toArray = xs.toList.reverse.toArray := by
  congr 1
  apply List.ext_getElem?
  intro i
  have e : (List.range xs.size).filterMap (fun (k : Nat) => xs[(((xs.size : Nat) : Int) - 1 + (k : Int) * -1).toNat]?) = (List.range xs.size).map fun k => xs.toList.reverse.getD k .none := by
    refine fm_some _ fun k hk => ?_
    have hk := List.mem_range.mp hk
    have e1 : (((xs.size : Nat) : Int) - 1 + (k : Int) * -1).toNat = xs.size - 1 - k := by omega
    rw [e1]
    have h1 : xs[xs.size - 1 - k]? = some (xs[xs.size - 1 - k]'(by omega)) := Array.getElem?_eq_getElem (by omega)
    rw [h1]
    simp [List.getD, hk]
  rw [e, List.getElem?_map]
  by_cases hi : i < xs.size
  · rw [List.getElem?_range hi]
    simp [List.getD, hi]
  · rw [List.getElem?_eq_none (by simpa using hi), List.getElem?_eq_none (by simpa using hi)]
    rfl
section
variable {prog : Program} {w : World} {A : Around} {E : Value → Shared → Prop} {s : Shared}
theorem back_applied {sl : Addr} {vl vu vs : Value} {n : Nat} {Q : Int × Int × Nat → Shared → Prop} (hs : s.heap.IsSliceOf sl vl vu vs) (pl : IsPart vl none) (pu : IsPart vu none) (ps : IsPart vs (some (-1)))
    (h : Q ((n : Int) - 1, -1, n) s) : wpAny (model prog w) A (Builtin.Slice.sliceApplied (.ref sl) (pure (n : Int))) Q E s := by
  obtain ⟨os, hos, hcs, hds⟩ := id hs
  unfold Builtin.Slice.sliceApplied Builtin.Slice.sliceFields
  refine wpAny_bind (wpAny_bind (wpAny_field hos hds (x := vl) rfl (wpAny_bind (wpAny_field hos hds (x := vu) rfl (wpAny_bind (wpAny_field hos hds (x := vs) rfl (wpAny_pure ?_)))))))
  refine wpAny_bind (slicePart_ ps ?_)
  show wpAny _ _ (if ((-1 : Int) == 0) = true then _ else _) _ _ s
  rw [if_neg (by decide)]
  refine wpAny_bind (slicePart_ pl (wpAny_bind (slicePart_ pu (wpAny_bind (wpAny_pure ?_)))))
  show wpAny _ _ (match Builtin.Slice.sliceAdjust none none (-1) (n : Int) with | (lo, hi) => pure (lo, (-1 : Int), Builtin.Slice.slicePlaces lo hi (-1))) _ _ s
  rw [back_adjust]
  show wpAny _ _ (pure ((n : Int) - 1, (-1 : Int), Builtin.Slice.slicePlaces ((n : Int) - 1) (-1) (-1))) _ _ s
  rw [back_places]
  exact wpAny_pure h
theorem getItem_tuple_back {t sl : Addr} {items : Array Value} {vl vu vs : Value} {Q : Value → Shared → Prop} (ht : IsTup s.heap t items) (hs : s.heap.IsSliceOf sl vl vu vs) (pl : IsPart vl none) (pu : IsPart vu none) (ps : IsPart vs (some (-1)))
    (h : Q (.ref s.heap.objs.size) { s with heap := s.heap.push { cls := .type "tuple", data := .seq items.toList.reverse.toArray } }) (hsz : items.size ≤ sizeLine) : wpAny (model prog w) A (getItem (.ref t) (.ref sl)) Q E s := by
  have hok : sizeOk (.seq items.toList.reverse.toArray) := by
    show items.toList.reverse.toArray.size ≤ sizeLine
    rw [List.size_toArray, List.length_reverse, Array.length_toList]
    exact hsz
  obtain ⟨os, hos, hcs, hds⟩ := id hs
  have hTs : s.TypeIs (.ref sl) "slice" := ⟨os, hos, hcs⟩
  unfold getItem
  try with_reducible refine wpAny_holding ?_
  first | refine wpAny_bind (wpAny_pure ?_) | skip
  refine wpAny_bind (wpAny_sequenceKey ht.typeIs (by decide) (wpAny_bind (wpAny_callSpecial?_slot (name := Str.ofString "__getitem__") ht.typeIs PyProof.Rows.slot_tuple_getitem
    (wpAny_call_entry PyProof.Rows.slot_tuple_getitem ht.typeIs entry_tuple_getitem ?_ (args_tuple_getitem _ _)))))
  show wpAny _ _ (Builtin.Tuple.tupleItemsOf (.ref t) >>= _) _ _ s
  refine wpAny_bind (tupleItemsOf_ ht (wpAny_bind (wpAny_typeOf hTs ?_)))
  rw [if_pos (by decide)]
  refine wpAny_bind (back_applied hs pl pu ps ?_)
  have hno : ¬ ((((items.size : Nat) : Int) - 1 == 0 && (-1 : Int) == 1 && items.size == items.size) = true) := by
    intro q
    rw [Bool.and_eq_true, Bool.and_eq_true] at q
    exact absurd q.1.2 (by decide)
  show wpAny _ _ (if (((items.size : Nat) : Int) - 1 == 0 && (-1 : Int) == 1 && items.size == items.size) = true then _ else _) _ _ s
  rw [if_neg hno, back_pick]
  first
    | exact wpAny_bind (m := Builtin.Tuple.tupleExact _) (wpAny_newObj_type (wpAny_pure ⟨_, rfl, wpAny_pure h⟩) hok)
    | exact wpAny_bind (m := Builtin.Tuple.tupleExact _) (wpAny_newObj_type (wpAny_bind (wpAny_pure (wpAny_pure ⟨_, rfl, wpAny_pure h⟩))) hok)
    | exact wpAny_bind (wpAny_bind (m := Builtin.Tuple.tupleExact _) (wpAny_newObj_type (wpAny_pure (wpAny_pure ⟨_, rfl, wpAny_pure h⟩)) hok))
    | exact wpAny_bind (wpAny_bind (m := Builtin.Tuple.tupleExact _) (wpAny_newObj_type (wpAny_pure ⟨_, rfl, wpAny_pure h⟩) hok))
end
end HT
namespace RL
open PySem PySem.Spec PyProof.Rows L2
def tRevA (K : PySem.W.Frag) (te : TE) : TE := fun σ H Q => te σ H fun x H1 => (∃ a xs, x = .ref a ∧ SqL K H1 a xs ∧ ∀ p, H1 p = none → Q (.ref p) (upd H1 p (.lst xs.reverse))) ∨ (∃ a xs, x = .ref a ∧ SqT K H1 a xs ∧ ∀ p, H1 p = none → Q (.ref p) (upd H1 p (.tup xs.reverse)))
theorem pe_revA {X : Cx} {e : Expr} {te : TE} {k : Nat} {p1 p2 p3 pos : Pos} (he : PE X e te) : PE X (.Subscript e (.Slice none none (some (.UnaryOp .USub (.Constant (.int 1) k p1) p2)) p3) pos) (tRevA X.K te) := by
  refine ⟨fun pins s σ H Q I h => Subscript_ (thn (he.run pins s σ H _ I h) fun v s1 ⟨x, H1, I1, r1, q1⟩ => ?_)⟩
  have hst : PO X (some (.UnaryOp .USub (.Constant (.int 1) k p1) p2)) (tPart (tUn (rU fun i => .int (-i)) (tC (.int 1)))) := po_some (pe_un un_neg pe_int)
  refine wpAny_Slice (thn (po_none.run pins s1 σ H1 (fun o H2 => o = none ∧ H2 = H1) I1 ⟨rfl, rfl⟩) fun vl s2 ⟨l, H2, I2, pl, el, e2⟩ => thn (po_none.run pins s2 σ H2 (fun o H3 => o = none ∧ H3 = H2) I2 ⟨rfl, rfl⟩) fun vu s3 ⟨u, H3, I3, pu, eu, e3⟩ => thn (hst.run pins s3 σ H3 (fun o H4 => o = some (-1) ∧ H4 = H3) I3 ⟨1, rfl, -1, rfl, rfl, rfl⟩) fun vs s4 ⟨o, H4, I4, ps, eo, e4⟩ => ?_)
  subst el e2 eu e3 eo e4
  have I5 : L2.Inv X pins σ H4 { s4 with heap := s4.heap.push { cls := .type "slice", data := .fields #[vl, vu, vs] } } := I4.kept (t' := s4.toks) fun b ob q => Heap.get?_push_of_some _ q
  rcases q1 with ⟨a, xs, rfl, hx, q⟩ | ⟨a, xs, rfl, hx, q⟩
  · cases r1
    obtain ⟨its, r, ht, hz⟩ := I5.list hx
    have hlen := r.length
    show wpAny (model X.prog X.w) X.A (subscriptTail e (.Slice none none (some (.UnaryOp .USub (.Constant (.int 1) k p1) p2)) p3) (.ref a) (.ref s4.heap.objs.size)) (EP X pins σ Q) X.xe { s4 with heap := s4.heap.push { cls := .type "slice", data := .fields #[vl, vu, vs] } }
    refine tail_any (ops := [.ref a, .ref s4.heap.objs.size]) ht.isList.typeIs (PySem.slot_list_getitem.lookup) (wpAny_getItem_list_slice ht.isList (Heap.IsSliceOf.new _ vl vu vs) pl pu ps (by decide) ?_ (by rw [List.size_toArray]; omega)) (by with_unfolding_all rfl)
    rw [PySem.W.krv_pick]
    exact ⟨.ref _, _, I5.laid (t' := s4.toks) (o := .lst xs.reverse) (fun b ob q => Heap.get?_push_of_some _ q) (Nat.le_refl _) ⟨by rw [List.length_reverse]; exact hz, _, 0, r.reverse, Heap.get?_push_size _ rfl⟩, rfl, q _ (I5.hok.fresh (Nat.le_refl _))⟩
  · cases r1
    obtain ⟨its, r, ht, hz⟩ := I5.tuple hx
    have hlen := r.length
    show wpAny (model X.prog X.w) X.A (subscriptTail e (.Slice none none (some (.UnaryOp .USub (.Constant (.int 1) k p1) p2)) p3) (.ref a) (.ref s4.heap.objs.size)) (EP X pins σ Q) X.xe { s4 with heap := s4.heap.push { cls := .type "slice", data := .fields #[vl, vu, vs] } }
    refine tail_any (ops := [.ref a, .ref s4.heap.objs.size]) ht.typeIs (PyProof.Rows.slot_tuple_getitem.lookup) (HT.getItem_tuple_back ht (Heap.IsSliceOf.new _ vl vu vs) pl pu ps ?_ (by rw [List.size_toArray]; omega)) (by with_unfolding_all rfl)
    exact ⟨.ref _, _, I5.laid (t' := s4.toks) (o := .tup xs.reverse) (fun b ob q => Heap.get?_push_of_some _ q) (Nat.le_refl _) ⟨by rw [List.length_reverse]; exact hz, _, r.reverse, IsTup.new _ _⟩, rfl, q _ (I5.hok.fresh (Nat.le_refl _))⟩
def dRev : D → Option D
  | .list xs => some (.list xs.reverse)
  | .tuple xs => some (.tuple xs.reverse)
  | _ => none
def fRev (fa : Ev D) : Ev D := fun ρ M => (fa ρ M).bnd fun x M1 => Rs.of (dRev x) M1
theorem re_rev {c : Sc} {e : Expr} {fa : Ev D} {k : Nat} {p1 p2 p3 pos : Pos} (h : RV c e fa) : RE c (.Subscript e (.Slice none none (some (.UnaryOp .USub (.Constant (.int 1) k p1) p2)) p3) pos) (fRev fa) := by
  obtain ⟨t, p, s⟩ := h
  refine ⟨fun E => tRevA c.K (t E), fun X E g ps => by (rw [← g.K]; exact pe_revA (p X E g ps)), fun B G σ H ρ M Q E rl h => ?_⟩
  unfold fRev at h
  rw [sat_bnd] at h
  refine s.use rl h fun x M1 v G1 H1 h1 s1 g1 d1 rl1 => ?_
  obtain ⟨z, e, q⟩ := sat_of.mp h1
  unfold dRev at e
  split at e
  · cases e
    obtain ⟨a, vs, rfl, e1, e2⟩ := View.list d1
    refine .inl ⟨a, vs, rfl, .of e1, fun r hr => ?_⟩
    exact layL (Q := Q) g1 hr e2.reverse fun v' G' H' s2 g2 d2 => q v' G' H' (s1.trans s2) g2 d2
  · cases e
    obtain ⟨a, vs, rfl, e1, e2⟩ := viewT d1
    refine .inr ⟨a, vs, rfl, sqT_mono g1.gh e1, fun r hr => ?_⟩
    exact layT (Q := Q) g1 hr e2.reverse fun v' G' H' s2 g2 d2 => q v' G' H' (s1.trans s2) g2 d2
  · cases e
end RL

set_option Elab.async false
set_option linter.all false
set_option maxRecDepth 100000
set_option maxHeartbeats 2000000
/-! name = zip(a, b); return sum([.. for .. in name]) -/
namespace RL
open PySem PySem.Spec PyProof.Rows L2
section
variable {α β : Type} {c : Sc} {B : Bs} {G : Hp} {σ : L2.St} {H : Hp} {ρ : Rho} {M : List Int} {E : XK} {R : Rsl α V}
/-- SdX.lc at one place: what is walked is given -/
theorem lc_at {ws vs0 : List Nat} {tg' : TG} {tt : TX Bool} {te : TX V} {g : Pat} {ft : Ev Bool} {fe : Ev D} {scope : Scope} (sg : SdG (blk c scope) ws tg' g) (hw : ∀ i ∈ ws, i ∈ vs0) (st : SdX (blk c scope) RTt tt ft) (se : SdX (blk c scope) (RDt c.K) te fe)
    {xs : List D} {J : It} {G1 H1 : Hp} {M1 : List Int} {Q : VK} (jt : ItOk c.K B.p true J G1 H1 xs) (rl1 : Rl c.K B G1 σ H1 ρ M1) (s1 : Stp B.p G H G1 H1) (g1 : Gr B.p G1 H1 M1)
    (h1 : (if xs.length ≤ 16777216 then lcGo g ft fe (wipeR ρ vs0) xs M1 else .bad).Sat (fun ys M' => ∀ v G' H', Stp B.p G H G' H' → Gr B.p G' H' M' → RFr c.K B.p G H G' H' ys v → Q v H') (XP c.toWb B.p G H E)) :
    tLc (fun _ H R => R J H) tg' (tt noE) (te noE) vs0 σ H1 Q := by
  show ∀ D, H1 D = none → _
  intro D hD
  split at h1
  · rename_i hlen
    have hDp := g1.nep hD
    refine ⟨fun i m Hi => ∃ Gi Mi acd acc, m = xs.length - i ∧ i ≤ xs.length ∧ Stp B.p G1 H1 Gi Hi ∧ Gr B.p Gi Hi Mi ∧ Hi D = some (.lst acc) ∧ Gi D = none ∧ DtA c.K Gi acd acc ∧ acd.length ≤ i ∧
      (lcGo g ft fe (wipeR ρ vs0) (xs.drop i) Mi).Sat (fun ys M' => ∀ v G' H', Stp B.p G H G' H' → Gr B.p G' H' M' → RFr c.K B.p G H G' H' (acd ++ ys) v → Q v H') (XP c.toWb B.p G H E),
      ⟨xs.length, G1, M1, [], [], rfl, Nat.zero_le _, .put g1 hD, g1.put hD, upd_same, g1.free hD, DtA.nil, Nat.le_refl _, by simpa using h1⟩, ?_⟩
    rintro i m Hi ⟨Gi, Mi, acd, acc, rfl, hi, sti, gi, hDi, hDG, hac, hal, φ⟩
    obtain ⟨js, jg⟩ := jt i Gi Hi Mi sti.g (fun _ a o ne h => sti.h a o ne h) gi
    by_cases hlt : i < xs.length
    · have hx : xs[i]? = some xs[i] := List.getElem?_eq_getElem hlt
      rw [List.drop_eq_getElem_cons hlt] at φ
      unfold lcGo at φ
      obtain ⟨go, yl⟩ := jg _ hx
      refine .inr ⟨go, fun H' => ∃ G' M' acd' acc', Stp B.p G1 H1 G' H' ∧ Gr B.p G' H' M' ∧ H' D = some (.lst acc') ∧ G' D = none ∧ DtA c.K G' acd' acc' ∧ acd'.length ≤ i + 1 ∧
        (lcGo g ft fe (wipeR ρ vs0) (xs.drop (i + 1)) M').Sat (fun ys M'' => ∀ v G' H', Stp B.p G H G' H' → Gr B.p G' H' M'' → RFr c.K B.p G H G' H' (acd' ++ ys) v → Q v H') (XP c.toWb B.p G H E),
        fun H' ⟨G', M', acd', acc', z1, z2, z3, z4, z5, z6, z7⟩ => ⟨_, by omega, G', M', acd', acc', rfl, hlt, z1, z2, z3, z4, z5, z6, z7⟩, fun v H' y => ?_⟩
      obtain ⟨G', s2, g2, d2⟩ := yl v H' y
      cases hp : g xs[i] (wipeR ρ vs0) with
      | none => rw [hp] at φ; exact φ.elim
      | some ρ1 =>
        rw [hp] at φ
        have rlw : Rl c.K B G' (wipe σ vs0) H' (wipeR ρ vs0) Mi := (rl1.step (sti.trans s2) g2).wipe _
        refine sg B G' _ H' _ Mi xs[i] v ρ1 _ rlw d2 hp fun σ2 rl2 w2 => ⟨(wipe_mono w2 hw).trans (wipe_idem _ _), ?_⟩
        rw [sat_bnd] at φ
        refine SdX.use (Φ := fun k M1 => Rs.Sat (if k = true then (fe ρ1 M1).nox.bnd fun y M2 => (lcGo g ft fe (wipeR ρ vs0) (xs.drop (i + 1)) M2).bnd fun ys M3 => .ok (y :: ys) M3 else lcGo g ft fe (wipeR ρ vs0) (xs.drop (i + 1)) M1)
          (fun ys M' => ∀ v G' H', Stp B.p G H G' H' → Gr B.p G' H' M' → RFr c.K B.p G H G' H' (acd ++ ys) v → Q v H') (XP c.toWb B.p G H E)) st rl2 (sat_nox φ) fun k M2 k' G3 H3 φ2 s3 g3 e3 rl3 => ?_
        cases (show k = k' from e3)
        have D3 : H3 D = some (.lst acc) := (s2.trans s3).h D _ hDp hDi
        have DG3 : G3 D = none := by
          cases q : G3 D with
          | none => rfl
          | some u => have z := (s2.trans s3).n D u q hDG; rw [hDi] at z; cases z
        cases k with
        | false =>
          refine ⟨G3, M2, acd, acc, (sti.trans s2).trans s3, g3, D3, DG3, DtA.mono (s2.trans s3).g _ _ hac, Nat.le_succ_of_le hal, ?_⟩
          simpa using φ2
        | true =>
          rw [if_pos rfl, sat_bnd] at φ2
          rw [if_pos rfl]
          refine SdX.use (Φ := fun y M2 => Rs.Sat ((lcGo g ft fe (wipeR ρ vs0) (xs.drop (i + 1)) M2).bnd fun ys M3 => .ok (y :: ys) M3) (fun ys M' => ∀ v G' H', Stp B.p G H G' H' → Gr B.p G' H' M' → RFr c.K B.p G H G' H' (acd ++ ys) v → Q v H') (XP c.toWb B.p G H E))
            se rl3 (sat_nox φ2) fun y M3 v4 G4 H4 φ3 s4 g4 d4 rl4 => ?_
          have D4 : H4 D = some (.lst acc) := s4.h D _ hDp D3
          have DG4 : G4 D = none := by
            cases q : G4 D with
            | none => rfl
            | some u => have z := s4.n D u q DG3; rw [D3] at z; cases z
          refine ⟨acc, D4, ?_, G4, M3, acd ++ [y], acc ++ [v4], ?_, ?_, upd_same, DG4, .append (DtA.mono ((s2.trans s3).trans s4).g _ _ hac) (.cons d4 .nil), by rw [List.length_append, List.length_singleton]; omega, ?_⟩
          · have := hac.length
            rw [sizeLine_eq]; omega
          · have z := ((sti.trans s2).trans s3).trans s4
            exact ⟨z.g, fun b u ne hb => by rw [upd_ne (fun e => by subst e; rw [hD] at hb; cases hb)]; exact z.h b u ne hb, z.n, z.p⟩
          · exact ⟨fun b u hb => by rw [upd_ne (fun e => by subst e; rw [DG4] at hb; cases hb)]; exact g4.gh b u hb, upd_keep hDp g4.pot, g4.pg⟩
          · rw [sat_bnd] at φ3
            refine φ3.mono (fun ys M' z => ?_) fun _ _ _ z => z
            rw [List.append_assoc]
            exact z
    · have e : i = xs.length := by omega
      subst e
      rw [List.drop_eq_nil_of_le (Nat.le_refl _)] at φ
      refine .inl ⟨js rfl, ?_⟩
      have z := φ (.ref D) Gi Hi (s1.trans sti) gi
      rw [List.append_nil] at z
      exact z ⟨D, acc, rfl, s1.fresh g1 hD, hDi, hDG, hDp, hac⟩
  · exact h1.elim
end
/-- a cell of the zip, as it is -/
abbrev xo (a : Addr) (ob : Obj) : HO := .ext fun h => h.get? a = some ob
abbrev zipOb (N : Addr) : Obj := { cls := .type "zip", dict := none, data := .fields #[.none, .bool false, .bool false, .ref (N + 2), .ref (N + 3)], slots := #[] }
abbrev tupOb (a b : Value) : Obj := { cls := .type "tuple", data := .seq #[a, b] }
def zipH (H : Hp) (N : Addr) (S1 S2 : Src) (t1 t2 : Tok) : Hp :=
  upd (upd (upd (upd (upd H N (xo N (S1.obj t1))) (N + 1) (xo (N + 1) (S2.obj t2))) (N + 2) (xo (N + 2) (tupOb (.ref N) (.ref (N + 1))))) (N + 3) (xo (N + 3) (tupOb .none .none))) (N + 4) (xo (N + 4) (zipOb N))
/-- five free cells in a row -/
def Free5 (H : Hp) (N : Addr) : Prop := H N = none ∧ H (N + 1) = none ∧ H (N + 2) = none ∧ H (N + 3) = none ∧ H (N + 4) = none
theorem n5 (N : Nat) : N + 1 ≠ N ∧ N + 2 ≠ N ∧ N + 3 ≠ N ∧ N + 4 ≠ N ∧ N + 2 ≠ N + 1 ∧ N + 3 ≠ N + 1 ∧ N + 4 ≠ N + 1 ∧ N + 3 ≠ N + 2 ∧ N + 4 ≠ N + 2 ∧ N + 4 ≠ N + 3 := by omega
section
variable {H : Hp} {N : Addr} {S1 S2 : Src} {t1 t2 : Tok}
theorem zipH_4 : zipH H N S1 S2 t1 t2 (N + 4) = some (xo (N + 4) (zipOb N)) := upd_same
theorem zipH_3 : zipH H N S1 S2 t1 t2 (N + 3) = some (xo (N + 3) (tupOb .none .none)) := by
  unfold zipH
  rw [upd_ne (n5 N).2.2.2.2.2.2.2.2.2.symm]; exact upd_same
theorem zipH_2 : zipH H N S1 S2 t1 t2 (N + 2) = some (xo (N + 2) (tupOb (.ref N) (.ref (N + 1)))) := by
  unfold zipH
  rw [upd_ne (n5 N).2.2.2.2.2.2.2.2.1.symm, upd_ne (n5 N).2.2.2.2.2.2.2.1.symm]; exact upd_same
theorem zipH_1 : zipH H N S1 S2 t1 t2 (N + 1) = some (xo (N + 1) (S2.obj t2)) := by
  unfold zipH
  rw [upd_ne (n5 N).2.2.2.2.2.2.1.symm, upd_ne (n5 N).2.2.2.2.2.1.symm, upd_ne (n5 N).2.2.2.2.1.symm]; exact upd_same
theorem zipH_0 : zipH H N S1 S2 t1 t2 N = some (xo N (S1.obj t1)) := by
  unfold zipH
  rw [upd_ne (n5 N).2.2.2.1.symm, upd_ne (n5 N).2.2.1.symm, upd_ne (n5 N).2.1.symm, upd_ne (n5 N).1.symm]; exact upd_same
theorem zipH_else {b : Addr} (h : b ≠ N ∧ b ≠ N + 1 ∧ b ≠ N + 2 ∧ b ≠ N + 3 ∧ b ≠ N + 4) : zipH H N S1 S2 t1 t2 b = H b := by
  unfold zipH
  rw [upd_ne h.2.2.2.2, upd_ne h.2.2.2.1, upd_ne h.2.2.1, upd_ne h.2.1, upd_ne h.1]
theorem zipH_cases {b : Addr} {u : HO} (h : zipH H N S1 S2 t1 t2 b = some u) : H b = some u ∨ (∃ ob, u = xo b ob ∧ ((b = N ∧ ob = S1.obj t1) ∨ (b = N + 1 ∧ ob = S2.obj t2) ∨ (b = N + 2 ∧ ob = tupOb (.ref N) (.ref (N + 1))) ∨ (b = N + 3 ∧ ob = tupOb .none .none) ∨ (b = N + 4 ∧ ob = zipOb N))) := by
  by_cases e4 : b = N + 4
  · subst e4; rw [zipH_4] at h; cases h; exact .inr ⟨_, rfl, by simp⟩
  by_cases e3 : b = N + 3
  · subst e3; rw [zipH_3] at h; cases h; exact .inr ⟨_, rfl, by simp⟩
  by_cases e2 : b = N + 2
  · subst e2; rw [zipH_2] at h; cases h; exact .inr ⟨_, rfl, by simp⟩
  by_cases e1 : b = N + 1
  · subst e1; rw [zipH_1] at h; cases h; exact .inr ⟨_, rfl, by simp⟩
  by_cases e0 : b = N
  · subst e0; rw [zipH_0] at h; cases h; exact .inr ⟨_, rfl, by simp⟩
  rw [zipH_else ⟨e0, e1, e2, e3, e4⟩] at h
  exact .inl h
theorem zipH_drop (f : Free5 H N) : ItX.dropH (ItX.dropH (ItX.dropH (ItX.dropH (ItX.dropH (zipH H N S1 S2 t1 t2) (N + 4)) (N + 3)) (N + 2)) (N + 1)) N = H := by
  obtain ⟨f0, f1, f2, f3, f4⟩ := f
  obtain ⟨a1, a2, a3, a4, b2, b3, b4, c3, c4, d4⟩ := n5 N
  unfold zipH
  rw [ItX.dropH_upd (by rw [upd_ne d4, upd_ne c4, upd_ne b4, upd_ne a4]; exact f4), ItX.dropH_upd (by rw [upd_ne c3, upd_ne b3, upd_ne a3]; exact f3), ItX.dropH_upd (by rw [upd_ne b2, upd_ne a2]; exact f2), ItX.dropH_upd (by rw [upd_ne a1]; exact f1), ItX.dropH_upd f0]
end
section
variable {X : Cx} {a b : Expr} {ta : TA} {p pos tpos : Pos} {elts : List Expr} {kk k : Nat} {x : Str}
/-- zip(a, b) as a value: n the size of the heap at the start of the def -/
def tZV (K : PySem.W.Frag) (n : Nat) (ta : TA) : TE := fun σ H Q => ta σ H fun vs H1 => ∃ S1 S2 : Src, vs = [S1.v, S2.v] ∧ S1.ok K H1 ∧ S2.ok K H1 ∧
  ∀ (N : Addr) (t1 t2 : Tok), n ≤ N → Free5 H1 N → (∀ b ∈ S1.cad, b < N) → (∀ b ∈ S2.cad, b < N) → Q (.ref (N + 4)) (zipH H1 N S1 S2 t1 t2)
theorem pe_zv (hg : Gl X "zip") (hm : X.mg "zip" = none) (ha : PA X [a, b] ta) (hs : starEach [a, b] X.env = (false, eval a X.env) :: starEach [b] X.env := by rfl) (hpl : (backTo pos (starEach [b] X.env)).any (·.1) = false := by rfl) :
    PE X (.Call (.Name "zip" p) [a, b] [] pos) (tZV X.K X.s_0.heap.objs.size ta) := by
  refine ⟨fun pins s σ H R I h => ?_⟩
  refine Call_ (ld_blt I hg hm PyProof.Rows.boot_zip (PyProof.Rows.callWith_type1 (thn (ha.run pos pins s σ H _ I h) fun us s1 ⟨vs, H1, I1, r1, q1⟩ => ?_) hs hpl))
  obtain ⟨S1, S2, rfl, ok1, ok2, q⟩ := q1
  obtain ⟨u1, u2, rfl, r, r'⟩ := vals2 r1
  obtain ⟨t1, rfl⟩ := Src.rel r
  obtain ⟨t2, rfl⟩ := Src.rel r'
  obtain ⟨its1, c1, _⟩ := Src.content I1 ok1
  obtain ⟨its2, c2, _⟩ := Src.content I1 ok2
  refine zip_begins2 (Src.begins S1 t1 its1) (Src.begins S2 t2 its2) c1 c2 fun h' hz hTI hTO h1 h2 hsz hk => ?_
  have fr : ∀ j, H1 (s1.heap.objs.size + j) = none := fun j => I1.hok.fresh (Nat.le_add_right _ _)
  refine ⟨.ref (s1.heap.objs.size + 4), zipH H1 s1.heap.objs.size S1 S2 t1 t2, turnedAll (ch := []) (t' := s1.toks) I1 (fun b o _ e => hk b o e) (fun b hb => nomatch hb) (fun b u e => ?_) (fun b hb e => ?_) (fun b u e => ?_), rfl, q _ t1 t2 I1.sz ⟨fr 0, fr 1, fr 2, fr 3, fr 4⟩ (Src.cad_lt c1) (Src.cad_lt c2)⟩
  · have ne : ∀ j, b ≠ s1.heap.objs.size + j := fun j z => by rw [z, fr j] at e; cases e
    rw [zipH_else (N := s1.heap.objs.size) ⟨ne 0, ne 1, ne 2, ne 3, ne 4⟩]; exact e
  · have ne : ∀ j, b ≠ s1.heap.objs.size + j := fun j z => absurd hb (by rw [z]; exact Nat.not_lt.mpr (Nat.le_add_right _ _))
    rw [zipH_else (N := s1.heap.objs.size) ⟨ne 0, ne 1, ne 2, ne 3, ne 4⟩]; exact e
  · rcases zipH_cases e with e | ⟨ob, rfl, hb⟩
    · exact .inl e
    · right
      have at_ : h'.get? b = some ob := by
        rcases hb with ⟨rfl, rfl⟩ | ⟨rfl, rfl⟩ | ⟨rfl, rfl⟩ | ⟨rfl, rfl⟩ | ⟨rfl, rfl⟩
        · exact h1
        · exact h2
        · exact hTI
        · exact hTO
        · exact hz
      exact ⟨at_, ⟨_, at_⟩, fun g1 g2 q1 q2 => q2 _ q1⟩
/-- the zip that the name at k holds; behind it it is forgotten -/
def iZv (K : PySem.W.Frag) (n k : Nat) : TI := fun σ H R => ∃ (N : Addr) (S1 S2 : Src) (t1 t2 : Tok) (H1 : Hp), σ[k]? = some (some (.ref (N + 4))) ∧ H = zipH H1 N S1 S2 t1 t2 ∧ n ≤ N ∧ Free5 H1 N ∧ (∀ b ∈ S1.cad, b < N) ∧ (∀ b ∈ S2.cad, b < N) ∧ R (ItZ K S1 S2) H1
theorem pi_zv (hN : X.N[k]? = some x) (hv : Vis X.env.scope x) (hd : (x == ("__debug__" : Str)) = false := by decide) (hcd : (x == ("__classdict__" : Str)) = false := by decide) : PI X (.Tuple elts kk tpos) (.Name x p) (iZv X.K X.s_0.heap.objs.size k) := by
  refine ⟨fun pins s σ H R I h => ?_⟩
  obtain ⟨N, S1, S2, t1, t2, H1, hs, rfl, hn, hf, a1, a2, q⟩ := h
  refine thn ((pe_var (pos := p) (i := k) hN hv hd hcd).run pins s σ _ (fun v H2 => v = .ref (N + 4) ∧ H2 = zipH H1 N S1 S2 t1 t2) I ⟨.ref (N + 4), hs, rfl, rfl⟩) fun u s1 ⟨v, H2, I1, r1, ev, eH⟩ => ?_
  subst ev
  rw [eH] at I1
  cases r1
  have g : ∀ b ob, zipH H1 N S1 S2 t1 t2 b = some (xo b ob) → s1.heap.get? b = some ob := fun b ob e => (show ObjOk X.prog X.w _ s1.heap b (xo b ob) from I1.hok b _ e).1
  have g0 := g _ _ zipH_0
  have g1 := g _ _ zipH_1
  have g2 := g _ _ zipH_2
  have g3 := g _ _ zipH_3
  have g4 := g _ _ zipH_4
  have fp : ∀ b u, zipH H1 N S1 S2 t1 t2 b = some u → H1 b = none → X.s_0.heap.objs.size ≤ b → FpOk X pins H1 b := fun b u e n l => ⟨n, (ItX.inv_fp I1 e l).2⟩
  obtain ⟨m1, m2, m3, m4, b2, b3, b4, c3, c4, d4⟩ := n5 N
  have I2 := ItX.inv_drop (ItX.inv_drop (ItX.inv_drop (ItX.inv_drop (ItX.inv_drop I1 zipH_4) (by rw [ItX.dropH_ne d4.symm]; exact zipH_3)) (by rw [ItX.dropH_ne c3.symm, ItX.dropH_ne c4.symm]; exact zipH_2)) (by rw [ItX.dropH_ne b2.symm, ItX.dropH_ne b3.symm, ItX.dropH_ne b4.symm]; exact zipH_1)) (by rw [ItX.dropH_ne m1.symm, ItX.dropH_ne m2.symm, ItX.dropH_ne m3.symm, ItX.dropH_ne m4.symm]; exact zipH_0)
  rw [zipH_drop hf] at I2
  refine wpAny_pyIter_zip g4 ?_
  refine ⟨N + 4, _, _, _, H1, rfl, I2, turn_Z (t1 := t1) (t2 := t2) a1 a2, ⟨g4, g2, ⟨_, _, g3⟩, Src.tn0 g0, Src.tn0 g1⟩, fun d hd => ?_, q⟩
  obtain ⟨f0, f1, f2, f3, f4⟩ := hf
  have e' : d = N + 4 ∨ d = N + 2 ∨ d = N + 3 ∨ d = N ∨ d = N + 1 := by simpa using hd
  rcases e' with z | z | z | z | z
  · rw [z]; exact fp _ _ zipH_4 f4 (Nat.le_trans hn (Nat.le_add_right _ _))
  · rw [z]; exact fp _ _ zipH_2 f2 (Nat.le_trans hn (Nat.le_add_right _ _))
  · rw [z]; exact fp _ _ zipH_3 f3 (Nat.le_trans hn (Nat.le_add_right _ _))
  · rw [z]; exact fp _ _ zipH_0 f0 hn
  · rw [z]; exact fp _ _ zipH_1 f1 (Nat.le_trans hn (Nat.le_add_right _ _))
end
/-- what the two statements come to -/
def sZipSum (i : Nat) (fa : Ev (List D)) (vs : List Nat) (g : Pat) (ft : Ev Bool) (fe : Ev D) : Sm := fun ρ M => if i < ρ.length then (fa ρ M).out fun xs M1 => match xs with
  | [x, y] => (Rs.of ((seqItems x).bind fun xs => (seqItems y).map fun ys => zipD xs ys) M1).out fun zs M1 =>
    ((if zs.length ≤ 16777216 then lcGo g ft fe (wipeR (ρ.set i .un) vs) zs M1 else .bad).bnd fun ys M2 => Rs.of (dSum [.list ys]) M2).out fun r M2 => .ret r M2
  | _ => .bad else .bad
theorem jb_zipSum {c : Sc} {i : Nat} {x : Str} {a b elt : Expr} {elts : List Expr} {kk : Nat} {tpos : Pos} {ifs : List Expr} {scope : Scope} {own : List (Str × Nat)} {ws : List Nat} {g : Pat} {ft : Ev Bool} {fe : Ev D} {fa : Ev (List D)} {p p1 p2 p3 pos pos2 pos3 pos4 lpos : Pos} (hN : c.N.Nodup) (hi : c.N[i]? = some x) (hx : Loc c.sc x) (hv : Vis c.sc x) (hst : c.st x = true)
    (ha : RL c [a, b] fa) (hg : c.sc.names.lookup ("zip" : Str) = some .globalImplicit) (hm : c.mg "zip" = none) (hg2 : c.sc.names.lookup ("sum" : Str) = some .globalImplicit) (hm2 : c.mg "sum" = none) (ok : BlkOk c.N c.sc scope own)
    (hp : RP (blk c scope) (.Tuple elts kk tpos) ws g) (hw : ∀ i ∈ ws, i ∈ own.map (·.2)) (ht : RTs (blk c scope) ifs ft) (he : RE (blk c scope) elt fe)
    (hsw : ∀ env, env.scope = c.sc → swapsWith (.Call (.Name "zip" p2) [a, b] [] pos2) (some (.Name x p1)) pos.line env = pure false)
    (hs : ∀ env, starEach [a, b] env = (false, eval a env) :: starEach [b] env := by intro _; rfl) (hpl : ∀ env, (backTo pos2 (starEach [b] env)).any (·.1) = false := by intro _; rfl)
    (hs2 : ∀ env, starEach [.ListComp elt [⟨.Tuple elts kk tpos, .Name x p3, ifs, 0⟩] scope lpos] env = (false, eval (.ListComp elt [⟨.Tuple elts kk tpos, .Name x p3, ifs, 0⟩] scope lpos) env) :: starEach [] env := by intro _; rfl) (hpl2 : ∀ env, (backTo pos4 (starEach [] env)).any (·.1) = false := by intro _; rfl)
    (hfs : ∀ env y, foldedSetIterable (.Name x p3) env y = pure y := by intro _ _; rfl) (hd : (x == ("__debug__" : Str)) = false := by decide) (hcd : (x == ("__classdict__" : Str)) = false := by decide) :
    JB c [.Assign [.Name x p1] (.Call (.Name "zip" p2) [a, b] [] pos2) pos, .Return (some (.Call (.Name "sum" p) [.ListComp elt [⟨.Tuple elts kk tpos, .Name x p3, ifs, 0⟩] scope lpos] [] pos4)) pos3] (sZipSum i fa (own.map (·.2)) g ft fe) := by
  obtain ⟨ta, pa, sa⟩ := ha
  obtain ⟨tg', pg, sg⟩ := hp
  obtain ⟨tt, pt, st⟩ := ht
  obtain ⟨te, pe, se⟩ := he
  obtain ⟨r, o1, o2⟩ := cx_sum (c := c)
  refine ⟨fun E D σ H => ∀ n, tSeq (tAsg (tZV c.K n (ta E)) (gName i)) (tRet (tCB r (tCons (tLc (iZv c.K n i) tg' (tt noE) (te noE) (own.map (·.2))) tNil))) D σ H, fun X E gd ps => ?_, fun B G σ H ρ M Dn E rl h n => ?_⟩
  · have q : PSs X _ (tSeq (tAsg (tZV X.K X.s_0.heap.objs.size (ta E)) (gName i)) (tRet (tCB r (tCons (tLc (iZv X.K X.s_0.heap.objs.size i) tg' (tt noE) (te noE) (own.map (·.2))) tNil)))) :=
      pss_cons (ps_set (pos := pos) (pos' := p1) (by rw [gd.N]; exact hN) (by rw [gd.N]; exact hi) (by rw [gd.sc]; exact hx) (pe_zv (p := p2) (pos := pos2) (glI gd hg) (by rw [gd.mg]; exact hm) (pa X E gd ps.ps) (hs _) (hpl _)) (hsw _ gd.sc) (gd.st x hst))
        (pss_one (ps_ret (pos := pos3) (pe_callB (p := p) (pos := pos4) (o1 X gd) (glI gd hg2) (by rw [gd.mg]; exact hm2) rfl (pa_cons (pe_lc (pos := lpos) gd.calm (by rw [gd.N]; exact hN) (pi_zv (p := p3) (by rw [gd.N]; exact hi) (vis_of gd hv) hd hcd) (by rw [gd.N, gd.sc]; exact ok) (fun s H C cl fp => pg _ (good_blk gd s H C cl fp))
          (fun s H C cl fp => pt _ _ (good_blk gd s H C cl fp) (psx_blk gd s H C cl fp)) (fun s H C cl fp => pe _ _ (good_blk gd s H C cl fp) (psx_blk gd s H C cl fp)) (hfs _)) pa_nil (hs2 _)) (by decide) (by decide) (hs2 _) (hpl2 _))))
    rw [gd.K] at q
    exact ⟨fun pins s σ H D I z => q.run pins s σ H D I (z _)⟩
  · unfold sZipSum at h
    split at h
    · rename_i hil
      refine sa.stm rl h fun xs M1 vs G1 H1 h1 s1 g1 d1 rl1 => ?_
      split at h1
      · rename_i x0 y0
        rw [outSat_out] at h1
        obtain ⟨z, e, h2⟩ := sat_of.mp h1
        obtain ⟨us, wz, e1, e2, rfl⟩ := zip_sat e
        obtain ⟨v, rr, rfl, dv, d2⟩ := DtA.cons_iff.mp d1
        obtain ⟨w, rr, rfl, dw, d3⟩ := DtA.cons_iff.mp d2
        have := DtA.nil_iff.mp d3
        subst this
        obtain ⟨S1, rfl, q1⟩ := src_of (vw := true) g1 (View.of g1 dv) (stays_dt g1 dv) e1
        obtain ⟨S2, rfl, q2⟩ := src_of (vw := true) g1 (View.of g1 dw) (stays_dt g1 dw) e2
        refine ⟨S1, S2, rfl, q1.1, q2.1, fun N t1 t2 hn hf a1 a2 => ?_⟩
        have hl : i < σ.length := by rw [rl1.ln]; exact hil
        have rl2 : Rl c.K B G1 (σ.set i (some (.ref (N + 4)))) H1 (ρ.set i .un) M1 := rl1.set i (x := .un) trivial fun xs e => nomatch e
        rw [outSat_out, sat_bnd] at h2
        have h3 := fwd rl2.st h2
        refine ⟨N, S1, S2, t1, t2, H1, List.getElem?_set_self hl, rfl, hn, hf, a1, a2, ?_⟩
        have fin := lc_at (B := B) (G := G1) (H := H1) (E := E) (Q := fun v H2 => r [v] H2 Dn.rt) sg hw st se (itZ_ok q1 q2) rl2 (.refl g1) g1 (h3.mono (fun ys M2 φ v G' H' s' g' rf => by
          obtain ⟨z, e, ret⟩ := sat_of.mp φ
          obtain ⟨l, us, rfl, _, k1, _, np, kt⟩ := rf
          exact o2 B.p G' H' M2 [.list ys] z [.ref l] Dn.rt g' (.cons ⟨l, us, rfl, k1, kt, np⟩ .nil) e fun v' G2 H2 s2 g2 d2 => ret v' G2 H2 (rl2.st.trans (s'.trans s2)) g2 d2) fun _ _ _ z => z)
        exact fin
      · exact h1.elim
    · exact h.elim
end RL

set_option Elab.async false
set_option linter.all false
set_option maxRecDepth 100000
set_option maxHeartbeats 2000000
/-! a list of lists of one's own, changed through a name for one of them -/
namespace RL
open PySem PySem.Spec PyProof.Rows L2
/-- own lists at bs, held by the list at a -/
structure Nst (K : PySem.W.Frag) (p : Pt) (G H : Hp) (a : Addr) (bs : List Addr) (dss : List (List D)) : Prop where
  at_ : H a = some (.lst (bs.map V.ref))
  ng : G a = none
  np : p ≠ some a
  ln : bs.length = dss.length
  it : ∀ (k : Nat) b ds, bs[k]? = some b → dss[k]? = some ds → ∃ vs, H b = some (.lst vs) ∧ DtA K G ds vs ∧ G b = none ∧ p ≠ some b ∧ b ≠ a
  nd : ∀ (j k : Nat) b, bs[j]? = some b → bs[k]? = some b → j = k
section
variable {K : PySem.W.Frag} {p : Pt} {G H G' H' : Hp} {a : Addr} {bs : List Addr} {dss : List (List D)} {M : List Int}
theorem Stp.out {o : HO} (s : Stp p G H G' H') (n : G a = none) (h : H a = some o) : G' a = none := by
  cases q : G' a with
  | none => rfl
  | some u => have z := s.n a u q n; rw [h] at z; cases z
theorem Nst.step (s : Stp p G H G' H') (h : Nst K p G H a bs dss) : Nst K p G' H' a bs dss where
  at_ := s.h _ _ h.np h.at_
  ng := s.out h.ng h.at_
  np := h.np
  ln := h.ln
  it := fun k b ds e1 e2 => by
    obtain ⟨vs, h1, h2, h3, h4, h5⟩ := h.it k b ds e1 e2
    exact ⟨vs, s.h _ _ h4 h1, DtA.mono s.g _ _ h2, s.out h3 h1, h4, h5⟩
  nd := h.nd
theorem Nst.get (h : Nst K p G H a bs dss) {b : Addr} (m : b ∈ bs) : ∃ (k : Nat) (ds : List D), bs[k]? = some b ∧ dss[k]? = some ds := by
  obtain ⟨k, hk⟩ := List.mem_iff_getElem?.mp m
  have hl : k < bs.length := (List.getElem?_eq_some_iff.mp hk).1
  exact ⟨k, dss[k]'(by rw [← h.ln]; exact hl), hk, List.getElem?_eq_getElem _⟩
theorem Nst.push {ds : List D} {v : V} (h : Nst K p G H a bs dss) (s : Stp p G H G' H') (r : RFr K p G H G' H' ds v) : ∃ b, v = .ref b ∧ H b = none ∧ Nst K p G' (upd H' a (.lst ((bs ++ [b]).map V.ref))) a (bs ++ [b]) (dss ++ [ds]) := by
  obtain ⟨b, vs, rfl, n, h1, n1, np, t⟩ := r
  have h' := h.step s
  have hba : b ≠ a := fun e => by subst e; rw [h.at_] at n; cases n
  have nin : ∀ k : Nat, bs[k]? ≠ some b := fun k e => by
    obtain ⟨k', ds', _, e2⟩ := h.get (List.mem_of_getElem? e)
    obtain ⟨vs, h1, _⟩ := h.it k b (dss[k]'(by rw [← h.ln]; exact (List.getElem?_eq_some_iff.mp e).1)) e (List.getElem?_eq_getElem _)
    rw [n] at h1; cases h1
  refine ⟨b, rfl, n, upd_same, h'.ng, h'.np, by simp [h.ln], fun k c ds' e1 e2 => ?_, fun j k c e1 e2 => ?_⟩
  · by_cases hk : k < bs.length
    · rw [List.getElem?_append_left hk] at e1
      rw [List.getElem?_append_left (by rw [← h.ln]; exact hk)] at e2
      obtain ⟨ws, q1, q2, q3, q4, q5⟩ := h'.it k c ds' e1 e2
      exact ⟨ws, by rw [upd_ne q5]; exact q1, q2, q3, q4, q5⟩
    · rw [List.getElem?_append_right (by omega)] at e1
      rw [List.getElem?_append_right (by rw [← h.ln]; omega), ← h.ln] at e2
      cases hz : k - bs.length with
      | zero =>
        rw [hz] at e1 e2
        simp at e1 e2; subst e1 e2
        exact ⟨vs, by rw [upd_ne hba]; exact h1, t, n1, np, hba⟩
      | succ z => rw [hz] at e1; simp at e1
  · have at_ : ∀ i : Nat, (bs ++ [b])[i]? = some c → (i < bs.length ∧ bs[i]? = some c) ∨ (i = bs.length ∧ c = b) := fun i e => by
      by_cases hk : i < bs.length
      · rw [List.getElem?_append_left hk] at e; exact .inl ⟨hk, e⟩
      · rw [List.getElem?_append_right (by omega)] at e
        cases hz : i - bs.length with
        | zero => rw [hz] at e; simp at e; exact .inr ⟨by omega, e.symm⟩
        | succ z => rw [hz] at e; simp at e
    rcases at_ j e1 with ⟨l1, f1⟩ | ⟨l1, rfl⟩
    · rcases at_ k e2 with ⟨l2, f2⟩ | ⟨l2, rfl⟩
      · exact h.nd j k c f1 f2
      · exact (nin j f1).elim
    · rcases at_ k e2 with ⟨l2, f2⟩ | ⟨l2, _⟩
      · exact (nin k f2).elim
      · omega
/-- one of them is written again -/
theorem Nst.put {j : Nat} {b : Addr} {ds : List D} {vs : List V} (h : Nst K p G H a bs dss) (hj : bs[j]? = some b) (t : DtA K G ds vs) : Nst K p G (upd H b (.lst vs)) a bs (dss.set j ds) := by
  have hjl : j < bs.length := (List.getElem?_eq_some_iff.mp hj).1
  obtain ⟨ws, q1, q2, q3, q4, q5⟩ := h.it j b (dss[j]'(by rw [← h.ln]; exact hjl)) hj (List.getElem?_eq_getElem _)
  refine ⟨by rw [upd_ne (Ne.symm q5)]; exact h.at_, h.ng, h.np, by rw [List.length_set]; exact h.ln, fun k c ds' e1 e2 => ?_, h.nd⟩
  rcases get_set e2 with ⟨rfl, rfl, _⟩ | ⟨ne, e2⟩
  · rw [hj] at e1; cases e1
    exact ⟨vs, upd_same, t, q3, q4, q5⟩
  · obtain ⟨us, r1, r2, r3, r4, r5⟩ := h.it k c ds' e1 e2
    exact ⟨us, by rw [upd_ne (fun z => ne (by subst z; exact h.nd j k _ hj e1))]; exact r1, r2, r3, r4, r5⟩
/-- all of them as data -/
noncomputable def frzN (G H : Hp) (a : Addr) (bs : List Addr) : Hp := fun x => @ite _ (x = a ∨ x ∈ bs) (Classical.propDecidable _) (H x) (G x)
theorem frzN_in {x : Addr} (h : x = a ∨ x ∈ bs) : frzN G H a bs x = H x := if_pos h
theorem frzN_out {x : Addr} (h : ¬ (x = a ∨ x ∈ bs)) : frzN G H a bs x = G x := if_neg h
theorem Nst.none (h : Nst K p G H a bs dss) {x : Addr} (m : x = a ∨ x ∈ bs) : G x = none := by
  rcases m with rfl | m
  · exact h.ng
  · obtain ⟨k, ds, e1, e2⟩ := h.get m
    obtain ⟨vs, _, _, q, _⟩ := h.it k x ds e1 e2
    exact q
theorem Nst.npm (h : Nst K p G H a bs dss) {x : Addr} (m : x = a ∨ x ∈ bs) : p ≠ some x := by
  rcases m with rfl | m
  · exact h.np
  · obtain ⟨k, ds, e1, e2⟩ := h.get m
    obtain ⟨vs, _, _, _, q, _⟩ := h.it k x ds e1 e2
    exact q
theorem Nst.ex (h : Nst K p G H a bs dss) : Ex G (frzN G H a bs) := fun x o e => by
  by_cases m : x = a ∨ x ∈ bs
  · rw [h.none m] at e; cases e
  · rw [frzN_out m]; exact e
theorem Nst.gr (h : Nst K p G H a bs dss) (g : Gr p G H M) : Gr p (frzN G H a bs) H M where
  gh := fun x o e => by
    by_cases m : x = a ∨ x ∈ bs
    · rw [frzN_in m] at e; exact e
    · rw [frzN_out m] at e; exact g.gh x o e
  pot := g.pot
  pg := fun q e => by
    have m : ¬ (q = a ∨ q ∈ bs) := fun m => h.npm m e
    rw [frzN_out m]; exact g.pg q e
theorem Nst.dt (h : Nst K p G H a bs dss) : Dt K (frzN G H a bs) (.list (dss.map .list)) (.ref a) := by
  simp only [Dt]
  refine ⟨a, bs.map V.ref, rfl, by rw [frzN_in (.inl rfl)]; exact h.at_, ?_⟩
  have go : ∀ (dss' : List (List D)) (bs' : List Addr), bs'.length = dss'.length → (∀ (k : Nat) b ds, bs'[k]? = some b → dss'[k]? = some ds → b ∈ bs ∧ ∃ vs, H b = some (.lst vs) ∧ DtA K G ds vs) → DtA K (frzN G H a bs) (dss'.map PyData.list) (bs'.map V.ref) := by
    intro dss'
    induction dss' with
    | nil => intro bs' hl _; cases bs' with | nil => exact DtA.nil | cons _ _ => simp at hl
    | cons ds dss' ih =>
      intro bs' hl hk
      cases bs' with
      | nil => simp at hl
      | cons b bs' =>
        obtain ⟨m, vs, q1, q2⟩ := hk 0 b ds rfl rfl
        refine .cons ?_ (ih bs' (by simpa using hl) fun k b' ds' e1 e2 => hk (k + 1) b' ds' (by simpa using e1) (by simpa using e2))
        simp only [Dt]
        exact ⟨b, vs, rfl, by rw [frzN_in (.inr m)]; exact q1, DtA.mono h.ex _ _ q2⟩
  exact go dss bs h.ln fun k b ds e1 e2 => by
    obtain ⟨vs, q1, q2, _⟩ := h.it k b ds e1 e2
    exact ⟨List.mem_of_getElem? e1, vs, q1, q2⟩
end
/-! ### a comprehension of own lists -/
def RNs (K : PySem.W.Frag) : Rsl (List (List D)) V := fun p _ H G' H' dss v => ∃ a bs, v = .ref a ∧ Nst K p G' H' a bs dss ∧ H a = none ∧ ∀ b ∈ bs, H b = none
def lcGoN (g : Pat) (fe : Ev (List D)) (ρ : Rho) : List D → List Int → Rs (List (List D))
  | [], M => .ok [] M
  | x :: xs, M => match g x ρ with
    | none => .bad
    | some ρ1 => (fe ρ1 M).nox.bnd fun y M2 => (lcGoN g fe ρ xs M2).bnd fun ys M3 => .ok (y :: ys) M3
def fLcN (vs : List Nat) (g : Pat) (fe : Ev (List D)) (fi : Ev (List D)) : Ev (List (List D)) := fun ρ M => (fi ρ M).bnd fun xs M1 => if xs.length ≤ 16777216 then lcGoN g fe (wipeR ρ vs) xs M1 else .bad
section
variable {α β : Type} {c : Sc} {B : Bs} {G : Hp} {σ : L2.St} {H : Hp} {ρ : Rho} {M : List Int} {E : XK}
theorem SdX.lcN {ws vs0 : List Nat} {wi : TX It} {tg' : TG} {te : TX V} {g : Pat} {fe : Ev (List D)} {fi : Ev (List D)} {scope : Scope} (si : SdX c (RIt c.K true) wi fi) (sg : SdG (blk c scope) ws tg' g) (hw : ∀ i ∈ ws, i ∈ vs0)
    (se : SdX (blk c scope) (RFr c.K) te fe) : SdX c (RNs c.K) (fun E => tLc (wi E) tg' tYes (te noE) vs0) (fLcN vs0 g fe fi) := by
  intro B G σ H ρ M Q E rl h
  unfold fLcN at h
  rw [sat_bnd] at h
  refine si.use rl h fun xs M1 J G1 H1 h1 s1 g1 jt rl1 => fun D hD => ?_
  have jt : ItOk c.K B.p true J G1 H1 xs := jt
  split at h1
  · rename_i hlen
    have hDp := g1.nep hD
    refine ⟨fun i m Hi => ∃ Gi Mi acd bs, m = xs.length - i ∧ i ≤ xs.length ∧ Stp B.p G1 H1 Gi Hi ∧ Gr B.p Gi Hi Mi ∧ Nst c.K B.p Gi Hi D bs acd ∧ (∀ b ∈ bs, H1 b = none) ∧ acd.length ≤ i ∧
      (lcGoN g fe (wipeR ρ vs0) (xs.drop i) Mi).Sat (fun ys M' => ∀ v G' H', Stp B.p G H G' H' → Gr B.p G' H' M' → RNs c.K B.p G H G' H' (acd ++ ys) v → Q v H') (XP c.toWb B.p G H E),
      ⟨xs.length, G1, M1, [], [], rfl, Nat.zero_le _, .put g1 hD, g1.put hD, ⟨upd_same, g1.free hD, hDp, rfl, fun k b ds e => by simp at e, fun j k b e => by simp at e⟩, (fun b hb => nomatch hb), Nat.le_refl _, by simpa using h1⟩, ?_⟩
    rintro i m Hi ⟨Gi, Mi, acd, bs, rfl, hi, sti, gi, ns, hbs, hal, φ⟩
    obtain ⟨js, jg⟩ := jt i Gi Hi Mi sti.g (fun _ a o ne h => sti.h a o ne h) gi
    by_cases hlt : i < xs.length
    · have hx : xs[i]? = some xs[i] := List.getElem?_eq_getElem hlt
      rw [List.drop_eq_getElem_cons hlt] at φ
      unfold lcGoN at φ
      obtain ⟨go, yl⟩ := jg _ hx
      refine .inr ⟨go, fun H' => ∃ G' M' acd' bs', Stp B.p G1 H1 G' H' ∧ Gr B.p G' H' M' ∧ Nst c.K B.p G' H' D bs' acd' ∧ (∀ b ∈ bs', H1 b = none) ∧ acd'.length ≤ i + 1 ∧
        (lcGoN g fe (wipeR ρ vs0) (xs.drop (i + 1)) M').Sat (fun ys M'' => ∀ v G' H', Stp B.p G H G' H' → Gr B.p G' H' M'' → RNs c.K B.p G H G' H' (acd' ++ ys) v → Q v H') (XP c.toWb B.p G H E),
        fun H' ⟨G', M', acd', bs', z1, z2, z3, z4, z5, z6⟩ => ⟨_, by omega, G', M', acd', bs', rfl, hlt, z1, z2, z3, z4, z5, z6⟩, fun v H' y => ?_⟩
      obtain ⟨G', s2, g2, d2⟩ := yl v H' y
      cases hp : g xs[i] (wipeR ρ vs0) with
      | none => rw [hp] at φ; exact φ.elim
      | some ρ1 =>
        rw [hp] at φ
        have rlw : Rl c.K B G' (wipe σ vs0) H' (wipeR ρ vs0) Mi := (rl1.step (sti.trans s2) g2).wipe _
        refine sg B G' _ H' _ Mi xs[i] v ρ1 _ rlw d2 hp fun σ2 rl2 w2 => ⟨(wipe_mono w2 hw).trans (wipe_idem _ _), ?_⟩
        rw [sat_bnd] at φ
        show te noE σ2 H' _
        refine SdX.use (Φ := fun y M2 => Rs.Sat ((lcGoN g fe (wipeR ρ vs0) (xs.drop (i + 1)) M2).bnd fun ys M3 => .ok (y :: ys) M3) (fun ys M' => ∀ v G' H', Stp B.p G H G' H' → Gr B.p G' H' M' → RNs c.K B.p G H G' H' (acd ++ ys) v → Q v H') (XP c.toWb B.p G H E))
            se rl2 (sat_nox φ) fun y M3 v4 G4 H4 φ3 s4 g4 d4 rl4 => ?_
        have ns2 := ns.step s2
        obtain ⟨b, rfl, nb, ns4⟩ := ns2.push s4 d4
        have D4 : H4 D = some (.lst (bs.map V.ref)) := s4.h D _ hDp ns2.at_
        have st4 := (sti.trans s2).trans s4
        refine ⟨_, D4, ?_, G4, M3, acd ++ [y], bs ++ [b], ?_, ?_, ?_, ?_, by rw [List.length_append, List.length_singleton]; omega, ?_⟩
        · have := ns.ln
          rw [List.length_map, sizeLine_eq]; omega
        · exact ⟨st4.g, fun b u ne hb => by rw [upd_ne (fun e => by subst e; rw [hD] at hb; cases hb)]; exact st4.h b u ne hb, st4.n, st4.p⟩
        · exact ⟨fun b u hb => by rw [upd_ne (fun e => by subst e; rw [ns4.ng] at hb; cases hb)]; exact g4.gh b u hb, upd_keep hDp g4.pot, g4.pg⟩
        · have := ns4
          rw [List.map_append] at this
          exact this
        · intro b' hb'
          rcases List.mem_append.mp hb' with hb' | hb'
          · exact hbs b' hb'
          · cases List.mem_singleton.mp hb'
            exact (sti.trans s2).fresh g2 nb
        · rw [sat_bnd] at φ3
          refine φ3.mono (fun ys M' z => ?_) fun _ _ _ z => z
          rw [List.append_assoc]
          exact z
    · have e : i = xs.length := by omega
      subst e
      rw [List.drop_eq_nil_of_le (Nat.le_refl _)] at φ
      refine .inl ⟨js rfl, ?_⟩
      have z := φ (.ref D) Gi Hi (s1.trans sti) gi
      rw [List.append_nil] at z
      exact z ⟨D, bs, rfl, ns, s1.fresh g1 hD, fun b hb => s1.fresh g1 (hbs b hb)⟩
  · exact h1.elim
end
/-! ### a def's promise by values -/
structure FnP (c : Wb) (k : Nat) (f : Addr) (fd : FuncData) (ps : List Str) (sp : Sp) : Prop where
  len : ∀ vs H Q E, sp vs H Q E → vs.length = ps.length
  run : ∀ (A : Around) (outer : List Env) (s : Shared) (H : Hp) (args : Args) (us : List Value) (vs : List V) (Q : VK) (E : XK), Room k A → A.guards = some [] → Env0 c.P c.w c.K c.mg c.base A outer s H →
    BindsTo s fd args (ps.zip us) → Vals vs us → sp vs H Q E → codeAny (model c.P c.w) A (.call (.ref f) args) (CR (L2N.CX c.P c.w) outer c.P c.w H s Q E) s
theorem FnP.imp {c : Wb} {k : Nat} {f : Addr} {fd : FuncData} {ps : List Str} {sp sp' : Sp} (h : FnP c k f fd ps sp) (i : ∀ vs H Q E, sp' vs H Q E → sp vs H Q E) : FnP c k f fd ps sp' :=
  ⟨fun vs H Q E z => h.len vs H Q E (i _ _ _ _ z), fun A outer s H args us vs Q E a1 a2 a3 a4 a5 z => h.run A outer s H args us vs Q E a1 a2 a3 a4 a5 (i _ _ _ _ z)⟩
section
variable {c : Sc} {e : Expr} {es : List Expr} {pos p : Pos}
theorem pe_fnP {k : Nat} {f : Addr} {fd : FuncData} {ps : List Str} {sp : Sp} {x : Str} {ta : TA} {X : Cx} {E : XK} (g : Good c X) (ps' : Psx c X E) (Fn : FnP c.toWb k f fd ps sp) (hk : k ≤ c.k) (hg : c.sc.names.lookup x = some .globalImplicit) (hm : c.mg x = some (.ref f)) (hkp : PySem.W.keepIn c.K (.ref f) = true)
    (hb : Binds c.K fd ps []) (pa : PA X (e :: es) ta) (hdb : (x == ("__debug__" : Str)) = false := by decide) (he : ∀ env, starEach (e :: es) env = (false, eval e env) :: starEach es env := by intro _; rfl)
    (hpl : ∀ env, (backTo pos (starEach es env)).any (·.1) = false := by intro _; rfl) : PE X (.Call (.Name x p) (e :: es) [] pos) (fun σ H Q => ta σ H fun vs H1 => sp vs H1 Q E) := by
  refine ⟨fun pins s σ H Q I h => ?_⟩
  have mX : X.mg x = some (.ref f) := by rw [g.mg]; exact hm
  refine wpAny_Call_Name_kw (ld_glob I (glI g hg) mX ?_ hdb)
  refine PySem.W.callWith_K (h₀ := X.base) I.ok.mod.kin (by rw [g.K]; exact hkp) ?_ (he X.env) (hpl X.env)
  refine thn (pa.run pos pins s σ H _ I h) fun us s1 ⟨vs, H1, I1, r, q⟩ => ⟨I1.kIn, ?_⟩
  have hl : us.length = ps.length := by rw [← r.length]; exact Fn.len _ _ _ _ q
  have bt : BindsTo s1 fd ⟨us, []⟩ (ps.zip us) := by
    have z := hb s1 us (by have := I1.kIn; rw [g.K] at this; exact this) (by rw [List.append_nil]; exact hl)
    rwa [List.append_nil] at z
  have e0 := I1.env0
  rw [g.P, g.w, g.K, g.mg, g.base] at e0
  have run := Fn.run X.A X.stack s1 H1 ⟨us, []⟩ us vs Q E (g.rm.mono hk) g.gd e0 bt r q
  rw [← g.P, ← g.w] at run
  refine wpAny_call (codeAny_mono run ?_)
  intro r' s' hq
  match r', hq with
  | .error err, hq => exact ps' pins σ H1 s1 err s' I1 (by rw [← g.P, ← g.w]; exact hq)
  | .ok (.ret u), hq => exact I1.after hq
  | .ok .next, hq => exact False.elim hq
  | .ok .brk, hq => exact False.elim hq
  | .ok .cont, hq => exact False.elim hq
theorem fnP_of {W : Wb} {k : Nat} {f : Addr} {name qual : Str} {params : Arguments} {body : List Stmt} {scope : Scope} {dV kV doc pm cdv ct oc : Value} {an od : Option Addr} {osl : Array (Option Value)} {N ps : List Str} {t : XK → TS}
    (lk : W.K.lookup f = some ⟨oc, od, .func (PySem.W.fnOf name qual params body scope dV kV doc pm an cdv ct), osl⟩) (hcd : PySem.W.codeIn W.K cdv qual = true) (S : FnScope N ps scope)
    (pt : ∀ X E, Good { toWb := W, N := N, sc := scope, st := fun _ => true, k := k } X → Pss { toWb := W, N := N, sc := scope, st := fun _ => true, k := k } X E → PSs X body (t E)) :
    FnP W (k + 1) f (PySem.W.fnOf name qual params body scope dV kV doc pm an cdv ct) ps (fun vs H Q E => vs.length = ps.length ∧ t E { nx := fun _ H' => Q .non H', rt := Q } (L2.start N vs) H) := by
  refine ⟨fun vs H Q E h => h.1, fun A outer s H args us vs Q E hr hg e0 hbd rv ⟨hl, hsp⟩ => ?_⟩
  have KX : W.K.In s.heap := e0.mod.kin.keeps fun b o e => (e0.bs b o e).1
  have lim : s.heap.NoLimit := e0.mod.nolimit.keeps fun b o e => (e0.bs b o e).1
  have kinds : ∀ y ∈ ps.zip us, scope.names.lookup y.1 = some .local ∨ (scope.names.lookup y.1 = some .cell ∧ ((cellsFrom (s.heap.objs.size + 1) scope.names []).lookup y.1).isSome = true) := by
    rintro ⟨n, v⟩ hy
    have q := S.par n (List.of_mem_zip hy).1
    exact q.imp id fun q => ⟨q, PySem.W.cellsFrom_some _ _ _ (.inl q)⟩
  refine codeAny_call_function hr.depth (KX _ _ lk) rfl S.co S.gen rfl (PySem.W.codeRec_of KX hcd) (hbd _ _ _ _ ?_)
  refine wpAny_newFunctionEnv_cells S.kind kinds fun env he s1 x => ?_
  subst he
  refine ⟨lim.keeps x.toInCall.keep, codeAny_func ?_⟩
  have I := inv_start (CX := L2N.CX W.P W.w) (E := E) S hr.hd e0 hl rv x
  have tk : L2N.Takes (cxOf (L2N.CX W.P W.w) W.P W.w W.K W.mg W.base N qual scope f cdv A outer s H E) (fun cls d _ H => E cls d H) := L2N.takes_of rfl rfl rfl rfl
  have gd : Good { toWb := W, N := N, sc := scope, st := fun _ => true, k := k } (cxOf (L2N.CX W.P W.w) W.P W.w W.K W.mg W.base N qual scope f cdv A outer s H E) :=
    ⟨rfl, rfl, rfl, rfl, rfl, rfl, rfl, rfl, hr.deeper _, hg, fun _ _ => .inl rfl⟩
  have pss : Pss { toWb := W, N := N, sc := scope, st := fun _ => true, k := k } (cxOf (L2N.CX W.P W.w) W.P W.w W.K W.mg W.base N qual scope f cdv A outer s H E) E :=
    ⟨L2N.passes_call tk fun _ _ _ _ z => z, passes_of rfl, tk⟩
  have run := (pt _ E gd pss).run [] s1 (L2.start N vs) H { nx := fun _ H' => Q .non H', rt := Q } I hsp
  refine wpAny_mono run (fun fl s' hs => ?_) fun _ _ z => z
  have fin : ∀ {σ' : L2.St} {H' : Hp} {v : V} {u : Value}, Inv (cxOf (L2N.CX W.P W.w) W.P W.w W.K W.mg W.base N qual scope f cdv A outer s H E) [] σ' H' s' → RelV v u → Q v H' → CE outer W.P W.w H s Q u s' :=
    fun J rv q => ⟨_, _, J.os, J.bare, J.base, J.hok, rv, q⟩
  match fl, hs with
  | .ret u, ⟨v, σ', H', J, rv, q⟩ => exact fin J rv q
  | .next, ⟨σ', H', J, q⟩ => exact fin (v := V.non) (u := Value.none) J rfl q
  | .brk, ⟨_, _, _, q⟩ => exact q.elim
  | .cont, ⟨_, _, _, q⟩ => exact q.elim
end
/-! ### return some[f(pot, len(some))], some a list of own lists: which one -/
def pickF (n : Nat) (fb : Ev D) (dss : List (List D)) (M : List Int) : Rs (Nat × List D) := (fb ([.pot, .d (.list (dss.map .list))] ++ List.replicate (n - 2) .un) M).nox.bnd fun k M1 => match k with
  | .int k => match ixN dss.length k with
    | some j => match dss[j]? with
      | some ds => .ok (j, ds) M1
      | none => .bad
    | none => .bad
  | _ => .bad
def spPick (W : Wb) (n : Nat) (fb : Ev D) : Sp := fun vs H Q E => ∃ p G M q a bs dss, Gr p G H M ∧ vs = [.ref q, .ref a] ∧ p = some q ∧ Nst W.K p G H a bs dss ∧
  (pickF n fb dss M).Sat (fun jd M' => ∀ b H', bs[jd.1]? = some b → dss[jd.1]? = some jd.2 → Stp p G H G H' → Gr p G H' M' → Q (.ref b) H') (fun _ _ _ => False)
theorem fnP_pick {W : Wb} {k : Nat} {f : Addr} {x qual : Str} {params : Arguments} {scope : Scope} {fd : FuncData} {y z : Str} {N : List Str} {fb : Ev D} {be : Expr} {p1 p2 p3 : Pos} (FD : FunD W.K x qual params [.Return (some (.Subscript (.Name z p1) be p2)) p3] scope [] [] f fd) (S : FnScope N [y, z] scope)
    (hN : N[1]? = some z) (hv : Vis scope z) (hb : RV (cx W N scope k) be fb) (hs : PlainIx be := by intro _ _; rfl) (hd : (z == ("__debug__" : Str)) = false := by decide) (hcd : (z == ("__classdict__" : Str)) = false := by decide) : FnP W (k + 1) f fd [y, z] (spPick W N.length fb) := by
  obtain ⟨oc, od, dV, kV, doc, pm, an, cdv, ct, osl, rfl, lk, hcd', _, _⟩ := FD.ex
  obtain ⟨tb, pb, sb⟩ := hb
  refine FnP.imp (fnP_of (t := fun E => tRet (tOp (rIxL W.K) (tVar 1) (tb E))) lk hcd' S fun X E g ps => ?_) fun vs H Q E h => ?_
  · exact pss_one (ps_ret (by rw [show W.K = X.K from g.K.symm]; exact pe_ix ix_list (pe_var (by rw [g.N]; exact hN) (vis_of g hv) hd hcd) (pb X E g ps.ps) hs))
  · obtain ⟨p, G, M, q, a, bs, dss, g, rfl, rfl, ns, h⟩ := h
    refine ⟨rfl, .ref a, ?_, ?_⟩
    · have hl : 2 ≤ N.length := by
        have := congrArg List.length S.pre
        simp at this; omega
      unfold L2.start
      rfl
    · unfold pickF at h
      rw [sat_bnd] at h
      have pl : 2 ≤ N.length := by have := congrArg List.length S.pre; rw [List.length_take] at this; simp at this; omega
      have rl := start_rl (N := N) (n := 2) (ns.gr g) (as := [.pot, .d (.list (dss.map .list))]) (vs := [.ref q, .ref a]) (.cons ⟨q, rfl, rfl⟩ (.cons ns.dt .nil)) rfl pl
      refine SdX.use sb rl (sat_nox h) fun k M1 v G1 H1 φ s1 g1 d1 _ => ?_
      split at φ
      · rename_i k
        split at φ
        · rename_i j hj
          split at φ
          · rename_i ds hds
            have hjl : j < bs.length := by rw [ns.ln]; exact (List.getElem?_eq_some_iff.mp hds).1
            have at1 := s1.h _ _ ns.np ns.at_
            refine ⟨a, bs.map V.ref, k, .ref (bs[j]'hjl), rfl, View.int d1, .of at1, ?_, ?_⟩
            · unfold atI
              rw [List.length_map, ns.ln, hj]
              show (bs.map V.ref)[j]? = _
              rw [List.getElem?_map, List.getElem?_eq_getElem hjl]; rfl
            · exact φ _ H1 (List.getElem?_eq_getElem hjl) hds ⟨fun _ _ z => z, s1.h, fun b o h1 h2 => (by rw [h1] at h2; cases h2), g.pg⟩ ⟨fun b o hb => s1.h b o (fun e => by rw [g.pg b e] at hb; cases hb) (g.gh b o hb), g1.pot, g.pg⟩
          · exact φ.elim
        · exact φ.elim
      · exact φ.elim
end RL

set_option Elab.async false
set_option linter.all false
set_option maxRecDepth 100000
set_option maxHeartbeats 2000000
/-! rows = [own lists ..]; for lap in ..: row = f(pot, rows); if ..: row[k] = e; .. -/
namespace RL
open PySem PySem.Spec PyProof.Rows L2
def noL : Rho → Bool
  | [] => true
  | .l _ :: _ => false
  | _ :: ρ => noL ρ
theorem noL_get : ∀ {ρ : Rho} {i : Nat} {xs : List D}, noL ρ = true → ρ[i]? ≠ some (.l xs)
  | [], i, xs, _, e => by simp at e
  | .l _ :: _, _, _, h, _ => nomatch h
  | .un :: ρ, 0, _, _, e => by simp at e
  | .d _ :: ρ, 0, _, _, e => by simp at e
  | .pot :: ρ, 0, _, _, e => by simp at e
  | .r _ :: ρ, 0, _, _, e => by simp at e
  | .un :: ρ, i + 1, _, h, e => noL_get (ρ := ρ) (i := i) h (by simpa using e)
  | .d _ :: ρ, i + 1, _, h, e => noL_get (ρ := ρ) (i := i) h (by simpa using e)
  | .pot :: ρ, i + 1, _, h, e => noL_get (ρ := ρ) (i := i) h (by simpa using e)
  | .r _ :: ρ, i + 1, _, h, e => noL_get (ρ := ρ) (i := i) h (by simpa using e)
def NoL (ρ : Rho) : Prop := ∀ (i : Nat) (xs : List D), ρ[i]? ≠ some (.l xs)
theorem NoL.set {ρ : Rho} {i : Nat} {y : SV} (h : NoL ρ) (hy : ∀ xs, y ≠ .l xs) : NoL (ρ.set i y) := fun j xs e => by
  rcases get_set e with ⟨_, q, _⟩ | ⟨_, q⟩
  · exact hy xs q
  · exact h j xs q
section
variable {K : PySem.W.Frag} {B : Bs} {G G' : Hp} {σ : L2.St} {H H' : Hp} {ρ : Rho} {M M' : List Int} {a : Addr} {bs : List Addr} {dss : List (List D)}
/-- what a name holds is forgotten -/
theorem Rl.forget (r : Rl K B G σ H ρ M) (i : Nat) : Rl K B G σ H (ρ.set i .un) M where
  gr := r.gr
  st := r.st
  sl := fun j y e => by
    rcases get_set e with ⟨_, rfl, _⟩ | ⟨_, e⟩
    · trivial
    · exact r.sl j y e
  ds := fun j k a ⟨⟨xs, h1⟩, h2⟩ ⟨⟨ys, h3⟩, h4⟩ => by
    rcases get_set h1 with ⟨_, q, _⟩ | ⟨_, h1⟩
    · cases q
    · rcases get_set h3 with ⟨_, q, _⟩ | ⟨_, h3⟩
      · cases q
      · exact r.ds j k a ⟨⟨xs, h1⟩, h2⟩ ⟨⟨ys, h3⟩, h4⟩
  ln := by rw [List.length_set]; exact r.ln
/-- the whole nest as data -/
theorem Rl.frzN {i : Nat} (r : Rl K B G σ H ρ M) (ns : Nst K B.p G H a bs dss) (nl : NoL ρ) (hi : σ[i]? = some (some (.ref a))) (nb : ∀ x, x = a ∨ x ∈ bs → B.H x = none) : Rl K B (frzN G H a bs) σ H (ρ.set i (.d (.list (dss.map .list)))) M where
  gr := ns.gr r.gr
  st := {
    g := fun x o e => ns.ex x o (r.st.g x o e)
    h := r.st.h
    n := fun x o h1 h2 => by
      by_cases m : x = a ∨ x ∈ bs
      · exact nb x m
      · rw [frzN_out m] at h1; exact r.st.n x o h1 h2
    p := (ns.gr r.gr).pg }
  sl := fun j y e => by
    rcases get_set e with ⟨rfl, rfl, _⟩ | ⟨_, e⟩
    · exact ⟨_, hi, ns.dt⟩
    · have z := r.sl j y e
      cases y with
      | un => trivial
      | pot => exact z
      | r L => exact z
      | d w => obtain ⟨v, hv, dv⟩ := z; exact ⟨v, hv, Dt.mono ns.ex _ _ dv⟩
      | l xs => exact (nl j xs e).elim
  ds := fun j k c ⟨⟨xs, h1⟩, _⟩ _ => ((nl.set (i := i) (y := .d (.list (dss.map .list))) fun _ z => nomatch z) j xs h1).elim
  ln := by rw [List.length_set]; exact r.ln
end
/-- the inner if -/
def nearIf (ft : Ev Bool) (fk fe : Ev D) (j : Nat) (ds : List D) (dss : List (List D)) : Ev (List (List D)) := fun ρ M => (ft ρ M).nox.bnd fun t M2 => if t = true then (fe ρ M2).nox.bnd fun y M3 => (fk ρ M3).nox.bnd fun i M4 => match i with
    | .int i => match ixN ds.length i with
      | some l => .ok (dss.set j (ds.set l y)) M4
      | none => .bad
    | _ => .bad
  else .ok dss M2
def nearGo (n ip il iw : Nat) (fb : Ev D) (ft : Ev Bool) (fk fe : Ev D) : List D → Rho → List (List D) → List Int → Rs (Rho × List (List D))
  | [], ρ, dss, M => .ok (ρ, dss) M
  | x :: xs, ρ, dss, M => match (ρ.set il (.d x))[ip]? with
    | some .pot => (pickF n fb dss M).bnd fun jd M1 => (nearIf ft fk fe jd.1 jd.2 dss ((ρ.set il (.d x)).set iw (.l jd.2)) M1).bnd fun dss' M2 => nearGo n ip il iw fb ft fk fe xs ((ρ.set il (.d x)).set iw .un) dss' M2
    | _ => .bad
def sNear (n ip ir il iw : Nat) (fl : Ev (List (List D))) (fi : Ev (List D)) (fb : Ev D) (ft : Ev Bool) (fk fe : Ev D) (f3 : Sm) : Sm := fun ρ M => (fl ρ M).out fun dss M1 => if noL (ρ.set ir .un) = true ∧ ir < ρ.length ∧ iw < ρ.length then
    (fi (ρ.set ir .un) M1).out fun xs M2 => (nearGo n ip il iw fb ft fk fe xs (ρ.set ir .un) dss M2).out fun rd M3 => f3 (rd.1.set ir (.d (.list (rd.2.map .list)))) M3
  else .bad
/-- a def of two parameters, as its callers see it by values -/
def DfnP (W : Wb) (x : Str) (k : Nat) (sp : Sp) : Prop := ∃ (f : Addr) (fd : FuncData) (y z : Str), FnP W k f fd [y, z] sp ∧ W.mg x = some (.ref f) ∧ PySem.W.keepIn W.K (.ref f) = true ∧ Binds W.K fd [y, z] []
section
variable {c : Sc} {B : Bs} {G : Hp} {σ : L2.St} {H : Hp} {ρ : Rho} {M : List Int} {E : XK} {Dn : Ends}
theorem near_if {tt : TX Bool} {tk te : TX V} {ft : Ev Bool} {fk fe : Ev D} {iw j : Nat} {a b : Addr} {bs : List Addr} {ds : List D} {dss : List (List D)} {tn : L2.St → Hp → Prop} {D0 : Ends}
    (st : SdX c RTt tt ft) (sk : SdX c (RVw c.K) tk fk) (se : SdX c (RDt c.K) te fe) (rl : Rl c.K B G σ H ρ M) (ns : Nst c.K B.p G H a bs dss) (hw : ρ[iw]? = some (.l ds)) (hj : bs[j]? = some b) (hsw : σ[iw]? = some (some (.ref b)))
    {Φ : List (List D) → List Int → Prop} (h : (nearIf ft fk fe j ds dss ρ M).Sat Φ (fun _ _ _ => False))
    (k : ∀ dss' M' G' H' zs, Φ dss' M' → Ex G G' → Rl c.K B G' σ H' (ρ.set iw (.l zs)) M' → Nst c.K B.p G' H' a bs dss' → tn σ H') :
    tIfS (tt E) (tAsg (te E) (gSub (tVar iw) (tk E) rSetL)) L2.tNext { D0 with nx := tn } σ H := by
  unfold nearIf at h
  rw [sat_bnd] at h
  have hwl : iw < ρ.length := (List.getElem?_eq_some_iff.mp hw).1
  have same : ρ.set iw (.l ds) = ρ := by
    apply List.ext_getElem?
    intro i
    by_cases e : iw = i
    · subst e; rw [List.getElem?_set_self hwl, hw]
    · rw [List.getElem?_set_ne e]
  refine SdX.use st rl (sat_nox h) fun t M1 t' G1 H1 φ s1 g1 e1 rl1 => ?_
  cases (show t = t' from e1)
  cases t with
  | false =>
    exact k dss M1 G1 H1 ds φ s1.g (by rw [same]; exact rl1) (ns.step s1)
  | true =>
    rw [if_pos rfl, sat_bnd] at φ
    show tAsg (te E) (gSub (tVar iw) (tk E) rSetL) _ σ H1
    refine SdX.use se rl1 (sat_nox φ) fun y M2 v G2 H2 φ2 s2 g2 d2 rl2 => ?_
    rw [sat_bnd] at φ2
    refine ⟨.ref b, hsw, ?_⟩
    refine SdX.use sk rl2 (sat_nox φ2) fun i M3 u G3 H3 φ3 s3 g3 d3 rl3 => ?_
    split at φ3
    · rename_i i
      split at φ3
      · rename_i l hl
        have ns3 := ((ns.step s1).step s2).step s3
        obtain ⟨b', vs, e', hb, tb⟩ := rl3.own hw
        rw [hsw] at e'; cases e'
        have t' : DtA c.K G3 (ds.set l y) (vs.set l v) := .set l (Dt.mono s3.g _ _ d2) tb
        exact ⟨b, vs, i, l, rfl, View.int d3, hb, by rw [tb.length]; exact hl, k _ M3 G3 _ _ φ3 (fun x o z => s3.g x o (s2.g x o (s1.g x o z))) (rl3.mut hw hsw t') (ns3.put hj t')⟩
      · exact φ3.elim
    · exact φ3.elim
theorem jb_near {ir ip il iw : Nat} {xr xp xl xw fx : Str} {tg elt iter iter2 test ek ee : Expr} {scope : Scope} {own : List (Str × Nat)} {ws : List Nat} {g : Pat} {fel : Ev (List D)} {fi0 fi : Ev (List D)} {fb : Ev D} {ft : Ev Bool} {fk fe : Ev D} {f3 : Sm} {rest : List Stmt} {n : Nat}
    {k : Nat} {q1 q2 q3 q4 q5 q6 q7 q8 q9 lpos spos ipos apos : Pos}
    (hN : c.N.Nodup) (hi : RI c true tg iter fi0) (ok : BlkOk c.N c.sc scope own) (hg : RP (blk c scope) tg ws g) (hws : ∀ i ∈ ws, i ∈ own.map (·.2)) (he : RF (blk c scope) elt fel)
    (hr : c.N[ir]? = some xr) (hrl : c.sc.names.lookup xr = some .local) (hrv : Vis c.sc xr) (hp : c.N[ip]? = some xp) (hpv : Vis c.sc xp) (hl : c.N[il]? = some xl) (hll : Loc c.sc xl) (hlst : c.st xl = true) (hw : c.N[iw]? = some xw) (hwl : Loc c.sc xw) (hwv : Vis c.sc xw) (hwst : c.st xw = true)
    (hne : ir ≠ il ∧ ir ≠ iw ∧ ip ≠ iw ∧ ip ≠ ir)
    (hsw : ∀ env, env.scope = c.sc → swapsWith (.ListComp elt [⟨tg, iter, [], 0⟩] scope lpos) (some (.Name xr q1)) spos.line env = pure true)
    (hi2 : RI c false (.Name xl q2) iter2 fi) (hD : DfnP c.toWb fx k (spPick c.toWb n fb)) (hk : k ≤ c.k) (hgf : c.sc.names.lookup fx = some .globalImplicit)
    (hsw2 : ∀ env, env.scope = c.sc → swapsWith (.Call (.Name fx q3) [.Name xp q4, .Name xr q5] [] q6) (some (.Name xw q7)) apos.line env = pure false)
    (ht : RT c test ft) (hek : RV c ek fk) (hee : RE c ee fe) (hs1 : ∀ env, env.scope = c.sc → swapsWithSole [.Subscript (.Name xw q8) ek q9] ee ipos.line env = pure false) (hs2 : ∀ env, env.scope = c.sc → swappedStores [.Subscript (.Name xw q8) ek q9] ee env = pure none)
    (h3 : JB c rest f3)
    (ha : ∀ env v, assign (.Subscript (.Name xw q8) ek q9) env v = (do
      let ov ← holding [v] (eval (.Name xw q8) env)
      let iv ← holding [v, ov] (eval ek env)
      standAt q9
      holding [v, ov, iv] (setItem ov iv v)
      release [v, ov, iv] []) := by intro _ _; rfl) (h1 : ∀ env, (assignEach [.Subscript (.Name xw q8) ek q9] env).map (·.2) = [assign (.Subscript (.Name xw q8) ek q9) env] := by intro _; rfl)
    (hfs : ∀ env x, foldedSetIterable iter env x = pure x := by intro _ _; rfl) (hfs2 : ∀ env x, foldedSetIterable iter2 env x = pure x := by intro _ _; rfl)
    (d1 : (xr == ("__debug__" : Str)) = false := by decide) (d2 : (xr == ("__classdict__" : Str)) = false := by decide) (d3 : (xp == ("__debug__" : Str)) = false := by decide) (d4 : (xp == ("__classdict__" : Str)) = false := by decide) (d5 : (xw == ("__debug__" : Str)) = false := by decide) (d6 : (xw == ("__classdict__" : Str)) = false := by decide) (d7 : (fx == ("__debug__" : Str)) = false := by decide) {p0 p9 : Pos} :
    JB c (.Assign [.Name xr q1] (.ListComp elt [⟨tg, iter, [], 0⟩] scope lpos) spos :: .For (.Name xl q2) iter2 [.Assign [.Name xw q7] (.Call (.Name fx q3) [.Name xp q4, .Name xr q5] [] q6) apos, .If test [.Assign [.Subscript (.Name xw q8) ek q9] ee ipos] [] p0] [] p9 :: rest)
      (sNear n ip ir il iw (fLcN (own.map (·.2)) g fel fi0) fi fb ft fk fe f3) := by
  obtain ⟨f, fd, y, z, Fn, hmf, hkp, hbn⟩ := hD
  obtain ⟨wi0, pi0, si0⟩ := hi
  obtain ⟨tg', pg, sg⟩ := hg
  obtain ⟨tel, pel, sel⟩ := he
  obtain ⟨wi, pi, si⟩ := hi2
  obtain ⟨tt, pt, st⟩ := ht
  obtain ⟨tk, pk, sk⟩ := hek
  obtain ⟨te, pe, se⟩ := hee
  obtain ⟨t3, p3, s3⟩ := h3
  obtain ⟨n1, n2, n3, n4⟩ := hne
  have sl := SdX.lcN si0 sg hws sel
  generalize hTL : (fun E => tLc (wi0 E) tg' tYes (tel noE) (own.map (·.2))) = tl at sl
  refine ⟨fun E => tSeq (tAsg (tl E) (gName ir)) (tSeq (tFor (wi E) (gName il) (tSeq (tAsg (fun σ H Q => tCons (tVar ip) (tCons (tVar ir) tNil) σ H fun vs H1 => spPick c.toWb n fb vs H1 Q E) (gName iw)) (tIfS (tt E) (tAsg (te E) (gSub (tVar iw) (tk E) rSetL)) L2.tNext))) (t3 E)),
    fun X E gd ps => ?_, fun B G σ H ρ M Dn E rl h => ?_⟩
  · subst hTL
    refine pss_cons (ps_setLc gd.calm (by rw [gd.N]; exact hN) (by rw [gd.N]; exact hr) (by rw [gd.sc]; exact hrl) (hsw _ gd.sc) (pi0 X E gd ps.ps) (by rw [gd.N, gd.sc]; exact ok) (fun s H C cl fp => pg _ (good_blk gd s H C cl fp)) (fun s H C cl fp => pts_nil)
      (fun s H C cl fp => pel _ _ (good_blk gd s H C cl fp) (psx_blk gd s H C cl fp)) (hfs _)) (pss_cons ?_ (p3 X E gd ps))
    refine ps_for ps.own gd.calm (pi X E gd ps.ps) (pg_name (by rw [gd.N]; exact hN) (by rw [gd.N]; exact hl) (by rw [gd.sc]; exact hll) (gd.st xl hlst)) (pss_cons ?_ (pss_one ?_)) (hfs2 _)
    · refine ps_set (by rw [gd.N]; exact hN) (by rw [gd.N]; exact hw) (by rw [gd.sc]; exact hwl) (pe_fnP gd ps.ps Fn hk hgf hmf hkp hbn (pa_cons (pe_var (by rw [gd.N]; exact hp) (vis_of gd hpv) d3 d4) (pa_cons (pe_var (by rw [gd.N]; exact hr) (vis_of gd hrv) d1 d2) pa_nil rfl) rfl) d7) (hsw2 _ gd.sc) (gd.st xw hwst)
    · exact ps_if (pt X E gd ps.ps) (pss_one (ps_asg (pe X E gd ps.ps) (pg_sub (pe_var (by rw [gd.N]; exact hw) (vis_of gd hwv) d5 d6) (pk X E gd ps.ps) set_list (ha _)) (hs1 _ gd.sc) (hs2 _ gd.sc) (h1 _))) pss_nil
  · unfold sNear at h
    refine sl.stm rl h fun dss M1 v G1 H1 h1 s1 g1 r1 rl1 => ?_
    split at h1
    · rename_i hc
      obtain ⟨hnl, hirl, hiwl⟩ := hc
      have nl0 : NoL (ρ.set ir .un) := fun i xs => noL_get hnl
      obtain ⟨a, bs, rfl, ns1, na, nbs⟩ := r1
      have nb1 : ∀ x, x = a ∨ x ∈ bs → B.H x = none := fun x m => by
        have hx : H x = none := m.elim (fun e => e ▸ na) (nbs x)
        cases q : B.H x with
        | none => rfl
        | some u => have z := rl.st.h x u (ns1.npm m) q; rw [hx] at z; cases z
      have rl2 : Rl c.K B G1 (σ.set ir (some (.ref a))) H1 (ρ.set ir .un) M1 := rl1.set ir (x := .un) trivial fun xs e => nomatch e
      have hsr : (σ.set ir (some (V.ref a)))[ir]? = some (some (.ref a)) := List.getElem?_set_self (by rw [rl.ln]; exact hirl)
      show tFor (wi E) (gName il) _ _ _ H1
      refine si.stm rl2 h1 fun xs M2 J G2 H2 h2 s2 g2 jt rl3 => ?_
      have jt : ItOk c.K B.p false J G2 H2 xs := jt
      rw [outSat_out] at h2
      refine ⟨fun i m σ' H' => ∃ G' ρ' M' dss', m = xs.length - i ∧ i ≤ xs.length ∧ Ex G2 G' ∧ Rl c.K B G' σ' H' ρ' M' ∧ NoL ρ' ∧ ρ'.length = ρ.length ∧ σ'[ir]? = some (some (.ref a)) ∧ Nst c.K B.p G' H' a bs dss' ∧
        (nearGo n ip il iw fb ft fk fe (xs.drop i) ρ' dss' M').Sat (fun rd M3 => OutSat c.toWb B G2 Dn E (f3 (rd.1.set ir (.d (.list (rd.2.map .list)))) M3)) (XP c.toWb B.p B.G B.H E),
        ⟨xs.length, G2, _, M2, dss, rfl, Nat.zero_le _, fun _ _ z => z, rl3, nl0, by rw [List.length_set], hsr, ns1.step s2, h2⟩, ?_⟩
      rintro i m σ' H' ⟨G', ρ', M', dss', rfl, hi, ex', rl', nl', len', hsr', ns', φ'⟩
      obtain ⟨js, jg⟩ := jt i G' H' M' ex' (fun z => nomatch z) rl'.gr
      by_cases hlt : i < xs.length
      · have hx : xs[i]? = some xs[i] := List.getElem?_eq_getElem hlt
        rw [List.drop_eq_getElem_cons hlt] at φ'
        unfold nearGo at φ'
        obtain ⟨go, yl⟩ := jg _ hx
        refine .inr ⟨go, fun σ2 H3 => ∃ G3 ρ3 M3 dss3, Ex G2 G3 ∧ Rl c.K B G3 σ2 H3 ρ3 M3 ∧ NoL ρ3 ∧ ρ3.length = ρ.length ∧ σ2[ir]? = some (some (.ref a)) ∧ Nst c.K B.p G3 H3 a bs dss3 ∧
          (nearGo n ip il iw fb ft fk fe (xs.drop (i + 1)) ρ3 dss3 M3).Sat (fun rd M3 => OutSat c.toWb B G2 Dn E (f3 (rd.1.set ir (.d (.list (rd.2.map .list)))) M3)) (XP c.toWb B.p B.G B.H E),
          fun σ2 H3 ⟨G3, ρ3, M3, dss3, z1, z2, z3, z4, z5, z6, z7⟩ => ⟨_, by omega, G3, ρ3, M3, dss3, rfl, hlt, z1, z2, z3, z4, z5, z6, z7⟩, fun v H3 y => ?_⟩
        obtain ⟨G3, sy, gy, dy⟩ := yl v H3 y
        have rl4 := (rl'.step sy gy).setD (i := il) dy
        have nl4 : NoL (ρ'.set il (.d xs[i])) := nl'.set fun _ z => nomatch z
        have ns4 := ns'.step sy
        have hsr4 : (σ'.set il (some v))[ir]? = some (some (.ref a)) := by rw [List.getElem?_set_ne (Ne.symm n1)]; exact hsr'
        show tSeq _ _ _ (σ'.set il (some v)) H3
        split at φ'
        · rename_i hpot
          obtain ⟨q, eq, esq⟩ := (show Slot c.K B G3 H3 (σ'.set il (some v))[ip]? .pot from rl4.sl ip _ hpot)
          refine ⟨.ref q, esq, .ref a, hsr4, ?_⟩
          refine ⟨B.p, G3, M', q, a, bs, dss', gy, rfl, eq, ns4, ?_⟩
          rw [sat_bnd] at φ'
          cases hpk : pickF n fb dss' M' with
          | bad => rw [hpk] at φ'; exact φ'.elim
          | exc cc xx MM =>
            exfalso
            unfold pickF at hpk
            revert hpk
            cases (fb ([.pot, .d (.list (dss'.map .list))] ++ List.replicate (n - 2) .un) M') with
            | bad => intro hpk; cases hpk
            | exc _ _ _ => intro hpk; cases hpk
            | ok kv M1 =>
              simp only [nox_ok, bnd_ok]
              cases kv with
              | int kz =>
                dsimp only
                cases ixN dss'.length kz with
                | none => intro hpk; cases hpk
                | some j =>
                  dsimp only
                  cases dss'[j]? with
                  | none => intro hpk; cases hpk
                  | some _ => intro hpk; cases hpk
              | _ => intro hpk; cases hpk
          | ok jd M3 =>
            rw [hpk] at φ'
            intro b H4 hb hds s4 g4
            have rl5 := rl4.step s4 g4
            have ns5 := ns4.step s4
            obtain ⟨vs, k1, k2, k3, k4, k5⟩ := ns5.it _ b _ hb hds
            have hiw : iw < (ρ'.set il (.d xs[i])).length := by rw [List.length_set, len']; exact hiwl
            have rl6 : Rl c.K B G3 ((σ'.set il (some v)).set iw (some (.ref b))) H4 ((ρ'.set il (.d xs[i])).set iw (.l jd.2)) M3 := rl5.set iw (x := .l jd.2) ⟨b, vs, rfl, k1, k2, k3, nb1 b (.inr (List.mem_of_getElem? hb)), k4⟩ fun _ _ _ _ j ow => by
              obtain ⟨⟨zs, hz⟩, _⟩ := ow
              exact nl4 j zs hz
            have φ' : ((nearIf ft fk fe jd.1 jd.2 dss' ((ρ'.set il (.d xs[i])).set iw (.l jd.2)) M3).bnd fun dss2 M4 => nearGo n ip il iw fb ft fk fe (xs.drop (i + 1)) ((ρ'.set il (.d xs[i])).set iw .un) dss2 M4).Sat (fun rd M3 => OutSat c.toWb B G2 Dn E (f3 (rd.1.set ir (.d (.list (rd.2.map .list)))) M3)) (XP c.toWb B.p B.G B.H E) := φ'
            rw [sat_bnd] at φ'
            cases hni : nearIf ft fk fe jd.1 jd.2 dss' ((ρ'.set il (.d xs[i])).set iw (.l jd.2)) M3 with
            | bad => rw [hni] at φ'; exact φ'.elim
            | exc cc xx MM =>
              exfalso
              unfold nearIf at hni
              revert hni
              cases ft ((ρ'.set il (.d xs[i])).set iw (.l jd.2)) M3 with
              | bad => intro q; cases q
              | exc _ _ _ => intro q; cases q
              | ok t M4 =>
                cases t with
                | false => intro q; cases q
                | true =>
                  simp only [nox_ok, bnd_ok, if_true]
                  cases fe ((ρ'.set il (.d xs[i])).set iw (.l jd.2)) M4 with
                  | bad => intro q; cases q
                  | exc _ _ _ => intro q; cases q
                  | ok y M5 =>
                    simp only [nox_ok, bnd_ok]
                    cases fk ((ρ'.set il (.d xs[i])).set iw (.l jd.2)) M5 with
                    | bad => intro q; cases q
                    | exc _ _ _ => intro q; cases q
                    | ok kv M6 =>
                      simp only [nox_ok, bnd_ok]
                      cases kv with
                      | int kz =>
                        dsimp only
                        cases ixN jd.2.length kz with
                        | none => intro q; cases q
                        | some _ => intro q; cases q
                      | _ => intro q; cases q
            | ok dss2 M4 =>
              rw [hni] at φ'
              refine near_if (D0 := Dn) (Φ := fun d m => d = dss2 ∧ m = M4) st sk se rl6 ns5 (List.getElem?_set_self hiw) hb (List.getElem?_set_self (by rw [rl5.ln]; exact hiw)) (by rw [hni]; exact ⟨rfl, rfl⟩) fun dss3 M5 G5 H5 zs ⟨ed, em⟩ ex5 rl7 ns7 => ?_
              subst ed em
              refine ⟨G5, (ρ'.set il (.d xs[i])).set iw .un, M5, dss3, fun x o z => ex5 x o (sy.g x o (ex' x o z)), ?_, nl4.set fun _ z => (nomatch z), by rw [List.length_set, List.length_set]; exact len', by rw [List.getElem?_set_ne (Ne.symm n2)]; exact hsr4, ns7, φ'⟩
              have := rl7.forget iw
              rw [List.set_set, List.set_set] at this
              exact this
        · exact φ'.elim
      · have e : i = xs.length := by omega
        subst e
        rw [List.drop_eq_nil_of_le (Nat.le_refl _)] at φ'
        refine .inl ⟨js rfl, ?_⟩
        exact s3 B _ σ' H' _ M' Dn E (rl'.frzN ns' nl' hsr' nb1) (OutSat.mono (fun x o z => ns'.ex x o (ex' x o z)) φ')
    · exact h1.elim
end
end RL

set_option Elab.async false
set_option linter.all false
set_option maxRecDepth 100000
set_option maxHeartbeats 1000000
/-! the meanings, evaluated: equations for simp -/
namespace RL
open PySem
section
variable {α β : Type} {ρ : Rho} {M : List Int}
theorem nr {γ : Type} {a b : γ} (h : a = b) : a = b := h.trans (Eq.refl b)
def selB (x : D) (t f : Rs α) : Rs α := match x with
  | .bool b => if b = true then t else f
  | _ => .bad
@[simp] theorem selB_bool {b : Bool} {t f : Rs α} : selB (.bool b) t f = if b = true then t else f := rfl
@[simp] theorem bnd_ite {p : Prop} [Decidable p] {a b : Rs α} {k : α → List Int → Rs β} : (if p then a else b).bnd k = if p then a.bnd k else b.bnd k := by split <;> rfl
@[simp] theorem out_ite {p : Prop} [Decidable p] {a b : Rs α} {k : α → List Int → Out} : (if p then a else b).out k = if p then a.out k else b.out k := by split <;> rfl
@[simp] theorem seq_ite {p : Prop} [Decidable p] {a b : Out} {k : Sm} : (if p then a else b).seq k = if p then a.seq k else b.seq k := by split <;> rfl
@[simp] theorem rs_ite {p : Prop} [Decidable p] {a b : Out} : (if p then a else b).rs = if p then a.rs else b.rs := by split <;> rfl
@[simp] theorem nox_ite {p : Prop} [Decidable p] {a b : Rs α} : (if p then a else b).nox = if p then a.nox else b.nox := by split <;> rfl
@[simp] theorem turn_ite {p : Prop} [Decidable p] {a b : Out} {k : Sm} : (if p then a else b).turn k = if p then a.turn k else b.turn k := by split <;> rfl
@[simp] theorem of_ite {p : Prop} [Decidable p] {a b : Option α} : Rs.of (if p then a else b) M = if p then Rs.of a M else Rs.of b M := by split <;> rfl
@[simp] theorem rs_ret {x : D} : (Out.ret x M).rs = .ok x M := rfl
@[simp] theorem rs_nx : (Out.nx ρ M).rs = .ok .none M := rfl
@[simp] theorem rs_bad : (Out.bad).rs = .bad := rfl
@[simp] theorem e_bodyF {n k : Nat} {f : Sm} {as : List SV} : bodyF n k f as M = if as.length = n then (f (as ++ List.replicate (k - n) .un) M).rs else .bad := nr rfl
-- names
@[simp] theorem e_vE {i : Nat} : vE i ρ M = match ρ[i]? with | some (.d x) => .ok x M | _ => .bad := nr rfl
@[simp] theorem e_vV {i : Nat} : vV i ρ M = match ρ[i]? with | some (.d x) => .ok x M | some (.l xs) => .ok (.list xs) M | _ => .bad := nr rfl
-- expressions
@[simp] theorem e_fOp {g : D → D → Option α} {fa fb : Ev D} : fOp g fa fb ρ M = (fa ρ M).bnd fun x M1 => (fb ρ M1).bnd fun y M2 => Rs.of (g x y) M2 := nr rfl
@[simp] theorem e_asB {f : Ev D} : asB f ρ M = (f ρ M).bnd fun x M1 => match x with | .bool b => .ok b M1 | _ => .bad := nr rfl
@[simp] theorem e_fCh {g g' : D → D → Option D} {fa fb fd : Ev D} : fCh g g' fa fb fd ρ M = (fa ρ M).bnd fun x M1 => (fb ρ M1).bnd fun y M2 => (Rs.of (g x y) M2).bnd fun z M2 => selB z ((fd ρ M2).bnd fun w M3 => Rs.of (g' y w) M3) (.ok (.bool false) M2) := by
  unfold fCh
  congr; funext x M1; congr; funext y M2; congr; funext z M3
  cases z with
  | bool b => cases b <;> rfl
  | _ => rfl
@[simp] theorem e_fAnd {ft fu : Ev Bool} : fAnd ft fu ρ M = (ft ρ M).bnd fun k M1 => if k = true then fu ρ M1 else .ok false M1 := nr rfl
@[simp] theorem e_fOr {ft fu : Ev Bool} : fOr ft fu ρ M = (ft ρ M).bnd fun k M1 => if k = true then .ok true M1 else fu ρ M1 := nr rfl
@[simp] theorem e_fNot {ft : Ev Bool} : fNot ft ρ M = (ft ρ M).bnd fun k M1 => .ok (!k) M1 := nr rfl
@[simp] theorem e_fIf {ft : Ev Bool} {fa fb : Ev α} : fIf ft fa fb ρ M = (ft ρ M).bnd fun k M1 => if k = true then fa ρ M1 else fb ρ M1 := nr rfl
@[simp] theorem e_fAndV {fa fb : Ev D} : fAndV fa fb ρ M = (fa ρ M).bnd fun x M1 => selB x (fb ρ M1) (.ok (.bool false) M1) := by
  unfold fAndV
  congr; funext x M1
  cases x with
  | bool b => cases b <;> rfl
  | _ => rfl
@[simp] theorem e_fOrV {fa fb : Ev D} : fOrV fa fb ρ M = (fa ρ M).bnd fun x M1 => selB x (.ok (.bool true) M1) (fb ρ M1) := by
  unfold fOrV
  congr; funext x M1
  cases x with
  | bool b => cases b <;> rfl
  | _ => rfl
@[simp] theorem e_fNotV {fa : Ev D} : fNotV fa ρ M = (fa ρ M).bnd fun x M1 => match x with | .bool k => .ok (.bool (!k)) M1 | _ => .bad := nr rfl
@[simp] theorem e_fTru {fa : Ev D} : fTru fa ρ M = (fa ρ M).bnd fun x M1 => Rs.of (truD x) M1 := nr rfl
@[simp] theorem truD_bool {b : Bool} : truD (.bool b) = some b := rfl
@[simp] theorem e_fz {f : Ev (List D)} : fz f ρ M = (f ρ M).bnd fun xs M1 => .ok (.list xs) M1 := nr rfl
@[simp] theorem e_fNil : fNil ρ M = .ok [] M := nr rfl
@[simp] theorem e_fCons {fa : Ev D} {fr : Ev (List D)} : fCons fa fr ρ M = (fa ρ M).bnd fun x M1 => (fr ρ M1).bnd fun xs M2 => .ok (x :: xs) M2 := nr rfl
@[simp] theorem e_fTup {f : Ev (List D)} : fTup f ρ M = (f ρ M).bnd fun xs M1 => if xs.length ≤ 1000 then .ok (.tuple xs) M1 else .bad := nr rfl
@[simp] theorem e_fLst {f : Ev (List D)} : fLst f ρ M = (f ρ M).bnd fun xs M1 => if xs.length ≤ 1000 then .ok xs M1 else .bad := nr rfl
@[simp] theorem e_fCall {g : List D → Option α} {f : Ev (List D)} : fCall g f ρ M = (f ρ M).bnd fun xs M1 => Rs.of (g xs) M1 := nr rfl
@[simp] theorem e_fNo : fNo ρ M = .ok none M := nr rfl
@[simp] theorem e_fPt {f : Ev D} : fPt f ρ M = (f ρ M).bnd fun x M1 => match x with | .int i => .ok (some i) M1 | _ => .bad := nr rfl
@[simp] theorem e_fSl {g : D → Option Int → Option Int → Option α} {fa : Ev D} {fl fh : Ev (Option Int)} : fSl g fa fl fh ρ M = (fa ρ M).bnd fun x M1 => (fl ρ M1).bnd fun l M2 => (fh ρ M2).bnd fun h M3 => Rs.of (g x l h) M3 := nr rfl
@[simp] theorem e_fNeg {fa : Ev D} : fNeg fa ρ M = (fa ρ M).bnd fun x M1 => match x with | .int i => .ok (.int (-i)) M1 | _ => .bad := nr rfl
@[simp] theorem e_agNil : agNil ρ M = .ok [] M := nr rfl
@[simp] theorem e_agCons {fa : Ev D} {fr : Ev (List SV)} : agCons fa fr ρ M = (fa ρ M).bnd fun x M1 => (fr ρ M1).bnd fun xs M2 => .ok (.d x :: xs) M2 := nr rfl
@[simp] theorem e_agPot {i : Nat} {fr : Ev (List SV)} : agPot i fr ρ M = match ρ[i]? with | some .pot => (fr ρ M).bnd fun xs M2 => .ok (.pot :: xs) M2 | some (.r L) => (fr ρ M).bnd fun xs M2 => .ok (.r L :: xs) M2 | _ => .bad := nr rfl
@[simp] theorem e_fFn {F : Fb} {f : Ev (List SV)} : fFn F f ρ M = (f ρ M).bnd fun as M1 => F as M1 := nr rfl
@[simp] theorem e_fIsi {T : String} {fa : Ev D} : fIsi T fa ρ M = (fa ρ M).bnd fun x M1 => Rs.of ((tyS x).bind fun t => (L2.kitB t T).map .bool) M1 := nr rfl
@[simp] theorem e_fItems {f : Ev D} : fItems f ρ M = (f ρ M).bnd fun x M1 => Rs.of (seqItems x) M1 := nr rfl
noncomputable def rng1 (xs : List D) (M : List Int) : Rs (List D) := match xs with
  | [.int j] => cIf (-(2 ^ 62) ≤ j ∧ j < 2 ^ 62) (.ok (rgItems 0 j.toNat) M) .bad
  | _ => .bad
noncomputable def rng2 (xs : List D) (M : List Int) : Rs (List D) := match xs with
  | [.int i, .int j] => cIf (-(2 ^ 62) ≤ i ∧ i < 2 ^ 62 ∧ -(2 ^ 62) ≤ j ∧ j < 2 ^ 62) (.ok (rgItems i (j - i).toNat) M) .bad
  | _ => .bad
@[simp] theorem e_fRng1 {f : Ev (List D)} : fRng1 f ρ M = (f ρ M).bnd rng1 := nr rfl
@[simp] theorem e_fRng2 {f : Ev (List D)} : fRng2 f ρ M = (f ρ M).bnd rng2 := nr rfl
@[simp] theorem rng1_int {j : Int} (h1 : -4611686018427387904 ≤ j) (h2 : j < 4611686018427387904) : rng1 [.int j] M = .ok (rgItems 0 j.toNat) M := cIf_pos ⟨by omega, by omega⟩
@[simp] theorem rng2_int {i j : Int} (h1 : -4611686018427387904 ≤ i) (h2 : i < 4611686018427387904) (h3 : -4611686018427387904 ≤ j) (h4 : j < 4611686018427387904) : rng2 [.int i, .int j] M = .ok (rgItems i (j - i).toNat) M := cIf_pos ⟨by omega, by omega, by omega, by omega⟩
@[simp] theorem e_fZip {f : Ev (List D)} : fZip f ρ M = (f ρ M).bnd fun xs M1 => match xs with
  | [x, y] => Rs.of ((seqItems x).bind fun xs => (seqItems y).map fun ys => zipD xs ys) M1
  | _ => .bad := nr rfl
@[simp] theorem e_fEnum {f : Ev (List D)} : fEnum f ρ M = (f ρ M).bnd fun xs M1 => match xs with
  | [x] => Rs.of ((seqItems x).map fun xs => numD 0 xs) M1
  | _ => .bad := nr rfl
@[simp] theorem e_fLzip {f : Ev (List D)} : fLzip f ρ M = (f ρ M).bnd fun xs M1 => match xs with
  | [x, y] => Rs.of ((seqItems x).bind fun xs => (seqItems y).bind fun ys => if min xs.length ys.length ≤ 16777216 then some (zipD xs ys) else none) M1
  | _ => .bad := nr rfl
@[simp] theorem e_fYes : fYes ρ M = .ok true M := nr rfl
def lcRun (g : Pat) (ft : Ev Bool) (fe : Ev D) (ρ : Rho) (xs : List D) (M : List Int) : Rs (List D) := if xs.length ≤ 16777216 then lcGo g ft fe ρ xs M else .bad
@[simp] theorem e_fLc {vs : List Nat} {g : Pat} {ft : Ev Bool} {fe : Ev D} {fi : Ev (List D)} : fLc vs g ft fe fi ρ M = (fi ρ M).bnd (lcRun g ft fe (wipeR ρ vs)) := nr rfl
theorem lcRun_le {g : Pat} {ft : Ev Bool} {fe : Ev D} {xs : List D} (h : xs.length ≤ 16777216) : lcRun g ft fe ρ xs M = lcGo g ft fe ρ xs M := if_pos h
-- targets
@[simp] theorem e_pName {i : Nat} {x : D} : pName i x ρ = some (ρ.set i (.d x)) := nr rfl
@[simp] theorem e_pNil : pNil [] ρ = some ρ := nr rfl
@[simp] theorem e_pCons {g : Pat} {h : List D → Rho → Option Rho} {x : D} {xs : List D} : pCons g h (x :: xs) ρ = (g x ρ).bind (h xs) := nr rfl
@[simp] theorem e_pTup {n : Nat} {h : List D → Rho → Option Rho} {xs : List D} : pTup n h (.tuple xs) ρ = if xs.length = n then h xs ρ else none := nr rfl
@[simp] theorem e_pTupL {n : Nat} {h : List D → Rho → Option Rho} {xs : List D} : pTup n h (.list xs) ρ = if xs.length = n then h xs ρ else none := nr rfl
@[simp] theorem e_wipe0 : wipeR ρ [] = ρ := nr rfl
@[simp] theorem e_wipe1 {v : Nat} {vs : List Nat} : wipeR ρ (v :: vs) = (wipeR ρ vs).set v .un := nr rfl
-- statements
@[simp] theorem e_sSeq {f g : Sm} : sSeq f g ρ M = (f ρ M).seq g := nr rfl
@[simp] theorem e_sNx : sNx ρ M = .nx ρ M := nr rfl
@[simp] theorem e_sIf {ft : Ev Bool} {f g : Sm} : sIf ft f g ρ M = (ft ρ M).out fun k M1 => if k = true then f ρ M1 else g ρ M1 := nr rfl
@[simp] theorem e_sRet {fe : Ev D} : sRet fe ρ M = (fe ρ M).out fun x M1 => .ret x M1 := nr rfl
@[simp] theorem e_sDrop {fe : Ev D} : sDrop fe ρ M = (fe ρ M).out fun _ M1 => .nx ρ M1 := nr rfl
@[simp] theorem e_sSet {i : Nat} {fe : Ev D} : sSet i fe ρ M = (fe ρ M).out fun x M1 => .nx (ρ.set i (.d x)) M1 := nr rfl
@[simp] theorem e_sSetL {i : Nat} {fe : Ev (List D)} : sSetL i fe ρ M = (fe ρ M).out fun xs M1 => .nx (ρ.set i (.l xs)) M1 := nr rfl
@[simp] theorem e_sPat {g : Pat} {fe : Ev D} : sPat g fe ρ M = (fe ρ M).out fun x M1 => match g x ρ with | some ρ1 => .nx ρ1 M1 | none => .bad := nr rfl
@[simp] theorem e_sFor {g : Pat} {fb : Sm} {fi : Ev (List D)} : sFor g fb fi ρ M = (fi ρ M).out fun xs M1 => forGo g fb xs ρ M1 := nr rfl
@[simp] theorem e_sFrz {i : Nat} {f : Sm} : sFrz i f ρ M = f (frz i ρ) M := nr rfl
@[simp] theorem e_frz {i : Nat} : frz i ρ = match ρ[i]? with | some (.l xs) => ρ.set i (.d (.list xs)) | _ => ρ := nr rfl
@[simp] theorem e_sPar {is : List Nat} {fm : Ev (List SV)} : sPar is fm ρ M = (fm ρ M).out fun xs M1 => if xs.length = is.length then .nx (setR ρ is xs) M1 else .bad := nr rfl
@[simp] theorem e_mNil : mNil ρ M = .ok [] M := nr rfl
@[simp] theorem e_mD {fa : Ev D} {fr : Ev (List SV)} : mD fa fr ρ M = (fa ρ M).bnd fun x M1 => (fr ρ M1).bnd fun xs M2 => .ok (.d x :: xs) M2 := nr rfl
@[simp] theorem e_mL {fa : Ev (List D)} {fr : Ev (List SV)} : mL fa fr ρ M = (fa ρ M).bnd fun x M1 => (fr ρ M1).bnd fun xs M2 => .ok (.l x :: xs) M2 := nr rfl
@[simp] theorem e_setR0 {xs : List SV} : setR ρ [] xs = ρ := by cases xs <;> rfl
@[simp] theorem e_setR1 {i : Nat} {is : List Nat} {x : SV} {xs : List SV} : setR ρ (i :: is) (x :: xs) = setR (ρ.set i x) is xs := nr rfl
@[simp] theorem e_sApp {i : Nat} {fe : Ev D} : sApp i fe ρ M = match ρ[i]? with
  | some (.l xs) => (fe ρ M).out fun y M1 => if xs.length ≤ 16777215 then .nx (ρ.set i (.l (xs ++ [y]))) M1 else .bad
  | _ => .bad := nr rfl
@[simp] theorem e_sExt {i : Nat} {fe : Ev D} : sExt i fe ρ M = match ρ[i]? with
  | some (.l xs) => (fe ρ M).out fun y M1 => match y with
    | .list ys => if xs.length + ys.length ≤ 16777215 then .nx (ρ.set i (.l (xs ++ ys))) M1 else .bad
    | _ => .bad
  | _ => .bad := nr rfl
@[simp] theorem e_for0 {g : Pat} {fb : Sm} : forGo g fb [] ρ M = .nx ρ M := nr rfl
@[simp] theorem e_lc0 {g : Pat} {ft : Ev Bool} {fe : Ev D} : lcGo g ft fe ρ [] M = .ok [] M := nr rfl
theorem e_for1 {g : Pat} {fb : Sm} {x : D} {xs : List D} : forGo g fb (x :: xs) ρ M = match g x ρ with
    | none => .bad
    | some ρ1 => (fb ρ1 M).turn (forGo g fb xs) := nr rfl
theorem e_lc1 {g : Pat} {ft : Ev Bool} {fe : Ev D} {x : D} {xs : List D} : lcGo g ft fe ρ (x :: xs) M = match g x ρ with
    | none => .bad
    | some ρ1 => (ft ρ1 M).nox.bnd fun k M1 => if k = true then (fe ρ1 M1).nox.bnd fun y M2 => (lcGo g ft fe ρ xs M2).bnd fun ys M3 => .ok (y :: ys) M3 else lcGo g ft fe ρ xs M1 := nr rfl
-- operations
@[simp] theorem dAdd_int {i j : Int} : dAdd (.int i) (.int j) = some (.int (i + j)) := nr rfl
@[simp] theorem dSub_int {i j : Int} : dSub (.int i) (.int j) = some (.int (i - j)) := nr rfl
@[simp] theorem dMul_int {i j : Int} (h : L2.CMul i j) : dMul (.int i) (.int j) = some (.int (i * j)) := cIf_pos h
@[simp] theorem dFdiv_int {i j : Int} (h : 0 < j) (h2 : j < 1073741824) : dFdiv (.int i) (.int j) = some (.int (i / j)) := cIf_pos ⟨h, h2⟩
@[simp] theorem dMod_int {i j : Int} (h : 0 < j) : dMod (.int i) (.int j) = some (.int (i % j)) := cIf_pos h
@[simp] theorem dLen_str {z : Str} (h : z.length ≤ 16777216) : dLen [.str z] = some (.int z.length) := if_pos h
@[simp] theorem dLt_int {i j : Int} : dLt (.int i) (.int j) = some (.bool (decide (i < j))) := nr rfl
@[simp] theorem dLe_int {i j : Int} : dLe (.int i) (.int j) = some (.bool (decide (i ≤ j))) := nr rfl
@[simp] theorem dGt_int {i j : Int} : dGt (.int i) (.int j) = some (.bool (decide (i > j))) := nr rfl
@[simp] theorem dGe_int {i j : Int} : dGe (.int i) (.int j) = some (.bool (decide (i ≥ j))) := nr rfl
@[simp] theorem dInt_int {i : Int} : dInt [.int i] = some (.int i) := nr rfl
@[simp] theorem dInt_bool {b : Bool} : dInt [.bool b] = some (.int (if b then 1 else 0)) := nr rfl
@[simp] theorem dAbs_int {i : Int} : dAbs [.int i] = some (.int (if i < 0 then -i else i)) := nr rfl
@[simp] theorem dMin_int {i j : Int} : dMin [.int i, .int j] = some (.int (min i j)) := nr rfl
@[simp] theorem dMax_int {i j : Int} : dMax [.int i, .int j] = some (.int (max i j)) := nr rfl
@[simp] theorem dLen_tup {xs : List D} : dLen [.tuple xs] = some (.int xs.length) := nr rfl
@[simp] theorem dLen_lst {xs : List D} : dLen [.list xs] = some (.int xs.length) := nr rfl
@[simp] theorem dIx_tup {xs : List D} {i : Int} : dIx (.tuple xs) (.int i) = L2.atI xs i := nr rfl
@[simp] theorem dIx_lst {xs : List D} {i : Int} : dIx (.list xs) (.int i) = L2.atI xs i := nr rfl
@[simp] theorem dTuple_lst {xs : List D} : dTuple [.list xs] = some (.tuple xs) := nr rfl
@[simp] theorem dTuple_tup {xs : List D} : dTuple [.tuple xs] = some (.tuple xs) := nr rfl
@[simp] theorem lList_lst {xs : List D} : lList [.list xs] = some xs := rfl
@[simp] theorem lList_tup {xs : List D} : lList [.tuple xs] = some xs := rfl
@[simp] theorem items_lst {xs : List D} : seqItems (.list xs) = some xs := rfl
@[simp] theorem items_tup {xs : List D} : seqItems (.tuple xs) = some xs := rfl
@[simp] theorem dGcd_int {i j : Int} : dGcd [.int i, .int j] = some (.int (Nat.gcd i.natAbs j.natAbs : Nat)) := nr rfl
theorem atI_nat {xs : List D} {k : Nat} (h : k < xs.length) : L2.atI xs (k : Int) = xs[k]? := by
  unfold L2.atI
  rw [ixN_nat h]; rfl
@[simp] theorem atI_0 {x : D} {xs : List D} : L2.atI (x :: xs) 0 = some x := atI_nat (k := 0) (by simp)
@[simp] theorem atI_1 {x y : D} {xs : List D} : L2.atI (x :: y :: xs) 1 = some y := atI_nat (k := 1) (by simp)
@[simp] theorem atI_2 {x y z : D} {xs : List D} : L2.atI (x :: y :: z :: xs) 2 = some z := atI_nat (k := 2) (by simp)
end
end RL

set_option Elab.async false
set_option linter.all false
set_option maxRecDepth 100000
set_option maxHeartbeats 1000000
/-! loops evaluated -/
namespace RL
open PySem
section
variable {ι : Type} {g : Pat} {ft : Ev Bool} {fe : Ev D} {fb : Sm} {ρ : Rho}
theorem lc_enc (enc : ι → D) (p : ι → Bool) (h : ι → D) : ∀ (l : List ι), (∀ i ∈ l, ∃ ρ1, g (enc i) ρ = some ρ1 ∧ (∀ M, ft ρ1 M = .ok (p i) M) ∧ (p i = true → ∀ M, fe ρ1 M = .ok (h i) M)) → ∀ M, lcGo g ft fe ρ (l.map enc) M = .ok ((l.filter p).map h) M
  | [], _, M => rfl
  | i :: l, H, M => by
    obtain ⟨ρ1, h1, h2, h3⟩ := H i List.mem_cons_self
    have ih := lc_enc enc p h l fun j m => H j (List.mem_cons_of_mem _ m)
    rw [List.map_cons, e_lc1, h1]
    simp only [h2, nox_ok, bnd_ok]
    cases q : p i with
    | true => simp [h3 q, ih, q]
    | false => simp [ih, q]
theorem lc_all (enc : ι → D) (h : ι → D) (l : List ι) (H : ∀ i ∈ l, ∃ ρ1, g (enc i) ρ = some ρ1 ∧ ∀ M, fe ρ1 M = .ok (h i) M) (M : List Int) : lcGo g fYes fe ρ (l.map enc) M = .ok (l.map h) M := by
  rw [lc_enc enc (fun _ => true) h l (fun i m => by
    obtain ⟨ρ1, h1, h2⟩ := H i m
    exact ⟨ρ1, h1, fun _ => rfl, fun _ => h2⟩), List.filter_eq_self.mpr (fun _ _ => rfl)]
/-- a comprehension that draws: each item keeps the draws' state in order -/
theorem lc_pot (enc : ι → D) (R : ι → D → Prop) (J : Nat → List Int → Prop) (c : Nat) : ∀ (l : List ι) (b : Nat) (M : List Int), (∀ i ∈ l, ∃ ρ1, g (enc i) ρ = some ρ1 ∧ ∀ b M, J (c + b) M → ∃ y M', fe ρ1 M = .ok y M' ∧ R i y ∧ J b M') → J (c * l.length + b) M →
    ∃ ys M', lcGo g fYes fe ρ (l.map enc) M = .ok ys M' ∧ J b M' ∧ ys.length = l.length ∧ ∀ (k : Nat) i y, l[k]? = some i → ys[k]? = some y → R i y
  | [], b, M, _, j => ⟨[], M, rfl, by simpa using j, rfl, fun k i y e => by simp at e⟩
  | i :: l, b, M, H, j => by
    obtain ⟨ρ1, h1, h2⟩ := H i List.mem_cons_self
    obtain ⟨y, M1, e1, r1, j1⟩ := h2 (c * l.length + b) M (by rw [List.length_cons, Nat.mul_succ] at j; rw [← Nat.add_assoc, Nat.add_comm c]; exact j)
    obtain ⟨ys, M2, e2, j2, l2, r2⟩ := lc_pot enc R J c l b M1 (fun k m => H k (List.mem_cons_of_mem _ m)) j1
    refine ⟨y :: ys, M2, ?_, j2, by simp [l2], fun k i' y' a1 a2 => ?_⟩
    · rw [List.map_cons, e_lc1, h1]
      simp [e1, e2]
    · cases k with
      | zero => simp at a1 a2; subst a1 a2; exact r1
      | succ k => exact r2 k i' y' (by simpa using a1) (by simpa using a2)
/-- a for that keeps something, or goes -/
theorem for_keep (enc : ι → D) (S : List ι → Rho → Prop) (M : List Int) : ∀ (l pre : List ι) (ρ : Rho), (∀ pre i post, pre ++ i :: post = pre ++ i :: post → ∀ ρ, S pre ρ → i ∈ l → ∃ ρ1 ρ2, g (enc i) ρ = some ρ1 ∧ fb ρ1 M = .nx ρ2 M ∧ S (pre ++ [i]) ρ2) → S pre ρ → ∃ ρ', forGo g fb (l.map enc) ρ M = .nx ρ' M ∧ S (pre ++ l) ρ'
  | [], pre, ρ, _, s => ⟨ρ, rfl, by simpa using s⟩
  | i :: l, pre, ρ, H, s => by
    obtain ⟨ρ1, ρ2, h1, h2, s2⟩ := H pre i l rfl ρ s List.mem_cons_self
    obtain ⟨ρ', e, s'⟩ := for_keep enc S M l (pre ++ [i]) ρ2 (fun p j q h r sr m => H p j q h r sr (List.mem_cons_of_mem _ m)) s2
    refine ⟨ρ', ?_, by simpa using s'⟩
    rw [List.map_cons, e_for1, h1]
    simp [h2, e]
end
theorem rgItems_map (n : Nat) : rgItems 0 n = (List.range n).map fun k => PyData.int (k : Nat) := by
  unfold rgItems
  simp
theorem rgItems_map1 (i : Int) (n : Nat) : rgItems i n = (List.range n).map fun k => PyData.int (i + (k : Nat)) := rfl
theorem numD_map {xs : List D} : numD 0 xs = (List.range xs.length).map fun k => PyData.tuple [.int (k : Nat), xs.getD k .none] := by
  apply List.ext_getElem?
  intro i
  cases q : (numD 0 xs)[i]? with
  | none =>
    have hl : xs.length ≤ i := by
      have := List.getElem?_eq_none_iff.mp q
      rwa [numD_len] at this
    rw [List.getElem?_map, List.getElem?_eq_none (by simpa using hl)]
    rfl
  | some z =>
    obtain ⟨x, hx, rfl⟩ := numD_get q
    have hl : i < xs.length := (List.getElem?_eq_some_iff.mp hx).1
    rw [List.getElem?_map, List.getElem?_range hl]
    simp [List.getD, hx]
theorem boolsD_enc {ι : Type} (l : List ι) (p : ι → Bool) : boolsD (l.map fun i => PyData.bool (p i)) = some (l.map p) := by
  rw [show (l.map fun i => PyData.bool (p i)) = (l.map p).map .bool from by rw [List.map_map]; rfl]
  exact boolsD_map _
theorem dAll_map {ι : Type} (l : List ι) (p : ι → Bool) : dAll [.list (l.map fun i => PyData.bool (p i))] = some (.bool (l.all p)) := by
  unfold dAll
  simp only [boolsD_enc, Option.map]
  congr 2
  simp [List.all_map]
theorem dAny_map {ι : Type} (l : List ι) (p : ι → Bool) : dAny [.list (l.map fun i => PyData.bool (p i))] = some (.bool (l.any p)) := by
  unfold dAny
  simp only [boolsD_enc, Option.map]
  congr 2
  simp [List.any_map]
end RL

set_option Elab.async false
set_option linter.all false
set_option maxRecDepth 100000
set_option maxHeartbeats 1000000
/-! isinstance by a table -/
namespace RL
open PySem
@[simp] theorem kit_NoneType_int : L2.kitB "NoneType" "int" = some false := by kernel_rfl
@[simp] theorem kit_NoneType_bool : L2.kitB "NoneType" "bool" = some false := by kernel_rfl
@[simp] theorem kit_NoneType_str : L2.kitB "NoneType" "str" = some false := by kernel_rfl
@[simp] theorem kit_NoneType_tuple : L2.kitB "NoneType" "tuple" = some false := by kernel_rfl
@[simp] theorem kit_NoneType_list : L2.kitB "NoneType" "list" = some false := by kernel_rfl
@[simp] theorem kit_bool_int : L2.kitB "bool" "int" = some true := by kernel_rfl
@[simp] theorem kit_bool_bool : L2.kitB "bool" "bool" = some true := by kernel_rfl
@[simp] theorem kit_bool_str : L2.kitB "bool" "str" = some false := by kernel_rfl
@[simp] theorem kit_bool_tuple : L2.kitB "bool" "tuple" = some false := by kernel_rfl
@[simp] theorem kit_bool_list : L2.kitB "bool" "list" = some false := by kernel_rfl
@[simp] theorem kit_int_int : L2.kitB "int" "int" = some true := by kernel_rfl
@[simp] theorem kit_int_bool : L2.kitB "int" "bool" = some false := by kernel_rfl
@[simp] theorem kit_int_str : L2.kitB "int" "str" = some false := by kernel_rfl
@[simp] theorem kit_int_tuple : L2.kitB "int" "tuple" = some false := by kernel_rfl
@[simp] theorem kit_int_list : L2.kitB "int" "list" = some false := by kernel_rfl
@[simp] theorem kit_str_int : L2.kitB "str" "int" = some false := by kernel_rfl
@[simp] theorem kit_str_bool : L2.kitB "str" "bool" = some false := by kernel_rfl
@[simp] theorem kit_str_str : L2.kitB "str" "str" = some true := by kernel_rfl
@[simp] theorem kit_str_tuple : L2.kitB "str" "tuple" = some false := by kernel_rfl
@[simp] theorem kit_str_list : L2.kitB "str" "list" = some false := by kernel_rfl
@[simp] theorem kit_list_int : L2.kitB "list" "int" = some false := by kernel_rfl
@[simp] theorem kit_list_bool : L2.kitB "list" "bool" = some false := by kernel_rfl
@[simp] theorem kit_list_str : L2.kitB "list" "str" = some false := by kernel_rfl
@[simp] theorem kit_list_tuple : L2.kitB "list" "tuple" = some false := by kernel_rfl
@[simp] theorem kit_list_list : L2.kitB "list" "list" = some true := by kernel_rfl
@[simp] theorem kit_tuple_int : L2.kitB "tuple" "int" = some false := by kernel_rfl
@[simp] theorem kit_tuple_bool : L2.kitB "tuple" "bool" = some false := by kernel_rfl
@[simp] theorem kit_tuple_str : L2.kitB "tuple" "str" = some false := by kernel_rfl
@[simp] theorem kit_tuple_tuple : L2.kitB "tuple" "tuple" = some true := by kernel_rfl
@[simp] theorem kit_tuple_list : L2.kitB "tuple" "list" = some false := by kernel_rfl
end RL

set_option Elab.async false
set_option linter.all false
set_option maxRecDepth 100000
set_option maxHeartbeats 1000000
/-! the draws, evaluated -/
namespace RL
open PySem
section
variable {ρ : Rho} {M : List Int}
@[simp] theorem e_fPot {i : Nat} {fb : Ev D} : fPot i fb ρ M = if isPot ρ[i]? = true then (fb ρ M).bnd fun k M1 => match k with | .int k => (Rs.of (L2.atI (potL ρ[i]? M1) k) M1).bnd fun z M1 => .ok (.int z) M1 | _ => .bad else .bad := nr rfl
@[simp] theorem isPot_pot : isPot (some .pot) = true := rfl
@[simp] theorem potL_pot : potL (some .pot) M = M := rfl
@[simp] theorem e_sPot {i k : Nat} {fe : Ev D} : sPot i k fe ρ M = (fe ρ M).out fun y M1 => match y, ρ[i]? with
  | .int z, some .pot => if k < M1.length then .nx ρ (M1.set k z) else .bad
  | _, _ => .bad := nr rfl
theorem atI_n {α : Type} {xs : List α} {k : Nat} (h : k < xs.length) : L2.atI xs (k : Int) = xs[k]? := by
  unfold L2.atI
  rw [ixN_nat h]; rfl
@[simp] theorem at3_0 {a b c : Int} : L2.atI [a, b, c] 0 = some a := atI_n (k := 0) (by simp)
@[simp] theorem at3_1 {a b c : Int} : L2.atI [a, b, c] 1 = some b := atI_n (k := 1) (by simp)
@[simp] theorem at3_2 {a b c : Int} : L2.atI [a, b, c] 2 = some c := atI_n (k := 2) (by simp)
theorem dPow_int {i j : Int} (h : CPw i j) : dPow (.int i) (.int j) = some (.int (i ^ j.toNat)) := cIf_pos h
/-- the draws' state: b draws more are left below the bound -/
def Pot (b : Nat) (M : List Int) : Prop := ∃ o s n : Int, M = [o, s, n] ∧ 0 ≤ o ∧ 0 ≤ s ∧ s < 4611686018427387904 ∧ 0 ≤ n ∧ n + b ≤ 1099511627776
theorem Pot.le {b c : Nat} (h : Pot c M) (hb : b ≤ c) : Pot b M := by
  obtain ⟨o, s, n, e, h1, h2, h3, h4, h5⟩ := h
  exact ⟨o, s, n, e, h1, h2, h3, h4, by omega⟩
end
end RL

set_option Elab.async false
set_option linter.all false
set_option maxRecDepth 100000
set_option maxHeartbeats 1000000
/-! the draws of a law: taken, made -/
namespace RL
open PySem L2
noncomputable section
def g_take (A B C E : Int) : Sm := (sSeq (sIf (asB (fOp dGt (fPot 0 (fun _ M => .ok (.int 0) M)) (fun _ M => .ok (.int 0) M))) (sSeq (sSet 4 (fOp dMod (fCall dInt (fCons (fPot 0 (fun _ M => .ok (.int 0) M)) fNil)) (vV 1)))
  (sSeq (sPot 0 0 (fOp dFdiv (fPot 0 (fun _ M => .ok (.int 0) M)) (vV 1)))
  (sRet (fCall dInt (fCons (vV 4) fNil))))) sNx)
  (sSeq (sPot 0 2 (fOp dAdd (fPot 0 (fun _ M => .ok (.int 2) M)) (fun _ M => .ok (.int 1) M)))
  (sSeq (sSet 2 (fOp dIx (fz (fLst (fCons (fun _ M => .ok (.int 2147483647) M) (fCons (fun _ M => .ok (.int 2147483629) M) (fCons (fun _ M => .ok (.int 2147483587) M) (fCons (fun _ M => .ok (.int 2147483579) M) (fCons (fun _ M => .ok (.int 2147483563) M) fNil))))))) (fOp dMod (fCall dInt (fCons (fPot 0 (fun _ M => .ok (.int 2) M)) fNil)) (fun _ M => .ok (.int 5) M))))
  (sSeq (sSet 3 (fOp dMod (fCall dInt (fCons (fOp dPow (fCall dInt (fCons (fOp dAdd (fOp dAdd (fPot 0 (fun _ M => .ok (.int 1) M)) (fOp dMul (fOp dMul (fun _ M => .ok (.int A) M) (fPot 0 (fun _ M => .ok (.int 2) M))) (fPot 0 (fun _ M => .ok (.int 2) M)))) (fun _ M => .ok (.int B) M)) fNil)) (fun _ M => .ok (.int 3) M)) fNil)) (vV 2)))
  (sSeq (sSet 3 (fOp dMod (fCall dInt (fCons (fOp dMul (vV 3) (fOp dAdd (fOp dMod (fCall dInt (fCons (vV 3) fNil)) (fun _ M => .ok (.int C) M)) (fOp dMul (fun _ M => .ok (.int E) M) (fPot 0 (fun _ M => .ok (.int 2) M))))) fNil)) (fun _ M => .ok (.int 2305843009213693907) M)))
  (sRet (fOp dMod (fCall dInt (fCons (fOp dFdiv (vV 3) (fun _ M => .ok (.int 11821) M)) fNil)) (vV 1))))))))
def g_pot (A B C E : Int) : Sm := (sSeq (sSet 2 (fIf (asB (fOp dLt (vV 1) (fLenP 0))) (fPot 0 (vV 1)) (fOp dAdd (fOp dAdd (fOp dMod (fCall dSum (fCons (fz (fSlP 0 fNo (fPt (fun _ M => .ok (.int 1) M)))) fNil)) (fun _ M => .ok (.int 1000003) M)) (fOp dMul (fun _ M => .ok (.int A) M) (vV 1))) (fun _ M => .ok (.int B) M))))
  (sSeq (sSet 3 (fOp dMul (fOp dMod (fCall dInt (fCons (fCall dAbs (fCons (vV 2) fNil)) fNil)) (fOp dPow (fOp dPow (fun _ M => .ok (.int 10) M) (fun _ M => .ok (.int 60) M)) (fun _ M => .ok (.int 5) M))) (fCall dInt (fCons (fOp dGe (fCall dAbs (fCons (vV 2) fNil)) (fOp dPow (fun _ M => .ok (.int 10) M) (fun _ M => .ok (.int 18) M))) fNil))))
  (sSeq (sSet 4 (fOp dMod (fCall dInt (fCons (vV 2) fNil)) (fun _ M => .ok (.int 2305843009213693951) M)))
  (sRet (fz (fLst (fCons (vE 3) (fCons (fOp dMod (fCall dInt (fCons (fOp dAdd (fOp dAdd (fOp dMul (vV 4) (fun _ M => .ok (.int C) M)) (fOp dMul (fOp dMul (fun _ M => .ok (.int E) M) (vV 1)) (vV 1))) (fun _ M => .ok (.int 15077) M)) fNil)) (fun _ M => .ok (.int 2305843009213693921) M)) (fCons (fun _ M => .ok (.int 0) M) fNil)))))))))
end
theorem bits_le {x : Int} (h0 : 0 ≤ x) (h : x < 2 ^ 200) : Builtin.Int.intBits x ≤ 200 := by
  unfold Builtin.Int.intBits
  split
  · omega
  · rename_i q
    have q : x ≠ 0 := by simpa using q
    have n0 : x.natAbs ≠ 0 := by omega
    have : x.natAbs < 2 ^ 200 := by
      have e : (x.natAbs : Int) = x := by omega
      have : (x.natAbs : Int) < ((2 ^ 200 : Nat) : Int) := by rw [e]; exact_mod_cast h
      exact_mod_cast this
    have := (Nat.log2_lt n0).mpr this
    omega
theorem cpw3 {x : Int} (h0 : 0 ≤ x) (h : x < 2 ^ 200) : CPw x 3 := by
  have := bits_le h0 h
  refine ⟨by omega, ?_⟩
  omega
section
variable {A B C E u : Int} {M : List Int} {b : Nat}
theorem nn_pow3 {x : Int} (h : 0 ≤ x) : 0 ≤ x ^ 3 := Int.pow_nonneg h
theorem sq_le {A n : Int} (hA : 0 ≤ A) (hA2 : A ≤ 1073741824) (h0 : 0 ≤ n) (h : n ≤ 1099511627776) : 0 ≤ A * n * n ∧ A * n * n ≤ 1073741824 * 1099511627776 * 1099511627776 := by
  have h1 : 0 ≤ A * n := Int.mul_nonneg hA h0
  have h2 : A * n ≤ 1073741824 * 1099511627776 := Int.mul_le_mul hA2 h h0 (by omega)
  exact ⟨Int.mul_nonneg h1 h0, Int.mul_le_mul h2 h h0 (by omega)⟩
theorem take_ok (hA : 0 ≤ A ∧ A ≤ 1073741824) (hB : 0 ≤ B ∧ B ≤ 1073741824) (hC : 0 < C ∧ C ≤ 1073741824) (hE : 0 ≤ E ∧ E ≤ 1073741824) (hu : 0 < u) (hu2 : u < 1073741824) (h : Pot (b + 1) M) :
    ∃ k M', bodyF 2 5 (g_take A B C E) [.pot, .d (.int u)] M = .ok (.int k) M' ∧ 0 ≤ k ∧ k < u ∧ Pot b M' := by
  obtain ⟨o, s, n, rfl, h1, h2, h3, h4, h5⟩ := h
  by_cases q : 0 < o
  · refine ⟨o % u, [o / u, s, n], ?_, Int.emod_nonneg _ (by omega), Int.emod_lt_of_pos _ hu, o / u, s, n, rfl, Int.ediv_nonneg h1 (by omega), h2, h3, h4, by omega⟩
    simp [g_take, q, hu, hu2]
  · have n1 : n + 1 ≤ 1099511627776 := by omega
    have n0 : 0 ≤ n + 1 := by omega
    generalize hm : n + 1 = m at n1 n0
    obtain ⟨z0, z1⟩ := sq_le hA.1 hA.2 n0 n1
    have hx0 : 0 ≤ s + A * m * m + B := by omega
    have hx1 : s + A * m * m + B < 2 ^ 200 := by
      have : (2:Int) ^ 200 = 1606938044258990275541962092341162602522202993782792835301376 := by decide +kernel
      omega
    have c1 : CMul A m := .inl ⟨by omega, by omega⟩
    have c2 : CMul (A * m) m := .inr ⟨by omega, by omega⟩
    have c3 := cpw3 hx0 hx1
    have c4 : CMul E m := .inl ⟨by omega, by omega⟩
    have hp : ∃ p : Int, [PyData.int 2147483647, .int 2147483629, .int 2147483587, .int 2147483579, .int 2147483563][(m % 5).toNat]? = some (.int p) ∧ 0 < p ∧ p ≤ 2147483647 := by
      have a1 := Int.emod_nonneg m (show (5:Int) ≠ 0 by omega)
      have a2 := Int.emod_lt_of_pos m (show (0:Int) < 5 by omega)
      generalize m % 5 = r at a1 a2
      have : r = 0 ∨ r = 1 ∨ r = 2 ∨ r = 3 ∨ r = 4 := by omega
      rcases this with rfl | rfl | rfl | rfl | rfl
      · exact ⟨_, rfl, by omega, by omega⟩
      · exact ⟨_, rfl, by omega, by omega⟩
      · exact ⟨_, rfl, by omega, by omega⟩
      · exact ⟨_, rfl, by omega, by omega⟩
      · exact ⟨_, rfl, by omega, by omega⟩
    obtain ⟨p, ep, p0, p1⟩ := hp
    have ei : atI [PyData.int 2147483647, .int 2147483629, .int 2147483587, .int 2147483579, .int 2147483563] (m % 5) = some (.int p) := by
      have a1 := Int.emod_nonneg m (show (5:Int) ≠ 0 by omega)
      have a2 := Int.emod_lt_of_pos m (show (0:Int) < 5 by omega)
      have e : m % 5 = ((m % 5).toNat : Int) := by omega
      rw [← ep]
      conv => lhs; rw [e]
      exact atI_n (by simp; omega)
    have ed : dIx (.list [PyData.int 2147483647, .int 2147483629, .int 2147483587, .int 2147483579, .int 2147483563]) (.int (m % 5)) = some (.int p) := ei
    generalize hb : (s + A * m * m + B) ^ 3 % p = bl
    have hb0 : 0 ≤ bl := by rw [← hb]; exact Int.emod_nonneg _ (by omega)
    have hb1 : bl < p := by rw [← hb]; exact Int.emod_lt_of_pos _ p0
    have c5 : CMul bl (bl % C + E * m) := .inl ⟨by omega, by omega⟩
    refine ⟨(bl * (bl % C + E * m)) % 2305843009213693907 / 11821 % u, [o, s, m], ?_, Int.emod_nonneg _ (by omega), Int.emod_lt_of_pos _ hu, o, s, m, rfl, h1, h2, h3, by omega, by omega⟩
    simp [g_take, q, hu, hu2, hm, ed, c1, c2, dPow_int c3, c4, p0, hb, hC.1, c5]
end
end RL

set_option Elab.async false
set_option linter.all false
set_option maxRecDepth 100000
set_option maxHeartbeats 1000000
/-! the draws of a law: made of a cell; one of some; the cells; the law's loop -/
namespace RL
open PySem L2
section
variable {ρ : Rho} {M : List Int} {A B C E u : Int} {b : Nat} {L : List Int}
@[simp] theorem isPot_r : isPot (some (.r L)) = true := rfl
@[simp] theorem potL_r : potL (some (.r L)) M = L := rfl
@[simp] theorem e_fLenP {i : Nat} : fLenP i ρ M = if isPot ρ[i]? = true then .ok (.int (potL ρ[i]? M).length) M else .bad := nr rfl
@[simp] theorem e_fSlP {i : Nat} {fl fh : Ev (Option Int)} : fSlP i fl fh ρ M = if isPot ρ[i]? = true then (fl ρ M).bnd fun l M1 => (fh ρ M1).bnd fun h M2 => .ok (cutD ((potL ρ[i]? M2).map .int) l h) M2 else .bad := nr rfl
@[simp] theorem e_fLr1 {f : Ev D} : fLr1 f ρ M = (f ρ M).bnd fun x M1 => match x with
  | .int j => if 0 ≤ j ∧ j ≤ 16777216 then .ok (rgItems 0 j.toNat) M1 else .bad
  | _ => .bad := nr rfl
theorem cutD_int {xs : List Int} {lo hi : Option Int} : ∃ ys : List Int, cutD (xs.map PyData.int) lo hi = ys.map .int := by
  unfold cutD
  exact ⟨(xs.drop _).take _, by rw [List.map_take, List.map_drop]⟩
theorem dSum_int {ns : List Int} : dSum [.list (ns.map .int)] = some (.int ns.sum) := by
  unfold dSum
  simp only [intsD_map]; rfl
theorem p300 : CPw 10 60 := ⟨by omega, by decide +kernel⟩
theorem p300b : CPw (10 ^ 60) 5 := ⟨by omega, by decide +kernel⟩
theorem p18 : CPw 10 18 := ⟨by omega, by decide +kernel⟩
theorem pot_ok (hA : 0 ≤ A ∧ A ≤ 1073741824) (hC : 0 ≤ C ∧ C ≤ 1073741824) (hE : 0 ≤ E ∧ E ≤ 1073741824) {k : Nat} (hk : k ≤ 100) (hL : L.length ≤ 63) :
    ∃ o s : Int, bodyF 2 5 (g_pot A B C E) [.r L, .d (.int (k : Int))] M = .ok (.list [.int o, .int s, .int 0]) M ∧ Pot 1000000000 [o, s, 0] := by
  have c1 : CMul A (k : Int) := .inr ⟨by omega, by omega⟩
  have hcell : ∃ cell : Int, (fIf (asB (fOp dLt (vV 1) (fLenP 0))) (fPot 0 (vV 1)) (fOp dAdd (fOp dAdd (fOp dMod (fCall dSum (fCons (fz (fSlP 0 fNo (fPt (fun _ M => .ok (.int 1) M)))) fNil)) (fun _ M => .ok (.int 1000003) M)) (fOp dMul (fun _ M => .ok (.int A) M) (vV 1))) (fun _ M => .ok (.int B) M))) [.r L, .d (.int (k : Int)), .un, .un, .un] M = .ok (.int cell) M := by
    by_cases q : (k : Int) < L.length
    · refine ⟨L[k]'(by omega), ?_⟩
      have := atI_n (xs := L) (k := k) (by omega)
      simp [q, this]
      rw [List.getElem?_eq_getElem (by omega)]
      simp
    · obtain ⟨ys, hy⟩ := cutD_int (xs := L) (lo := none) (hi := some 1)
      refine ⟨ys.sum % 1000003 + A * k + B, ?_⟩
      simp [q, hy, dSum_int, c1]
  obtain ⟨cell, ec⟩ := hcell
  generalize hx : (if cell < 0 then -cell else cell) = x
  have x0 : 0 ≤ x := by rw [← hx]; split <;> omega
  obtain ⟨Q, P, d1, d2, hp⟩ : ∃ Q P : Int, dPow (.int 10) (.int 60) = some (.int Q) ∧ dPow (.int Q) (.int 5) = some (.int P) ∧ 0 < P := ⟨10 ^ 60, (10 ^ 60) ^ 5, dPow_int p300, dPow_int p300b, by decide +kernel⟩
  obtain ⟨S, d3⟩ : ∃ S : Int, dPow (.int 10) (.int 18) = some (.int S) := ⟨10 ^ 18, dPow_int p18⟩
  generalize hy : x % P = y
  have y0 : 0 ≤ y := by rw [← hy]; exact Int.emod_nonneg _ (by omega)
  generalize hw : (if decide (x ≥ S) = true then (1 : Int) else 0) = w
  have w0 : w = 0 ∨ w = 1 := by rw [← hw]; split <;> simp
  have c2 : CMul y w := .inr (by rcases w0 with rfl | rfl <;> omega)
  generalize hz : cell % 2305843009213693951 = z
  have z0 : 0 ≤ z := by rw [← hz]; exact Int.emod_nonneg _ (by omega)
  have z1 : z < 2305843009213693951 := by rw [← hz]; exact Int.emod_lt_of_pos _ (by omega)
  have c3 : CMul z C := .inr ⟨by omega, by omega⟩
  have c4 : CMul E (k : Int) := .inr ⟨by omega, by omega⟩
  have c5 : CMul (E * k) (k : Int) := .inr ⟨by omega, by omega⟩
  refine ⟨y * w, (z * C + E * k * k + 15077) % 2305843009213693921, ?_, y * w, _, 0, rfl, ?_, Int.emod_nonneg _ (by omega), ?_, by omega, by omega⟩
  · have m1 : dMod (.int x) (.int P) = some (.int y) := by rw [← hy]; exact dMod_int hp
    have m2 : dInt [.bool (decide (x ≥ S))] = some (.int w) := by rw [← hw]; exact dInt_bool
    have m3 : dAbs [.int cell] = some (.int x) := by rw [← hx]; exact dAbs_int
    have m4 : dMod (.int cell) (.int 2305843009213693951) = some (.int z) := by rw [← hz]; exact dMod_int (by omega)
    have m5 : dGe (.int x) (.int S) = some (.bool (decide (x ≥ S))) := dGe_int
    rw [e_bodyF]
    simp only [g_pot, e_sSeq, e_sSet, List.length_cons, List.length_nil, if_true, List.replicate, List.cons_append, List.nil_append, ec, out_ok, Nat.reduceAdd, Nat.reduceSub, seq_nx]
    simp [-dAbs_int, -dInt_bool, -dGe_int, d1, d2, d3, m1, m2, m3, m4, m5, c2, c3, c4, c5]
  · rcases w0 with rfl | rfl <;> omega
  · have := Int.emod_lt_of_pos (z * C + E * k * k + 15077) (show (0:Int) < 2305843009213693921 by omega)
    omega
end
end RL

set_option Elab.async false
set_option linter.all false
set_option maxRecDepth 100000
set_option maxHeartbeats 1000000
/-! the law's loop over its cells -/
namespace RL
open PySem L2
noncomputable def g_law (Fp Fc Fr : Fb) (laps most : Int) : Sm := (sSeq (sFor (pName 1) (sTurn 2 (fFn Fp (agPot 0 (agCons (vE 1) agNil))) (fNot (fTru (fCall dAll (fCons (fz (fLc [3] (pName 3) fYes (fFn Fr (agPot 2 agNil)) (fRng1 (fCons (fun _ M => .ok (.int laps) M) fNil)))) fNil))))) (fItems (fFn Fc (agPot 0 (agCons (fun _ M => .ok (.int most) M) agNil)))))
  (sRet (fun _ M => .ok (.bool true) M)))
def g_cells : Sm := (sRet (fz (fLr1 (fCall dMax (fCons (fun _ M => .ok (.int 1) M) (fCons (fCall dMin (fCons (vV 1) (fCons (fLenP 0) fNil))) fNil))))))
section
variable {ι : Type} {g : Pat} {fe : Ev D} {ρ : Rho} {M : List Int} {A B C E u : Int} {b : Nat} {L : List Int}
/-- a comprehension whose items all draw and all come to one value each -/
theorem lc_potV (enc : ι → D) (h : ι → D) (c : Nat) : ∀ (l : List ι) (b : Nat) (M : List Int), (∀ i ∈ l, ∃ ρ1, g (enc i) ρ = some ρ1 ∧ ∀ b M, Pot (c + b) M → ∃ M', fe ρ1 M = .ok (h i) M' ∧ Pot b M') → Pot (c * l.length + b) M →
    ∃ M', lcGo g fYes fe ρ (l.map enc) M = .ok (l.map h) M' ∧ Pot b M'
  | [], b, M, _, j => ⟨M, rfl, by simpa using j⟩
  | i :: l, b, M, H, j => by
    obtain ⟨ρ1, h1, h2⟩ := H i List.mem_cons_self
    obtain ⟨M1, e1, j1⟩ := h2 (c * l.length + b) M (by rw [List.length_cons, Nat.mul_succ] at j; rw [← Nat.add_assoc, Nat.add_comm c]; exact j)
    obtain ⟨M2, e2, j2⟩ := lc_potV enc h c l b M1 (fun k m => H k (List.mem_cons_of_mem _ m)) j1
    refine ⟨M2, ?_, j2⟩
    rw [List.map_cons, e_lc1, h1]
    simp [e1, e2]
theorem e_cells {most : Int} (h1 : 1 ≤ most) (h2 : most ≤ 100) (hL : L.length ≤ 63) : ∃ n : Nat, n ≤ 100 ∧ bodyF 2 2 g_cells [.r L, .d (.int most)] M = .ok (.list ((List.range n).map fun k => PyData.int (k : Nat))) M := by
  have a : 0 ≤ max (1 : Int) (min most L.length) := by omega
  have b : max (1 : Int) (min most L.length) ≤ 16777216 := by omega
  refine ⟨(max (1 : Int) (min most L.length)).toNat, by omega, ?_⟩
  rw [← rgItems_map]
  simp only [e_bodyF, g_cells, List.length_cons, List.length_nil, if_true, List.replicate, List.cons_append, List.nil_append, e_sRet, e_fz, e_fLr1, e_fCall, e_fCons, bnd_ok, e_vV, List.getElem?_cons_zero, List.getElem?_cons_succ, e_fLenP, isPot_r, potL_r, e_fNil, dMin_int, of_some, dMax_int]
  rw [if_pos ⟨a, b⟩]
  simp
theorem law_holds {Fr : Fb} {c : Nat} {laps most : Int} (hA : 0 ≤ A ∧ A ≤ 1073741824) (hC : 0 ≤ C ∧ C ≤ 1073741824) (hE : 0 ≤ E ∧ E ≤ 1073741824) (h1 : 1 ≤ most) (h2 : most ≤ 100) (l1 : 0 ≤ laps) (l2 : laps ≤ 1000) (hc : c * laps.toNat ≤ 1000000000)
    (hr : ∀ b M, Pot (c + b) M → ∃ M', Fr [.pot] M = .ok (.bool true) M' ∧ Pot b M') (hL : L.length ≤ 63) :
    ∃ M, bodyF 1 4 (g_law (bodyF 2 5 (g_pot A B C E)) (bodyF 2 2 g_cells) Fr laps most) [.r L] [] = .ok (.bool true) M := by
  obtain ⟨n, hn, ec⟩ := e_cells (M := []) h1 h2 hL
  have turn : ∀ (k : Nat) (x : SV), k < n → ∃ y, sTurn 2 (fFn (bodyF 2 5 (g_pot A B C E)) (agPot 0 (agCons (vE 1) agNil))) (fNot (fTru (fCall dAll (fCons (fz (fLc [3] (pName 3) fYes (fFn Fr (agPot 2 agNil)) (fRng1 (fCons (fun _ M => .ok (.int laps) M) fNil)))) fNil)))) [.r L, .d (.int (k : Int)), .un, .un] [] = .nx [.r L, y, .un, .un] [] := fun k x hk => by
    obtain ⟨o, s, e, hp⟩ := pot_ok (M := []) (B := B) hA hC hE (k := k) (by omega) hL
    have e1 : fFn (bodyF 2 5 (g_pot A B C E)) (agPot 0 (agCons (vE 1) agNil)) (scal [.r L, .d (.int (k : Int)), .un, .un]) [] = .ok (.list [.int o, .int s, .int 0]) [] := by
      simp only [scal, List.map_cons, List.map_nil, scal1, e_fFn, e_agPot, e_agCons, List.getElem?_cons_zero, List.getElem?_cons_succ, e_vE, bnd_ok, e_agNil, e]
    obtain ⟨M', el, _⟩ := lc_potV (g := pName 3) (fe := fFn Fr (agPot 2 agNil)) (ρ := onlyPot 2 4) (fun k : Nat => PyData.int (k : Nat)) (fun _ => .bool true) c (List.range laps.toNat) 0 [o, s, 0] (fun i m => ⟨_, rfl, fun b M hp => by
      obtain ⟨M', e, p⟩ := hr b M hp
      exact ⟨M', by simp [onlyPot, List.replicate, e], p⟩⟩) (hp.le (by rw [List.length_range]; omega))
    have e2 : (fNot (fTru (fCall dAll (fCons (fz (fLc [3] (pName 3) fYes (fFn Fr (agPot 2 agNil)) (fRng1 (fCons (fun _ M => .ok (.int laps) M) fNil)))) fNil)))) (onlyPot 2 4) [o, s, 0] = .ok false M' := by
      have w : wipeR (onlyPot 2 4) [3] = onlyPot 2 4 := rfl
      have r1 : rng1 [.int laps] [o, s, 0] = .ok ((List.range laps.toNat).map fun k => PyData.int (k : Nat)) [o, s, 0] := by
        rw [rng1_int (by omega) (by omega), rgItems_map]
      have al := dAll_map (List.range laps.toNat) fun _ => true
      simp only [e_fNot, e_fTru, e_fCall, e_fCons, e_fz, e_fLc, e_fRng1, bnd_ok, e_fNil, r1, w]
      rw [lcRun_le (by rw [List.length_map, List.length_range]; omega), el]
      simp only [bnd_ok]
      rw [al]
      simp
    refine ⟨.d (.int (k : Int)), ?_⟩
    unfold sTurn
    rw [e1]
    have i3 : intsD [PyData.int o, .int s, .int 0] = some [o, s, 0] := intsD_map [o, s, 0]
    simp only [i3]
    rw [show ([SV.r L, .d (.int (k : Int)), .un, .un] : Rho).length = 4 from rfl, e2]
    rfl
  have go : ∀ (l : List Nat) (x : SV), (∀ k ∈ l, k < n) → ∃ y, forGo (pName 1) (sTurn 2 (fFn (bodyF 2 5 (g_pot A B C E)) (agPot 0 (agCons (vE 1) agNil))) (fNot (fTru (fCall dAll (fCons (fz (fLc [3] (pName 3) fYes (fFn Fr (agPot 2 agNil)) (fRng1 (fCons (fun _ M => .ok (.int laps) M) fNil)))) fNil))))) (l.map fun k => PyData.int (k : Nat)) [.r L, x, .un, .un] [] = .nx [.r L, y, .un, .un] [] := by
    intro l
    induction l with
    | nil => exact fun x _ => ⟨x, rfl⟩
    | cons k l ih =>
      intro x hk
      obtain ⟨y, e⟩ := turn k x (hk k List.mem_cons_self)
      obtain ⟨z, e2⟩ := ih y fun j m => hk j (List.mem_cons_of_mem _ m)
      refine ⟨z, ?_⟩
      rw [List.map_cons, e_for1]
      simp only [e_pName, List.set_cons_succ, List.set_cons_zero]
      rw [e]
      exact e2
  obtain ⟨y, eg⟩ := go (List.range n) .un fun k m => List.mem_range.mp m
  refine ⟨[], ?_⟩
  rw [e_bodyF]
  simp only [g_law, List.length_cons, List.length_nil, if_true, List.replicate, List.cons_append, List.nil_append, e_sSeq, e_sFor, e_fItems, e_fFn, e_agPot, e_agCons, List.getElem?_cons_zero, bnd_ok, e_agNil, ec, items_lst, of_some, out_ok, Nat.reduceAdd, Nat.reduceSub, eg, seq_nx, e_sRet, rs_ret]
end
end RL

set_option Elab.async false
set_option linter.all false
set_option maxRecDepth 100000
set_option maxHeartbeats 1000000
/-! tame data: what can be compared, shown and laid -/
namespace RL
open PySem L2 PyProof.Rows
structure Tame (k w : Nat) (d : D) : Prop where
  lay : d.canLay0 = true
  dep : d.depth ≤ k
  show_ : d.showable = true
  ishort : d.intsShort 13 = true
  wt : d.weight ≤ w
theorem Tame.le {k w k' w' : Nat} {d : D} (h : Tame k w d) (hk : k ≤ k') (hw : w ≤ w') : Tame k' w' d := ⟨h.lay, Nat.le_trans h.dep hk, h.show_, h.ishort, Nat.le_trans h.wt hw⟩
theorem tame_none {k w : Nat} : Tame k w .none := ⟨rfl, Nat.zero_le _, by simp only [PyData.showable], by simp only [PyData.intsShort], by simp only [PyData.weight]; omega⟩
theorem tame_bool {k w : Nat} {b : Bool} : Tame k w (.bool b) := ⟨rfl, Nat.zero_le _, by simp only [PyData.showable], by simp only [PyData.intsShort], by simp only [PyData.weight]; omega⟩
theorem log2_le {n k : Nat} (h : n < 2 ^ k) (hk : 0 < k) : n.log2 < k := by
  by_cases e : n = 0
  · subst e; simpa using hk
  · exact (Nat.log2_lt e).mpr h
theorem tame_int {k w : Nat} {i : Int} (h1 : -999999999999 ≤ i) (h2 : i ≤ 999999999999) (hw : 40 ≤ w) : Tame k w (.int i) := by
  have hn : i.natAbs < 2 ^ 40 := by omega
  have hl := log2_le hn (by omega)
  refine ⟨rfl, Nat.zero_le _, ?_, ?_, ?_⟩
  · simp only [PyData.showable]; exact decide_eq_true (by omega)
  · simp only [PyData.intsShort, decide_eq_true_eq]; exact PyData.shown_int_le2 (by omega) (by omega)
  · simp only [PyData.weight]
    split <;> omega
theorem tame_str {k w : Nat} {s : Str} (h : PyData.strOk s = true) (hw : s.length ≤ w) : Tame k w (.str s) :=
  ⟨by simpa only [PyData.canLay0] using h, Nat.zero_le _, by simp only [PyData.showable], by simp only [PyData.intsShort], by simp only [PyData.weight]; exact hw⟩
section
variable {k w : Nat}
theorem canLayAll_of {xs : List D} (h : ∀ x ∈ xs, Tame k w x) : PyData.canLayAll0 xs = true := by
  induction xs with
  | nil => rfl
  | cons x xs ih => simp only [PyData.canLayAll0, (h x List.mem_cons_self).lay, ih fun y m => h y (List.mem_cons_of_mem _ m)]; rfl
theorem depthAll_of {xs : List D} (h : ∀ x ∈ xs, Tame k w x) : PyData.depthAll xs ≤ k := by
  induction xs with
  | nil => exact Nat.zero_le _
  | cons x xs ih =>
    have := (h x List.mem_cons_self).dep
    have := ih fun y m => h y (List.mem_cons_of_mem _ m)
    simp only [PyData.depthAll]
    omega
theorem showAll_of {xs : List D} (h : ∀ x ∈ xs, Tame k w x) : PyData.showableAll xs = true := by
  induction xs with
  | nil => simp only [PyData.showableAll]
  | cons x xs ih => simp only [PyData.showableAll, (h x List.mem_cons_self).show_, ih fun y m => h y (List.mem_cons_of_mem _ m)]; rfl
theorem intsAll_of {xs : List D} (h : ∀ x ∈ xs, Tame k w x) : PyData.intsShortAll 13 xs = true := by
  induction xs with
  | nil => simp only [PyData.intsShortAll]
  | cons x xs ih => simp only [PyData.intsShortAll, (h x List.mem_cons_self).ishort, ih fun y m => h y (List.mem_cons_of_mem _ m)]; rfl
theorem weightAll_of {xs : List D} (h : ∀ x ∈ xs, Tame k w x) : PyData.weightAll xs ≤ (w + 1) * xs.length := by
  induction xs with
  | nil => simp only [PyData.weightAll]; omega
  | cons x xs ih =>
    have := (h x List.mem_cons_self).wt
    have := ih fun y m => h y (List.mem_cons_of_mem _ m)
    simp only [PyData.weightAll, List.length_cons, Nat.mul_succ]
    omega
theorem tame_tup {k' w' : Nat} {xs : List D} (h : ∀ x ∈ xs, Tame k w x) (hk : k + 1 ≤ k') (hw : (w + 1) * xs.length ≤ w') : Tame k' w' (.tuple xs) where
  lay := by simp only [PyData.canLay0]; exact canLayAll_of h
  dep := by have := depthAll_of h; simp only [PyData.depth]; omega
  show_ := by simp only [PyData.showable]; exact showAll_of h
  ishort := by simp only [PyData.intsShort]; exact intsAll_of h
  wt := by have := weightAll_of h; simp only [PyData.weight]; omega
theorem tame_lst {k' w' : Nat} {xs : List D} (h : ∀ x ∈ xs, Tame k w x) (hk : k + 1 ≤ k') (hw : (w + 1) * xs.length ≤ w') : Tame k' w' (.list xs) where
  lay := by simp only [PyData.canLay0]; exact canLayAll_of h
  dep := by have := depthAll_of h; simp only [PyData.depth]; omega
  show_ := by simp only [PyData.showable]; exact showAll_of h
  ishort := by simp only [PyData.intsShort]; exact intsAll_of h
  wt := by have := weightAll_of h; simp only [PyData.weight]; omega
theorem Tame.shaped {d : D} (h : Tame k w d) (hk : k ≤ 64) : SeqAt.shaped d = true := by
  have := h.dep
  unfold SeqAt.shaped
  rw [h.lay, decide_eq_true (by omega)]
  rfl
theorem Tame.short {d : D} (h : Tame k w d) (hk : k ≤ 64) (hw : w ≤ 1048576) : d.shown.length ≤ 16777216 := by
  have h1 := h.dep
  have h2 := h.wt
  have hl : PyData.layable0 d = true := by
    unfold PyData.layable0
    rw [h.lay, decide_eq_true (by omega : d.depth ≤ 64), decide_eq_true (by omega : d.weight ≤ 2 ^ 20)]
    rfl
  have := shown_le13 hl h.ishort
  omega
theorem Tame.repr {d : D} (h : Tame k w d) (hk : k ≤ 64) (hw : w ≤ 1048576) : dRepr [d] = some (.str d.shown) := by
  show (if _ then _ else _) = _
  rw [if_pos ⟨h.shaped hk, h.show_, h.short hk hw⟩]
theorem dEq_ok {x y : D} {k w k' w' : Nat} (h : Tame k w x) (h' : Tame k' w' y) (hk : k ≤ 64) (hk' : k' ≤ 64) : dEq x y = some (.bool (PyData.eqv x y)) := by
  unfold dEq
  rw [if_pos (.inl ⟨h.shaped hk, h'.shaped hk'⟩)]
theorem dNe_ok {x y : D} {k w k' w' : Nat} (h : Tame k w x) (h' : Tame k' w' y) (hk : k ≤ 64) (hk' : k' ≤ 64) : dNe x y = some (.bool (!PyData.eqv x y)) := by
  unfold dNe
  rw [if_pos (.inl ⟨h.shaped hk, h'.shaped hk'⟩)]
theorem Tame.eqv {d : D} (h : Tame k w d) : PyData.eqv d d = true := SeqAt.eqv_refl d h.lay
@[simp] theorem dEq_strs {s t : Str} : dEq (.str s) (.str t) = some (.bool (s == t)) := by
  unfold dEq
  rw [if_pos (.inr ⟨rfl, rfl⟩)]
  simp only [PyData.eqv]
@[simp] theorem dNe_strs {s t : Str} : dNe (.str s) (.str t) = some (.bool (!(s == t))) := by
  unfold dNe
  rw [if_pos (.inr ⟨rfl, rfl⟩)]
  simp only [PyData.eqv]
theorem dEq_int {i j : Int} : dEq (.int i) (.int j) = some (.bool (decide (i = j))) := by
  unfold dEq
  rw [if_pos (.inl ⟨rfl, rfl⟩)]
  simp only [PyData.eqv]; rfl
theorem dNe_int {i j : Int} : dNe (.int i) (.int j) = some (.bool (!decide (i = j))) := by
  unfold dNe
  rw [if_pos (.inl ⟨rfl, rfl⟩)]
  simp only [PyData.eqv]; rfl
theorem dIs_none {x : D} {neg : Bool} : dIs neg x .none = some (.bool (neg != isN x)) := by unfold dIs; rfl
end
end RL

set_option Elab.async false
set_option linter.all false
set_option maxRecDepth 100000
set_option maxHeartbeats 1000000
/-! more equations: lists changed in place, texts -/
namespace RL
open PySem L2
section
variable {α : Type} {ρ : Rho} {M : List Int}
@[simp] theorem e_sPut {i : Nat} {fk fe : Ev D} : sPut i fk fe ρ M = (fe ρ M).out fun y M1 => match ρ[i]? with
  | some (.l xs) => (fk ρ M1).out fun k M2 => match k with
    | .int k => match ixN xs.length k with
      | some j => .nx (ρ.set i (.l (xs.set j y))) M2
      | none => .bad
    | _ => .bad
  | _ => .bad := nr rfl
@[simp] theorem e_sAppPop {i j : Nat} {fe : Ev D} : sAppPop i j fe ρ M = match ρ[i]?, ρ[j]? with
  | some (.l xs), some (.l ys) => (fe ρ M).out fun k M1 => match k with
    | .int k => if 0 ≤ k ∧ xs.length ≤ 16777215 ∧ ys.length ≤ 16777215 ∧ i ≠ j then (match ys[k.toNat]? with
      | some y => .nx ((ρ.set j (.l (ys.eraseIdx k.toNat))).set i (.l (xs ++ [y]))) M1
      | none => .bad) else .bad
    | _ => .bad
  | _, _ => .bad := nr rfl
@[simp] theorem e_fJoin {fa fb : Ev D} : fJoin fa fb ρ M = (fa ρ M).bnd fun x M1 => match x with
  | .str a => (fb ρ M1).bnd fun y M2 => Rs.of (dJoin (.str a) y) M2
  | _ => .bad := nr rfl
@[simp] theorem e_fRev {fa : Ev D} : fRev fa ρ M = (fa ρ M).bnd fun x M1 => Rs.of (dRev x) M1 := nr rfl
@[simp] theorem dRev_tup {xs : List D} : dRev (.tuple xs) = some (.tuple xs.reverse) := nr rfl
@[simp] theorem dRev_lst {xs : List D} : dRev (.list xs) = some (.list xs.reverse) := nr rfl
@[simp] theorem e_fEnumZip {f : Ev (List D)} : fEnumZip f ρ M = (f ρ M).bnd fun xs M1 => match xs with
  | [x, y] => Rs.of ((seqItems x).bind fun xs => (seqItems y).map fun ys => numD 0 (zipD xs ys)) M1
  | _ => .bad := nr rfl
@[simp] theorem e_sZipSum {i : Nat} {fa : Ev (List D)} {vs : List Nat} {g : Pat} {ft : Ev Bool} {fe : Ev D} : sZipSum i fa vs g ft fe ρ M = if i < ρ.length then (fa ρ M).out fun xs M1 => match xs with
  | [x, y] => (Rs.of ((seqItems x).bind fun xs => (seqItems y).map fun ys => zipD xs ys) M1).out fun zs M1 =>
    ((lcRun g ft fe (wipeR (ρ.set i .un) vs) zs M1).bnd fun ys M2 => Rs.of (dSum [.list ys]) M2).out fun r M2 => .ret r M2
  | _ => .bad else .bad := nr rfl
end
/-! texts by lists -/
abbrev T (l : List Nat) : Str := ⟨l.toArray⟩
@[simp] theorem T_length (l : List Nat) : (T l).length = l.length := by show (l.toArray).size = _; simp
theorem T_inj {a b : List Nat} : T a = T b ↔ a = b := ⟨fun h => by have := congrArg Str.cps h; simpa using this, fun h => by rw [h]⟩
@[simp] theorem T_append (a b : List Nat) : T a ++ T b = T (a ++ b) := by
  show (⟨a.toArray ++ b.toArray⟩ : Str) = _
  simp
@[simp] theorem T_beq (a b : List Nat) : (T a == T b) = decide (a = b) := by
  by_cases h : a = b
  · subst h; simp
  · rw [decide_eq_false h]
    refine beq_eq_false_iff_ne.mpr fun e => h (T_inj.mp e)
@[simp] theorem items_T (l : List Nat) : seqItems (.str (T l)) = some (l.map fun k => PyData.str (T [k])) := rfl
@[simp] theorem dLen_T {l : List Nat} (h : l.length ≤ 16777216) : dLen [.str (T l)] = some (.int l.length) := by
  rw [dLen_str (by rw [T_length]; exact h), T_length]
@[simp] theorem dAdd_T {a b : List Nat} (h : a.length + b.length ≤ 16777216) : dAdd (.str (T a)) (.str (T b)) = some (.str (T (a ++ b))) := by
  show (if _ then _ else _) = _
  rw [if_pos (by rw [T_length, T_length]; exact h), T_append]
theorem cutS_T (l : List Nat) (lo hi : Option Int) : cutS (T l) lo hi = T ((l.drop (HT.sIx l.length 0 lo)).take (HT.sIx l.length l.length hi - HT.sIx l.length 0 lo)) := by
  unfold cutS
  rw [T_length]
theorem dSl_T {l : List Nat} {lo hi : Option Int} (h : l.length ≤ 16777216) : dSl (.str (T l)) lo hi = some (.str (T ((l.drop (HT.sIx l.length 0 lo)).take (HT.sIx l.length l.length hi - HT.sIx l.length 0 lo)))) := by
  show (if _ then _ else _) = _
  rw [if_pos (by rw [T_length]; exact h), cutS_T]
/-- l[:b] -/
theorem sl_to {l : List Nat} {b : Nat} (h : l.length ≤ 16777216) : dSl (.str (T l)) none (some (b : Int)) = some (.str (T (l.take b))) := by
  rw [dSl_T h, HT.sIx_none, HT.sIx_nat, List.drop_zero, Nat.sub_zero]
  congr 3
  rcases Nat.le_total b l.length with q | q
  · rw [Nat.min_eq_left q]
  · rw [Nat.min_eq_right q, List.take_of_length_le (Nat.le_refl _), List.take_of_length_le q]
/-- l[a:] -/
theorem sl_from {l : List Nat} {a : Nat} (h : l.length ≤ 16777216) : dSl (.str (T l)) (some (a : Int)) none = some (.str (T (l.drop a))) := by
  rw [dSl_T h, HT.sIx_none, HT.sIx_nat]
  congr 3
  rcases Nat.le_total a l.length with q | q
  · rw [Nat.min_eq_left q, List.take_of_length_le (by rw [List.length_drop]; omega)]
  · rw [Nat.min_eq_right q, List.drop_of_length_le (Nat.le_refl _), List.drop_of_length_le q, List.take_nil]
/-- l[a:b] -/
theorem sl_mid {l : List Nat} {a b : Nat} (h : l.length ≤ 16777216) (ha : a ≤ l.length) (hb : b ≤ l.length) : dSl (.str (T l)) (some (a : Int)) (some (b : Int)) = some (.str (T ((l.drop a).take (b - a)))) := by
  rw [dSl_T h, HT.sIx_nat, HT.sIx_nat, Nat.min_eq_left ha, Nat.min_eq_left hb]
theorem lsl_to {l : List D} {b : Nat} : cutD l none (some (b : Int)) = l.take b := by
  unfold cutD
  rw [HT.sIx_none, HT.sIx_nat, List.drop_zero, Nat.sub_zero]
  rcases Nat.le_total b l.length with q | q
  · rw [Nat.min_eq_left q]
  · rw [Nat.min_eq_right q, List.take_of_length_le (Nat.le_refl _), List.take_of_length_le q]
theorem lsl_from {l : List D} {a : Nat} : cutD l (some (a : Int)) none = l.drop a := by
  unfold cutD
  rw [HT.sIx_none, HT.sIx_nat]
  rcases Nat.le_total a l.length with q | q
  · rw [Nat.min_eq_left q, List.take_of_length_le (by rw [List.length_drop]; omega)]
  · rw [Nat.min_eq_right q, List.drop_of_length_le (Nat.le_refl _), List.drop_of_length_le q, List.take_nil]
@[simp] theorem dSl_tup {xs : List D} {lo hi : Option Int} : dSl (.tuple xs) lo hi = some (.tuple (cutD xs lo hi)) := nr rfl
@[simp] theorem dSl_lst {xs : List D} {lo hi : Option Int} : dSl (.list xs) lo hi = some (.list (cutD xs lo hi)) := nr rfl
theorem dIx_T {l : List Nat} {k : Nat} (hl : l.length ≤ 16777216) (h : k < l.length) : dIx (.str (T l)) (.int (k : Nat)) = some (.str (T [l[k]])) := by
  show (if (T l).length ≤ 16777216 then (L2.atI (T l).cps.toList (k : Int)).map fun k => PyData.str ⟨#[k]⟩ else none) = _
  rw [if_pos (by rw [T_length]; exact hl)]
  have : L2.atI l (k : Int) = some l[k] := by rw [atI_n h]; exact List.getElem?_eq_getElem h
  show (L2.atI l (k : Int)).map _ = _
  rw [this]; rfl
theorem rep1 {n : Nat} {γ : Type} {x : γ} : (List.replicate n [x]).flatten = List.replicate n x := by
  induction n with
  | zero => rfl
  | succ k ih => rw [List.replicate_succ, List.replicate_succ, List.flatten_cons, ih]; rfl
theorem dMul_T {n : Int} {c : Nat} (h1 : -1000000 ≤ n) (h2 : n ≤ 1000000) : dMul (.str (T [c])) (.int n) = some (.str (T (List.replicate n.toNat c))) := by
  have := cIf_pos (γ := Option D) (c := -(2 ^ 62) ≤ n ∧ n ≤ 16777216 ∧ (T [c]).length * n.toNat ≤ 16777216) (a := some (.str (sRep (T [c]) n))) (b := none) ⟨by omega, by omega, by rw [T_length]; simp; omega⟩
  refine Eq.trans this ?_
  unfold sRep
  rw [show (T [c]).cps.toList = [c] from rfl, rep1]
theorem dMul_lst1 {n : Int} {x : D} (h1 : -1000000 ≤ n) (h2 : n ≤ 1000000) : dMul (.list [x]) (.int n) = some (.list (List.replicate n.toNat x)) := by
  have := cIf_pos (γ := Option D) (c := -(2 ^ 62) ≤ n ∧ n ≤ 16777216 ∧ ([x] : List D).length * n.toNat ≤ 16777216) (a := some (.list (List.replicate n.toNat [x]).flatten)) (b := none) ⟨by omega, by omega, by simp; omega⟩
  refine Eq.trans this ?_
  rw [rep1]
theorem join_T : ∀ (ls : List (List Nat)), Str.join (T []) (ls.map T) = T ls.flatten
  | [] => rfl
  | [l] => by simp [Str.join]
  | l :: m :: ls => by
    have ih := join_T (m :: ls)
    simp only [List.map_cons] at ih ⊢
    show T l ++ T [] ++ Str.join (T []) (T m :: ls.map T) = _
    rw [ih, T_append, T_append]
    simp
theorem strsD_T (ls : List (List Nat)) : strsD (ls.map fun l => PyData.str (T l)) = some (ls.map T) := by
  unfold strsD
  induction ls with
  | nil => rfl
  | cons n ns ih => rw [List.map_cons, List.mapM_cons]; simp only [Option.bind_eq_bind, Option.bind_some, ih]; rfl
theorem dJoin_T {ls : List (List Nat)} (h : (ls.map List.length).sum ≤ 16777216) : dJoin (.str (T [])) (.list (ls.map fun l => .str (T l))) = some (.str (T ls.flatten)) := by
  show (strsD _).bind _ = _
  rw [strsD_T]
  show (if _ then _ else _) = _
  rw [if_pos (by
    rw [List.map_map, show (T []).length = 0 from rfl, Nat.mul_zero, Nat.add_zero]
    have : (Str.length ∘ T) = List.length := by funext l; exact T_length l
    rw [this]; exact h)]
  show some (PyData.str (Txt.join _ _)) = _
  unfold Txt.join
  rw [StrLaws.glued_eq_join, join_T]
end RL

set_option Elab.async false
set_option linter.all false
set_option maxRecDepth 100000
set_option maxHeartbeats 1000000
/-! changes of a row, runs, costs: plain lists -/
namespace K98
/-- where two rows differ -/
def chg : Nat → List Nat → List Nat → List Nat
  | i, x :: a, y :: b => if x = y then chg (i + 1) a b else i :: chg (i + 1) a b
  | _, _, _ => []
/-- from the last change on -/
def wt (last : Nat) : List Nat → Nat
  | [] => 0
  | c :: cs => min 5 (c - last) + wt c cs
def wgt : List Nat → Nat
  | [] => 0
  | c :: cs => 5 + wt c cs
theorem chg_ge : ∀ {i : Nat} {a b : List Nat} {c : Nat}, c ∈ chg i a b → i ≤ c ∧ c < i + a.length ∧ c < i + b.length
  | _, [], _, _, h => by simp [chg] at h
  | _, _ :: _, [], _, h => by simp [chg] at h
  | i, x :: a, y :: b, c, h => by
    unfold chg at h
    have go : c ∈ chg (i + 1) a b → i ≤ c ∧ c < i + (x :: a).length ∧ c < i + (y :: b).length := fun h => by
      have := chg_ge h
      simp only [List.length_cons]; omega
    split at h
    · exact go h
    · rcases List.mem_cons.mp h with rfl | h
      · simp only [List.length_cons]; omega
      · exact go h
theorem chg_mem : ∀ {i : Nat} {a b : List Nat} {k : Nat}, a.length = b.length → (i + k ∈ chg i a b ↔ a[k]? ≠ b[k]?)
  | _, [], [], _, _ => by simp [chg]
  | _, _ :: _, [], _, h => by simp at h
  | _, [], _ :: _, _, h => by simp at h
  | i, x :: a, y :: b, 0, h => by
    unfold chg
    split
    · rename_i e
      subst e
      simp
      intro q
      have := chg_ge q
      omega
    · rename_i e
      simp [e]
  | i, x :: a, y :: b, k + 1, h => by
    have ih := chg_mem (i := i + 1) (k := k) (a := a) (b := b) (by simpa using h)
    have e : i + (k + 1) = i + 1 + k := by omega
    unfold chg
    split
    · rw [e, ih]; simp
    · rw [e, List.mem_cons, ih]
      simp
      omega
/-- strictly rising -/
def Up : List Nat → Prop
  | [] => True
  | c :: cs => (∀ d ∈ cs, c < d) ∧ Up cs
theorem chg_up : ∀ {i : Nat} {a b : List Nat}, Up (chg i a b)
  | _, [], _ => by simp [chg, Up]
  | _, _ :: _, [] => by simp [chg, Up]
  | i, x :: a, y :: b => by
    unfold chg
    split
    · exact chg_up
    · exact ⟨fun d hd => by have := chg_ge hd; omega, chg_up⟩
/-! ### runs -/
def addRun (found : List (Nat × Nat)) (c : Nat) : List (Nat × Nat) := match found.getLast? with
  | none => [(c, c)]
  | some (f, l) => if c - l ≤ 4 then found.dropLast ++ [(f, c)] else found ++ [(c, c)]
theorem addRun_snoc {pre : List (Nat × Nat)} {f l c : Nat} : addRun (pre ++ [(f, l)]) c = if c - l ≤ 4 then pre ++ [(f, c)] else pre ++ [(f, l)] ++ [(c, c)] := by
  unfold addRun
  rw [List.getLast?_append]
  simp
def runs (cs : List Nat) : List (Nat × Nat) := cs.foldl addRun []
def cost (rs : List (Nat × Nat)) : Nat := (rs.map fun r => 4 + (r.2 + 1 - r.1)).sum
theorem cost_app {a b : List (Nat × Nat)} : cost (a ++ b) = cost a + cost b := by simp [cost]
theorem runs_cost : ∀ (cs : List Nat) (pre : List (Nat × Nat)) (f l : Nat), f ≤ l → (∀ c ∈ cs, l < c) → Up cs → cost (cs.foldl addRun (pre ++ [(f, l)])) = cost (pre ++ [(f, l)]) + wt l cs
  | [], pre, f, l, _, _, _ => by simp [wt]
  | c :: cs, pre, f, l, h, hc, up => by
    have lc : l < c := hc c List.mem_cons_self
    rw [List.foldl_cons, addRun_snoc]
    unfold wt
    split
    · rename_i q
      rw [runs_cost cs pre f c (by omega) up.1 up.2, cost_app, cost_app]
      simp only [cost, List.map_cons, List.map_nil, List.sum_cons, List.sum_nil]
      omega
    · rename_i q
      rw [runs_cost cs (pre ++ [(f, l)]) c c (by omega) up.1 up.2, cost_app (b := [(c, c)])]
      simp only [cost, List.map_cons, List.map_nil, List.sum_cons, List.sum_nil]
      omega
theorem cost_runs {cs : List Nat} (up : Up cs) : cost (runs cs) = wgt cs := by
  cases cs with
  | nil => rfl
  | cons c cs =>
    unfold runs
    rw [List.foldl_cons, show addRun [] c = [] ++ [(c, c)] from rfl, runs_cost cs [] c c (by omega) up.1 up.2]
    simp only [cost, wgt, List.nil_append, List.map_cons, List.map_nil, List.sum_cons, List.sum_nil]
    omega
/-- what runs cover -/
def Cov (rs : List (Nat × Nat)) (c : Nat) : Prop := ∃ r ∈ rs, r.1 ≤ c ∧ c ≤ r.2
theorem addRun_cov {found : List (Nat × Nat)} {c n : Nat} (h : ∀ r ∈ found, r.1 ≤ r.2 ∧ r.2 < n ∧ r.2 < c) (hc : c < n) : (∀ d, Cov found d ∨ d = c → Cov (addRun found c) d) ∧ ∀ r ∈ addRun found c, r.1 ≤ r.2 ∧ r.2 < n ∧ r.2 ≤ c := by
  rcases List.eq_nil_or_concat found with rfl | ⟨pre, ⟨f, l⟩, rfl⟩
  · refine ⟨fun d hd => ?_, fun r hr => ?_⟩
    · rcases hd with ⟨r, hr, _⟩ | rfl
      · simp at hr
      · exact ⟨(d, d), by simp [addRun], by omega, by omega⟩
    · simp [addRun] at hr; subst hr; dsimp only; omega
  · simp only [List.concat_eq_append] at h ⊢
    have hfl := h (f, l) (by simp)
    dsimp only at hfl
    rw [addRun_snoc]
    split
    · refine ⟨fun d hd => ?_, fun r hr => ?_⟩
      · rcases hd with ⟨r, hr, hr2⟩ | rfl
        · rcases List.mem_append.mp hr with hr | hr
          · exact ⟨r, List.mem_append_left _ hr, hr2⟩
          · rw [List.mem_singleton.mp hr] at hr2
            exact ⟨(f, c), by simp, by dsimp only at hr2 ⊢; omega⟩
        · exact ⟨(f, d), by simp, by dsimp only; omega⟩
      · rcases List.mem_append.mp hr with hr | hr
        · have := h r (List.mem_append_left _ hr); omega
        · rw [List.mem_singleton.mp hr]; dsimp only; omega
    · refine ⟨fun d hd => ?_, fun r hr => ?_⟩
      · rcases hd with ⟨r, hr, hr2⟩ | rfl
        · exact ⟨r, List.mem_append_left _ hr, hr2⟩
        · exact ⟨(d, d), by simp, by dsimp only; omega⟩
      · rcases List.mem_append.mp hr with hr | hr
        · have := h r hr; omega
        · rw [List.mem_singleton.mp hr]; dsimp only; omega
theorem runs_cov : ∀ (cs : List Nat) (found : List (Nat × Nat)) (n : Nat), (∀ r ∈ found, r.1 ≤ r.2 ∧ r.2 < n ∧ ∀ c ∈ cs, r.2 < c) → (∀ c ∈ cs, c < n) → Up cs → (∀ d, Cov found d ∨ d ∈ cs → Cov (cs.foldl addRun found) d) ∧ ∀ r ∈ cs.foldl addRun found, r.1 ≤ r.2 ∧ r.2 < n
  | [], found, n, h, _, _ => ⟨fun d hd => hd.elim id fun q => by simp at q, fun r hr => ⟨(h r hr).1, (h r hr).2.1⟩⟩
  | c :: cs, found, n, h, hc, up => by
    obtain ⟨a1, a2⟩ := addRun_cov (found := found) (c := c) (n := n) (fun r hr => ⟨(h r hr).1, (h r hr).2.1, (h r hr).2.2 c List.mem_cons_self⟩) (hc c List.mem_cons_self)
    obtain ⟨b1, b2⟩ := runs_cov cs (addRun found c) n (fun r hr => ⟨(a2 r hr).1, (a2 r hr).2.1, fun d hd => Nat.lt_of_le_of_lt (a2 r hr).2.2 (up.1 d hd)⟩) (fun d hd => hc d (List.mem_cons_of_mem _ hd)) up.2
    refine ⟨fun d hd => b1 d ?_, b2⟩
    rcases hd with hd | hd
    · exact .inl (a1 d (.inl hd))
    · rcases List.mem_cons.mp hd with rfl | hd
      · exact .inl (a1 d (.inr rfl))
      · exact .inr hd
/-! ### strokes upon a row -/
def patch (h : List Nat) (at_ : Nat) (s : List Nat) : List Nat := h.take at_ ++ s ++ h.drop (at_ + s.length)
theorem patch_len {h s : List Nat} {k : Nat} (q : k + s.length ≤ h.length) : (patch h k s).length = h.length := by
  unfold patch
  simp only [List.length_append, List.length_take, List.length_drop]
  omega
theorem patch_get {h s : List Nat} {k i : Nat} (q : k + s.length ≤ h.length) : (patch h k s)[i]? = if k ≤ i ∧ i < k + s.length then s[i - k]? else h[i]? := by
  unfold patch
  by_cases h1 : i < k
  · rw [if_neg (by omega), List.append_assoc, List.getElem?_append_left (by rw [List.length_take]; omega), List.getElem?_take_of_lt h1]
  · by_cases h2 : i < k + s.length
    · rw [if_pos (by omega), List.append_assoc, List.getElem?_append_right (by rw [List.length_take]; omega), List.getElem?_append_left (by rw [List.length_take]; omega), List.length_take, Nat.min_eq_left (by omega)]
    · rw [if_neg (by omega), List.getElem?_append_right (by rw [List.length_append, List.length_take]; omega), List.getElem?_drop, List.length_append, List.length_take, Nat.min_eq_left (by omega)]
      congr 1
      omega
def cut (t : List Nat) (r : Nat × Nat) : List Nat := (t.drop r.1).take (r.2 + 1 - r.1)
theorem cut_len {t : List Nat} {r : Nat × Nat} (h : r.1 ≤ r.2) (h2 : r.2 < t.length) : (cut t r).length = r.2 + 1 - r.1 := by
  unfold cut
  rw [List.length_take, List.length_drop]; omega
theorem cut_get {t : List Nat} {r : Nat × Nat} {i : Nat} (h : r.1 ≤ i) (h2 : i ≤ r.2) : (cut t r)[i - r.1]? = t[i]? := by
  unfold cut
  rw [List.getElem?_take_of_lt (by omega), List.getElem?_drop]
  congr 1; omega
theorem patch_all : ∀ (rs : List (Nat × Nat)) (h t : List Nat), h.length = t.length → (∀ r ∈ rs, r.1 ≤ r.2 ∧ r.2 < t.length) → (∀ i, ¬ Cov rs i → h[i]? = t[i]?) → rs.foldl (fun h r => patch h r.1 (cut t r)) h = t
  | [], h, t, _, _, c => List.ext_getElem? fun i => c i fun ⟨r, hr, _⟩ => by simp at hr
  | r :: rs, h, t, hl, hr, c => by
    obtain ⟨q1, q2⟩ := hr r List.mem_cons_self
    have cl := cut_len q1 q2
    rw [List.foldl_cons]
    refine patch_all rs _ t (by rw [patch_len (by omega)]; exact hl) (fun r' m => hr r' (List.mem_cons_of_mem _ m)) fun i ni => ?_
    rw [patch_get (by omega), cl]
    by_cases q : r.1 ≤ i ∧ i ≤ r.2
    · rw [if_pos (by omega), cut_get q.1 q.2]
    · rw [if_neg (by omega)]
      refine c i fun ⟨r', m, k⟩ => ?_
      rcases List.mem_cons.mp m with rfl | m
      · exact q k
      · exact ni ⟨r', m, k⟩
theorem row_done {h t : List Nat} (hl : h.length = t.length) : (runs (chg 0 h t)).foldl (fun h r => patch h r.1 (cut t r)) h = t := by
  obtain ⟨a1, a2⟩ := runs_cov (chg 0 h t) [] t.length (fun r hr => by simp at hr) (fun c hc => by have := chg_ge hc; omega) chg_up
  refine patch_all _ h t hl a2 fun i ni => ?_
  have := chg_mem (i := 0) (k := i) hl
  rw [Nat.zero_add] at this
  by_cases q : h[i]? = t[i]?
  · exact q
  · exact (ni (a1 i (.inr (this.mpr q)))).elim
/-! ### the best of all ways -/
theorem wt_app : ∀ (cs : List Nat) (l c : Nat), wt l (cs ++ [c]) = wt l cs + min 5 (c - (cs.getLast?.getD l))
  | [], l, c => by simp [wt]
  | d :: cs, l, c => by
    rw [List.cons_append]
    unfold wt
    rw [wt_app cs d c]
    have : (d :: cs).getLast?.getD l = cs.getLast?.getD d := by
      cases cs with
      | nil => rfl
      | cons e cs => rw [List.getLast?_cons_cons]; cases hq : (e :: cs).getLast? with
        | none => simp at hq
        | some z => rfl
    rw [this]; omega
theorem wgt_snoc {cs : List Nat} {c : Nat} : wgt (cs ++ [c]) = wgt cs + match cs.getLast? with | none => 5 | some l => min 5 (c - l) := by
  cases cs with
  | nil => rfl
  | cons d cs =>
    rw [List.cons_append]
    show 5 + wt d (cs ++ [c]) = 5 + wt d cs + _
    rw [wt_app]
    have : (d :: cs).getLast? = some (cs.getLast?.getD d) := by
      cases cs with
      | nil => rfl
      | cons e cs => rw [List.getLast?_cons_cons]; cases hq : (e :: cs).getLast? with
        | none => simp at hq
        | some z => rfl
    rw [this]
    dsimp only
    omega
theorem up_get {cs : List Nat} (up : Up cs) : ∀ {i j : Nat} {a b : Nat}, cs[i]? = some a → cs[j]? = some b → i < j → a < b := by
  induction cs with
  | nil => intro i j a b h; simp at h
  | cons c cs ih =>
    intro i j a b h1 h2 h
    cases j with
    | zero => omega
    | succ j =>
      cases i with
      | zero =>
        simp at h1 h2; subst h1
        exact up.1 b (List.mem_of_getElem? h2)
      | succ i => exact ih up.2 (by simpa using h1) (by simpa using h2) (by omega)
theorem take_snoc {cs : List Nat} {k : Nat} (h : k < cs.length) : cs.take (k + 1) = cs.take k ++ [cs[k]] := by
  rw [List.take_add_one, List.getElem?_eq_getElem h]; rfl
theorem last_take {cs : List Nat} {k : Nat} (h : k < cs.length) : (cs.take (k + 1)).getLast? = some cs[k] := by
  rw [take_snoc h, List.getLast?_append]; simp
/-- one more change, at the place k -/
theorem w_succ {cs : List Nat} {k : Nat} (h : k < cs.length) : wgt (cs.take (k + 1)) = wgt (cs.take k) + if q : 0 < k then min 5 (cs[k] - cs[k - 1]) else 5 := by
  rw [take_snoc h, wgt_snoc]
  cases k with
  | zero => simp
  | succ j =>
    rw [last_take (by omega), dif_pos (by omega)]
    rfl
theorem dp_le {cs : List Nat} (up : Up cs) {k : Nat} (h : k < cs.length) : ∀ f, f ≤ k → ∀ hf : f < cs.length, wgt (cs.take (k + 1)) + cs[f] ≤ wgt (cs.take f) + 5 + cs[k] := by
  induction k with
  | zero =>
    intro f hf hf'
    obtain rfl : f = 0 := by omega
    rw [w_succ h]; simp
  | succ k ih =>
    intro f hf hf'
    have lt : cs[k] < cs[k + 1] := up_get up (List.getElem?_eq_getElem _) (List.getElem?_eq_getElem h) (by omega)
    rw [w_succ h, dif_pos (by omega)]
    by_cases e : f = k + 1
    · subst e; omega
    · have := ih (by omega) f (by omega) hf'
      simp only [Nat.add_sub_cancel]
      omega
theorem dp_at {cs : List Nat} (up : Up cs) {k : Nat} (h : k < cs.length) : ∃ f, ∃ hf : f ≤ k, wgt (cs.take (k + 1)) + cs[f] = wgt (cs.take f) + 5 + cs[k] := by
  induction k with
  | zero => exact ⟨0, by omega, by rw [w_succ h]; simp⟩
  | succ k ih =>
    have lt : cs[k] < cs[k + 1] := up_get up (List.getElem?_eq_getElem _) (List.getElem?_eq_getElem h) (by omega)
    have w := w_succ h
    rw [dif_pos (by omega)] at w
    simp only [Nat.add_sub_cancel] at w
    by_cases q : 5 ≤ cs[k + 1] - cs[k]
    · exact ⟨k + 1, by omega, by omega⟩
    · obtain ⟨f, hf, e⟩ := ih (by omega)
      exact ⟨f, by omega, by omega⟩
end K98

set_option Elab.async false
set_option linter.all false
set_option maxRecDepth 100000
set_option maxHeartbeats 0
noncomputable section
namespace K
open PySem PySem.Spec PyProof.Rows L2 RL
def c_BLANK_DOT : D := .str " "
def c_LIFT : D := .int 4
def c_MOST_HIGH : D := .int 2000
def c_MOST_WIDE : D := .int 20000
def N_is_integer : List Str := ["value"]
def f_is_integer : Sm := (sRet (fAndV (fIsi "int" (vV 0)) (fNotV (fIsi "bool" (vV 0)))))
def F_is_integer : Fb := bodyF 1 1 f_is_integer
def N_is_between : List Str := ["value", "low", "high"]
def f_is_between : Sm := (sRet (fAndV (fFn F_is_integer (agCons (vE 0) agNil)) (fCh dLe dLe (vV 1) (vV 0) (vV 2))))
def F_is_between : Fb := bodyF 3 3 f_is_between
def N_is_plain_picture : List Str := ["value", "row"]
def f_is_plain_picture : Sm := (sSeq (sIf (fOr (fNot (fTru (fIsi "tuple" (vV 0)))) (fNot (asB (fCh dLe dLe (fun _ M => .ok (.int 1) M) (fCall dLen (fCons (vV 0) fNil)) (fun _ M => .ok c_MOST_HIGH M))))) (sRet (fun _ M => .ok (.bool false) M)) sNx)
  (sSeq (sIf (fNot (fTru (fCall dAll (fCons (fz (fLc [1] (pName 1) fYes (fIsi "str" (vV 1)) (fItems (vV 0)))) fNil)))) (sRet (fun _ M => .ok (.bool false) M)) sNx)
  (sRet (fAndV (fCall dAll (fCons (fz (fLc [1] (pName 1) fYes (fOp dEq (fCall dLen (fCons (vV 1) fNil)) (fCall dLen (fCons (fOp dIx (vV 0) (fun _ M => .ok (.int 0) M)) fNil))) (fItems (vV 0)))) fNil)) (fOp dLe (fCall dLen (fCons (fOp dIx (vV 0) (fun _ M => .ok (.int 0) M)) fNil)) (fun _ M => .ok c_MOST_WIDE M))))))
def F_is_plain_picture : Fb := bodyF 1 2 f_is_plain_picture
def N_check_pictures : List Str := ["some", "one"]
def f_check_pictures : Sm := (sFor (pName 1) (sIf (fNot (fTru (fFn F_is_plain_picture (agCons (vE 1) agNil)))) (fun _ _ => .bad) sNx) (fItems (vE 0)))
def F_check_pictures : Fb := bodyF 1 2 f_check_pictures
def N_is_stroke_anew : List Str := ["value"]
def f_is_stroke_anew : Sm := (sSeq (sIf (fOr (fNot (fTru (fIsi "tuple" (vV 0)))) (fOr (asB (fOp dNe (fCall dLen (fCons (vV 0) fNil)) (fun _ M => .ok (.int 3) M))) (fOr (fNot (fTru (fIsi "str" (fOp dIx (vV 0) (fun _ M => .ok (.int 2) M))))) (asB (fOp dEq (fOp dIx (vV 0) (fun _ M => .ok (.int 2) M)) (fun _ M => .ok (.str "") M)))))) (sRet (fun _ M => .ok (.bool false) M)) sNx)
  (sRet (fAndV (fFn F_is_between (agCons (fOp dIx (vV 0) (fun _ M => .ok (.int 0) M)) (agCons (fun _ M => .ok (.int 0) M) (agCons (fun _ M => .ok c_MOST_HIGH M) agNil)))) (fAndV (fFn F_is_between (agCons (fOp dIx (vV 0) (fun _ M => .ok (.int 1) M)) (agCons (fun _ M => .ok (.int 0) M) (agCons (fun _ M => .ok c_MOST_WIDE M) agNil)))) (fOp dLe (fCall dLen (fCons (fOp dIx (vV 0) (fun _ M => .ok (.int 2) M)) fNil)) (fun _ M => .ok c_MOST_WIDE M))))))
def F_is_stroke_anew : Fb := bodyF 1 1 f_is_stroke_anew
def N_are_strokes_anew : List Str := ["value", "one"]
def f_are_strokes_anew : Sm := (sRet (fAndV (fIsi "tuple" (vV 0)) (fCall dAll (fCons (fz (fLc [1] (pName 1) fYes (fFn F_is_stroke_anew (agCons (vE 1) agNil)) (fItems (vV 0)))) fNil))))
def F_are_strokes_anew : Fb := bodyF 1 2 f_are_strokes_anew
def N_framed : List Str := ["picture", "high", "wide", "rows", "row"]
def f_framed : Sm := (sSeq (sSet 3 (fz (fLc [4] (pName 4) fYes (fOp dAdd (fSl dSl (vV 4) fNo (fPt (vV 2))) (fOp dMul (fun _ M => .ok c_BLANK_DOT M) (fOp dSub (vV 2) (fCall dLen (fCons (vV 4) fNil))))) (fItems (fSl dSl (vV 0) fNo (fPt (vV 1)))))))
  (sRet (fOp dAdd (vV 3) (fOp dMul (fz (fLst (fCons (fOp dMul (fun _ M => .ok c_BLANK_DOT M) (vV 2)) fNil))) (fOp dSub (vV 1) (fCall dLen (fCons (vV 3) fNil)))))))
def F_framed : Fb := bodyF 3 5 f_framed
def N_is_in_frame : List Str := ["stroke", "high", "wide", "row", "column", "signs"]
def f_is_in_frame : Sm := (sSeq (sPat (pTup 3 (pCons (pName 3) (pCons (pName 4) (pCons (pName 5) pNil)))) (vE 0))
  (sRet (fAndV (fOp dLt (vV 3) (vV 1)) (fOp dLe (fOp dAdd (vV 4) (fCall dLen (fCons (vV 5) fNil))) (vV 2)))))
def F_is_in_frame : Fb := bodyF 3 6 f_is_in_frame
def N_drawn_over : List Str := ["rows", "strokes", "found", "row", "column", "signs"]
def f_drawn_over : Sm := (sSeq (sSetL 2 (fCall lList (fCons (vV 0) fNil)))
  (sSeq (sFor (pTup 3 (pCons (pName 3) (pCons (pName 4) (pCons (pName 5) pNil)))) (sPut 2 (vV 3) (fOp dAdd (fOp dAdd (fSl dSl (fOp dIx (vV 2) (vV 3)) fNo (fPt (vV 4))) (vV 5)) (fSl dSl (fOp dIx (vV 2) (vV 3)) (fPt (fOp dAdd (vV 4) (fCall dLen (fCons (vV 5) fNil)))) fNo))) (fItems (vE 1)))
  (sFrz 2 (sRet (vE 2)))))
def F_drawn_over : Fb := bodyF 2 6 f_drawn_over
def N_stroke_cost : List Str := ["stroke"]
def f_stroke_cost : Sm := (sRet (fOp dAdd (fun _ M => .ok c_LIFT M) (fCall dLen (fCons (fOp dIx (vV 0) (fun _ M => .ok (.int 2) M)) fNil))))
def F_stroke_cost : Fb := bodyF 1 1 f_stroke_cost
def N_cost_of : List Str := ["strokes", "one"]
def f_cost_of : Sm := (sRet (fCall dSum (fCons (fz (fLc [1] (pName 1) fYes (fFn F_stroke_cost (agCons (vE 1) agNil)) (fItems (vV 0)))) fNil)))
def F_cost_of : Fb := bodyF 1 2 f_cost_of
def N_runs_of : List Str := ["one", "other", "found", "column", "at", "here", "there"]
def f_runs_of : Sm := (sSeq (sSetL 2 (fLst fNil))
  (sSeq (sFor (pName 3) (sIf (fAnd (asB (fOp dNe (vV 2) (fz (fLst fNil)))) (asB (fOp dLe (fOp dSub (vV 3) (fOp dIx (fOp dIx (vV 2) (fNeg (fun _ M => .ok (.int 1) M))) (fun _ M => .ok (.int 1) M))) (fun _ M => .ok c_LIFT M)))) (sPut 2 (fNeg (fun _ M => .ok (.int 1) M)) (fTup (fCons (fOp dIx (fOp dIx (vV 2) (fNeg (fun _ M => .ok (.int 1) M))) (fun _ M => .ok (.int 0) M)) (fCons (vE 3) fNil)))) (sApp 2 (fTup (fCons (vE 3) (fCons (vE 3) fNil))))) (fItems (fz (fLc [4, 5, 6] (pTup 2 (pCons (pName 4) (pCons (pTup 2 (pCons (pName 5) (pCons (pName 6) pNil))) pNil))) (asB (fOp dNe (vV 5) (vV 6))) (vE 4) (fEnumZip (fCons (vV 0) (fCons (vV 1) fNil)))))))
  (sFrz 2 (sRet (vE 2)))))
def F_runs_of : Fb := bodyF 2 7 f_runs_of
def N_least_strokes : List Str := ["one", "other", "found", "row", "here", "there", "first", "last"]
def f_least_strokes : Sm := (sSeq (sSetL 2 (fLst fNil))
  (sSeq (sFor (pTup 2 (pCons (pName 3) (pCons (pTup 2 (pCons (pName 4) (pCons (pName 5) pNil))) pNil))) (sExt 2 (fz (fLc [6, 7] (pTup 2 (pCons (pName 6) (pCons (pName 7) pNil))) fYes (fTup (fCons (vE 3) (fCons (vE 6) (fCons (fSl dSl (vV 5) (fPt (vV 6)) (fPt (fOp dAdd (vV 7) (fun _ M => .ok (.int 1) M)))) fNil)))) (fItems (fFn F_runs_of (agCons (vE 4) (agCons (vE 5) agNil))))))) (fEnumZip (fCons (fFn F_framed (agCons (vE 0) (agCons (fCall dLen (fCons (vV 1) fNil)) (agCons (fCall dLen (fCons (fOp dIx (vV 1) (fun _ M => .ok (.int 0) M)) fNil)) agNil)))) (fCons (vE 1) fNil))))
  (sRet (fCall dTuple (fCons (vV 2) fNil)))))
def F_least_strokes : Fb := bodyF 2 8 f_least_strokes
def N_least_cost : List Str := ["one", "other", "total", "here", "there", "last", "column", "at", "old", "new"]
def f_least_cost : Sm := (sSeq (sSet 2 (fun _ M => .ok (.int 0) M))
  (sSeq (sFor (pTup 2 (pCons (pName 3) (pCons (pName 4) pNil))) (sSeq (sSet 5 (fun _ M => .ok .none M))
  (sFor (pName 6) (sSeq (sSet 2 (fOp dAdd (vV 2) (fIf (asB (fOp (dIs false) (vV 5) (fun _ M => .ok .none M))) (fOp dAdd (fun _ M => .ok c_LIFT M) (fun _ M => .ok (.int 1) M)) (fCall dMin (fCons (fOp dAdd (fun _ M => .ok c_LIFT M) (fun _ M => .ok (.int 1) M)) (fCons (fOp dSub (vV 6) (vV 5)) fNil))))))
  (sSet 5 (vE 6))) (fItems (fz (fLc [7, 8, 9] (pTup 2 (pCons (pName 7) (pCons (pTup 2 (pCons (pName 8) (pCons (pName 9) pNil))) pNil))) (asB (fOp dNe (vV 8) (vV 9))) (vE 7) (fEnumZip (fCons (vV 3) (fCons (vV 4) fNil)))))))) (fZip (fCons (fFn F_framed (agCons (vE 0) (agCons (fCall dLen (fCons (vV 1) fNil)) (agCons (fCall dLen (fCons (fOp dIx (vV 1) (fun _ M => .ok (.int 0) M)) fNil)) agNil)))) (fCons (vE 1) fNil))))
  (sRet (vE 2))))
def F_least_cost : Fb := bodyF 2 10 f_least_cost
def N_anew : List Str := ["one", "other", "found"]
def f_anew : Sm := (sSeq (sDrop (fFn F_check_pictures (agCons (fTup (fCons (vE 0) (fCons (vE 1) fNil))) agNil)))
  (sSeq (sSet 2 (fFn F_least_strokes (agCons (vE 0) (agCons (vE 1) agNil))))
  (sRet (fTup (fCons (fFn F_cost_of (agCons (vE 2) agNil)) (fCons (vE 2) fNil))))))
def F_anew : Fb := bodyF 2 3 f_anew
def N_drawn_anew : List Str := ["one", "strokes", "high", "wide", "stroke"]
def f_drawn_anew : Sm := (sSeq (sDrop (fFn F_check_pictures (agCons (fTup (fCons (vE 0) fNil)) agNil)))
  (sSeq (sIf (fOr (fNot (fTru (fFn F_is_between (agCons (vE 2) (agCons (fun _ M => .ok (.int 1) M) (agCons (fun _ M => .ok c_MOST_HIGH M) agNil)))))) (fNot (fTru (fFn F_is_between (agCons (vE 3) (agCons (fun _ M => .ok (.int 0) M) (agCons (fun _ M => .ok c_MOST_WIDE M) agNil))))))) (fun _ _ => .bad) sNx)
  (sSeq (sIf (fOr (fNot (fTru (fFn F_are_strokes_anew (agCons (vE 1) agNil)))) (fNot (fTru (fCall dAll (fCons (fz (fLc [4] (pName 4) fYes (fFn F_is_in_frame (agCons (vE 4) (agCons (vE 2) (agCons (vE 3) agNil)))) (fItems (vV 1)))) fNil))))) (fun _ _ => .bad) sNx)
  (sRet (fCall dTuple (fCons (fFn F_drawn_over (agCons (fFn F_framed (agCons (vE 0) (agCons (vE 2) (agCons (vE 3) agNil)))) (agCons (vE 1) agNil))) fNil))))))
def F_drawn_anew : Fb := bodyF 4 5 f_drawn_anew
def N_dots_changed : List Str := ["one", "other", "rows", "here", "there", "old", "new"]
def f_dots_changed : Sm := (sSeq (sDrop (fFn F_check_pictures (agCons (fTup (fCons (vE 0) (fCons (vE 1) fNil))) agNil)))
  (sZipSum 2 (fCons (fFn F_framed (agCons (vE 0) (agCons (fCall dLen (fCons (vV 1) fNil)) (agCons (fCall dLen (fCons (fOp dIx (vV 1) (fun _ M => .ok (.int 0) M)) fNil)) agNil)))) (fCons (vE 1) fNil)) [3, 4] (pTup 2 (pCons (pName 3) (pCons (pName 4) pNil))) fYes (fCall dLen (fCons (fz (fLc [5, 6] (pTup 2 (pCons (pName 5) (pCons (pName 6) pNil))) (asB (fOp dNe (vV 5) (vV 6))) (fun _ M => .ok (.int 1) M) (fZip (fCons (vV 3) (fCons (vV 4) fNil))))) fNil))))
def F_dots_changed : Fb := bodyF 2 7 f_dots_changed
def N_shows_anew : List Str := ["one", "other", "value", "high", "wide", "stroke"]
def f_shows_anew : Sm := (sSeq (sDrop (fFn F_check_pictures (agCons (fTup (fCons (vE 0) (fCons (vE 1) fNil))) agNil)))
  (sSeq (sIf (fOr (fNot (fTru (fIsi "tuple" (vV 2)))) (fOr (asB (fOp dNe (fCall dLen (fCons (vV 2) fNil)) (fun _ M => .ok (.int 2) M))) (fOr (fNot (fTru (fFn F_is_integer (agCons (fOp dIx (vV 2) (fun _ M => .ok (.int 0) M)) agNil)))) (fNot (fTru (fFn F_are_strokes_anew (agCons (fOp dIx (vV 2) (fun _ M => .ok (.int 1) M)) agNil))))))) (sRet (fun _ M => .ok (.bool false) M)) sNx)
  (sSeq (sIf (fOr (asB (fOp dNe (fOp dIx (vV 2) (fun _ M => .ok (.int 0) M)) (fFn F_cost_of (agCons (fOp dIx (vV 2) (fun _ M => .ok (.int 1) M)) agNil)))) (asB (fOp dNe (fOp dIx (vV 2) (fun _ M => .ok (.int 0) M)) (fFn F_least_cost (agCons (vE 0) (agCons (vE 1) agNil)))))) (sRet (fun _ M => .ok (.bool false) M)) sNx)
  (sSeq (sPar [3, 4] (mD (fCall dLen (fCons (vV 1) fNil)) (mD (fCall dLen (fCons (fOp dIx (vV 1) (fun _ M => .ok (.int 0) M)) fNil)) mNil)))
  (sSeq (sIf (fNot (fTru (fCall dAll (fCons (fz (fLc [5] (pName 5) fYes (fFn F_is_in_frame (agCons (vE 5) (agCons (vE 3) (agCons (vE 4) agNil)))) (fItems (fOp dIx (vV 2) (fun _ M => .ok (.int 1) M))))) fNil)))) (sRet (fun _ M => .ok (.bool false) M)) sNx)
  (sRet (fOp dEq (fFn F_drawn_over (agCons (fFn F_framed (agCons (vE 0) (agCons (vE 3) (agCons (vE 4) agNil)))) (agCons (fOp dIx (vV 2) (fun _ M => .ok (.int 1) M)) agNil))) (fz (fCall lList (fCons (vV 1) fNil))))))))))
def F_shows_anew : Fb := bodyF 3 6 f_shows_anew
def N__law_pot : List Str := ["script", "place", "cell", "own", "small"]
def f__law_pot : Sm := (sSeq (sSet 2 (fIf (asB (fOp dLt (vV 1) (fLenP 0))) (fPot 0 (vV 1)) (fOp dAdd (fOp dAdd (fOp dMod (fCall dSum (fCons (fz (fSlP 0 fNo (fPt (fun _ M => .ok (.int 1) M)))) fNil)) (fun _ M => .ok (.int 1000003) M)) (fOp dMul (fun _ M => .ok (.int 17841) M) (vV 1))) (fun _ M => .ok (.int 32581) M))))
  (sSeq (sSet 3 (fOp dMul (fOp dMod (fCall dInt (fCons (fCall dAbs (fCons (vV 2) fNil)) fNil)) (fOp dPow (fOp dPow (fun _ M => .ok (.int 10) M) (fun _ M => .ok (.int 60) M)) (fun _ M => .ok (.int 5) M))) (fCall dInt (fCons (fOp dGe (fCall dAbs (fCons (vV 2) fNil)) (fOp dPow (fun _ M => .ok (.int 10) M) (fun _ M => .ok (.int 18) M))) fNil))))
  (sSeq (sSet 4 (fOp dMod (fCall dInt (fCons (vV 2) fNil)) (fun _ M => .ok (.int 2305843009213693951) M)))
  (sRet (fz (fLst (fCons (vE 3) (fCons (fOp dMod (fCall dInt (fCons (fOp dAdd (fOp dAdd (fOp dMul (vV 4) (fun _ M => .ok (.int 147324) M)) (fOp dMul (fOp dMul (fun _ M => .ok (.int 62061) M) (vV 1)) (vV 1))) (fun _ M => .ok (.int 15077) M)) fNil)) (fun _ M => .ok (.int 2305843009213693921) M)) (fCons (fun _ M => .ok (.int 0) M) fNil)))))))))
def F__law_pot : Fb := bodyF 2 5 f__law_pot
def N__law_take : List Str := ["pot", "upto", "prime", "blend", "digit"]
def f__law_take : Sm := (sSeq (sIf (asB (fOp dGt (fPot 0 (fun _ M => .ok (.int 0) M)) (fun _ M => .ok (.int 0) M))) (sSeq (sSet 4 (fOp dMod (fCall dInt (fCons (fPot 0 (fun _ M => .ok (.int 0) M)) fNil)) (vV 1)))
  (sSeq (sPot 0 0 (fOp dFdiv (fPot 0 (fun _ M => .ok (.int 0) M)) (vV 1)))
  (sRet (fCall dInt (fCons (vV 4) fNil))))) sNx)
  (sSeq (sPot 0 2 (fOp dAdd (fPot 0 (fun _ M => .ok (.int 2) M)) (fun _ M => .ok (.int 1) M)))
  (sSeq (sSet 2 (fOp dIx (fz (fLst (fCons (fun _ M => .ok (.int 2147483647) M) (fCons (fun _ M => .ok (.int 2147483629) M) (fCons (fun _ M => .ok (.int 2147483587) M) (fCons (fun _ M => .ok (.int 2147483579) M) (fCons (fun _ M => .ok (.int 2147483563) M) fNil))))))) (fOp dMod (fCall dInt (fCons (fPot 0 (fun _ M => .ok (.int 2) M)) fNil)) (fun _ M => .ok (.int 5) M))))
  (sSeq (sSet 3 (fOp dMod (fCall dInt (fCons (fOp dPow (fCall dInt (fCons (fOp dAdd (fOp dAdd (fPot 0 (fun _ M => .ok (.int 1) M)) (fOp dMul (fOp dMul (fun _ M => .ok (.int 176804) M) (fPot 0 (fun _ M => .ok (.int 2) M))) (fPot 0 (fun _ M => .ok (.int 2) M)))) (fun _ M => .ok (.int 1795) M)) fNil)) (fun _ M => .ok (.int 3) M)) fNil)) (vV 2)))
  (sSeq (sSet 3 (fOp dMod (fCall dInt (fCons (fOp dMul (vV 3) (fOp dAdd (fOp dMod (fCall dInt (fCons (vV 3) fNil)) (fun _ M => .ok (.int 16292) M)) (fOp dMul (fun _ M => .ok (.int 7376) M) (fPot 0 (fun _ M => .ok (.int 2) M))))) fNil)) (fun _ M => .ok (.int 2305843009213693907) M)))
  (sRet (fOp dMod (fCall dInt (fCons (fOp dFdiv (vV 3) (fun _ M => .ok (.int 11821) M)) fNil)) (vV 1))))))))
def F__law_take : Fb := bodyF 2 5 f__law_take
def N__law_of : List Str := ["pot", "some"]
def f__law_of : Sm := (sRet (fOp dIx (vV 1) (fFn F__law_take (agPot 0 (agCons (fCall dLen (fCons (vV 1) fNil)) agNil)))))
def F__law_of : Fb := bodyF 2 2 f__law_of
def pn__law_of : Nat := 2
def pk__law_of : Ev D := (fFn F__law_take (agPot 0 (agCons (fCall dLen (fCons (vV 1) fNil)) agNil)))
def N__law_cells : List Str := ["script", "most"]
def f__law_cells : Sm := (sRet (fz (fLr1 (fCall dMax (fCons (fun _ M => .ok (.int 1) M) (fCons (fCall dMin (fCons (vV 1) (fCons (fLenP 0) fNil))) fNil))))))
def F__law_cells : Fb := bodyF 2 2 f__law_cells
def N__law_some : List Str := ["pot", "some", "many", "lap", "left", "found"]
def f__law_some : Sm := (sSeq (sPar [4, 5] (mL (fCall lList (fCons (vV 1) fNil)) (mL (fLst fNil) mNil)))
  (sSeq (sFor (pName 3) (sAppPop 5 4 (fFn F__law_take (agPot 0 (agCons (fCall dLen (fCons (vV 4) fNil)) agNil)))) (fRng1 (fCons (fCall dMin (fCons (vV 2) (fCons (fCall dLen (fCons (vV 4) fNil)) fNil))) fNil)))
  (sFrz 5 (sRet (vE 5)))))
def F__law_some : Fb := bodyF 3 6 f__law_some
def N__law_picture : List Str := ["pot", "high", "wide", "rows", "lap", "at"]
def f__law_picture : Sm := (sSeq (sSetL 3 (fLst fNil))
  (sSeq (sFor (pName 4) (sApp 3 (fJoin (fun _ M => .ok (.str "") M) (fz (fLc [5] (pName 5) fYes (fFn F__law_of (agPot 0 (agCons (fun _ M => .ok (.str "AB  ") M) agNil))) (fRng1 (fCons (vV 2) fNil)))))) (fRng1 (fCons (vV 1) fNil)))
  (sRet (fCall dTuple (fCons (vV 3) fNil)))))
def F__law_picture : Fb := bodyF 3 6 f__law_picture
def N__law_near : List Str := ["pot", "picture", "rows", "lap", "row"]
def f__law_near : Sm := (sNear pn__law_of 0 2 3 4 (fLcN [4] (pName 4) (fCall lList (fCons (vV 4) fNil)) (fItems (vV 1))) (fRng1 (fCons (fFn F__law_take (agPot 0 (agCons (fun _ M => .ok (.int 9) M) agNil))) fNil)) pk__law_of (asB (fOp dNe (vV 4) (fz (fLst fNil)))) (fFn F__law_take (agPot 0 (agCons (fCall dLen (fCons (vV 4) fNil)) agNil))) (fFn F__law_of (agPot 0 (agCons (fun _ M => .ok (.str "ABx ") M) agNil)))
  (sRet (fCall dTuple (fCons (fz (fLc [4] (pName 4) fYes (fJoin (fun _ M => .ok (.str "") M) (vV 4)) (fItems (vV 2)))) fNil))))
def F__law_near : Fb := bodyF 2 5 f__law_near
def N__law_framed : List Str := ["picture", "high", "wide", "rows", "row"]
def f__law_framed : Sm := (sSeq (sSet 3 (fz (fLc [4] (pName 4) fYes (fSl dSl (fOp dAdd (vV 4) (fOp dMul (fun _ M => .ok (.str " ") M) (vV 2))) fNo (fPt (vV 2))) (fItems (fSl dSl (vV 0) fNo (fPt (vV 1)))))))
  (sRet (fCall dTuple (fCons (fOp dAdd (vV 3) (fOp dMul (fz (fLst (fCons (fOp dMul (fun _ M => .ok (.str " ") M) (vV 2)) fNil))) (fOp dSub (vV 1) (fCall dLen (fCons (vV 3) fNil))))) fNil))))
def F__law_framed : Fb := bodyF 3 5 f__law_framed
def N__law_changes : List Str := ["row", "other", "at"]
def f__law_changes : Sm := (sRet (fz (fLc [2] (pName 2) (asB (fOp dNe (fOp dIx (vV 0) (vV 2)) (fOp dIx (vV 1) (vV 2)))) (vE 2) (fRng1 (fCons (fCall dLen (fCons (vV 1) fNil)) fNil)))))
def F__law_changes : Fb := bodyF 2 3 f__law_changes
def N__law_row_cost : List Str := ["row", "other", "changes", "best", "last", "some", "first"]
def f__law_row_cost : Sm := (sSeq (sSet 2 (fFn F__law_changes (agCons (vE 0) (agCons (vE 1) agNil))))
  (sSeq (sSetL 3 (fLst (fCons (fun _ M => .ok (.int 0) M) fNil)))
  (sSeq (sFor (pName 4) (sSeq (sSet 5 (fz (fLc [6] (pName 6) fYes (fOp dAdd (fOp dSub (fOp dAdd (fOp dAdd (fOp dIx (vV 3) (vV 6)) (fun _ M => .ok (.int 4) M)) (fOp dIx (vV 2) (vV 4))) (fOp dIx (vV 2) (vV 6))) (fun _ M => .ok (.int 1) M)) (fRng1 (fCons (fOp dAdd (vV 4) (fun _ M => .ok (.int 1) M)) fNil)))))
  (sApp 3 (fCall dMin (fCons (vV 5) fNil)))) (fRng1 (fCons (fCall dLen (fCons (vV 2) fNil)) fNil)))
  (sRet (fOp dIx (vV 3) (fNeg (fun _ M => .ok (.int 1) M)))))))
def F__law_row_cost : Fb := bodyF 2 7 f__law_row_cost
def N__law_cost : List Str := ["one", "other", "row", "its"]
def f__law_cost : Sm := (sRet (fCall dSum (fCons (fz (fLc [2, 3] (pTup 2 (pCons (pName 2) (pCons (pName 3) pNil))) fYes (fFn F__law_row_cost (agCons (vE 2) (agCons (vE 3) agNil))) (fZip (fCons (fFn F__law_framed (agCons (vE 0) (agCons (fCall dLen (fCons (vV 1) fNil)) (agCons (fCall dLen (fCons (fOp dIx (vV 1) (fun _ M => .ok (.int 0) M)) fNil)) agNil)))) (fCons (vV 1) fNil))))) fNil)))
def F__law_cost : Fb := bodyF 2 4 f__law_cost
def N__law_spent : List Str := ["strokes", "row", "column", "signs"]
def f__law_spent : Sm := (sRet (fCall dSum (fCons (fz (fLc [1, 2, 3] (pTup 3 (pCons (pName 1) (pCons (pName 2) (pCons (pName 3) pNil)))) fYes (fOp dAdd (fun _ M => .ok (.int 4) M) (fCall dLen (fCons (vV 3) fNil))) (fItems (vV 0)))) fNil)))
def F__law_spent : Fb := bodyF 1 4 f__law_spent
def N__law_leads : List Str := ["one", "other", "strokes", "rows", "row", "column", "signs"]
def f__law_leads : Sm := (sSeq (sSetL 3 (fCall lList (fCons (fFn F__law_framed (agCons (vE 0) (agCons (fCall dLen (fCons (vV 1) fNil)) (agCons (fCall dLen (fCons (fOp dIx (vV 1) (fun _ M => .ok (.int 0) M)) fNil)) agNil)))) fNil)))
  (sSeq (sFor (pTup 3 (pCons (pName 4) (pCons (pName 5) (pCons (pName 6) pNil)))) (sSeq (sIf (fOr (fNot (asB (fCh dLe dLt (fun _ M => .ok (.int 0) M) (vV 4) (fCall dLen (fCons (vV 3) fNil))))) (fOr (asB (fOp dLt (vV 5) (fun _ M => .ok (.int 0) M))) (fOr (asB (fOp dGt (fOp dAdd (vV 5) (fCall dLen (fCons (vV 6) fNil))) (fCall dLen (fCons (fOp dIx (vV 1) (fun _ M => .ok (.int 0) M)) fNil)))) (asB (fOp dEq (vV 6) (fun _ M => .ok (.str "") M)))))) (sRet (fun _ M => .ok (.bool false) M)) sNx)
  (sPut 3 (vV 4) (fOp dAdd (fOp dAdd (fSl dSl (fOp dIx (vV 3) (vV 4)) fNo (fPt (vV 5))) (vV 6)) (fSl dSl (fOp dIx (vV 3) (vV 4)) (fPt (fOp dAdd (vV 5) (fCall dLen (fCons (vV 6) fNil)))) fNo)))) (fItems (vE 2)))
  (sRet (fOp dEq (fCall dTuple (fCons (vV 3) fNil)) (vV 1)))))
def F__law_leads : Fb := bodyF 3 7 f__law_leads
def N__law_lots : List Str := ["pot", "one", "other", "found", "rows", "alone", "whole", "parted", "at", "row", "changes", "begin", "place", "further", "lot", "column", "signs"]
def f__law_lots : Sm := (sSeq (sPar [4, 5, 6, 7] (mD (fFn F__law_framed (agCons (vE 1) (agCons (fCall dLen (fCons (vV 2) fNil)) (agCons (fCall dLen (fCons (fOp dIx (vV 2) (fun _ M => .ok (.int 0) M)) fNil)) agNil)))) (mL (fLst fNil) (mL (fLst fNil) (mL (fLst fNil) mNil)))))
  (sSeq (sFor (pTup 2 (pCons (pName 8) (pCons (pName 9) pNil))) (sSeq (sSet 10 (fFn F__law_changes (agCons (vE 9) (agCons (fOp dIx (vV 2) (vV 8)) agNil))))
  (sSeq (sExt 5 (fz (fLc [12] (pName 12) fYes (fTup (fCons (fCall dInt (fCons (vV 8) fNil)) (fCons (vE 12) (fCons (fOp dIx (fOp dIx (vV 2) (vV 8)) (vV 12)) fNil)))) (fItems (vV 10)))))
  (sSeq (sIf (asB (fOp dNe (vV 10) (fz (fLst fNil)))) (sApp 6 (fTup (fCons (fCall dInt (fCons (vV 8) fNil)) (fCons (fOp dIx (vV 10) (fun _ M => .ok (.int 0) M)) (fCons (fSl dSl (fOp dIx (vV 2) (vV 8)) (fPt (fOp dIx (vV 10) (fun _ M => .ok (.int 0) M))) (fPt (fOp dAdd (fOp dIx (vV 10) (fNeg (fun _ M => .ok (.int 1) M))) (fun _ M => .ok (.int 1) M)))) fNil))))) sNx)
  (sSeq (sSet 11 (fSl dSl (vV 10) fNo (fPt (fun _ M => .ok (.int 1) M))))
  (sFor (pTup 2 (pCons (pName 12) (pCons (pName 13) pNil))) (sIf (asB (fOp dGt (fOp dSub (vV 13) (vV 12)) (fFn F__law_of (agPot 0 (agCons (fz (fLst (fCons (fun _ M => .ok (.int 4) M) (fCons (fun _ M => .ok (.int 5) M) (fCons (fun _ M => .ok (.int 5) M) (fCons (fun _ M => .ok (.int 6) M) fNil)))))) agNil))))) (sSeq (sApp 7 (fTup (fCons (fCall dInt (fCons (vV 8) fNil)) (fCons (fOp dIx (vV 11) (fun _ M => .ok (.int 0) M)) (fCons (fSl dSl (fOp dIx (vV 2) (vV 8)) (fPt (fOp dIx (vV 11) (fun _ M => .ok (.int 0) M))) (fPt (fOp dAdd (vV 12) (fun _ M => .ok (.int 1) M)))) fNil)))))
  (sSet 11 (fz (fLst (fCons (vE 13) fNil))))) sNx) (fZip (fCons (vE 10) (fCons (fOp dAdd (fSl dSl (vV 10) (fPt (fun _ M => .ok (.int 1) M)) fNo) (fz (fLst (fCons (fOp dPow (fun _ M => .ok (.int 10) M) (fun _ M => .ok (.int 6) M)) fNil)))) fNil)))))))) (fEnum (fCons (vE 4) fNil)))
  (sSeq (sFrz 7 (sFrz 6 (sFrz 5 (sSetL 3 (fLst (fCons (vE 5) (fCons (vE 6) (fCons (vE 7) fNil))))))))
  (sSeq (sIf (asB (fOp dGt (fCall dLen (fCons (fOp dIx (vV 2) (fun _ M => .ok (.int 0) M)) fNil)) (fun _ M => .ok (.int 0) M))) (sApp 3 (fOp dAdd (vV 7) (fz (fLst (fCons (fTup (fCons (fun _ M => .ok (.int 0) M) (fCons (fun _ M => .ok (.int 0) M) (fCons (fSl dSl (fOp dIx (vV 2) (fun _ M => .ok (.int 0) M)) fNo (fPt (fun _ M => .ok (.int 1) M))) fNil)))) fNil))))) sNx)
  (sSeq (sApp 3 (fz (fLc [9, 15, 16] (pTup 3 (pCons (pName 9) (pCons (pName 15) (pCons (pName 16) pNil)))) fYes (fTup (fCons (vE 9) (fCons (vE 15) (fCons (fOp dAdd (vV 16) (fun _ M => .ok (.str "x") M)) fNil)))) (fItems (vV 7)))))
  (sRet (fz (fLc [14] (pName 14) fYes (fCall dTuple (fCons (fFn F__law_some (agPot 0 (agCons (vE 14) (agCons (fCall dLen (fCons (vV 14) fNil)) agNil)))) fNil)) (fItems (vV 3))))))))))
def F__law_lots : Fb := bodyF 3 17 f__law_lots
def N__law_are_strokes_right : List Str := ["pot", "one", "other", "due", "framed_v", "lot", "cost", "strokes", "high", "wide", "is_so", "fine", "row", "column", "signs", "its"]
def f__law_are_strokes_right : Sm := (sSeq (sPat (pTup 2 (pCons (pName 6) (pCons (pName 7) pNil))) (fFn F_anew (agCons (vE 1) (agCons (vE 2) agNil))))
  (sSeq (sSet 3 (fFn F__law_cost (agCons (vE 1) (agCons (vE 2) agNil))))
  (sSeq (sIf (fOr (asB (fOp dNe (vV 6) (vV 3))) (fOr (asB (fOp dNe (fFn F__law_spent (agCons (vE 7) agNil)) (vV 6))) (fNot (fTru (fFn F__law_leads (agCons (vE 1) (agCons (vE 2) (agCons (vE 7) agNil)))))))) (sRet (fun _ M => .ok (.bool false) M)) sNx)
  (sSeq (sPar [8, 9] (mD (fCall dLen (fCons (vV 2) fNil)) (mD (fCall dLen (fCons (fOp dIx (vV 2) (fun _ M => .ok (.int 0) M)) fNil)) mNil)))
  (sSeq (sIf (asB (fOp dNe (fFn F_drawn_anew (agCons (vE 1) (agCons (vE 7) (agCons (vE 8) (agCons (vE 9) agNil))))) (vV 2))) (sRet (fun _ M => .ok (.bool false) M)) sNx)
  (sSeq (sSet 4 (fFn F__law_framed (agCons (vE 1) (agCons (vE 8) (agCons (vE 9) agNil)))))
  (sSeq (sIf (asB (fOp dNe (fFn F_dots_changed (agCons (vE 1) (agCons (vE 2) agNil))) (fCall dSum (fCons (fz (fLc [12, 15] (pTup 2 (pCons (pName 12) (pCons (pName 15) pNil))) fYes (fCall dLen (fCons (fFn F__law_changes (agCons (vE 12) (agCons (vE 15) agNil))) fNil)) (fZip (fCons (vV 4) (fCons (vV 2) fNil))))) fNil)))) (sRet (fun _ M => .ok (.bool false) M)) sNx)
  (sSeq (sIf (fOr (asB (fOp dNe (fFn F_drawn_anew (agCons (vE 1) (agCons (fTup fNil) (agCons (vE 8) (agCons (vE 9) agNil))))) (vV 4))) (asB (fOp dNe (fOp dIx (fFn F_anew (agCons (vE 4) (agCons (vE 2) agNil))) (fun _ M => .ok (.int 0) M)) (vV 6)))) (sRet (fun _ M => .ok (.bool false) M)) sNx)
  (sSeq (sFor (pName 5) (sSeq (sSet 10 (fAndV (fFn F__law_leads (agCons (vE 1) (agCons (vE 2) (agCons (vE 5) agNil)))) (fOp dEq (fFn F__law_spent (agCons (vE 5) agNil)) (vV 3))))
  (sSeq (sIf (asB (fOp dNe (fCall dRepr (fCons (fFn F_shows_anew (agCons (vE 1) (agCons (vE 2) (agCons (fTup (fCons (vE 3) (fCons (vE 5) fNil))) agNil)))) fNil)) (fCall dRepr (fCons (vV 10) fNil)))) (sRet (fun _ M => .ok (.bool false) M)) sNx)
  (sSeq (sIf (fOr (asB (fOp (dIs true) (fFn F_shows_anew (agCons (vE 1) (agCons (vE 2) (agCons (fTup (fCons (fOp dAdd (vV 3) (fun _ M => .ok (.int 1) M)) (fCons (vE 5) fNil))) agNil)))) (fun _ M => .ok (.bool false) M))) (asB (fOp (dIs true) (fFn F_shows_anew (agCons (vE 1) (agCons (vE 2) (agCons (fTup (fCons (vE 3) (fCons (fz (fCall lList (fCons (vV 5) fNil))) fNil))) agNil)))) (fun _ M => .ok (.bool false) M)))) (sRet (fun _ M => .ok (.bool false) M)) sNx)
  (sSeq (sSet 11 (fz (fLc [12, 13, 14] (pTup 3 (pCons (pName 12) (pCons (pName 13) (pCons (pName 14) pNil)))) (asB (fOp dLe (fOp dAdd (vV 13) (fCall dLen (fCons (vV 14) fNil))) (vV 9))) (fTup (fCons (vE 12) (fCons (vE 13) (fCons (vE 14) fNil)))) (fItems (vV 5)))))
  (sIf (fAnd (asB (fOp dEq (fCall dLen (fCons (vV 11) fNil)) (fCall dLen (fCons (vV 5) fNil)))) (asB (fOp dNe (fFn F__law_leads (agCons (vE 1) (agCons (vE 2) (agCons (vE 5) agNil)))) (fOp dEq (fFn F_drawn_anew (agCons (vE 1) (agCons (vE 5) (agCons (vE 8) (agCons (vE 9) agNil))))) (vV 2))))) (sRet (fun _ M => .ok (.bool false) M)) sNx))))) (fItems (fOp dAdd (fz (fLst (fCons (vE 7) (fCons (fRev (vV 7)) fNil)))) (fFn F__law_lots (agPot 0 (agCons (vE 1) (agCons (vE 2) agNil)))))))
  (sRet (fun _ M => .ok (.bool true) M)))))))))))
def F__law_are_strokes_right : Fb := bodyF 3 16 f__law_are_strokes_right
def N__law_are_parts_right : List Str := ["pot", "one", "other", "far", "near", "tall", "wide", "gap", "beside", "left", "right", "first", "last", "picture", "mine", "more", "row", "its"]
def f__law_are_parts_right : Sm := (sSeq (sIf (asB (fOp dNe (fOp dIx (fFn F_anew (agCons (fOp dAdd (vV 1) (vV 3)) (agCons (fOp dAdd (vV 2) (vV 4)) agNil))) (fun _ M => .ok (.int 0) M)) (fOp dAdd (fOp dIx (fFn F_anew (agCons (vE 1) (agCons (vE 2) agNil))) (fun _ M => .ok (.int 0) M)) (fOp dIx (fFn F_anew (agCons (vE 3) (agCons (vE 4) agNil))) (fun _ M => .ok (.int 0) M))))) (sRet (fun _ M => .ok (.bool false) M)) sNx)
  (sSeq (sSet 5 (fCall dMax (fCons (fCall dLen (fCons (vV 1) fNil)) (fCons (fCall dLen (fCons (vV 3) fNil)) fNil))))
  (sSeq (sSet 6 (fCall dLen (fCons (fOp dIx (vV 1) (fun _ M => .ok (.int 0) M)) fNil)))
  (sSeq (sPat (pTup 2 (pCons (pName 9) (pCons (pName 10) pNil))) (fz (fLc [13] (pName 13) fYes (fFn F__law_framed (agCons (vE 13) (agCons (vE 5) (agCons (vE 6) agNil)))) (fItems (fTup (fCons (vE 1) (fCons (vE 2) fNil)))))))
  (sSeq (sPat (pTup 2 (pCons (pName 11) (pCons (pName 12) pNil))) (fz (fLc [13] (pName 13) fYes (fFn F__law_framed (agCons (vE 13) (agCons (vE 5) (agCons (vE 6) agNil)))) (fItems (fTup (fCons (vE 3) (fCons (vE 4) fNil)))))))
  (sSeq (sSet 7 (fOp dMul (fun _ M => .ok (.str " ") M) (fun _ M => .ok (.int 6) M)))
  (sSeq (sSet 8 (fz (fLc [14, 15] (pTup 2 (pCons (pName 14) (pCons (pName 15) pNil))) fYes (fCall dTuple (fCons (fz (fLc [16, 17] (pTup 2 (pCons (pName 16) (pCons (pName 17) pNil))) fYes (fOp dAdd (fOp dAdd (vV 16) (vV 7)) (vV 17)) (fZip (fCons (vV 14) (fCons (vV 15) fNil))))) fNil)) (fItems (fTup (fCons (fTup (fCons (vE 9) (fCons (vE 11) fNil))) (fCons (fTup (fCons (vE 10) (fCons (vE 12) fNil))) fNil)))))))
  (sRet (fOp dEq (fOp dIx (fFn F_anew (agCons (fOp dIx (vV 8) (fun _ M => .ok (.int 0) M)) (agCons (fOp dIx (vV 8) (fun _ M => .ok (.int 1) M)) agNil))) (fun _ M => .ok (.int 0) M)) (fOp dAdd (fOp dIx (fFn F_anew (agCons (vE 9) (agCons (vE 10) agNil))) (fun _ M => .ok (.int 0) M)) (fOp dIx (fFn F_anew (agCons (vE 11) (agCons (vE 12) agNil))) (fun _ M => .ok (.int 0) M))))))))))))
def F__law_are_parts_right : Fb := bodyF 5 18 f__law_are_parts_right
def N__law_right : List Str := ["pot", "wide", "one", "near", "odd", "other", "far", "first", "second"]
def f__law_right : Sm := (sSeq (sSet 1 (fCall dInt (fCons (fOp dAdd (fun _ M => .ok (.int 1) M) (fFn F__law_take (agPot 0 (agCons (fun _ M => .ok (.int 14) M) agNil)))) fNil)))
  (sSeq (sSet 2 (fFn F__law_picture (agPot 0 (agCons (fOp dAdd (fun _ M => .ok (.int 1) M) (fFn F__law_take (agPot 0 (agCons (fun _ M => .ok (.int 5) M) agNil)))) (agCons (vE 1) agNil)))))
  (sSeq (sPar [5, 6] (mD (fFn F__law_near (agPot 0 (agCons (vE 2) agNil))) (mD (fFn F__law_picture (agPot 0 (agCons (fOp dAdd (fun _ M => .ok (.int 1) M) (fFn F__law_take (agPot 0 (agCons (fun _ M => .ok (.int 4) M) agNil)))) (agCons (vE 1) agNil)))) mNil)))
  (sSeq (sSet 3 (fFn F__law_near (agPot 0 (agCons (vE 6) agNil))))
  (sSeq (sSet 4 (fFn F__law_picture (agPot 0 (agCons (fOp dAdd (fun _ M => .ok (.int 1) M) (fFn F__law_take (agPot 0 (agCons (fun _ M => .ok (.int 5) M) agNil)))) (agCons (fOp dAdd (fun _ M => .ok (.int 1) M) (fFn F__law_take (agPot 0 (agCons (fun _ M => .ok (.int 14) M) agNil)))) agNil)))))
  (sSeq (sFor (pTup 2 (pCons (pName 7) (pCons (pName 8) pNil))) (sIf (fNot (fTru (fFn F__law_are_strokes_right (agPot 0 (agCons (vE 7) (agCons (vE 8) agNil)))))) (sRet (fun _ M => .ok (.bool false) M)) sNx) (fItems (fTup (fCons (fTup (fCons (vE 2) (fCons (vE 5) fNil))) (fCons (fTup (fCons (vE 6) (fCons (vE 3) fNil))) (fCons (fTup (fCons (vE 2) (fCons (vE 4) fNil))) (fCons (fTup (fCons (vE 4) (fCons (vE 2) fNil))) (fCons (fTup (fCons (vE 2) (fCons (vE 2) fNil))) fNil))))))))
  (sRet (fFn F__law_are_parts_right (agPot 0 (agCons (vE 2) (agCons (vE 5) (agCons (vE 6) (agCons (vE 3) agNil)))))))))))))
def F__law_right : Fb := bodyF 1 9 f__law_right
def N_law : List Str := ["script", "place", "pot", "lap"]
def f_law : Sm := (sSeq (sFor (pName 1) (sTurn 2 (fFn F__law_pot (agPot 0 (agCons (vE 1) agNil))) (fNot (fTru (fCall dAll (fCons (fz (fLc [3] (pName 3) fYes (fFn F__law_right (agPot 2 agNil)) (fRng1 (fCons (fun _ M => .ok (.int 2) M) fNil)))) fNil))))) (fItems (fFn F__law_cells (agPot 0 (agCons (fun _ M => .ok (.int 3) M) agNil)))))
  (sRet (fun _ M => .ok (.bool true) M)))
def F_law : Fb := bodyF 1 4 f_law
end K
end

set_option Elab.async false
set_option linter.all false
set_option maxRecDepth 100000
set_option maxHeartbeats 0
noncomputable section
namespace K
open PySem PySem.Spec PyProof.Rows L2 RL
def s_is_plain_picture_0 : Sm := sIf (fOr (fNot (fTru (fIsi "tuple" (vV 0)))) (fNot (asB (fCh dLe dLe (fun _ M => .ok (.int 1) M) (fCall dLen (fCons (vV 0) fNil)) (fun _ M => .ok c_MOST_HIGH M))))) (sRet (fun _ M => .ok (.bool false) M)) sNx
def s_is_plain_picture_1 : Sm := sIf (fNot (fTru (fCall dAll (fCons (fz (fLc [1] (pName 1) fYes (fIsi "str" (vV 1)) (fItems (vV 0)))) fNil)))) (sRet (fun _ M => .ok (.bool false) M)) sNx
def s_is_plain_picture_2 : Sm := (sRet (fAndV (fCall dAll (fCons (fz (fLc [1] (pName 1) fYes (fOp dEq (fCall dLen (fCons (vV 1) fNil)) (fCall dLen (fCons (fOp dIx (vV 0) (fun _ M => .ok (.int 0) M)) fNil))) (fItems (vV 0)))) fNil)) (fOp dLe (fCall dLen (fCons (fOp dIx (vV 0) (fun _ M => .ok (.int 0) M)) fNil)) (fun _ M => .ok c_MOST_WIDE M))))
theorem q_is_plain_picture : f_is_plain_picture = (sSeq s_is_plain_picture_0 (sSeq s_is_plain_picture_1 s_is_plain_picture_2)) := rfl
def s_check_pictures_0_b : Sm := sIf (fNot (fTru (fFn F_is_plain_picture (agCons (vE 1) agNil)))) (fun _ _ => .bad) sNx
def s_check_pictures_0 : Sm := sFor (pName 1) s_check_pictures_0_b (fItems (vE 0))
theorem q_check_pictures : f_check_pictures = s_check_pictures_0 := rfl
def s_is_stroke_anew_0 : Sm := sIf (fOr (fNot (fTru (fIsi "tuple" (vV 0)))) (fOr (asB (fOp dNe (fCall dLen (fCons (vV 0) fNil)) (fun _ M => .ok (.int 3) M))) (fOr (fNot (fTru (fIsi "str" (fOp dIx (vV 0) (fun _ M => .ok (.int 2) M))))) (asB (fOp dEq (fOp dIx (vV 0) (fun _ M => .ok (.int 2) M)) (fun _ M => .ok (.str "") M)))))) (sRet (fun _ M => .ok (.bool false) M)) sNx
def s_is_stroke_anew_1 : Sm := (sRet (fAndV (fFn F_is_between (agCons (fOp dIx (vV 0) (fun _ M => .ok (.int 0) M)) (agCons (fun _ M => .ok (.int 0) M) (agCons (fun _ M => .ok c_MOST_HIGH M) agNil)))) (fAndV (fFn F_is_between (agCons (fOp dIx (vV 0) (fun _ M => .ok (.int 1) M)) (agCons (fun _ M => .ok (.int 0) M) (agCons (fun _ M => .ok c_MOST_WIDE M) agNil)))) (fOp dLe (fCall dLen (fCons (fOp dIx (vV 0) (fun _ M => .ok (.int 2) M)) fNil)) (fun _ M => .ok c_MOST_WIDE M)))))
theorem q_is_stroke_anew : f_is_stroke_anew = (sSeq s_is_stroke_anew_0 s_is_stroke_anew_1) := rfl
def s_framed_0 : Sm := (sSet 3 (fz (fLc [4] (pName 4) fYes (fOp dAdd (fSl dSl (vV 4) fNo (fPt (vV 2))) (fOp dMul (fun _ M => .ok c_BLANK_DOT M) (fOp dSub (vV 2) (fCall dLen (fCons (vV 4) fNil))))) (fItems (fSl dSl (vV 0) fNo (fPt (vV 1)))))))
def s_framed_1 : Sm := (sRet (fOp dAdd (vV 3) (fOp dMul (fz (fLst (fCons (fOp dMul (fun _ M => .ok c_BLANK_DOT M) (vV 2)) fNil))) (fOp dSub (vV 1) (fCall dLen (fCons (vV 3) fNil))))))
theorem q_framed : f_framed = (sSeq s_framed_0 s_framed_1) := rfl
def s_is_in_frame_0 : Sm := (sPat (pTup 3 (pCons (pName 3) (pCons (pName 4) (pCons (pName 5) pNil)))) (vE 0))
def s_is_in_frame_1 : Sm := (sRet (fAndV (fOp dLt (vV 3) (vV 1)) (fOp dLe (fOp dAdd (vV 4) (fCall dLen (fCons (vV 5) fNil))) (vV 2))))
theorem q_is_in_frame : f_is_in_frame = (sSeq s_is_in_frame_0 s_is_in_frame_1) := rfl
def s_drawn_over_0 : Sm := (sSetL 2 (fCall lList (fCons (vV 0) fNil)))
def s_drawn_over_1_b : Sm := (sPut 2 (vV 3) (fOp dAdd (fOp dAdd (fSl dSl (fOp dIx (vV 2) (vV 3)) fNo (fPt (vV 4))) (vV 5)) (fSl dSl (fOp dIx (vV 2) (vV 3)) (fPt (fOp dAdd (vV 4) (fCall dLen (fCons (vV 5) fNil)))) fNo)))
def s_drawn_over_1 : Sm := sFor (pTup 3 (pCons (pName 3) (pCons (pName 4) (pCons (pName 5) pNil)))) s_drawn_over_1_b (fItems (vE 1))
def s_drawn_over_2 : Sm := sFrz 2 (sRet (vE 2))
theorem q_drawn_over : f_drawn_over = (sSeq s_drawn_over_0 (sSeq s_drawn_over_1 s_drawn_over_2)) := rfl
def s_runs_of_0 : Sm := (sSetL 2 (fLst fNil))
def s_runs_of_1_b_t : Sm := (sPut 2 (fNeg (fun _ M => .ok (.int 1) M)) (fTup (fCons (fOp dIx (fOp dIx (vV 2) (fNeg (fun _ M => .ok (.int 1) M))) (fun _ M => .ok (.int 0) M)) (fCons (vE 3) fNil))))
def s_runs_of_1_b_e : Sm := (sApp 2 (fTup (fCons (vE 3) (fCons (vE 3) fNil))))
def s_runs_of_1_b : Sm := sIf (fAnd (asB (fOp dNe (vV 2) (fz (fLst fNil)))) (asB (fOp dLe (fOp dSub (vV 3) (fOp dIx (fOp dIx (vV 2) (fNeg (fun _ M => .ok (.int 1) M))) (fun _ M => .ok (.int 1) M))) (fun _ M => .ok c_LIFT M)))) s_runs_of_1_b_t s_runs_of_1_b_e
def s_runs_of_1 : Sm := sFor (pName 3) s_runs_of_1_b (fItems (fz (fLc [4, 5, 6] (pTup 2 (pCons (pName 4) (pCons (pTup 2 (pCons (pName 5) (pCons (pName 6) pNil))) pNil))) (asB (fOp dNe (vV 5) (vV 6))) (vE 4) (fEnumZip (fCons (vV 0) (fCons (vV 1) fNil))))))
def s_runs_of_2 : Sm := sFrz 2 (sRet (vE 2))
theorem q_runs_of : f_runs_of = (sSeq s_runs_of_0 (sSeq s_runs_of_1 s_runs_of_2)) := rfl
def s_least_strokes_0 : Sm := (sSetL 2 (fLst fNil))
def s_least_strokes_1_b : Sm := (sExt 2 (fz (fLc [6, 7] (pTup 2 (pCons (pName 6) (pCons (pName 7) pNil))) fYes (fTup (fCons (vE 3) (fCons (vE 6) (fCons (fSl dSl (vV 5) (fPt (vV 6)) (fPt (fOp dAdd (vV 7) (fun _ M => .ok (.int 1) M)))) fNil)))) (fItems (fFn F_runs_of (agCons (vE 4) (agCons (vE 5) agNil)))))))
def s_least_strokes_1 : Sm := sFor (pTup 2 (pCons (pName 3) (pCons (pTup 2 (pCons (pName 4) (pCons (pName 5) pNil))) pNil))) s_least_strokes_1_b (fEnumZip (fCons (fFn F_framed (agCons (vE 0) (agCons (fCall dLen (fCons (vV 1) fNil)) (agCons (fCall dLen (fCons (fOp dIx (vV 1) (fun _ M => .ok (.int 0) M)) fNil)) agNil)))) (fCons (vE 1) fNil)))
theorem q_least_strokes : f_least_strokes = (sSeq s_least_strokes_0 (sSeq s_least_strokes_1 (sRet (fCall dTuple (fCons (vV 2) fNil))))) := rfl
def s_least_cost_0 : Sm := (sSet 2 (fun _ M => .ok (.int 0) M))
def s_least_cost_1_b_0 : Sm := (sSet 5 (fun _ M => .ok .none M))
def s_least_cost_1_b_1_b_0 : Sm := (sSet 2 (fOp dAdd (vV 2) (fIf (asB (fOp (dIs false) (vV 5) (fun _ M => .ok .none M))) (fOp dAdd (fun _ M => .ok c_LIFT M) (fun _ M => .ok (.int 1) M)) (fCall dMin (fCons (fOp dAdd (fun _ M => .ok c_LIFT M) (fun _ M => .ok (.int 1) M)) (fCons (fOp dSub (vV 6) (vV 5)) fNil))))))
def s_least_cost_1_b_1_b_1 : Sm := (sSet 5 (vE 6))
def s_least_cost_1_b_1_b : Sm := (sSeq s_least_cost_1_b_1_b_0 s_least_cost_1_b_1_b_1)
def s_least_cost_1_b_1 : Sm := sFor (pName 6) s_least_cost_1_b_1_b (fItems (fz (fLc [7, 8, 9] (pTup 2 (pCons (pName 7) (pCons (pTup 2 (pCons (pName 8) (pCons (pName 9) pNil))) pNil))) (asB (fOp dNe (vV 8) (vV 9))) (vE 7) (fEnumZip (fCons (vV 3) (fCons (vV 4) fNil))))))
def s_least_cost_1_b : Sm := (sSeq s_least_cost_1_b_0 s_least_cost_1_b_1)
def s_least_cost_1 : Sm := sFor (pTup 2 (pCons (pName 3) (pCons (pName 4) pNil))) s_least_cost_1_b (fZip (fCons (fFn F_framed (agCons (vE 0) (agCons (fCall dLen (fCons (vV 1) fNil)) (agCons (fCall dLen (fCons (fOp dIx (vV 1) (fun _ M => .ok (.int 0) M)) fNil)) agNil)))) (fCons (vE 1) fNil)))
theorem q_least_cost : f_least_cost = (sSeq s_least_cost_0 (sSeq s_least_cost_1 (sRet (vE 2)))) := rfl
def s_anew_0 : Sm := (sDrop (fFn F_check_pictures (agCons (fTup (fCons (vE 0) (fCons (vE 1) fNil))) agNil)))
def s_anew_1 : Sm := (sSet 2 (fFn F_least_strokes (agCons (vE 0) (agCons (vE 1) agNil))))
def s_anew_2 : Sm := (sRet (fTup (fCons (fFn F_cost_of (agCons (vE 2) agNil)) (fCons (vE 2) fNil))))
theorem q_anew : f_anew = (sSeq s_anew_0 (sSeq s_anew_1 s_anew_2)) := rfl
def s_drawn_anew_0 : Sm := (sDrop (fFn F_check_pictures (agCons (fTup (fCons (vE 0) fNil)) agNil)))
def s_drawn_anew_1 : Sm := sIf (fOr (fNot (fTru (fFn F_is_between (agCons (vE 2) (agCons (fun _ M => .ok (.int 1) M) (agCons (fun _ M => .ok c_MOST_HIGH M) agNil)))))) (fNot (fTru (fFn F_is_between (agCons (vE 3) (agCons (fun _ M => .ok (.int 0) M) (agCons (fun _ M => .ok c_MOST_WIDE M) agNil))))))) (fun _ _ => .bad) sNx
def s_drawn_anew_2 : Sm := sIf (fOr (fNot (fTru (fFn F_are_strokes_anew (agCons (vE 1) agNil)))) (fNot (fTru (fCall dAll (fCons (fz (fLc [4] (pName 4) fYes (fFn F_is_in_frame (agCons (vE 4) (agCons (vE 2) (agCons (vE 3) agNil)))) (fItems (vV 1)))) fNil))))) (fun _ _ => .bad) sNx
def s_drawn_anew_3 : Sm := (sRet (fCall dTuple (fCons (fFn F_drawn_over (agCons (fFn F_framed (agCons (vE 0) (agCons (vE 2) (agCons (vE 3) agNil)))) (agCons (vE 1) agNil))) fNil)))
theorem q_drawn_anew : f_drawn_anew = (sSeq s_drawn_anew_0 (sSeq s_drawn_anew_1 (sSeq s_drawn_anew_2 s_drawn_anew_3))) := rfl
def s_dots_changed_0 : Sm := (sDrop (fFn F_check_pictures (agCons (fTup (fCons (vE 0) (fCons (vE 1) fNil))) agNil)))
def s_dots_changed_1 : Sm := (sZipSum 2 (fCons (fFn F_framed (agCons (vE 0) (agCons (fCall dLen (fCons (vV 1) fNil)) (agCons (fCall dLen (fCons (fOp dIx (vV 1) (fun _ M => .ok (.int 0) M)) fNil)) agNil)))) (fCons (vE 1) fNil)) [3, 4] (pTup 2 (pCons (pName 3) (pCons (pName 4) pNil))) fYes (fCall dLen (fCons (fz (fLc [5, 6] (pTup 2 (pCons (pName 5) (pCons (pName 6) pNil))) (asB (fOp dNe (vV 5) (vV 6))) (fun _ M => .ok (.int 1) M) (fZip (fCons (vV 3) (fCons (vV 4) fNil))))) fNil)))
theorem q_dots_changed : f_dots_changed = (sSeq s_dots_changed_0 s_dots_changed_1) := rfl
def s_shows_anew_0 : Sm := (sDrop (fFn F_check_pictures (agCons (fTup (fCons (vE 0) (fCons (vE 1) fNil))) agNil)))
def s_shows_anew_1 : Sm := sIf (fOr (fNot (fTru (fIsi "tuple" (vV 2)))) (fOr (asB (fOp dNe (fCall dLen (fCons (vV 2) fNil)) (fun _ M => .ok (.int 2) M))) (fOr (fNot (fTru (fFn F_is_integer (agCons (fOp dIx (vV 2) (fun _ M => .ok (.int 0) M)) agNil)))) (fNot (fTru (fFn F_are_strokes_anew (agCons (fOp dIx (vV 2) (fun _ M => .ok (.int 1) M)) agNil))))))) (sRet (fun _ M => .ok (.bool false) M)) sNx
def s_shows_anew_2 : Sm := sIf (fOr (asB (fOp dNe (fOp dIx (vV 2) (fun _ M => .ok (.int 0) M)) (fFn F_cost_of (agCons (fOp dIx (vV 2) (fun _ M => .ok (.int 1) M)) agNil)))) (asB (fOp dNe (fOp dIx (vV 2) (fun _ M => .ok (.int 0) M)) (fFn F_least_cost (agCons (vE 0) (agCons (vE 1) agNil)))))) (sRet (fun _ M => .ok (.bool false) M)) sNx
def s_shows_anew_3 : Sm := (sPar [3, 4] (mD (fCall dLen (fCons (vV 1) fNil)) (mD (fCall dLen (fCons (fOp dIx (vV 1) (fun _ M => .ok (.int 0) M)) fNil)) mNil)))
def s_shows_anew_4 : Sm := sIf (fNot (fTru (fCall dAll (fCons (fz (fLc [5] (pName 5) fYes (fFn F_is_in_frame (agCons (vE 5) (agCons (vE 3) (agCons (vE 4) agNil)))) (fItems (fOp dIx (vV 2) (fun _ M => .ok (.int 1) M))))) fNil)))) (sRet (fun _ M => .ok (.bool false) M)) sNx
def s_shows_anew_5 : Sm := (sRet (fOp dEq (fFn F_drawn_over (agCons (fFn F_framed (agCons (vE 0) (agCons (vE 3) (agCons (vE 4) agNil)))) (agCons (fOp dIx (vV 2) (fun _ M => .ok (.int 1) M)) agNil))) (fz (fCall lList (fCons (vV 1) fNil)))))
theorem q_shows_anew : f_shows_anew = (sSeq s_shows_anew_0 (sSeq s_shows_anew_1 (sSeq s_shows_anew_2 (sSeq s_shows_anew_3 (sSeq s_shows_anew_4 s_shows_anew_5))))) := rfl
def s__law_pot_0 : Sm := (sSet 2 (fIf (asB (fOp dLt (vV 1) (fLenP 0))) (fPot 0 (vV 1)) (fOp dAdd (fOp dAdd (fOp dMod (fCall dSum (fCons (fz (fSlP 0 fNo (fPt (fun _ M => .ok (.int 1) M)))) fNil)) (fun _ M => .ok (.int 1000003) M)) (fOp dMul (fun _ M => .ok (.int 17841) M) (vV 1))) (fun _ M => .ok (.int 32581) M))))
def s__law_pot_1 : Sm := (sSet 3 (fOp dMul (fOp dMod (fCall dInt (fCons (fCall dAbs (fCons (vV 2) fNil)) fNil)) (fOp dPow (fOp dPow (fun _ M => .ok (.int 10) M) (fun _ M => .ok (.int 60) M)) (fun _ M => .ok (.int 5) M))) (fCall dInt (fCons (fOp dGe (fCall dAbs (fCons (vV 2) fNil)) (fOp dPow (fun _ M => .ok (.int 10) M) (fun _ M => .ok (.int 18) M))) fNil))))
def s__law_pot_2 : Sm := (sSet 4 (fOp dMod (fCall dInt (fCons (vV 2) fNil)) (fun _ M => .ok (.int 2305843009213693951) M)))
def s__law_pot_3 : Sm := (sRet (fz (fLst (fCons (vE 3) (fCons (fOp dMod (fCall dInt (fCons (fOp dAdd (fOp dAdd (fOp dMul (vV 4) (fun _ M => .ok (.int 147324) M)) (fOp dMul (fOp dMul (fun _ M => .ok (.int 62061) M) (vV 1)) (vV 1))) (fun _ M => .ok (.int 15077) M)) fNil)) (fun _ M => .ok (.int 2305843009213693921) M)) (fCons (fun _ M => .ok (.int 0) M) fNil))))))
theorem q__law_pot : f__law_pot = (sSeq s__law_pot_0 (sSeq s__law_pot_1 (sSeq s__law_pot_2 s__law_pot_3))) := rfl
def s__law_take_0_t_0 : Sm := (sSet 4 (fOp dMod (fCall dInt (fCons (fPot 0 (fun _ M => .ok (.int 0) M)) fNil)) (vV 1)))
def s__law_take_0_t_1 : Sm := (sPot 0 0 (fOp dFdiv (fPot 0 (fun _ M => .ok (.int 0) M)) (vV 1)))
def s__law_take_0_t : Sm := (sSeq s__law_take_0_t_0 (sSeq s__law_take_0_t_1 (sRet (fCall dInt (fCons (vV 4) fNil)))))
def s__law_take_0 : Sm := sIf (asB (fOp dGt (fPot 0 (fun _ M => .ok (.int 0) M)) (fun _ M => .ok (.int 0) M))) s__law_take_0_t sNx
def s__law_take_1 : Sm := (sPot 0 2 (fOp dAdd (fPot 0 (fun _ M => .ok (.int 2) M)) (fun _ M => .ok (.int 1) M)))
def s__law_take_2 : Sm := (sSet 2 (fOp dIx (fz (fLst (fCons (fun _ M => .ok (.int 2147483647) M) (fCons (fun _ M => .ok (.int 2147483629) M) (fCons (fun _ M => .ok (.int 2147483587) M) (fCons (fun _ M => .ok (.int 2147483579) M) (fCons (fun _ M => .ok (.int 2147483563) M) fNil))))))) (fOp dMod (fCall dInt (fCons (fPot 0 (fun _ M => .ok (.int 2) M)) fNil)) (fun _ M => .ok (.int 5) M))))
def s__law_take_3 : Sm := (sSet 3 (fOp dMod (fCall dInt (fCons (fOp dPow (fCall dInt (fCons (fOp dAdd (fOp dAdd (fPot 0 (fun _ M => .ok (.int 1) M)) (fOp dMul (fOp dMul (fun _ M => .ok (.int 176804) M) (fPot 0 (fun _ M => .ok (.int 2) M))) (fPot 0 (fun _ M => .ok (.int 2) M)))) (fun _ M => .ok (.int 1795) M)) fNil)) (fun _ M => .ok (.int 3) M)) fNil)) (vV 2)))
def s__law_take_4 : Sm := (sSet 3 (fOp dMod (fCall dInt (fCons (fOp dMul (vV 3) (fOp dAdd (fOp dMod (fCall dInt (fCons (vV 3) fNil)) (fun _ M => .ok (.int 16292) M)) (fOp dMul (fun _ M => .ok (.int 7376) M) (fPot 0 (fun _ M => .ok (.int 2) M))))) fNil)) (fun _ M => .ok (.int 2305843009213693907) M)))
def s__law_take_5 : Sm := (sRet (fOp dMod (fCall dInt (fCons (fOp dFdiv (vV 3) (fun _ M => .ok (.int 11821) M)) fNil)) (vV 1)))
theorem q__law_take : f__law_take = (sSeq s__law_take_0 (sSeq s__law_take_1 (sSeq s__law_take_2 (sSeq s__law_take_3 (sSeq s__law_take_4 s__law_take_5))))) := rfl
def s__law_some_0 : Sm := (sPar [4, 5] (mL (fCall lList (fCons (vV 1) fNil)) (mL (fLst fNil) mNil)))
def s__law_some_1_b : Sm := (sAppPop 5 4 (fFn F__law_take (agPot 0 (agCons (fCall dLen (fCons (vV 4) fNil)) agNil))))
def s__law_some_1 : Sm := sFor (pName 3) s__law_some_1_b (fRng1 (fCons (fCall dMin (fCons (vV 2) (fCons (fCall dLen (fCons (vV 4) fNil)) fNil))) fNil))
def s__law_some_2 : Sm := sFrz 5 (sRet (vE 5))
theorem q__law_some : f__law_some = (sSeq s__law_some_0 (sSeq s__law_some_1 s__law_some_2)) := rfl
def s__law_picture_0 : Sm := (sSetL 3 (fLst fNil))
def s__law_picture_1_b : Sm := (sApp 3 (fJoin (fun _ M => .ok (.str "") M) (fz (fLc [5] (pName 5) fYes (fFn F__law_of (agPot 0 (agCons (fun _ M => .ok (.str "AB  ") M) agNil))) (fRng1 (fCons (vV 2) fNil))))))
def s__law_picture_1 : Sm := sFor (pName 4) s__law_picture_1_b (fRng1 (fCons (vV 1) fNil))
theorem q__law_picture : f__law_picture = (sSeq s__law_picture_0 (sSeq s__law_picture_1 (sRet (fCall dTuple (fCons (vV 3) fNil))))) := rfl
def s__law_framed_0 : Sm := (sSet 3 (fz (fLc [4] (pName 4) fYes (fSl dSl (fOp dAdd (vV 4) (fOp dMul (fun _ M => .ok (.str " ") M) (vV 2))) fNo (fPt (vV 2))) (fItems (fSl dSl (vV 0) fNo (fPt (vV 1)))))))
def s__law_framed_1 : Sm := (sRet (fCall dTuple (fCons (fOp dAdd (vV 3) (fOp dMul (fz (fLst (fCons (fOp dMul (fun _ M => .ok (.str " ") M) (vV 2)) fNil))) (fOp dSub (vV 1) (fCall dLen (fCons (vV 3) fNil))))) fNil)))
theorem q__law_framed : f__law_framed = (sSeq s__law_framed_0 s__law_framed_1) := rfl
def s__law_row_cost_0 : Sm := (sSet 2 (fFn F__law_changes (agCons (vE 0) (agCons (vE 1) agNil))))
def s__law_row_cost_1 : Sm := (sSetL 3 (fLst (fCons (fun _ M => .ok (.int 0) M) fNil)))
def s__law_row_cost_2_b_0 : Sm := (sSet 5 (fz (fLc [6] (pName 6) fYes (fOp dAdd (fOp dSub (fOp dAdd (fOp dAdd (fOp dIx (vV 3) (vV 6)) (fun _ M => .ok (.int 4) M)) (fOp dIx (vV 2) (vV 4))) (fOp dIx (vV 2) (vV 6))) (fun _ M => .ok (.int 1) M)) (fRng1 (fCons (fOp dAdd (vV 4) (fun _ M => .ok (.int 1) M)) fNil)))))
def s__law_row_cost_2_b_1 : Sm := (sApp 3 (fCall dMin (fCons (vV 5) fNil)))
def s__law_row_cost_2_b : Sm := (sSeq s__law_row_cost_2_b_0 s__law_row_cost_2_b_1)
def s__law_row_cost_2 : Sm := sFor (pName 4) s__law_row_cost_2_b (fRng1 (fCons (fCall dLen (fCons (vV 2) fNil)) fNil))
theorem q__law_row_cost : f__law_row_cost = (sSeq s__law_row_cost_0 (sSeq s__law_row_cost_1 (sSeq s__law_row_cost_2 (sRet (fOp dIx (vV 3) (fNeg (fun _ M => .ok (.int 1) M))))))) := rfl
def s__law_leads_0 : Sm := (sSetL 3 (fCall lList (fCons (fFn F__law_framed (agCons (vE 0) (agCons (fCall dLen (fCons (vV 1) fNil)) (agCons (fCall dLen (fCons (fOp dIx (vV 1) (fun _ M => .ok (.int 0) M)) fNil)) agNil)))) fNil)))
def s__law_leads_1_b_0 : Sm := sIf (fOr (fNot (asB (fCh dLe dLt (fun _ M => .ok (.int 0) M) (vV 4) (fCall dLen (fCons (vV 3) fNil))))) (fOr (asB (fOp dLt (vV 5) (fun _ M => .ok (.int 0) M))) (fOr (asB (fOp dGt (fOp dAdd (vV 5) (fCall dLen (fCons (vV 6) fNil))) (fCall dLen (fCons (fOp dIx (vV 1) (fun _ M => .ok (.int 0) M)) fNil)))) (asB (fOp dEq (vV 6) (fun _ M => .ok (.str "") M)))))) (sRet (fun _ M => .ok (.bool false) M)) sNx
def s__law_leads_1_b_1 : Sm := (sPut 3 (vV 4) (fOp dAdd (fOp dAdd (fSl dSl (fOp dIx (vV 3) (vV 4)) fNo (fPt (vV 5))) (vV 6)) (fSl dSl (fOp dIx (vV 3) (vV 4)) (fPt (fOp dAdd (vV 5) (fCall dLen (fCons (vV 6) fNil)))) fNo)))
def s__law_leads_1_b : Sm := (sSeq s__law_leads_1_b_0 s__law_leads_1_b_1)
def s__law_leads_1 : Sm := sFor (pTup 3 (pCons (pName 4) (pCons (pName 5) (pCons (pName 6) pNil)))) s__law_leads_1_b (fItems (vE 2))
theorem q__law_leads : f__law_leads = (sSeq s__law_leads_0 (sSeq s__law_leads_1 (sRet (fOp dEq (fCall dTuple (fCons (vV 3) fNil)) (vV 1))))) := rfl
def s__law_lots_0 : Sm := (sPar [4, 5, 6, 7] (mD (fFn F__law_framed (agCons (vE 1) (agCons (fCall dLen (fCons (vV 2) fNil)) (agCons (fCall dLen (fCons (fOp dIx (vV 2) (fun _ M => .ok (.int 0) M)) fNil)) agNil)))) (mL (fLst fNil) (mL (fLst fNil) (mL (fLst fNil) mNil)))))
def s__law_lots_1_b_0 : Sm := (sSet 10 (fFn F__law_changes (agCons (vE 9) (agCons (fOp dIx (vV 2) (vV 8)) agNil))))
def s__law_lots_1_b_1 : Sm := (sExt 5 (fz (fLc [12] (pName 12) fYes (fTup (fCons (fCall dInt (fCons (vV 8) fNil)) (fCons (vE 12) (fCons (fOp dIx (fOp dIx (vV 2) (vV 8)) (vV 12)) fNil)))) (fItems (vV 10)))))
def s__law_lots_1_b_2_t : Sm := (sApp 6 (fTup (fCons (fCall dInt (fCons (vV 8) fNil)) (fCons (fOp dIx (vV 10) (fun _ M => .ok (.int 0) M)) (fCons (fSl dSl (fOp dIx (vV 2) (vV 8)) (fPt (fOp dIx (vV 10) (fun _ M => .ok (.int 0) M))) (fPt (fOp dAdd (fOp dIx (vV 10) (fNeg (fun _ M => .ok (.int 1) M))) (fun _ M => .ok (.int 1) M)))) fNil)))))
def s__law_lots_1_b_2 : Sm := sIf (asB (fOp dNe (vV 10) (fz (fLst fNil)))) s__law_lots_1_b_2_t sNx
def s__law_lots_1_b_3 : Sm := (sSet 11 (fSl dSl (vV 10) fNo (fPt (fun _ M => .ok (.int 1) M))))
def s__law_lots_1_b_4_b_t_0 : Sm := (sApp 7 (fTup (fCons (fCall dInt (fCons (vV 8) fNil)) (fCons (fOp dIx (vV 11) (fun _ M => .ok (.int 0) M)) (fCons (fSl dSl (fOp dIx (vV 2) (vV 8)) (fPt (fOp dIx (vV 11) (fun _ M => .ok (.int 0) M))) (fPt (fOp dAdd (vV 12) (fun _ M => .ok (.int 1) M)))) fNil)))))
def s__law_lots_1_b_4_b_t_1 : Sm := (sSet 11 (fz (fLst (fCons (vE 13) fNil))))
def s__law_lots_1_b_4_b_t : Sm := (sSeq s__law_lots_1_b_4_b_t_0 s__law_lots_1_b_4_b_t_1)
def s__law_lots_1_b_4_b : Sm := sIf (asB (fOp dGt (fOp dSub (vV 13) (vV 12)) (fFn F__law_of (agPot 0 (agCons (fz (fLst (fCons (fun _ M => .ok (.int 4) M) (fCons (fun _ M => .ok (.int 5) M) (fCons (fun _ M => .ok (.int 5) M) (fCons (fun _ M => .ok (.int 6) M) fNil)))))) agNil))))) s__law_lots_1_b_4_b_t sNx
def s__law_lots_1_b_4 : Sm := sFor (pTup 2 (pCons (pName 12) (pCons (pName 13) pNil))) s__law_lots_1_b_4_b (fZip (fCons (vE 10) (fCons (fOp dAdd (fSl dSl (vV 10) (fPt (fun _ M => .ok (.int 1) M)) fNo) (fz (fLst (fCons (fOp dPow (fun _ M => .ok (.int 10) M) (fun _ M => .ok (.int 6) M)) fNil)))) fNil)))
def s__law_lots_1_b : Sm := (sSeq s__law_lots_1_b_0 (sSeq s__law_lots_1_b_1 (sSeq s__law_lots_1_b_2 (sSeq s__law_lots_1_b_3 s__law_lots_1_b_4))))
def s__law_lots_1 : Sm := sFor (pTup 2 (pCons (pName 8) (pCons (pName 9) pNil))) s__law_lots_1_b (fEnum (fCons (vE 4) fNil))
def s__law_lots_2_z_z_z : Sm := (sSetL 3 (fLst (fCons (vE 5) (fCons (vE 6) (fCons (vE 7) fNil)))))
def s__law_lots_2_z_z : Sm := sFrz 5 s__law_lots_2_z_z_z
def s__law_lots_2_z : Sm := sFrz 6 s__law_lots_2_z_z
def s__law_lots_2 : Sm := sFrz 7 s__law_lots_2_z
def s__law_lots_3_t : Sm := (sApp 3 (fOp dAdd (vV 7) (fz (fLst (fCons (fTup (fCons (fun _ M => .ok (.int 0) M) (fCons (fun _ M => .ok (.int 0) M) (fCons (fSl dSl (fOp dIx (vV 2) (fun _ M => .ok (.int 0) M)) fNo (fPt (fun _ M => .ok (.int 1) M))) fNil)))) fNil)))))
def s__law_lots_3 : Sm := sIf (asB (fOp dGt (fCall dLen (fCons (fOp dIx (vV 2) (fun _ M => .ok (.int 0) M)) fNil)) (fun _ M => .ok (.int 0) M))) s__law_lots_3_t sNx
def s__law_lots_4 : Sm := (sApp 3 (fz (fLc [9, 15, 16] (pTup 3 (pCons (pName 9) (pCons (pName 15) (pCons (pName 16) pNil)))) fYes (fTup (fCons (vE 9) (fCons (vE 15) (fCons (fOp dAdd (vV 16) (fun _ M => .ok (.str "x") M)) fNil)))) (fItems (vV 7)))))
def s__law_lots_5 : Sm := (sRet (fz (fLc [14] (pName 14) fYes (fCall dTuple (fCons (fFn F__law_some (agPot 0 (agCons (vE 14) (agCons (fCall dLen (fCons (vV 14) fNil)) agNil)))) fNil)) (fItems (vV 3)))))
theorem q__law_lots : f__law_lots = (sSeq s__law_lots_0 (sSeq s__law_lots_1 (sSeq s__law_lots_2 (sSeq s__law_lots_3 (sSeq s__law_lots_4 s__law_lots_5))))) := rfl
def s__law_are_strokes_right_0 : Sm := (sPat (pTup 2 (pCons (pName 6) (pCons (pName 7) pNil))) (fFn F_anew (agCons (vE 1) (agCons (vE 2) agNil))))
def s__law_are_strokes_right_1 : Sm := (sSet 3 (fFn F__law_cost (agCons (vE 1) (agCons (vE 2) agNil))))
def s__law_are_strokes_right_2 : Sm := sIf (fOr (asB (fOp dNe (vV 6) (vV 3))) (fOr (asB (fOp dNe (fFn F__law_spent (agCons (vE 7) agNil)) (vV 6))) (fNot (fTru (fFn F__law_leads (agCons (vE 1) (agCons (vE 2) (agCons (vE 7) agNil)))))))) (sRet (fun _ M => .ok (.bool false) M)) sNx
def s__law_are_strokes_right_3 : Sm := (sPar [8, 9] (mD (fCall dLen (fCons (vV 2) fNil)) (mD (fCall dLen (fCons (fOp dIx (vV 2) (fun _ M => .ok (.int 0) M)) fNil)) mNil)))
def s__law_are_strokes_right_4 : Sm := sIf (asB (fOp dNe (fFn F_drawn_anew (agCons (vE 1) (agCons (vE 7) (agCons (vE 8) (agCons (vE 9) agNil))))) (vV 2))) (sRet (fun _ M => .ok (.bool false) M)) sNx
def s__law_are_strokes_right_5 : Sm := (sSet 4 (fFn F__law_framed (agCons (vE 1) (agCons (vE 8) (agCons (vE 9) agNil)))))
def s__law_are_strokes_right_6 : Sm := sIf (asB (fOp dNe (fFn F_dots_changed (agCons (vE 1) (agCons (vE 2) agNil))) (fCall dSum (fCons (fz (fLc [12, 15] (pTup 2 (pCons (pName 12) (pCons (pName 15) pNil))) fYes (fCall dLen (fCons (fFn F__law_changes (agCons (vE 12) (agCons (vE 15) agNil))) fNil)) (fZip (fCons (vV 4) (fCons (vV 2) fNil))))) fNil)))) (sRet (fun _ M => .ok (.bool false) M)) sNx
def s__law_are_strokes_right_7 : Sm := sIf (fOr (asB (fOp dNe (fFn F_drawn_anew (agCons (vE 1) (agCons (fTup fNil) (agCons (vE 8) (agCons (vE 9) agNil))))) (vV 4))) (asB (fOp dNe (fOp dIx (fFn F_anew (agCons (vE 4) (agCons (vE 2) agNil))) (fun _ M => .ok (.int 0) M)) (vV 6)))) (sRet (fun _ M => .ok (.bool false) M)) sNx
def s__law_are_strokes_right_8_b_0 : Sm := (sSet 10 (fAndV (fFn F__law_leads (agCons (vE 1) (agCons (vE 2) (agCons (vE 5) agNil)))) (fOp dEq (fFn F__law_spent (agCons (vE 5) agNil)) (vV 3))))
def s__law_are_strokes_right_8_b_1 : Sm := sIf (asB (fOp dNe (fCall dRepr (fCons (fFn F_shows_anew (agCons (vE 1) (agCons (vE 2) (agCons (fTup (fCons (vE 3) (fCons (vE 5) fNil))) agNil)))) fNil)) (fCall dRepr (fCons (vV 10) fNil)))) (sRet (fun _ M => .ok (.bool false) M)) sNx
def s__law_are_strokes_right_8_b_2 : Sm := sIf (fOr (asB (fOp (dIs true) (fFn F_shows_anew (agCons (vE 1) (agCons (vE 2) (agCons (fTup (fCons (fOp dAdd (vV 3) (fun _ M => .ok (.int 1) M)) (fCons (vE 5) fNil))) agNil)))) (fun _ M => .ok (.bool false) M))) (asB (fOp (dIs true) (fFn F_shows_anew (agCons (vE 1) (agCons (vE 2) (agCons (fTup (fCons (vE 3) (fCons (fz (fCall lList (fCons (vV 5) fNil))) fNil))) agNil)))) (fun _ M => .ok (.bool false) M)))) (sRet (fun _ M => .ok (.bool false) M)) sNx
def s__law_are_strokes_right_8_b_3 : Sm := (sSet 11 (fz (fLc [12, 13, 14] (pTup 3 (pCons (pName 12) (pCons (pName 13) (pCons (pName 14) pNil)))) (asB (fOp dLe (fOp dAdd (vV 13) (fCall dLen (fCons (vV 14) fNil))) (vV 9))) (fTup (fCons (vE 12) (fCons (vE 13) (fCons (vE 14) fNil)))) (fItems (vV 5)))))
def s__law_are_strokes_right_8_b_4 : Sm := sIf (fAnd (asB (fOp dEq (fCall dLen (fCons (vV 11) fNil)) (fCall dLen (fCons (vV 5) fNil)))) (asB (fOp dNe (fFn F__law_leads (agCons (vE 1) (agCons (vE 2) (agCons (vE 5) agNil)))) (fOp dEq (fFn F_drawn_anew (agCons (vE 1) (agCons (vE 5) (agCons (vE 8) (agCons (vE 9) agNil))))) (vV 2))))) (sRet (fun _ M => .ok (.bool false) M)) sNx
def s__law_are_strokes_right_8_b : Sm := (sSeq s__law_are_strokes_right_8_b_0 (sSeq s__law_are_strokes_right_8_b_1 (sSeq s__law_are_strokes_right_8_b_2 (sSeq s__law_are_strokes_right_8_b_3 s__law_are_strokes_right_8_b_4))))
def s__law_are_strokes_right_8 : Sm := sFor (pName 5) s__law_are_strokes_right_8_b (fItems (fOp dAdd (fz (fLst (fCons (vE 7) (fCons (fRev (vV 7)) fNil)))) (fFn F__law_lots (agPot 0 (agCons (vE 1) (agCons (vE 2) agNil))))))
theorem q__law_are_strokes_right : f__law_are_strokes_right = (sSeq s__law_are_strokes_right_0 (sSeq s__law_are_strokes_right_1 (sSeq s__law_are_strokes_right_2 (sSeq s__law_are_strokes_right_3 (sSeq s__law_are_strokes_right_4 (sSeq s__law_are_strokes_right_5 (sSeq s__law_are_strokes_right_6 (sSeq s__law_are_strokes_right_7 (sSeq s__law_are_strokes_right_8 (sRet (fun _ M => .ok (.bool true) M))))))))))) := rfl
def s__law_are_parts_right_0 : Sm := sIf (asB (fOp dNe (fOp dIx (fFn F_anew (agCons (fOp dAdd (vV 1) (vV 3)) (agCons (fOp dAdd (vV 2) (vV 4)) agNil))) (fun _ M => .ok (.int 0) M)) (fOp dAdd (fOp dIx (fFn F_anew (agCons (vE 1) (agCons (vE 2) agNil))) (fun _ M => .ok (.int 0) M)) (fOp dIx (fFn F_anew (agCons (vE 3) (agCons (vE 4) agNil))) (fun _ M => .ok (.int 0) M))))) (sRet (fun _ M => .ok (.bool false) M)) sNx
def s__law_are_parts_right_1 : Sm := (sSet 5 (fCall dMax (fCons (fCall dLen (fCons (vV 1) fNil)) (fCons (fCall dLen (fCons (vV 3) fNil)) fNil))))
def s__law_are_parts_right_2 : Sm := (sSet 6 (fCall dLen (fCons (fOp dIx (vV 1) (fun _ M => .ok (.int 0) M)) fNil)))
def s__law_are_parts_right_3 : Sm := (sPat (pTup 2 (pCons (pName 9) (pCons (pName 10) pNil))) (fz (fLc [13] (pName 13) fYes (fFn F__law_framed (agCons (vE 13) (agCons (vE 5) (agCons (vE 6) agNil)))) (fItems (fTup (fCons (vE 1) (fCons (vE 2) fNil)))))))
def s__law_are_parts_right_4 : Sm := (sPat (pTup 2 (pCons (pName 11) (pCons (pName 12) pNil))) (fz (fLc [13] (pName 13) fYes (fFn F__law_framed (agCons (vE 13) (agCons (vE 5) (agCons (vE 6) agNil)))) (fItems (fTup (fCons (vE 3) (fCons (vE 4) fNil)))))))
def s__law_are_parts_right_5 : Sm := (sSet 7 (fOp dMul (fun _ M => .ok (.str " ") M) (fun _ M => .ok (.int 6) M)))
def s__law_are_parts_right_6 : Sm := (sSet 8 (fz (fLc [14, 15] (pTup 2 (pCons (pName 14) (pCons (pName 15) pNil))) fYes (fCall dTuple (fCons (fz (fLc [16, 17] (pTup 2 (pCons (pName 16) (pCons (pName 17) pNil))) fYes (fOp dAdd (fOp dAdd (vV 16) (vV 7)) (vV 17)) (fZip (fCons (vV 14) (fCons (vV 15) fNil))))) fNil)) (fItems (fTup (fCons (fTup (fCons (vE 9) (fCons (vE 11) fNil))) (fCons (fTup (fCons (vE 10) (fCons (vE 12) fNil))) fNil)))))))
def s__law_are_parts_right_7 : Sm := (sRet (fOp dEq (fOp dIx (fFn F_anew (agCons (fOp dIx (vV 8) (fun _ M => .ok (.int 0) M)) (agCons (fOp dIx (vV 8) (fun _ M => .ok (.int 1) M)) agNil))) (fun _ M => .ok (.int 0) M)) (fOp dAdd (fOp dIx (fFn F_anew (agCons (vE 9) (agCons (vE 10) agNil))) (fun _ M => .ok (.int 0) M)) (fOp dIx (fFn F_anew (agCons (vE 11) (agCons (vE 12) agNil))) (fun _ M => .ok (.int 0) M)))))
theorem q__law_are_parts_right : f__law_are_parts_right = (sSeq s__law_are_parts_right_0 (sSeq s__law_are_parts_right_1 (sSeq s__law_are_parts_right_2 (sSeq s__law_are_parts_right_3 (sSeq s__law_are_parts_right_4 (sSeq s__law_are_parts_right_5 (sSeq s__law_are_parts_right_6 s__law_are_parts_right_7))))))) := rfl
def s__law_right_0 : Sm := (sSet 1 (fCall dInt (fCons (fOp dAdd (fun _ M => .ok (.int 1) M) (fFn F__law_take (agPot 0 (agCons (fun _ M => .ok (.int 14) M) agNil)))) fNil)))
def s__law_right_1 : Sm := (sSet 2 (fFn F__law_picture (agPot 0 (agCons (fOp dAdd (fun _ M => .ok (.int 1) M) (fFn F__law_take (agPot 0 (agCons (fun _ M => .ok (.int 5) M) agNil)))) (agCons (vE 1) agNil)))))
def s__law_right_2 : Sm := (sPar [5, 6] (mD (fFn F__law_near (agPot 0 (agCons (vE 2) agNil))) (mD (fFn F__law_picture (agPot 0 (agCons (fOp dAdd (fun _ M => .ok (.int 1) M) (fFn F__law_take (agPot 0 (agCons (fun _ M => .ok (.int 4) M) agNil)))) (agCons (vE 1) agNil)))) mNil)))
def s__law_right_3 : Sm := (sSet 3 (fFn F__law_near (agPot 0 (agCons (vE 6) agNil))))
def s__law_right_4 : Sm := (sSet 4 (fFn F__law_picture (agPot 0 (agCons (fOp dAdd (fun _ M => .ok (.int 1) M) (fFn F__law_take (agPot 0 (agCons (fun _ M => .ok (.int 5) M) agNil)))) (agCons (fOp dAdd (fun _ M => .ok (.int 1) M) (fFn F__law_take (agPot 0 (agCons (fun _ M => .ok (.int 14) M) agNil)))) agNil)))))
def s__law_right_5_b : Sm := sIf (fNot (fTru (fFn F__law_are_strokes_right (agPot 0 (agCons (vE 7) (agCons (vE 8) agNil)))))) (sRet (fun _ M => .ok (.bool false) M)) sNx
def s__law_right_5 : Sm := sFor (pTup 2 (pCons (pName 7) (pCons (pName 8) pNil))) s__law_right_5_b (fItems (fTup (fCons (fTup (fCons (vE 2) (fCons (vE 5) fNil))) (fCons (fTup (fCons (vE 6) (fCons (vE 3) fNil))) (fCons (fTup (fCons (vE 2) (fCons (vE 4) fNil))) (fCons (fTup (fCons (vE 4) (fCons (vE 2) fNil))) (fCons (fTup (fCons (vE 2) (fCons (vE 2) fNil))) fNil)))))))
def s__law_right_6 : Sm := (sRet (fFn F__law_are_parts_right (agPot 0 (agCons (vE 2) (agCons (vE 5) (agCons (vE 6) (agCons (vE 3) agNil)))))))
theorem q__law_right : f__law_right = (sSeq s__law_right_0 (sSeq s__law_right_1 (sSeq s__law_right_2 (sSeq s__law_right_3 (sSeq s__law_right_4 (sSeq s__law_right_5 s__law_right_6)))))) := rfl
def s_law_0_b : Sm := (sTurn 2 (fFn F__law_pot (agPot 0 (agCons (vE 1) agNil))) (fNot (fTru (fCall dAll (fCons (fz (fLc [3] (pName 3) fYes (fFn F__law_right (agPot 2 agNil)) (fRng1 (fCons (fun _ M => .ok (.int 2) M) fNil)))) fNil)))))
def s_law_0 : Sm := sFor (pName 1) s_law_0_b (fItems (fFn F__law_cells (agPot 0 (agCons (fun _ M => .ok (.int 3) M) agNil))))
theorem q_law : f_law = (sSeq s_law_0 (sRet (fun _ M => .ok (.bool true) M))) := rfl
end K
end

set_option Elab.async false
set_option linter.all false
set_option maxRecDepth 100000
set_option maxHeartbeats 1000000
/-! the plain law of k98: pictures, frames, changes -/
namespace K
open PySem RL K98
abbrev rowD (r : List Nat) : D := .str (T r)
abbrev picD (P : List (List Nat)) : D := .tuple (P.map rowD)
abbrev picL (P : List (List Nat)) : D := .list (P.map rowD)
def blk (n : Nat) : List Nat := List.replicate n 32
theorem dAdd_lst {xs ys : List D} (h : xs.length + ys.length ≤ 16777216) : dAdd (.list xs) (.list ys) = some (.list (xs ++ ys)) := if_pos h
theorem dAdd_tup {xs ys : List D} (h : xs.length + ys.length ≤ 16777216) : dAdd (.tuple xs) (.tuple ys) = some (.tuple (xs ++ ys)) := if_pos h
theorem sp_T : Str.ofString " " = T [32] := by decide +kernel
theorem em_T : Str.ofString "" = T [] := by decide +kernel
/-- a picture of rows w wide -/
structure Pc (w : Nat) (P : List (List Nat)) : Prop where
  ne : P ≠ []
  hi : P.length ≤ 20
  wi : w ≤ 60
  row : ∀ r ∈ P, r.length = w ∧ ∀ c ∈ r, c < 1114112
def fr (h w : Nat) (P : List (List Nat)) : List (List Nat) := (P.take h).map (fun r => r.take w ++ blk (w - r.length)) ++ List.replicate (h - P.length) (blk w)
theorem fr_len {h w : Nat} {P : List (List Nat)} : (fr h w P).length = h := by
  unfold fr
  rw [List.length_append, List.length_map, List.length_take, List.length_replicate]; omega
theorem blk_len {n : Nat} : (blk n).length = n := List.length_replicate
theorem fr_row {h w v : Nat} {P : List (List Nat)} (p : Pc v P) : ∀ r ∈ fr h w P, r.length = w ∧ ∀ c ∈ r, c < 1114112 := fun r m => by
  have b : ∀ n, ∀ c ∈ blk n, c < 1114112 := fun n c m => by rw [List.eq_of_mem_replicate m]; omega
  rcases List.mem_append.mp m with m | m
  · obtain ⟨z, hz, rfl⟩ := List.mem_map.mp m
    obtain ⟨h1, h2⟩ := p.row z (List.mem_of_mem_take hz)
    refine ⟨by rw [List.length_append, List.length_take, blk_len]; omega, fun c hc => ?_⟩
    rcases List.mem_append.mp hc with hc | hc
    · exact h2 c (List.mem_of_mem_take hc)
    · exact b _ c hc
  · rw [List.eq_of_mem_replicate m]
    exact ⟨blk_len, b w⟩
theorem fr_pc {h w v : Nat} {P : List (List Nat)} (p : Pc v P) (h0 : 0 < h) (h1 : h ≤ 20) (hw : w ≤ 60) : Pc w (fr h w P) :=
  ⟨fun e => by have := fr_len (h := h) (w := w) (P := P); rw [e] at this; simp at this; omega, by rw [fr_len]; exact h1, hw, fr_row p⟩
theorem fr_id {w : Nat} {P : List (List Nat)} (h : ∀ r ∈ P, r.length = w) : fr P.length w P = P := by
  unfold fr
  rw [List.take_of_length_le (Nat.le_refl _), Nat.sub_self, List.replicate_zero, List.append_nil]
  conv => rhs; rw [← List.map_id P]
  refine List.map_congr_left fun r m => ?_
  rw [h r m, Nat.sub_self, List.take_of_length_le (by rw [h r m]; exact Nat.le_refl _)]
  simp [blk]
theorem head_row {w : Nat} {P : List (List Nat)} (p : Pc w P) : ∃ r R, P = r :: R ∧ r.length = w := by
  cases P with
  | nil => exact (p.ne rfl).elim
  | cons r R => exact ⟨r, R, rfl, (p.row r List.mem_cons_self).1⟩
section
variable {M : List Int} {x : D} {i lo hi : Int} {w v h : Nat} {P Q : List (List Nat)}
def isI : D → Bool
  | .int _ => true
  | _ => false
theorem e_is_integer (h : ∀ k, x ≠ .dict k) : F_is_integer [.d x] M = .ok (.bool (isI x)) M := by
  cases x with
  | dict k => exact (h _ rfl).elim
  | _ => simp [F_is_integer, f_is_integer, tyS, isI]
@[simp] theorem e_is_integer_int : F_is_integer [.d (.int i)] M = .ok (.bool true) M := e_is_integer (fun _ e => nomatch e)
@[simp] theorem e_is_between_int : F_is_between [.d (.int i), .d (.int lo), .d (.int hi)] M = .ok (.bool (decide (lo ≤ i) && decide (i ≤ hi))) M := by
  simp [F_is_between, f_is_between]
  split
  · simp_all
  · simp_all
    omega
@[simp] theorem lc_rows {g : Pat} {fe : Ev D} {ρ : Rho} {k : List Nat → D} (H : ∀ r ∈ P, ∃ ρ1, g (rowD r) ρ = some ρ1 ∧ ∀ M, fe ρ1 M = .ok (k r) M) : lcGo g fYes fe ρ (P.map rowD) M = .ok (P.map k) M := lc_all rowD k P H M
theorem dAll_true {γ : Type} (l : List γ) : dAll [.list (l.map fun _ => .bool true)] = some (.bool true) := by
  show (boolsD _).map _ = _
  have : (l.map fun _ => PyData.bool true) = (l.map fun _ => true).map .bool := by rw [List.map_map]; rfl
  rw [this, boolsD_map]
  simp
theorem e_plain (p : Pc w P) : F_is_plain_picture [.d (picD P)] M = .ok (.bool true) M := by
  obtain ⟨r0, R, e0, l0⟩ := head_row p
  have hp : 1 ≤ P.length := by rw [e0]; simp
  have hi := p.hi
  have hw := p.wi
  have i0 : dIx (picD P) (.int 0) = some (rowD r0) := by rw [e0]; simp
  have m0 : r0 ∈ P := by rw [e0]; exact List.mem_cons_self
  have d1 : ∀ r ∈ P, dLen [rowD r] = some (.int r.length) := fun r m => dLen_T (by have := (p.row r m).1; omega)
  have t0 : s_is_plain_picture_0 [.d (picD P), .un] M = .nx [.d (picD P), .un] M := by
    simp [s_is_plain_picture_0, tyS, c_MOST_HIGH, hp, show ¬ (2000 < P.length) from by omega, show P.length ≤ 2000 from by omega, show (1 : Int) ≤ P.length from by omega, show (P.length : Int) ≤ 2000 from by omega]
  have t1 : s_is_plain_picture_1 [.d (picD P), .un] M = .nx [.d (picD P), .un] M := by
    have l := lc_all (g := pName 1) (fe := fIsi "str" (vV 1)) (ρ := [.d (picD P), .un]) rowD (fun _ => .bool true) P (fun r _ => ⟨_, rfl, fun M => by simp [tyS]⟩) M
    simp only [s_is_plain_picture_1, e_sIf, e_fNot, e_fTru, e_fCall, e_fCons, e_fz, e_fLc, e_fItems, e_vV]
    simp [lcRun_le (xs := P.map rowD) (by simp; omega), l, dAll_true]
  have t2 : s_is_plain_picture_2 [.d (picD P), .un] M = .ret (.bool true) M := by
    have l := lc_all (g := pName 1) (fe := fOp dEq (fCall dLen (fCons (vV 1) fNil)) (fCall dLen (fCons (fOp dIx (vV 0) (fun _ M => .ok (.int 0) M)) fNil))) (ρ := [.d (picD P), .un]) rowD (fun _ => .bool true) P (fun r m => ⟨_, rfl, fun M => by
      have := (p.row r m).1
      simp [-dIx_tup, i0, d1 r m, d1 r0 m0, dEq_int, this, l0]⟩) M
    simp [s_is_plain_picture_2, -dIx_tup, i0, lcRun_le (xs := P.map rowD) (by simp; omega), l, dAll_true, d1 r0 m0, c_MOST_WIDE]
    omega
  have z : bodyF 1 2 (sSeq s_is_plain_picture_0 (sSeq s_is_plain_picture_1 s_is_plain_picture_2)) [.d (picD P)] M = .ok (.bool true) M := by
    rw [e_bodyF, if_pos (by rfl)]
    show (sSeq _ _ [.d (picD P), .un] M).rs = _
    rw [e_sSeq, t0, seq_nx, e_sSeq, t1, seq_nx, t2]; rfl
  rw [← q_is_plain_picture] at z
  exact z
theorem e_check : ∀ (Ps : List (List (List Nat))), (∀ P ∈ Ps, ∃ w, Pc w P) → F_check_pictures [.d (.tuple (Ps.map picD))] M = .ok .none M := fun Ps hp => by
  have loop : ∀ (Ps : List (List (List Nat))) (ρ : Rho), (∀ P ∈ Ps, ∃ w, Pc w P) → ρ.length = 2 → ∃ ρ', forGo (pName 1) s_check_pictures_0_b (Ps.map picD) ρ M = .nx ρ' M := by
    intro Ps
    induction Ps with
    | nil => intro ρ _ _; exact ⟨ρ, rfl⟩
    | cons P Ps ih =>
      intro ρ hp hl
      obtain ⟨w, p⟩ := hp P List.mem_cons_self
      match ρ, hl with
      | [a, b], _ =>
        obtain ⟨ρ', e⟩ := ih [a, .d (picD P)] (fun P m => hp P (List.mem_cons_of_mem _ m)) rfl
        refine ⟨ρ', ?_⟩
        have st : s_check_pictures_0_b [a, .d (picD P)] M = .nx [a, .d (picD P)] M := by simp [s_check_pictures_0_b, e_plain p]
        rw [List.map_cons, e_for1]
        simp [st, e]
  obtain ⟨ρ', e⟩ := loop Ps [.d (.tuple (Ps.map picD)), .un] hp rfl
  have z : bodyF 1 2 s_check_pictures_0 [.d (.tuple (Ps.map picD))] M = .ok .none M := by
    simp [s_check_pictures_0, e]
  rw [← q_check_pictures] at z
  exact z
theorem e_check1 (p : Pc w P) : F_check_pictures [.d (.tuple [picD P])] M = .ok .none M := e_check [P] fun Q m => ⟨w, by rw [List.mem_singleton.mp m]; exact p⟩
theorem e_check2 (p : Pc w P) (q : Pc v Q) : F_check_pictures [.d (.tuple [picD P, picD Q])] M = .ok .none M := e_check [P, Q] fun R m => by
  simp only [List.mem_cons, List.not_mem_nil, or_false] at m
  rcases m with rfl | rfl
  · exact ⟨w, p⟩
  · exact ⟨v, q⟩
theorem fr_D : (((P.take h).map fun r => rowD (r.take w ++ blk (w - r.length))) ++ List.replicate (h - P.length) (rowD (blk w))) = (fr h w P).map rowD := by
  unfold fr
  rw [List.map_append, List.map_map, List.map_replicate]
  rfl
theorem e_framed (p : Pc v P) (hh : h ≤ 60) (hw : w ≤ 60) : F_framed [.d (picD P), .d (.int h), .d (.int w)] M = .ok (picL (fr h w P)) M := by
  have hi := p.hi
  have t0 : s_framed_0 [.d (picD P), .d (.int h), .d (.int w), .un, .un] M = .nx [.d (picD P), .d (.int h), .d (.int w), .d (.list ((P.take h).map fun r => rowD (r.take w ++ blk (w - r.length)))), .un] M := by
    have l := lc_all (g := pName 4) (fe := (fOp dAdd (fSl dSl (vV 4) fNo (fPt (vV 2))) (fOp dMul (fun _ M => .ok c_BLANK_DOT M) (fOp dSub (vV 2) (fCall dLen (fCons (vV 4) fNil)))))) (ρ := [.d (picD P), .d (.int h), .d (.int w), .un, .un]) rowD (fun r => rowD (r.take w ++ blk (w - r.length))) (P.take h) (fun r m => ⟨_, rfl, fun M => by
      have r1 := (p.row r (List.mem_of_mem_take m)).1
      have v1 := p.wi
      have m1 : dMul (.str (T [32])) (.int ((w : Int) - (r.length : Int))) = some (.str (T (blk (w - r.length)))) := by
        rw [dMul_T (by omega) (by omega)]
        unfold blk
        congr 4
        omega
      simp [c_BLANK_DOT, sp_T, sl_to (show r.length ≤ 16777216 from by omega), dLen_T, -dLen_str, show r.length ≤ 16777216 from by omega, m1]
      rw [dAdd_T (by rw [List.length_take, blk_len]; omega)]
      rfl⟩) M
    simp [s_framed_0, lsl_to, ← List.map_take, lcRun_le (xs := (P.take h).map rowD) (by simp; omega), l]
  have t1 : s_framed_1 [.d (picD P), .d (.int h), .d (.int w), .d (.list ((P.take h).map fun r => rowD (r.take w ++ blk (w - r.length)))), .un] M = .ret (picL (fr h w P)) M := by
    have m1 : dMul (.str (T [32])) (.int (w : Int)) = some (.str (T (blk w))) := by
      rw [dMul_T (by omega) (by omega)]; rfl
    have m2 : dMul (.list [rowD (blk w)]) (.int ((h : Int) - ((min h P.length : Nat) : Int))) = some (.list (List.replicate (h - P.length) (rowD (blk w)))) := by
      rw [dMul_lst1 (by omega) (by omega)]
      congr 3
      omega
    simp [s_framed_1, c_BLANK_DOT, sp_T, m1]
    rw [m2]
    simp only [of_some, bnd_ok]
    rw [dAdd_lst (by simp; omega), ← List.map_take, fr_D]
    simp
  have z : bodyF 3 5 (sSeq s_framed_0 s_framed_1) [.d (picD P), .d (.int h), .d (.int w)] M = .ok (picL (fr h w P)) M := by
    rw [e_bodyF, if_pos (by rfl)]
    show (sSeq _ _ [.d (picD P), .d (.int h), .d (.int w), .un, .un] M).rs = _
    rw [e_sSeq, t0, seq_nx, t1]; rfl
  rw [← q_framed] at z
  exact z
end
end K

set_option Elab.async false
set_option linter.all false
set_option maxRecDepth 100000
set_option maxHeartbeats 1000000
namespace K
open PySem RL K98
def dif (a b : List Nat) (k : Nat) : Bool := !decide (a[k]? = b[k]?)
theorem chg_cc {i x y : Nat} {a b : List Nat} : chg i (x :: a) (y :: b) = if x = y then chg (i + 1) a b else i :: chg (i + 1) a b := rfl
theorem chg_range : ∀ (a b : List Nat) (i : Nat), a.length = b.length → (List.range' i b.length).filter (fun k => dif a b (k - i)) = chg i a b
  | [], [], i, _ => rfl
  | _ :: _, [], _, h => by simp at h
  | [], _ :: _, _, h => by simp at h
  | x :: a, y :: b, i, h => by
    have ih := chg_range a b (i + 1) (by simpa using h)
    rw [List.length_cons, List.range'_succ, List.filter_cons]
    have e : (List.range' (i + 1) b.length).filter (fun k => dif (x :: a) (y :: b) (k - i)) = (List.range' (i + 1) b.length).filter (fun k => dif a b (k - (i + 1))) := by
      refine List.filter_congr fun k hk => ?_
      have := (List.mem_range'_1.mp hk).1
      obtain ⟨j, rfl⟩ : ∃ j, k = i + 1 + j := ⟨k - (i + 1), by omega⟩
      unfold dif
      rw [show i + 1 + j - i = j + 1 from by omega, show i + 1 + j - (i + 1) = j from by omega]
      simp
    rw [e, ih, Nat.sub_self]
    rw [chg_cc]
    unfold dif
    by_cases q : x = y
    · simp [q]
    · simp [q]
theorem chg_filter {a b : List Nat} (h : a.length = b.length) : (List.range b.length).filter (dif a b) = chg 0 a b := by
  rw [← chg_range a b 0 h, List.range_eq_range']
  rfl
section
variable {M : List Int} {w v h : Nat} {P Q : List (List Nat)} {a b : List Nat}
theorem pad_take {r : List Nat} {w : Nat} : (r ++ blk w).take w = r.take w ++ blk (w - r.length) := by
  rw [List.take_append]
  unfold blk
  rw [List.take_replicate]
  congr 2
  omega
theorem e_lframed (p : Pc v P) (hh : h ≤ 60) (hw : w ≤ 60) : F__law_framed [.d (picD P), .d (.int h), .d (.int w)] M = .ok (picD (fr h w P)) M := by
  have hi := p.hi
  have m1 : dMul (.str (T [32])) (.int (w : Int)) = some (.str (T (blk w))) := by
    rw [dMul_T (by omega) (by omega)]; rfl
  have t0 : s__law_framed_0 [.d (picD P), .d (.int h), .d (.int w), .un, .un] M = .nx [.d (picD P), .d (.int h), .d (.int w), .d (.list ((P.take h).map fun r => rowD (r.take w ++ blk (w - r.length)))), .un] M := by
    have l := lc_all (g := pName 4) (fe := (fSl dSl (fOp dAdd (vV 4) (fOp dMul (fun _ M => .ok (.str " ") M) (vV 2))) fNo (fPt (vV 2)))) (ρ := [.d (picD P), .d (.int h), .d (.int w), .un, .un]) rowD (fun r => rowD (r.take w ++ blk (w - r.length))) (P.take h) (fun r m => ⟨_, rfl, fun M => by
      have r1 := (p.row r (List.mem_of_mem_take m)).1
      have v1 := p.wi
      have d1 := dAdd_T (a := r) (b := blk w) (by rw [blk_len]; omega)
      have d2 := sl_to (l := r ++ blk w) (b := w) (by rw [List.length_append, blk_len]; omega)
      rw [pad_take] at d2
      simp [sp_T, m1, d1, d2]⟩) M
    simp [s__law_framed_0, lsl_to, ← List.map_take, lcRun_le (xs := (P.take h).map rowD) (by simp; omega), l]
  have t1 : s__law_framed_1 [.d (picD P), .d (.int h), .d (.int w), .d (.list ((P.take h).map fun r => rowD (r.take w ++ blk (w - r.length)))), .un] M = .ret (picD (fr h w P)) M := by
    have m2 : dMul (.list [rowD (blk w)]) (.int ((h : Int) - ((min h P.length : Nat) : Int))) = some (.list (List.replicate (h - P.length) (rowD (blk w)))) := by
      rw [dMul_lst1 (by omega) (by omega)]
      congr 3
      omega
    simp [s__law_framed_1, sp_T, m1]
    rw [m2]
    simp only [of_some, bnd_ok]
    rw [dAdd_lst (by simp; omega), ← List.map_take, fr_D]
    simp
  have z : bodyF 3 5 (sSeq s__law_framed_0 s__law_framed_1) [.d (picD P), .d (.int h), .d (.int w)] M = .ok (picD (fr h w P)) M := by
    rw [e_bodyF, if_pos (by rfl)]
    show (sSeq _ _ [.d (picD P), .d (.int h), .d (.int w), .un, .un] M).rs = _
    rw [e_sSeq, t0, seq_nx, t1]; rfl
  rw [← q__law_framed] at z
  exact z
/-- the changes as ints -/
abbrev intsN (l : List Nat) : List D := l.map fun k => .int (k : Nat)
theorem e_changes (hl : a.length = b.length) (hb : b.length ≤ 60) : F__law_changes [.d (rowD a), .d (rowD b)] M = .ok (.list (intsN (chg 0 a b))) M := by
  have d1 : dLen [rowD b] = some (.int b.length) := dLen_T (by omega)
  have l := lc_enc (g := pName 2) (ft := asB (fOp dNe (fOp dIx (vV 0) (vV 2)) (fOp dIx (vV 1) (vV 2)))) (fe := vE 2) (ρ := [.d (rowD a), .d (rowD b), .un]) (fun k : Nat => PyData.int (k : Nat)) (dif a b) (fun k => .int (k : Nat)) (List.range b.length) (fun k hk => by
    have kb : k < b.length := List.mem_range.mp hk
    have ka : k < a.length := by omega
    have i1 : dIx (rowD a) (.int (k : Nat)) = some (.str (T [a[k]])) := dIx_T (by omega) ka
    have i2 : dIx (rowD b) (.int (k : Nat)) = some (.str (T [b[k]])) := dIx_T (by omega) kb
    refine ⟨_, rfl, fun M => ?_, fun _ M => by simp⟩
    simp [i1, i2, dif, List.getElem?_eq_getElem ka, List.getElem?_eq_getElem kb]) M
  rw [chg_filter hl] at l
  unfold F__law_changes
  rw [e_bodyF, if_pos (by rfl)]
  unfold f__law_changes
  simp [d1, rng1_int (show -4611686018427387904 ≤ (b.length : Int) from by omega) (show (b.length : Int) < 4611686018427387904 from by omega), rgItems_map, lcRun_le (xs := (List.range b.length).map fun k => PyData.int (k : Nat)) (by simp; omega), l]
/-! ### changes through enumerate(zip(..)) -/
theorem zip_rows : ∀ (a b : List Nat), a.length = b.length → zipD (a.map fun k => PyData.str (T [k])) (b.map fun k => PyData.str (T [k])) = (List.range b.length).map fun k => PyData.tuple [.str (T [a.getD k 0]), .str (T [b.getD k 0])]
  | [], [], _ => rfl
  | _ :: _, [], h => by simp at h
  | [], _ :: _, h => by simp at h
  | x :: a, y :: b, h => by
    have ih := zip_rows a b (by simpa using h)
    rw [List.map_cons, List.map_cons, List.length_cons, List.range_succ_eq_map, List.map_cons, List.map_map]
    show PyData.tuple _ :: zipD _ _ = _
    rw [ih]
    congr 1
theorem enum_zip (h : a.length = b.length) : numD 0 (zipD (a.map fun k => PyData.str (T [k])) (b.map fun k => PyData.str (T [k]))) = (List.range b.length).map fun k => PyData.tuple [.int (k : Nat), .tuple [.str (T [a.getD k 0]), .str (T [b.getD k 0])]] := by
  rw [numD_map, zip_rows a b h, List.length_map, List.length_range]
  refine List.map_congr_left fun k hk => ?_
  have hk := List.mem_range.mp hk
  rw [List.getD_eq_getElem?_getD, List.getElem?_map, List.getElem?_range hk]
  rfl
theorem dif_D {k : Nat} (h : a.length = b.length) (hk : k < b.length) : dif a b k = !decide (a.getD k 0 = b.getD k 0) := by
  have ka : k < a.length := by omega
  unfold dif
  simp [List.getElem?_eq_getElem ka, List.getElem?_eq_getElem hk]
end
/-- the comprehension in runs_of and least_cost: names i1, i2, i3 -/
theorem lc_chg {a b : List Nat} {ρ : Rho} {i1 i2 i3 : Nat} (hl : a.length = b.length) (hn : i1 < ρ.length ∧ i2 < ρ.length ∧ i3 < ρ.length ∧ i1 ≠ i2 ∧ i1 ≠ i3 ∧ i2 ≠ i3) (M : List Int) : lcGo (pTup 2 (pCons (pName i1) (pCons (pTup 2 (pCons (pName i2) (pCons (pName i3) pNil))) pNil))) (asB (fOp dNe (vV i2) (vV i3))) (vE i1) ρ
    ((List.range b.length).map fun k => PyData.tuple [.int (k : Nat), .tuple [.str (T [a.getD k 0]), .str (T [b.getD k 0])]]) M = .ok (intsN (chg 0 a b)) M := by
  obtain ⟨h1, h2, h3, h4, h5, h6⟩ := hn
  have l := lc_enc (g := pTup 2 (pCons (pName i1) (pCons (pTup 2 (pCons (pName i2) (pCons (pName i3) pNil))) pNil))) (ft := asB (fOp dNe (vV i2) (vV i3))) (fe := vE i1) (ρ := ρ) (fun k : Nat => PyData.tuple [.int (k : Nat), .tuple [.str (T [a.getD k 0]), .str (T [b.getD k 0])]]) (dif a b) (fun k => .int (k : Nat)) (List.range b.length) (fun k hk => by
    have kb : k < b.length := List.mem_range.mp hk
    refine ⟨((ρ.set i1 (.d (.int (k : Nat)))).set i2 (.d (.str (T [a.getD k 0])))).set i3 (.d (.str (T [b.getD k 0]))), by simp, fun M => ?_, fun _ M => ?_⟩
    · have g2 : (((ρ.set i1 (.d (.int (k : Nat)))).set i2 (.d (.str (T [a.getD k 0])))).set i3 (.d (.str (T [b.getD k 0]))))[i2]? = some (.d (.str (T [a.getD k 0]))) := by
        rw [List.getElem?_set_ne (Ne.symm h6), List.getElem?_set_self (by rw [List.length_set]; exact h2)]
      have g3 : (((ρ.set i1 (.d (.int (k : Nat)))).set i2 (.d (.str (T [a.getD k 0])))).set i3 (.d (.str (T [b.getD k 0]))))[i3]? = some (.d (.str (T [b.getD k 0]))) := by
        rw [List.getElem?_set_self (by rw [List.length_set, List.length_set]; exact h3)]
      rw [dif_D hl kb]
      generalize ((ρ.set i1 (.d (.int (k : Nat)))).set i2 (.d (.str (T [a.getD k 0])))).set i3 (.d (.str (T [b.getD k 0]))) = ρ3 at g2 g3
      simp [g2, g3, -List.getD_eq_getElem?_getD]
    · have g1 : (((ρ.set i1 (.d (.int (k : Nat)))).set i2 (.d (.str (T [a.getD k 0])))).set i3 (.d (.str (T [b.getD k 0]))))[i1]? = some (.d (.int (k : Nat))) := by
        rw [List.getElem?_set_ne (Ne.symm h5), List.getElem?_set_ne (Ne.symm h4), List.getElem?_set_self h1]
      generalize ((ρ.set i1 (.d (.int (k : Nat)))).set i2 (.d (.str (T [a.getD k 0])))).set i3 (.d (.str (T [b.getD k 0]))) = ρ3 at g1
      simp [g1]) M
  rw [chg_filter hl] at l
  exact l
end K

set_option Elab.async false
set_option linter.all false
set_option maxRecDepth 100000
set_option maxHeartbeats 1000000
namespace K
open PySem RL K98
theorem ixN_last {n : Nat} : L2.ixN (n + 1) (-1) = some n := by
  unfold L2.ixN
  rw [if_neg (by omega), if_pos (by omega)]
  congr 1
  omega
theorem atI_last {γ : Type} {xs : List γ} {x : γ} : L2.atI (xs ++ [x]) (-1) = some x := by
  unfold L2.atI
  rw [List.length_append, List.length_singleton, ixN_last]
  simp
theorem eqv_list_nil {xs : List D} : PyData.eqv (.list xs) (.list []) = decide (xs = []) := by
  cases xs with
  | nil => rfl
  | cons x xs => simp [PyData.eqv, PyData.eqvAll]
theorem ne_nil {xs : List D} {k w : Nat} (h : Tame k w (.list xs)) (hk : k ≤ 64) : dNe (.list xs) (.list []) = some (.bool (!decide (xs = []))) := by
  rw [dNe_ok h (tame_lst (k := 0) (w := 0) (xs := []) (k' := 1) (w' := 1) (fun x m => by simp at m) (by omega) (by simp)) hk (by omega), eqv_list_nil]
abbrev rD (r : Nat × Nat) : D := .tuple [.int (r.1 : Nat), .int (r.2 : Nat)]
theorem tame_n {k : Nat} (h : k ≤ 1000) : Tame 0 40 (.int (k : Nat)) := tame_int (by omega) (by omega) (by omega)
theorem tame_rD {r : Nat × Nat} (h : r.1 ≤ 60 ∧ r.2 ≤ 60) : Tame 1 82 (rD r) := tame_tup (k := 0) (w := 40) (fun x m => by
  simp only [List.mem_cons, List.not_mem_nil, or_false] at m
  rcases m with rfl | rfl
  · exact tame_n (by omega)
  · exact tame_n (by omega)) (by omega) (by simp)
theorem addRun_bd {rs : List (Nat × Nat)} {c : Nat} (h : ∀ r ∈ rs, r.1 ≤ 60 ∧ r.2 ≤ 60) (hc : c ≤ 60) : (addRun rs c).length ≤ rs.length + 1 ∧ ∀ r ∈ addRun rs c, r.1 ≤ 60 ∧ r.2 ≤ 60 := by
  rcases List.eq_nil_or_concat rs with rfl | ⟨pre, ⟨f, l⟩, rfl⟩
  · simp [addRun]; omega
  · simp only [List.concat_eq_append] at h ⊢
    have hfl := h (f, l) (by simp)
    dsimp only at hfl
    rw [addRun_snoc]
    split
    · refine ⟨by simp, fun r hr => ?_⟩
      rcases List.mem_append.mp hr with hr | hr
      · exact h r (List.mem_append_left _ hr)
      · rw [List.mem_singleton.mp hr]; dsimp only; omega
    · refine ⟨by simp, fun r hr => ?_⟩
      rcases List.mem_append.mp hr with hr | hr
      · exact h r hr
      · rw [List.mem_singleton.mp hr]; dsimp only; omega
theorem runs_bd : ∀ (cs : List Nat) (rs : List (Nat × Nat)), (∀ r ∈ rs, r.1 ≤ 60 ∧ r.2 ≤ 60) → (∀ c ∈ cs, c ≤ 60) → (cs.foldl addRun rs).length ≤ rs.length + cs.length ∧ ∀ r ∈ cs.foldl addRun rs, r.1 ≤ 60 ∧ r.2 ≤ 60
  | [], rs, h, _ => ⟨Nat.le_refl _, h⟩
  | c :: cs, rs, h, hc => by
    obtain ⟨a1, a2⟩ := addRun_bd h (hc c List.mem_cons_self)
    obtain ⟨b1, b2⟩ := runs_bd cs (addRun rs c) a2 fun d m => hc d (List.mem_cons_of_mem _ m)
    exact ⟨by rw [List.foldl_cons, List.length_cons]; omega, b2⟩
theorem chg_len : ∀ {i : Nat} {a b : List Nat}, (chg i a b).length ≤ a.length
  | _, [], _ => by simp [chg]
  | _, _ :: _, [] => by simp [chg]
  | i, x :: a, y :: b => by
    rw [chg_cc]
    have := chg_len (i := i + 1) (a := a) (b := b)
    split
    · rw [List.length_cons]; omega
    · rw [List.length_cons, List.length_cons]; omega
section
variable {M : List Int} {A B X : SV} {a b : List Nat}
theorem runs_body {rs : List (Nat × Nat)} {c : Nat} (h : ∀ r ∈ rs, r.1 ≤ 60 ∧ r.2 ≤ 60) (hl : rs.length ≤ 100) (hc : c ≤ 60) : s_runs_of_1_b [A, B, .l (rs.map rD), .d (.int (c : Nat)), .un, .un, .un] M = .nx [A, B, .l ((addRun rs c).map rD), .d (.int (c : Nat)), .un, .un, .un] M := by
  have ne := ne_nil (xs := rs.map rD) (k := 2) (w := 10000) (tame_lst (k := 1) (w := 82) (fun x m => by
    obtain ⟨r, hr, rfl⟩ := List.mem_map.mp m
    exact tame_rD (h r hr)) (by omega) (by simp; omega)) (by omega)
  rcases List.eq_nil_or_concat rs with rfl | ⟨pre, ⟨f, l⟩, rfl⟩
  · have e : s_runs_of_1_b_e [A, B, .l [], .d (.int (c : Nat)), .un, .un, .un] M = .nx [A, B, .l [rD (c, c)], .d (.int (c : Nat)), .un, .un, .un] M := by simp [s_runs_of_1_b_e]
    rw [List.map_nil] at ne
    simp [s_runs_of_1_b, ne, e, addRun]
  · simp only [List.concat_eq_append, List.map_append, List.map_cons, List.map_nil] at ne hl ⊢
    have hl' : pre.length + 1 ≤ 100 := by simpa using hl
    have l1 := atI_last (xs := pre.map rD) (x := rD (f, l))
    have t : s_runs_of_1_b_t [A, B, .l (pre.map rD ++ [rD (f, l)]), .d (.int (c : Nat)), .un, .un, .un] M = .nx [A, B, .l (pre.map rD ++ [rD (f, c)]), .d (.int (c : Nat)), .un, .un, .un] M := by
      have z := ixN_last (n := pre.length)
      simp [s_runs_of_1_b_t, l1, z]
    have e : s_runs_of_1_b_e [A, B, .l (pre.map rD ++ [rD (f, l)]), .d (.int (c : Nat)), .un, .un, .un] M = .nx [A, B, .l (pre.map rD ++ [rD (f, l)] ++ [rD (c, c)]), .d (.int (c : Nat)), .un, .un, .un] M := by
      simp [s_runs_of_1_b_e]; omega
    have q : ¬ (pre.map rD ++ [rD (f, l)] = []) := by simp
    have cc : decide ((c : Int) - (l : Int) ≤ 4) = decide (c - l ≤ 4) := by
      by_cases q : c - l ≤ 4
      · rw [decide_eq_true q, decide_eq_true (by omega)]
      · rw [decide_eq_false q, decide_eq_false (by omega)]
    rw [addRun_snoc]
    rw [decide_eq_false q] at ne
    by_cases q4 : c - l ≤ 4
    · rw [decide_eq_true q4] at cc
      simp only [s_runs_of_1_b, e_sIf, e_fAnd, e_asB, e_fOp, e_vV, e_fz, e_fLst, e_fNil, e_fNeg]
      simp [ne, l1, cc, c_LIFT, t, q4]
    · rw [decide_eq_false q4] at cc
      simp only [s_runs_of_1_b, e_sIf, e_fAnd, e_asB, e_fOp, e_vV, e_fz, e_fLst, e_fNil, e_fNeg]
      simp [ne, l1, cc, c_LIFT, e, q4]
theorem runs_loop : ∀ (cs : List Nat) (rs : List (Nat × Nat)) (X : SV), (∀ r ∈ rs, r.1 ≤ 60 ∧ r.2 ≤ 60) → (∀ c ∈ cs, c ≤ 60) → rs.length + cs.length ≤ 100 → ∃ X', forGo (pName 3) s_runs_of_1_b (intsN cs) [A, B, .l (rs.map rD), X, .un, .un, .un] M = .nx [A, B, .l ((cs.foldl addRun rs).map rD), X', .un, .un, .un] M
  | [], rs, X, _, _, _ => ⟨X, rfl⟩
  | c :: cs, rs, X, h, hc, hl => by
    obtain ⟨a1, a2⟩ := addRun_bd h (hc c List.mem_cons_self)
    rw [List.length_cons] at hl
    obtain ⟨X', e⟩ := runs_loop cs (addRun rs c) (.d (.int (c : Nat))) a2 (fun d m => hc d (List.mem_cons_of_mem _ m)) (by omega)
    refine ⟨X', ?_⟩
    have b := runs_body (M := M) (A := A) (B := B) h (by omega) (hc c List.mem_cons_self)
    rw [List.foldl_cons, ← e, intsN, List.map_cons, e_for1]
    simp [b]
theorem e_runs_of (hl : a.length = b.length) (hb : b.length ≤ 60) : F_runs_of [.d (rowD a), .d (rowD b)] M = .ok (.list ((runs (chg 0 a b)).map rD)) M := by
  have t0 : s_runs_of_0 [.d (rowD a), .d (rowD b), .un, .un, .un, .un, .un] M = .nx [.d (rowD a), .d (rowD b), .l [], .un, .un, .un, .un] M := by simp [s_runs_of_0]
  have cb : ∀ c ∈ chg 0 a b, c ≤ 60 := fun c m => by have := chg_ge m; omega
  have t1 : ∃ X, s_runs_of_1 [.d (rowD a), .d (rowD b), .l [], .un, .un, .un, .un] M = .nx [.d (rowD a), .d (rowD b), .l ((runs (chg 0 a b)).map rD), X, .un, .un, .un] M := by
    obtain ⟨X, e⟩ := runs_loop (M := M) (A := .d (rowD a)) (B := .d (rowD b)) (chg 0 a b) [] .un (fun r m => by simp at m) cb (by have := chg_len (i := 0) (a := a) (b := b); simp; omega)
    refine ⟨X, ?_⟩
    rw [List.map_nil] at e
    have l := lc_chg (ρ := [.d (rowD a), .d (rowD b), .l [], .un, .un, .un, .un]) (i1 := 4) (i2 := 5) (i3 := 6) hl (by simp) M
    simp only [s_runs_of_1, e_sFor, e_fItems, e_fz, e_fLc, e_fEnumZip, e_fCons, e_fNil, e_vV]
    simp only [show ([SV.d (rowD a), .d (rowD b), .l [], .un, .un, .un, .un] : Rho)[0]? = some (.d (rowD a)) from rfl, show ([SV.d (rowD a), .d (rowD b), .l [], .un, .un, .un, .un] : Rho)[1]? = some (.d (rowD b)) from rfl, bnd_ok, items_T, Option.bind_some, Option.map_some, of_some]
    rw [enum_zip hl]
    rw [lcRun_le (by simp; omega)]
    have wz : wipeR ([SV.d (rowD a), .d (rowD b), .l [], .un, .un, .un, .un] : Rho) [4, 5, 6] = [SV.d (rowD a), .d (rowD b), .l [], .un, .un, .un, .un] := rfl
    rw [wz, l]
    simp only [bnd_ok, items_lst, of_some, out_ok]
    exact e
  obtain ⟨X, t1⟩ := t1
  have t2 : s_runs_of_2 [.d (rowD a), .d (rowD b), .l ((runs (chg 0 a b)).map rD), X, .un, .un, .un] M = .ret (.list ((runs (chg 0 a b)).map rD)) M := by simp [s_runs_of_2]
  have z : bodyF 2 7 (sSeq s_runs_of_0 (sSeq s_runs_of_1 s_runs_of_2)) [.d (rowD a), .d (rowD b)] M = .ok (.list ((runs (chg 0 a b)).map rD)) M := by
    rw [e_bodyF, if_pos (by rfl)]
    show (sSeq _ _ [.d (rowD a), .d (rowD b), .un, .un, .un, .un, .un] M).rs = _
    rw [e_sSeq, t0, seq_nx, e_sSeq, t1, seq_nx, t2]; rfl
  rw [← q_runs_of] at z
  exact z
end
end K

set_option Elab.async false
set_option linter.all false
set_option maxRecDepth 100000
set_option maxHeartbeats 1000000
namespace K
open PySem RL K98
/-! ### strokes -/
abbrev Sk := Nat × Nat × List Nat
abbrev stD (s : Sk) : D := .tuple [.int (s.1 : Nat), .int (s.2.1 : Nat), .str (T s.2.2)]
def Bd (s : Sk) : Prop := s.1 ≤ 100 ∧ s.2.1 ≤ 100 ∧ s.2.2.length ≤ 100 ∧ ∀ c ∈ s.2.2, c < 1114112
def skc (s : Sk) : Nat := 4 + s.2.2.length
def spent (l : List Sk) : Nat := (l.map skc).sum
theorem sum_nat (l : List Nat) : (l.map fun n : Nat => (n : Int)).sum = ((l.sum : Nat) : Int) := by
  induction l with
  | nil => rfl
  | cons a l ih => rw [List.map_cons, List.sum_cons, ih, List.sum_cons]; omega
theorem dSum_nat {γ : Type} (l : List γ) (f : γ → Nat) : dSum [.list (l.map fun x => .int (f x : Nat))] = some (.int ((l.map f).sum : Nat)) := by
  have : (l.map fun x => PyData.int (f x : Nat)) = ((l.map f).map fun n : Nat => (n : Int)).map .int := by
    rw [List.map_map, List.map_map]; rfl
  rw [this, dSum_int, sum_nat]
section
variable {M : List Int} {a b : List Nat} {w v : Nat} {P Q : List (List Nat)}
theorem e_stroke_cost {s : Sk} (h : Bd s) : F_stroke_cost [.d (stD s)] M = .ok (.int (skc s : Nat)) M := by
  have := h.2.2.1
  have d1 : dLen [.str (T s.2.2)] = some (.int s.2.2.length) := dLen_T (by omega)
  simp [F_stroke_cost, f_stroke_cost, d1, c_LIFT, skc]
theorem e_cost_of {l : List Sk} (h : ∀ s ∈ l, Bd s) (hl : l.length ≤ 100000) : F_cost_of [.d (.tuple (l.map stD))] M = .ok (.int (spent l : Nat)) M := by
  have lc := lc_all (g := pName 1) (fe := fFn F_stroke_cost (agCons (vE 1) agNil)) (ρ := [.d (.tuple (l.map stD)), .un]) stD (fun s => .int (skc s : Nat)) l (fun s m => ⟨_, rfl, fun M => by simp [e_stroke_cost (h s m)]⟩) M
  have sm := dSum_nat l skc
  unfold F_cost_of
  rw [e_bodyF, if_pos (by rfl)]
  unfold f_cost_of
  simp [lcRun_le (xs := l.map stD) (by simp; omega), lc, sm, spent]
theorem e_spent {l : List Sk} (h : ∀ s ∈ l, Bd s) (hl : l.length ≤ 100000) : F__law_spent [.d (.tuple (l.map stD))] M = .ok (.int (spent l : Nat)) M := by
  have lc := lc_all (g := pTup 3 (pCons (pName 1) (pCons (pName 2) (pCons (pName 3) pNil)))) (fe := fOp dAdd (fun _ M => .ok (.int 4) M) (fCall dLen (fCons (vV 3) fNil))) (ρ := [.d (.tuple (l.map stD)), .un, .un, .un]) stD (fun s => .int (skc s : Nat)) l (fun s m => by
    have := (h s m).2.2.1
    have d1 : dLen [.str (T s.2.2)] = some (.int s.2.2.length) := dLen_T (by omega)
    exact ⟨_, rfl, fun M => by simp [d1, skc]⟩) M
  have sm := dSum_nat l skc
  unfold F__law_spent
  rw [e_bodyF, if_pos (by rfl)]
  unfold f__law_spent
  simp [lcRun_le (xs := l.map stD) (by simp; omega), lc, sm, spent]
/-! ### the least strokes -/
def rowSt (k : Nat) (h t : List Nat) : List Sk := (runs (chg 0 h t)).map fun r => (k, r.1, cut t r)
def strokes : Nat → List (List Nat) → List (List Nat) → List Sk
  | k, h :: hs, t :: ts => rowSt k h t ++ strokes (k + 1) hs ts
  | _, _, _ => []
theorem runs_ok {a b : List Nat} (hl : a.length = b.length) : ∀ r ∈ runs (chg 0 a b), r.1 ≤ r.2 ∧ r.2 < b.length :=
  (runs_cov (chg 0 a b) [] b.length (fun r hr => by simp at hr) (fun c hc => by have := chg_ge hc; omega) chg_up).2
theorem rowSt_len {k : Nat} {h t : List Nat} (hl : h.length = t.length) (hb : t.length ≤ 60) : (rowSt k h t).length ≤ 60 := by
  unfold rowSt runs
  rw [List.length_map]
  have := (runs_bd (chg 0 h t) [] (fun r hr => by simp at hr) fun c hc => by have := chg_ge hc; omega).1
  have := chg_len (i := 0) (a := h) (b := t)
  simp only [List.length_nil] at *
  omega
theorem ls_body {A B X Y Z : SV} {fs : List D} {k : Nat} {h t : List Nat} (hl : h.length = t.length) (hb : t.length ≤ 60) (hf : fs.length ≤ 10000) : s_least_strokes_1_b [A, B, .l fs, .d (.int (k : Nat)), .d (rowD h), .d (rowD t), .un, .un] M = .nx [A, B, .l (fs ++ (rowSt k h t).map stD), .d (.int (k : Nat)), .d (rowD h), .d (rowD t), .un, .un] M := by
  have rl := rowSt_len (k := k) hl hb
  have lc := lc_all (g := pTup 2 (pCons (pName 6) (pCons (pName 7) pNil))) (fe := (fTup (fCons (vE 3) (fCons (vE 6) (fCons (fSl dSl (vV 5) (fPt (vV 6)) (fPt (fOp dAdd (vV 7) (fun _ M => .ok (.int 1) M)))) fNil))))) (ρ := [A, B, .l fs, .d (.int (k : Nat)), .d (rowD h), .d (rowD t), .un, .un]) rD (fun r => stD (k, r.1, cut t r)) (runs (chg 0 h t)) (fun r m => by
    obtain ⟨r1, r2⟩ := runs_ok hl r m
    have sl := sl_mid (l := t) (a := r.1) (b := r.2 + 1) (by omega) (by omega) (by omega)
    rw [show ((r.2 + 1 : Nat) : Int) = (r.2 : Int) + 1 from by omega] at sl
    exact ⟨_, rfl, fun M => by simp [sl, cut]⟩) M
  have rr := e_runs_of (M := M) hl hb
  have ll : (runs (chg 0 h t)).length = (rowSt k h t).length := by unfold rowSt; rw [List.length_map]
  simp [s_least_strokes_1_b, rr, lcRun_le (xs := (runs (chg 0 h t)).map rD) (by rw [List.length_map, ll]; omega), lc]
  rw [if_pos (by rw [ll]; omega)]
  simp [rowSt]
theorem ls_loop {A B : SV} : ∀ (P Q : List (List Nat)) (k : Nat) (fs : List D) (X Y Z : SV), P.length = Q.length → (∀ r ∈ P, r.length = w) → (∀ r ∈ Q, r.length = w) → w ≤ 60 → fs.length + 60 * P.length ≤ 5000 →
    ∃ X' Y' Z', forGo (pTup 2 (pCons (pName 3) (pCons (pTup 2 (pCons (pName 4) (pCons (pName 5) pNil))) pNil))) s_least_strokes_1_b (numD k (zipD (P.map rowD) (Q.map rowD))) [A, B, .l fs, X, Y, Z, .un, .un] M = .nx [A, B, .l (fs ++ (strokes k P Q).map stD), X', Y', Z', .un, .un] M
  | [], [], k, fs, X, Y, Z, _, _, _, _, _ => ⟨X, Y, Z, by simp [zipD, numD, strokes]⟩
  | [], _ :: _, _, _, _, _, _, h, _, _, _, _ => by simp at h
  | _ :: _, [], _, _, _, _, _, h, _, _, _, _ => by simp at h
  | h :: P, t :: Q, k, fs, X, Y, Z, hl, hp, hq, hw, hf => by
    have h1 := hp h List.mem_cons_self
    have h2 := hq t List.mem_cons_self
    have rl := rowSt_len (k := k) (h := h) (t := t) (by omega) (by omega)
    rw [List.length_cons] at hf
    obtain ⟨X', Y', Z', e⟩ := ls_loop P Q (k + 1) (fs ++ (rowSt k h t).map stD) (.d (.int (k : Nat))) (.d (rowD h)) (.d (rowD t)) (by simpa using hl) (fun r m => hp r (List.mem_cons_of_mem _ m)) (fun r m => hq r (List.mem_cons_of_mem _ m)) hw (by simp; omega)
    refine ⟨X', Y', Z', ?_⟩
    have b := ls_body (M := M) (A := A) (B := B) (X := X) (Y := Y) (Z := Z) (fs := fs) (k := k) (h := h) (t := t) (by omega) (by omega) (by omega)
    rw [List.append_assoc] at e
    rw [show strokes k (h :: P) (t :: Q) = rowSt k h t ++ strokes (k + 1) P Q from rfl, List.map_append, ← e]
    rw [List.map_cons, List.map_cons, zipD, numD, e_for1]
    simp [b]
theorem e_least_strokes (p : Pc v P) (q : Pc w Q) : F_least_strokes [.d (picD P), .d (picD Q)] M = .ok (.tuple ((strokes 0 (fr Q.length w P) Q).map stD)) M := by
  obtain ⟨r0, R, e0, l0⟩ := head_row q
  have i0 : dIx (picD Q) (.int 0) = some (rowD r0) := by rw [e0]; simp
  have hi := q.hi
  have wi := q.wi
  have d1 : dLen [rowD r0] = some (.int w) := by rw [dLen_T (by omega), l0]
  have d2 : dLen [picD Q] = some (.int Q.length) := by simp
  have t0 : s_least_strokes_0 [.d (picD P), .d (picD Q), .un, .un, .un, .un, .un, .un] M = .nx [.d (picD P), .d (picD Q), .l [], .un, .un, .un, .un, .un] M := by simp [s_least_strokes_0]
  obtain ⟨X, Y, Z, e⟩ := ls_loop (M := M) (A := .d (picD P)) (B := .d (picD Q)) (fr Q.length w P) Q 0 [] .un .un .un (by rw [fr_len]) (fun r m => (fr_row p r m).1) (fun r m => (q.row r m).1) wi (by rw [fr_len]; simp; omega)
  have f := e_framed (M := M) (h := Q.length) (w := w) p (by omega) wi
  have t1 : s_least_strokes_1 [.d (picD P), .d (picD Q), .l [], .un, .un, .un, .un, .un] M = .nx [.d (picD P), .d (picD Q), .l ((strokes 0 (fr Q.length w P) Q).map stD), X, Y, Z, .un, .un] M := by
    simp [s_least_strokes_1, -dLen_tup, -dIx_tup, d1, d2, i0, f]
    exact e
  have z : bodyF 2 8 (sSeq s_least_strokes_0 (sSeq s_least_strokes_1 (sRet (fCall dTuple (fCons (vV 2) fNil))))) [.d (picD P), .d (picD Q)] M = .ok (.tuple ((strokes 0 (fr Q.length w P) Q).map stD)) M := by
    rw [e_bodyF, if_pos (by rfl)]
    show (sSeq _ _ [.d (picD P), .d (picD Q), .un, .un, .un, .un, .un, .un] M).rs = _
    rw [e_sSeq, t0, seq_nx, e_sSeq, t1, seq_nx]
    simp
  rw [← q_least_strokes] at z
  exact z
end
end K

set_option Elab.async false
set_option linter.all false
set_option maxRecDepth 100000
set_option maxHeartbeats 1000000
namespace K
open PySem RL K98
def rows2 : List (List Nat) → List (List Nat) → Nat
  | h :: P, t :: Q => wgt (chg 0 h t) + rows2 P Q
  | _, _ => 0
section
variable {M : List Int} {a b : List Nat} {w v : Nat} {P Q : List (List Nat)} {A B X Y Z : SV}
/-! ### least_cost -/
theorem lcs_body {tot l c : Nat} (h : l ≤ c) : s_least_cost_1_b_1_b [A, B, .d (.int (tot : Nat)), X, Y, .d (.int (l : Nat)), .d (.int (c : Nat)), .un, .un, .un] M = .nx [A, B, .d (.int (tot + min 5 (c - l) : Nat)), X, Y, .d (.int (c : Nat)), .d (.int (c : Nat)), .un, .un, .un] M := by
  have e : (tot : Int) + min (5 : Int) ((c : Int) - l) = ((tot + min 5 (c - l) : Nat) : Int) := by omega
  have i1 : dIs false (.int (l : Nat)) .none = some (.bool false) := by rw [dIs_none]; rfl
  simp [s_least_cost_1_b_1_b, s_least_cost_1_b_1_b_0, s_least_cost_1_b_1_b_1, i1, c_LIFT]
  omega
theorem lcs_body0 {tot c : Nat} {Z : SV} : s_least_cost_1_b_1_b [A, B, .d (.int (tot : Nat)), X, Y, .d .none, .d (.int (c : Nat)), .un, .un, .un] M = .nx [A, B, .d (.int (tot + 5 : Nat)), X, Y, .d (.int (c : Nat)), .d (.int (c : Nat)), .un, .un, .un] M := by
  have i1 : dIs false .none .none = some (.bool true) := by rw [dIs_none]; rfl
  simp [s_least_cost_1_b_1_b, s_least_cost_1_b_1_b_0, s_least_cost_1_b_1_b_1, i1, c_LIFT]
theorem lcs_loop : ∀ (cs : List Nat) (l tot : Nat) (Z : SV), (∀ c ∈ cs, l ≤ c) → Up cs → ∃ L' Z', forGo (pName 6) s_least_cost_1_b_1_b (intsN cs) [A, B, .d (.int (tot : Nat)), X, Y, .d (.int (l : Nat)), Z, .un, .un, .un] M = .nx [A, B, .d (.int (tot + wt l cs : Nat)), X, Y, L', Z', .un, .un, .un] M
  | [], l, tot, Z, _, _ => ⟨_, Z, rfl⟩
  | c :: cs, l, tot, Z, h, up => by
    obtain ⟨L', Z', e⟩ := lcs_loop cs c (tot + min 5 (c - l)) (.d (.int (c : Nat))) (fun d m => Nat.le_of_lt (up.1 d m)) up.2
    refine ⟨L', Z', ?_⟩
    rw [show wt l (c :: cs) = min 5 (c - l) + wt c cs from rfl, ← Nat.add_assoc, ← e, intsN, List.map_cons, e_for1]
    have b := lcs_body (M := M) (A := A) (B := B) (X := X) (Y := Y) (tot := tot) (h c List.mem_cons_self)
    simp only [e_pName]
    rw [show (([A, B, .d (.int (tot : Nat)), X, Y, .d (.int (l : Nat)), Z, .un, .un, .un] : Rho).set 6 (.d (.int (c : Nat)))) = [A, B, .d (.int (tot : Nat)), X, Y, .d (.int (l : Nat)), .d (.int (c : Nat)), .un, .un, .un] from rfl, b, turn_nx]
theorem lcs_loop0 (cs : List Nat) (tot : Nat) (Z : SV) (up : Up cs) : ∃ L' Z', forGo (pName 6) s_least_cost_1_b_1_b (intsN cs) [A, B, .d (.int (tot : Nat)), X, Y, .d .none, Z, .un, .un, .un] M = .nx [A, B, .d (.int (tot + wgt cs : Nat)), X, Y, L', Z', .un, .un, .un] M := by
  cases cs with
  | nil => exact ⟨_, Z, rfl⟩
  | cons c cs =>
    obtain ⟨L', Z', e⟩ := lcs_loop (M := M) (A := A) (B := B) (X := X) (Y := Y) cs c (tot + 5) (.d (.int (c : Nat))) (fun d m => Nat.le_of_lt (up.1 d m)) up.2
    refine ⟨L', Z', ?_⟩
    rw [show wgt (c :: cs) = 5 + wt c cs from rfl, ← Nat.add_assoc, ← e, intsN, List.map_cons, e_for1]
    have b := lcs_body0 (M := M) (A := A) (B := B) (X := X) (Y := Y) (tot := tot) (c := c) (Z := Z)
    simp only [e_pName]
    rw [show (([A, B, .d (.int (tot : Nat)), X, Y, .d .none, Z, .un, .un, .un] : Rho).set 6 (.d (.int (c : Nat)))) = [A, B, .d (.int (tot : Nat)), X, Y, .d .none, .d (.int (c : Nat)), .un, .un, .un] from rfl, b, turn_nx]
theorem lcr_body {tot : Nat} {h t : List Nat} (hl : h.length = t.length) (hb : t.length ≤ 60) : ∃ L' Z', s_least_cost_1_b [A, B, .d (.int (tot : Nat)), .d (rowD h), .d (rowD t), Y, Z, .un, .un, .un] M = .nx [A, B, .d (.int (tot + wgt (chg 0 h t) : Nat)), .d (rowD h), .d (rowD t), L', Z', .un, .un, .un] M := by
  obtain ⟨L', Z', e⟩ := lcs_loop0 (M := M) (A := A) (B := B) (X := .d (rowD h)) (Y := .d (rowD t)) (chg 0 h t) tot Z chg_up
  refine ⟨L', Z', ?_⟩
  have t0 : s_least_cost_1_b_0 [A, B, .d (.int (tot : Nat)), .d (rowD h), .d (rowD t), Y, Z, .un, .un, .un] M = .nx [A, B, .d (.int (tot : Nat)), .d (rowD h), .d (rowD t), .d .none, Z, .un, .un, .un] M := by simp [s_least_cost_1_b_0]
  unfold s_least_cost_1_b
  rw [e_sSeq, t0, seq_nx, ← e]
  generalize hρ : ([A, B, .d (.int (tot : Nat)), .d (rowD h), .d (rowD t), .d .none, Z, .un, .un, .un] : Rho) = ρ
  have g3 : ρ[3]? = some (.d (rowD h)) := by rw [← hρ]; rfl
  have g4 : ρ[4]? = some (.d (rowD t)) := by rw [← hρ]; rfl
  have wz : wipeR ρ [7, 8, 9] = ρ := by rw [← hρ]; rfl
  have l := lc_chg (ρ := ρ) (i1 := 7) (i2 := 8) (i3 := 9) hl (by rw [← hρ]; simp) M
  simp only [s_least_cost_1_b_1, e_sFor, e_fItems, e_fz, e_fLc, e_fEnumZip, e_fCons, e_fNil, e_vV, g3, g4, bnd_ok, items_T, Option.bind_some, Option.map_some, of_some]
  rw [enum_zip hl, lcRun_le (by simp; omega), wz, l]
  simp only [bnd_ok, items_lst, of_some, out_ok]
theorem lcr_loop : ∀ (P Q : List (List Nat)) (tot : Nat) (X Y Z V : SV), P.length = Q.length → (∀ r ∈ P, r.length = w) → (∀ r ∈ Q, r.length = w) → w ≤ 60 →
    ∃ X' Y' Z' V', forGo (pTup 2 (pCons (pName 3) (pCons (pName 4) pNil))) s_least_cost_1_b (zipD (P.map rowD) (Q.map rowD)) [A, B, .d (.int (tot : Nat)), X, Y, Z, V, .un, .un, .un] M = .nx [A, B, .d (.int (tot + rows2 P Q : Nat)), X', Y', Z', V', .un, .un, .un] M
  | [], [], tot, X, Y, Z, V, _, _, _, _ => ⟨X, Y, Z, V, rfl⟩
  | [], _ :: _, _, _, _, _, _, h, _, _, _ => by simp at h
  | _ :: _, [], _, _, _, _, _, h, _, _, _ => by simp at h
  | h :: P, t :: Q, tot, X, Y, Z, V, hl, hp, hq, hw => by
    have h1 := hp h List.mem_cons_self
    have h2 := hq t List.mem_cons_self
    obtain ⟨L', Z', b⟩ := lcr_body (M := M) (A := A) (B := B) (Y := Z) (Z := V) (tot := tot) (h := h) (t := t) (by omega) (by omega)
    obtain ⟨X2, Y2, Z2, V2, e⟩ := lcr_loop P Q (tot + wgt (chg 0 h t)) (.d (rowD h)) (.d (rowD t)) L' Z' (by simpa using hl) (fun r m => hp r (List.mem_cons_of_mem _ m)) (fun r m => hq r (List.mem_cons_of_mem _ m)) hw
    refine ⟨X2, Y2, Z2, V2, ?_⟩
    rw [show rows2 (h :: P) (t :: Q) = wgt (chg 0 h t) + rows2 P Q from rfl, ← Nat.add_assoc, ← e, List.map_cons, List.map_cons, zipD, e_for1]
    have pt : pTup 2 (pCons (pName 3) (pCons (pName 4) pNil)) (.tuple [rowD h, rowD t]) [A, B, .d (.int (tot : Nat)), X, Y, Z, V, .un, .un, .un] = some [A, B, .d (.int (tot : Nat)), .d (rowD h), .d (rowD t), Z, V, .un, .un, .un] := rfl
    rw [pt]
    dsimp only
    rw [b, turn_nx]
theorem e_least_cost (p : Pc v P) (q : Pc w Q) : F_least_cost [.d (picD P), .d (picD Q)] M = .ok (.int (rows2 (fr Q.length w P) Q : Nat)) M := by
  obtain ⟨r0, R, e0, l0⟩ := head_row q
  have i0 : dIx (picD Q) (.int 0) = some (rowD r0) := by rw [e0]; simp
  have hi := q.hi
  have wi := q.wi
  have d1 : dLen [rowD r0] = some (.int w) := by rw [dLen_T (by omega), l0]
  have d2 : dLen [picD Q] = some (.int Q.length) := by simp
  have t0 : s_least_cost_0 [.d (picD P), .d (picD Q), .un, .un, .un, .un, .un, .un, .un, .un] M = .nx [.d (picD P), .d (picD Q), .d (.int (0 : Nat)), .un, .un, .un, .un, .un, .un, .un] M := by simp [s_least_cost_0]
  obtain ⟨X, Y, Z, V, e⟩ := lcr_loop (M := M) (A := .d (picD P)) (B := .d (picD Q)) (fr Q.length w P) Q 0 .un .un .un .un (by rw [fr_len]) (fun r m => (fr_row p r m).1) (fun r m => (q.row r m).1) wi
  rw [Nat.zero_add] at e
  have f := e_framed (M := M) (h := Q.length) (w := w) p (by omega) wi
  have t1 : s_least_cost_1 [.d (picD P), .d (picD Q), .d (.int (0 : Nat)), .un, .un, .un, .un, .un, .un, .un] M = .nx [.d (picD P), .d (picD Q), .d (.int (rows2 (fr Q.length w P) Q : Nat)), X, Y, Z, V, .un, .un, .un] M := by
    rw [← e]
    simp [s_least_cost_1, -dLen_tup, -dIx_tup, d1, d2, i0, f]
  have z : bodyF 2 10 (sSeq s_least_cost_0 (sSeq s_least_cost_1 (sRet (vE 2)))) [.d (picD P), .d (picD Q)] M = .ok (.int (rows2 (fr Q.length w P) Q : Nat)) M := by
    rw [e_bodyF, if_pos (by rfl)]
    show (sSeq _ _ [.d (picD P), .d (picD Q), .un, .un, .un, .un, .un, .un, .un, .un] M).rs = _
    rw [e_sSeq, t0, seq_nx, e_sSeq, t1, seq_nx]
    simp
  rw [← q_least_cost] at z
  exact z
/-! ### the law's own cost of a row -/
theorem leastI_eq {ns : List Int} {m : Int} (h : m ∈ ns) (h2 : ∀ n ∈ ns, m ≤ n) : leastI ns = m := by
  obtain ⟨a, b⟩ := leastI_mem (ns := ns) (List.length_pos_of_mem h)
  have := b m h
  have := h2 _ a
  omega
theorem dMin_ints {ns : List Int} (h : ns ≠ []) : dMin [.list (ns.map .int)] = some (.int (leastI ns)) := by
  show (intsD _).bind _ = _
  rw [intsD_map]
  show (if _ then _ else _) = _
  rw [if_neg (by intro e; exact h (List.eq_nil_of_length_eq_zero e))]
abbrev bestL (cs : List Nat) (k : Nat) : List D := (List.range (k + 1)).map fun j => .int (wgt (cs.take j) : Nat)
theorem rc_body {cs : List Nat} (up : Up cs) {k : Nat} (hk : k < cs.length) (hl : cs.length ≤ 60) : s__law_row_cost_2_b [A, B, .d (.list (intsN cs)), .l (bestL cs k), .d (.int (k : Nat)), X, .un] M =
    .nx [A, B, .d (.list (intsN cs)), .l (bestL cs (k + 1)), .d (.int (k : Nat)), .d (.list ((List.range (k + 1)).map fun f => .int ((wgt (cs.take f) : Nat) + 4 + (cs.getD k 0 : Nat) - (cs.getD f 0 : Nat) + 1))), .un] M := by
  have gk : (intsN cs)[k]? = some (.int (cs.getD k 0 : Nat)) := by
    rw [List.getElem?_map, List.getElem?_eq_getElem hk, List.getD_eq_getElem?_getD, List.getElem?_eq_getElem hk]; rfl
  have ik : L2.atI (intsN cs) (k : Int) = some (.int (cs.getD k 0 : Nat)) := by rw [atI_n (by simp; omega)]; exact gk
  have t0 : s__law_row_cost_2_b_0 [A, B, .d (.list (intsN cs)), .l (bestL cs k), .d (.int (k : Nat)), X, .un] M =
      .nx [A, B, .d (.list (intsN cs)), .l (bestL cs k), .d (.int (k : Nat)), .d (.list ((List.range (k + 1)).map fun f => .int ((wgt (cs.take f) : Nat) + 4 + (cs.getD k 0 : Nat) - (cs.getD f 0 : Nat) + 1))), .un] M := by
    have l := lc_all (g := pName 6) (fe := (fOp dAdd (fOp dSub (fOp dAdd (fOp dAdd (fOp dIx (vV 3) (vV 6)) (fun _ M => .ok (.int 4) M)) (fOp dIx (vV 2) (vV 4))) (fOp dIx (vV 2) (vV 6))) (fun _ M => .ok (.int 1) M))) (ρ := [A, B, .d (.list (intsN cs)), .l (bestL cs k), .d (.int (k : Nat)), X, .un]) (fun f : Nat => PyData.int (f : Nat)) (fun f => .int ((wgt (cs.take f) : Nat) + 4 + (cs.getD k 0 : Nat) - (cs.getD f 0 : Nat) + 1)) (List.range (k + 1)) (fun f m => by
      have hf : f < k + 1 := List.mem_range.mp m
      have i1 : L2.atI (intsN cs) (f : Int) = some (.int (cs.getD f 0 : Nat)) := by
        rw [atI_n (by simp; omega), List.getElem?_map, List.getElem?_eq_getElem (show f < cs.length from by omega), List.getD_eq_getElem?_getD, List.getElem?_eq_getElem (show f < cs.length from by omega)]; rfl
      have i2 : L2.atI (bestL cs k) (f : Int) = some (.int (wgt (cs.take f) : Nat)) := by
        rw [atI_n (by simp; omega), List.getElem?_map, List.getElem?_range hf]; rfl
      refine ⟨_, rfl, fun M => ?_⟩
      simp [i1, i2, ik, -List.getD_eq_getElem?_getD]) M
    have hr : rng1 [.int ((k : Int) + 1)] M = .ok ((List.range (k + 1)).map fun f : Nat => PyData.int (f : Nat)) M := by
      rw [rng1_int (by omega) (by omega), rgItems_map, show ((k : Int) + 1).toNat = k + 1 from by omega]
    simp only [s__law_row_cost_2_b_0, e_sSet, e_fz, e_fLc, e_fRng1, e_fCons, e_fOp, e_fNil, e_vV]
    simp [hr, lcRun_le (xs := (List.range (k + 1)).map fun f : Nat => PyData.int (f : Nat)) (by simp; omega), l, -List.getD_eq_getElem?_getD]
  have mn : dMin [.list ((List.range (k + 1)).map fun f => PyData.int ((wgt (cs.take f) : Nat) + 4 + (cs.getD k 0 : Nat) - (cs.getD f 0 : Nat) + 1))] = some (.int (wgt (cs.take (k + 1)) : Nat)) := by
    have : ((List.range (k + 1)).map fun f => PyData.int ((wgt (cs.take f) : Nat) + 4 + (cs.getD k 0 : Nat) - (cs.getD f 0 : Nat) + 1)) = ((List.range (k + 1)).map fun f : Nat => ((wgt (cs.take f) : Nat) + 4 + (cs.getD k 0 : Nat) - (cs.getD f 0 : Nat) + 1 : Int)).map .int := by rw [List.map_map]; rfl
    have gd : ∀ f (h : f < cs.length), cs.getD f 0 = cs[f] := fun f h => by rw [List.getD_eq_getElem?_getD, List.getElem?_eq_getElem h]; rfl
    rw [this, dMin_ints (by simp)]
    congr 2
    refine leastI_eq ?_ fun n m => ?_
    · obtain ⟨f, hf, e⟩ := dp_at up hk
      refine List.mem_map.mpr ⟨f, List.mem_range.mpr (by omega), ?_⟩
      rw [gd k hk, gd f (by omega)]
      omega
    · obtain ⟨f, hf, rfl⟩ := List.mem_map.mp m
      have hf := List.mem_range.mp hf
      have := dp_le up hk f (by omega) (by omega)
      rw [gd k hk, gd f (by omega)]
      omega
  have bs : bestL cs (k + 1) = bestL cs k ++ [.int (wgt (cs.take (k + 1)) : Nat)] := by
    unfold bestL
    rw [List.range_succ (n := k + 1), List.map_append]; rfl
  unfold s__law_row_cost_2_b
  rw [e_sSeq, t0, seq_nx, bs]
  generalize hG : (List.range (k + 1)).map (fun f => PyData.int ((wgt (cs.take f) : Nat) + 4 + (cs.getD k 0 : Nat) - (cs.getD f 0 : Nat) + 1)) = G at mn
  simp [s__law_row_cost_2_b_1, mn]
  omega
theorem rc_loop {cs : List Nat} (up : Up cs) (hl : cs.length ≤ 60) : ∀ (n k : Nat) (X Y : SV), k + n = cs.length → ∃ X' Y', forGo (pName 4) s__law_row_cost_2_b ((List.range' k n).map fun j => PyData.int (j : Nat)) [A, B, .d (.list (intsN cs)), .l (bestL cs k), X, Y, .un] M = .nx [A, B, .d (.list (intsN cs)), .l (bestL cs cs.length), X', Y', .un] M
  | 0, k, X, Y, h => by
    obtain rfl : k = cs.length := by omega
    exact ⟨X, Y, rfl⟩
  | n + 1, k, X, Y, h => by
    have b := rc_body (M := M) (A := A) (B := B) (X := Y) up (k := k) (by omega) hl
    obtain ⟨X', Y', e⟩ := rc_loop up hl n (k + 1) (.d (.int (k : Nat))) (.d (.list ((List.range (k + 1)).map fun f => .int ((wgt (cs.take f) : Nat) + 4 + (cs.getD k 0 : Nat) - (cs.getD f 0 : Nat) + 1)))) (by omega)
    refine ⟨X', Y', ?_⟩
    rw [List.range'_succ, List.map_cons, e_for1, ← e]
    simp only [e_pName]
    rw [show (([A, B, .d (.list (intsN cs)), .l (bestL cs k), X, Y, .un] : Rho).set 4 (.d (.int (k : Nat)))) = [A, B, .d (.list (intsN cs)), .l (bestL cs k), .d (.int (k : Nat)), Y, .un] from rfl, b, turn_nx]
theorem e_row_cost (hl : a.length = b.length) (hb : b.length ≤ 60) : F__law_row_cost [.d (rowD a), .d (rowD b)] M = .ok (.int (wgt (chg 0 a b) : Nat)) M := by
  have cl : (chg 0 a b).length ≤ 60 := by have := chg_len (i := 0) (a := a) (b := b); omega
  have up : Up (chg 0 a b) := chg_up
  have t0 : s__law_row_cost_0 [.d (rowD a), .d (rowD b), .un, .un, .un, .un, .un] M = .nx [.d (rowD a), .d (rowD b), .d (.list (intsN (chg 0 a b))), .un, .un, .un, .un] M := by simp [s__law_row_cost_0, e_changes hl hb]
  generalize chg 0 a b = cs at cl up t0
  have t1 : s__law_row_cost_1 [.d (rowD a), .d (rowD b), .d (.list (intsN cs)), .un, .un, .un, .un] M = .nx [.d (rowD a), .d (rowD b), .d (.list (intsN cs)), .l (bestL cs 0), .un, .un, .un] M := by
    simp [s__law_row_cost_1, bestL, wgt]
  obtain ⟨X, Y, e⟩ := rc_loop (M := M) (A := .d (rowD a)) (B := .d (rowD b)) up cl cs.length 0 .un .un (by omega)
  have t2 : s__law_row_cost_2 [.d (rowD a), .d (rowD b), .d (.list (intsN cs)), .l (bestL cs 0), .un, .un, .un] M = .nx [.d (rowD a), .d (rowD b), .d (.list (intsN cs)), .l (bestL cs cs.length), X, Y, .un] M := by
    rw [← e, ← List.range_eq_range']
    have hr : rng1 [.int (cs.length : Int)] M = .ok ((List.range cs.length).map fun f : Nat => PyData.int (f : Nat)) M := by
      rw [rng1_int (by omega) (by omega), rgItems_map, Int.toNat_natCast]
    have dl : dLen [.list (intsN cs)] = some (.int cs.length) := by simp
    simp only [s__law_row_cost_2, e_sFor, e_fRng1, e_fCons, e_fCall, e_fNil, e_vV]
    simp [-dLen_lst, dl, hr]
  have z : bodyF 2 7 (sSeq s__law_row_cost_0 (sSeq s__law_row_cost_1 (sSeq s__law_row_cost_2 (sRet (fOp dIx (vV 3) (fNeg (fun _ M => .ok (.int 1) M))))))) [.d (rowD a), .d (rowD b)] M = .ok (.int (wgt cs : Nat)) M := by
    rw [e_bodyF, if_pos (by rfl)]
    show (sSeq _ _ [.d (rowD a), .d (rowD b), .un, .un, .un, .un, .un] M).rs = _
    rw [e_sSeq, t0, seq_nx, e_sSeq, t1, seq_nx, e_sSeq, t2, seq_nx]
    have bs : bestL cs cs.length = ((List.range cs.length).map fun j => PyData.int (wgt (cs.take j) : Nat)) ++ [.int (wgt cs : Nat)] := by
      unfold bestL
      rw [List.range_succ, List.map_append]
      simp
    rw [bs]
    simp [atI_last]
  rw [← q__law_row_cost] at z
  exact z
end
end K

set_option Elab.async false
set_option linter.all false
set_option maxRecDepth 100000
set_option maxHeartbeats 1000000
namespace K
open PySem RL K98
abbrev pairD (p : List Nat × List Nat) : D := .tuple [rowD p.1, rowD p.2]
theorem zipD_rows : ∀ (P Q : List (List Nat)), zipD (P.map rowD) (Q.map rowD) = (P.zip Q).map pairD
  | [], _ => by simp [zipD]
  | _ :: _, [] => by simp [zipD]
  | h :: P, t :: Q => by
    have ih := zipD_rows P Q
    simp [zipD, ih]
theorem rows2_sum : ∀ (P Q : List (List Nat)), rows2 P Q = ((P.zip Q).map fun p => wgt (chg 0 p.1 p.2)).sum
  | [], _ => by simp [rows2]
  | _ :: _, [] => by simp [rows2]
  | h :: P, t :: Q => by simp [rows2, rows2_sum P Q]
theorem mem_zip {P Q : List (List Nat)} {p : List Nat × List Nat} (h : p ∈ P.zip Q) : p.1 ∈ P ∧ p.2 ∈ Q := by
  obtain ⟨a, b⟩ := p
  exact ⟨(List.of_mem_zip h).1, (List.of_mem_zip h).2⟩
/-! ### what strokes do -/
def put (rows : List (List Nat)) (s : Sk) : List (List Nat) := rows.set s.1 (patch (rows.getD s.1 []) s.2.1 s.2.2)
theorem put_at {dn : List (List Nat)} {h : List Nat} {P : List (List Nat)} {f : Nat} {s : List Nat} : put (dn ++ h :: P) (dn.length, f, s) = dn ++ patch h f s :: P := by
  unfold put
  simp
theorem put_row {dn P : List (List Nat)} {t : List Nat} : ∀ (rs : List (Nat × Nat)) (h : List Nat), (rs.map fun r => (dn.length, r.1, cut t r)).foldl put (dn ++ h :: P) = dn ++ (rs.foldl (fun h r => patch h r.1 (cut t r)) h) :: P
  | [], h => rfl
  | r :: rs, h => by
    rw [List.map_cons, List.foldl_cons, List.foldl_cons, put_at, put_row rs]
theorem put_all : ∀ (P Q dn : List (List Nat)), P.length = Q.length → (∀ p ∈ P.zip Q, p.1.length = p.2.length) → (strokes dn.length P Q).foldl put (dn ++ P) = dn ++ Q
  | [], [], dn, _, _ => rfl
  | [], _ :: _, _, h, _ => by simp at h
  | _ :: _, [], _, h, _ => by simp at h
  | h :: P, t :: Q, dn, hl, he => by
    have e1 : h.length = t.length := he (h, t) (by simp)
    rw [show strokes dn.length (h :: P) (t :: Q) = rowSt dn.length h t ++ strokes (dn.length + 1) P Q from rfl, List.foldl_append]
    unfold rowSt
    rw [put_row, row_done e1]
    have ih := put_all P Q (dn ++ [t]) (by simpa using hl) (fun p m => he p (by simp [m]))
    simp only [List.length_append, List.length_singleton, List.append_assoc, List.singleton_append] at ih
    exact ih
theorem spent_app {a b : List Sk} : spent (a ++ b) = spent a + spent b := by simp [spent]
theorem spent_strokes : ∀ (P Q : List (List Nat)) (k : Nat), (∀ p ∈ P.zip Q, p.1.length = p.2.length) → spent (strokes k P Q) = rows2 P Q
  | [], _, _, _ => by simp [strokes, rows2, spent]
  | _ :: _, [], _, _ => by simp [strokes, rows2, spent]
  | h :: P, t :: Q, k, he => by
    have e1 : h.length = t.length := he (h, t) (by simp)
    rw [show strokes k (h :: P) (t :: Q) = rowSt k h t ++ strokes (k + 1) P Q from rfl, spent_app, spent_strokes P Q (k + 1) fun p m => he p (by simp [m])]
    show _ = wgt (chg 0 h t) + rows2 P Q
    congr 1
    rw [← cost_runs chg_up]
    unfold spent rowSt cost
    rw [List.map_map]
    congr 1
    refine List.map_congr_left fun r m => ?_
    obtain ⟨r1, r2⟩ := runs_ok e1 r m
    show 4 + (cut t r).length = _
    rw [cut_len r1 r2]
theorem strokes_bd : ∀ (P Q : List (List Nat)) (k w : Nat), (∀ r ∈ P, r.length = w) → (∀ r ∈ Q, r.length = w ∧ ∀ c ∈ r, c < 1114112) → w ≤ 60 → k + Q.length ≤ 100 → ∀ s ∈ strokes k P Q, Bd s ∧ s.2.2 ≠ [] ∧ k ≤ s.1 ∧ s.1 < k + Q.length ∧ s.2.1 + s.2.2.length ≤ w
  | [], _, _, _, _, _, _, _, _, m => by simp [strokes] at m
  | _ :: _, [], _, _, _, _, _, _, _, m => by simp [strokes] at m
  | h :: P, t :: Q, k, w, hp, hq, hw, hk, s, m => by
    rw [List.length_cons] at hk
    have e1 := hp h List.mem_cons_self
    have e2 := hq t List.mem_cons_self
    rcases List.mem_append.mp m with m | m
    · obtain ⟨r, hr, rfl⟩ := List.mem_map.mp m
      obtain ⟨r1, r2⟩ := runs_ok (by omega) r hr
      have cl := cut_len r1 r2
      refine ⟨⟨?_, ?_, ?_, fun c hc => e2.2 c (List.mem_of_mem_drop (List.mem_of_mem_take hc))⟩, fun e => ?_, ?_, ?_, ?_⟩
      · dsimp only; omega
      · dsimp only; omega
      · dsimp only; omega
      · dsimp only at e; rw [e] at cl; simp at cl; omega
      · dsimp only; omega
      · dsimp only; rw [List.length_cons]; omega
      · dsimp only; omega
    · obtain ⟨b1, b2, b3, b4, b5⟩ := strokes_bd P Q (k + 1) w (fun r m => hp r (List.mem_cons_of_mem _ m)) (fun r m => hq r (List.mem_cons_of_mem _ m)) hw (by omega) s m
      exact ⟨b1, b2, by omega, by rw [List.length_cons]; omega, b5⟩
theorem strokes_len : ∀ (P Q : List (List Nat)) (k w : Nat), (∀ r ∈ P, r.length = w) → (∀ r ∈ Q, r.length = w) → w ≤ 60 → (strokes k P Q).length ≤ 60 * Q.length
  | [], _, _, _, _, _, _ => by simp [strokes]
  | _ :: _, [], _, _, _, _, _ => by simp [strokes]
  | h :: P, t :: Q, k, w, hp, hq, hw => by
    have e1 := hp h List.mem_cons_self
    have e2 := hq t List.mem_cons_self
    have := rowSt_len (k := k) (h := h) (t := t) (by omega) (by omega)
    have := strokes_len P Q (k + 1) w (fun r m => hp r (List.mem_cons_of_mem _ m)) (fun r m => hq r (List.mem_cons_of_mem _ m)) hw
    rw [show strokes k (h :: P) (t :: Q) = rowSt k h t ++ strokes (k + 1) P Q from rfl, List.length_append, List.length_cons]
    omega
section
variable {M : List Int} {a b : List Nat} {w v h : Nat} {P Q : List (List Nat)} {A B X Y Z : SV} {l : List Sk}
theorem zip_len (p : Pc v P) (q : Pc w Q) : ∀ z ∈ (fr Q.length w P).zip Q, z.1.length = z.2.length := fun z m => by
  rw [(fr_row p z.1 (mem_zip m).1).1, (q.row z.2 (mem_zip m).2).1]
/-- the least strokes from P to Q -/
abbrev stk (P Q : List (List Nat)) (w : Nat) : List Sk := strokes 0 (fr Q.length w P) Q
theorem stk_bd (p : Pc v P) (q : Pc w Q) : ∀ s ∈ stk P Q w, Bd s ∧ s.2.2 ≠ [] ∧ s.1 < Q.length ∧ s.2.1 + s.2.2.length ≤ w := fun s m => by
  have hi := q.hi
  obtain ⟨b1, b2, _, b4, b5⟩ := strokes_bd (fr Q.length w P) Q 0 w (fun r m => (fr_row p r m).1) q.row q.wi (by omega) s m
  exact ⟨b1, b2, by omega, b5⟩
theorem stk_len (p : Pc v P) (q : Pc w Q) : (stk P Q w).length ≤ 2000 := by
  show (strokes 0 (fr Q.length w P) Q).length ≤ 2000
  have hi := q.hi
  have := strokes_len (fr Q.length w P) Q 0 w (fun r m => (fr_row p r m).1) (fun r m => (q.row r m).1) q.wi
  omega
abbrev cst (P Q : List (List Nat)) (w : Nat) : Nat := rows2 (fr Q.length w P) Q
theorem stk_spent (p : Pc v P) (q : Pc w Q) : spent (stk P Q w) = cst P Q w := spent_strokes _ _ 0 (zip_len p q)
theorem stk_draws (p : Pc v P) (q : Pc w Q) : (stk P Q w).foldl put (fr Q.length w P) = Q := by
  have := put_all (fr Q.length w P) Q [] (by rw [fr_len]) (zip_len p q)
  simpa using this
theorem head0 (q : Pc w Q) : ∃ r0, dIx (picD Q) (.int 0) = some (rowD r0) ∧ dLen [rowD r0] = some (.int w) ∧ r0.length = w ∧ r0 ∈ Q ∧ Q.head? = some r0 := by
  obtain ⟨r0, R, e0, l0⟩ := head_row q
  have wi := q.wi
  exact ⟨r0, by rw [e0]; simp, by rw [dLen_T (by omega), l0], l0, by rw [e0]; exact List.mem_cons_self, by rw [e0]; rfl⟩
theorem e_law_cost (p : Pc v P) (q : Pc w Q) : F__law_cost [.d (picD P), .d (picD Q)] M = .ok (.int (cst P Q w : Nat)) M := by
  obtain ⟨r0, i0, d1, _⟩ := head0 q
  have hi := q.hi
  have wi := q.wi
  have d2 : dLen [picD Q] = some (.int Q.length) := by simp
  have f := e_lframed (M := M) (h := Q.length) (w := w) p (by omega) wi
  have lc := lc_all (g := pTup 2 (pCons (pName 2) (pCons (pName 3) pNil))) (fe := fFn F__law_row_cost (agCons (vE 2) (agCons (vE 3) agNil))) (ρ := [.d (picD P), .d (picD Q), .un, .un]) pairD (fun z => .int (wgt (chg 0 z.1 z.2) : Nat)) ((fr Q.length w P).zip Q) (fun z m => ⟨_, rfl, fun M => by
    have := zip_len p q z m
    have h2 := (q.row z.2 (mem_zip m).2).1
    simp [e_row_cost (M := M) (a := z.1) (b := z.2) this (by omega)]⟩) M
  have sm := dSum_nat ((fr Q.length w P).zip Q) fun z => wgt (chg 0 z.1 z.2)
  unfold F__law_cost
  rw [e_bodyF, if_pos (by rfl)]
  unfold f__law_cost
  have ll : ((fr Q.length w P).zip Q).length ≤ 20 := by rw [List.length_zip]; omega
  simp [-dLen_tup, -dIx_tup, d1, d2, i0, f, zipD_rows, lcRun_le (xs := ((fr Q.length w P).zip Q).map pairD) (by rw [List.length_map]; omega), lc, sm, rows2_sum, cst]
theorem e_anew (p : Pc v P) (q : Pc w Q) : F_anew [.d (picD P), .d (picD Q)] M = .ok (.tuple [.int (cst P Q w : Nat), .tuple ((stk P Q w).map stD)]) M := by
  have c := e_cost_of (M := M) (l := stk P Q w) (fun s m => (stk_bd p q s m).1) (by have := stk_len p q; omega)
  rw [stk_spent p q] at c
  have z : bodyF 2 3 (sSeq s_anew_0 (sSeq s_anew_1 s_anew_2)) [.d (picD P), .d (picD Q)] M = .ok (.tuple [.int (cst P Q w : Nat), .tuple ((stk P Q w).map stD)]) M := by
    simp [s_anew_0, s_anew_1, s_anew_2, e_check2 p q, e_least_strokes p q, c]
  rw [← q_anew] at z
  exact z
/-! ### drawn over -/
theorem put_len {rows : List (List Nat)} {s : Sk} (hr : ∀ r ∈ rows, r.length = w) (h1 : s.1 < rows.length) (h2 : s.2.1 + s.2.2.length ≤ w) : (put rows s).length = rows.length ∧ ∀ r ∈ put rows s, r.length = w := by
  unfold put
  refine ⟨List.length_set, fun r m => ?_⟩
  rcases List.mem_or_eq_of_mem_set m with m | rfl
  · exact hr r m
  · have : rows.getD s.1 [] = rows[s.1] := by rw [List.getD_eq_getElem?_getD, List.getElem?_eq_getElem h1]; rfl
    rw [this, patch_len (by rw [hr _ (List.getElem_mem h1)]; exact h2)]
    exact hr _ (List.getElem_mem h1)
/-- the three slices -/
theorem e_patch {r s : List Nat} {k : Nat} (hr : r.length = w) (hw : w ≤ 100) (h : k + s.length ≤ w) : dSl (rowD r) none (some (k : Int)) = some (rowD (r.take k)) ∧ dAdd (rowD (r.take k)) (rowD s) = some (rowD (r.take k ++ s)) ∧ dLen [rowD s] = some (.int s.length) ∧
    dSl (rowD r) (some ((k : Int) + (s.length : Int))) none = some (rowD (r.drop (k + s.length))) ∧ dAdd (rowD (r.take k ++ s)) (rowD (r.drop (k + s.length))) = some (rowD (patch r k s)) := by
  refine ⟨sl_to (by omega), dAdd_T (by rw [List.length_take]; omega), dLen_T (by omega), ?_, ?_⟩
  · have := sl_from (l := r) (a := k + s.length) (by omega)
    rw [show ((k + s.length : Nat) : Int) = (k : Int) + (s.length : Int) from by omega] at this
    exact this
  · exact dAdd_T (by rw [List.length_append, List.length_take, List.length_drop]; omega)
theorem set_rows {rows : List (List Nat)} {k : Nat} {r : List Nat} : (rows.map rowD).set k (rowD r) = (rows.set k r).map rowD := by rw [List.map_set]
theorem at_rows {rows : List (List Nat)} {k : Nat} (h : k < rows.length) : L2.atI (rows.map rowD) (k : Int) = some (rowD (rows.getD k [])) := by
  rw [atI_n (by simpa using h), List.getElem?_map, List.getD_eq_getElem?_getD, List.getElem?_eq_getElem h]; rfl
theorem getD_mem {rows : List (List Nat)} {k : Nat} (h : k < rows.length) : rows.getD k [] ∈ rows := by
  rw [List.getD_eq_getElem?_getD, List.getElem?_eq_getElem h]; exact List.getElem_mem h
theorem do_body {rows : List (List Nat)} {s : Sk} (hr : ∀ r ∈ rows, r.length = w) (hw : w ≤ 100) (h1 : s.1 < rows.length) (h2 : s.2.1 + s.2.2.length ≤ w) :
    s_drawn_over_1_b [A, B, .l (rows.map rowD), .d (.int (s.1 : Nat)), .d (.int (s.2.1 : Nat)), .d (.str (T s.2.2))] M = .nx [A, B, .l ((put rows s).map rowD), .d (.int (s.1 : Nat)), .d (.int (s.2.1 : Nat)), .d (.str (T s.2.2))] M := by
  obtain ⟨a1, a2, a3, a4, a5⟩ := e_patch (hr _ (getD_mem h1)) hw h2
  have ix := at_rows h1
  have ixn : L2.ixN (rows.map rowD).length (s.1 : Int) = some s.1 := ixN_nat (by simpa using h1)
  have e : (rows.map rowD).set s.1 (rowD (patch (rows.getD s.1 []) s.2.1 s.2.2)) = (put rows s).map rowD := set_rows
  simp only [s_drawn_over_1_b, e_sPut, e_fOp, e_fSl, e_vV, e_fNo, e_fPt, e_fCall, e_fCons, e_fNil]
  generalize rows.map rowD = R at *
  generalize rows.getD s.1 [] = r at *
  simp [ix, a1, a2, a3, a4, a5, ixn, e]
theorem do_loop : ∀ (l : List Sk) (rows : List (List Nat)) (X Y Z : SV), (∀ r ∈ rows, r.length = w) → w ≤ 100 → (∀ s ∈ l, s.1 < rows.length ∧ s.2.1 + s.2.2.length ≤ w) → ∃ X' Y' Z', forGo (pTup 3 (pCons (pName 3) (pCons (pName 4) (pCons (pName 5) pNil)))) s_drawn_over_1_b (l.map stD) [A, B, .l (rows.map rowD), X, Y, Z] M = .nx [A, B, .l ((l.foldl put rows).map rowD), X', Y', Z'] M
  | [], rows, X, Y, Z, _, _, _ => ⟨X, Y, Z, rfl⟩
  | s :: l, rows, X, Y, Z, hr, hw, hs => by
    obtain ⟨h1, h2⟩ := hs s List.mem_cons_self
    obtain ⟨p1, p2⟩ := put_len hr h1 h2
    obtain ⟨X', Y', Z', e⟩ := do_loop l (put rows s) (.d (.int (s.1 : Nat))) (.d (.int (s.2.1 : Nat))) (.d (.str (T s.2.2))) p2 hw (fun s' m => by rw [p1]; exact hs s' (List.mem_cons_of_mem _ m))
    refine ⟨X', Y', Z', ?_⟩
    rw [List.foldl_cons, ← e, List.map_cons, e_for1]
    have pt : pTup 3 (pCons (pName 3) (pCons (pName 4) (pCons (pName 5) pNil))) (stD s) [A, B, .l (rows.map rowD), X, Y, Z] = some [A, B, .l (rows.map rowD), .d (.int (s.1 : Nat)), .d (.int (s.2.1 : Nat)), .d (.str (T s.2.2))] := rfl
    rw [pt]
    dsimp only
    rw [do_body hr hw h1 h2, turn_nx]
theorem e_drawn_over {rows : List (List Nat)} (hr : ∀ r ∈ rows, r.length = w) (hw : w ≤ 100) (hs : ∀ s ∈ l, s.1 < rows.length ∧ s.2.1 + s.2.2.length ≤ w) : F_drawn_over [.d (picL rows), .d (.tuple (l.map stD))] M = .ok (picL (l.foldl put rows)) M := by
  obtain ⟨X, Y, Z, e⟩ := do_loop (M := M) (A := .d (picL rows)) (B := .d (.tuple (l.map stD))) l rows .un .un .un hr hw hs
  have z : bodyF 2 6 (sSeq s_drawn_over_0 (sSeq s_drawn_over_1 s_drawn_over_2)) [.d (picL rows), .d (.tuple (l.map stD))] M = .ok (picL (l.foldl put rows)) M := by
    have t0 : s_drawn_over_0 [.d (picL rows), .d (.tuple (l.map stD)), .un, .un, .un, .un] M = .nx [.d (picL rows), .d (.tuple (l.map stD)), .l (rows.map rowD), .un, .un, .un] M := by simp [s_drawn_over_0]
    have t1 : s_drawn_over_1 [.d (picL rows), .d (.tuple (l.map stD)), .l (rows.map rowD), .un, .un, .un] M = .nx [.d (picL rows), .d (.tuple (l.map stD)), .l ((l.foldl put rows).map rowD), X, Y, Z] M := by
      rw [← e]; simp [s_drawn_over_1]
    rw [e_bodyF, if_pos (by rfl)]
    show (sSeq _ _ [.d (picL rows), .d (.tuple (l.map stD)), .un, .un, .un, .un] M).rs = _
    rw [e_sSeq, t0, seq_nx, e_sSeq, t1, seq_nx]
    simp [s_drawn_over_2]
  rw [← q_drawn_over] at z
  exact z
end
end K

set_option Elab.async false
set_option linter.all false
set_option maxRecDepth 100000
set_option maxHeartbeats 1000000
namespace K
open PySem RL K98
theorem eqvAll_rows : ∀ (P Q : List (List Nat)), PyData.eqvAll (P.map rowD) (Q.map rowD) = decide (P = Q)
  | [], [] => rfl
  | [], _ :: _ => rfl
  | _ :: _, [] => rfl
  | h :: P, t :: Q => by
    have ih := eqvAll_rows P Q
    rw [List.map_cons, List.map_cons]
    show (PyData.eqv (rowD h) (rowD t) && PyData.eqvAll (P.map rowD) (Q.map rowD)) = _
    rw [ih]
    have e : PyData.eqv (rowD h) (rowD t) = decide (h = t) := by
      show (T h == T t) = _
      rw [T_beq]
    rw [e]
    by_cases q : h = t
    · subst q; simp
    · simp [q]
theorem tame_row {r : List Nat} (h : ∀ c ∈ r, c < 1114112) (hl : r.length ≤ 100) : Tame 0 100 (rowD r) := tame_str (by
  show (T r).cps.all _ = true
  rw [Array.all_eq_true_iff_forall_mem]
  intro c hc
  exact decide_eq_true (h c (by simpa using hc))) (by rw [T_length]; exact hl)
theorem tame_rows {P : List (List Nat)} (h : ∀ r ∈ P, r.length ≤ 100 ∧ ∀ c ∈ r, c < 1114112) (hl : P.length ≤ 60) : Tame 1 7000 (picD P) ∧ Tame 1 7000 (picL P) := by
  have a : ∀ x ∈ P.map rowD, Tame 0 100 x := fun x m => by
    obtain ⟨r, hr, rfl⟩ := List.mem_map.mp m
    exact tame_row (h r hr).2 (h r hr).1
  exact ⟨tame_tup a (by omega) (by rw [List.length_map]; omega), tame_lst a (by omega) (by rw [List.length_map]; omega)⟩
theorem eq_pic {P Q : List (List Nat)} (h : Tame 1 7000 (picD P)) (h2 : Tame 1 7000 (picD Q)) : dEq (picD P) (picD Q) = some (.bool (decide (P = Q))) := by
  rw [dEq_ok h h2 (by omega) (by omega)]
  show some (PyData.bool (PyData.eqvAll _ _)) = _
  rw [eqvAll_rows]
theorem ne_pic {P Q : List (List Nat)} (h : Tame 1 7000 (picD P)) (h2 : Tame 1 7000 (picD Q)) : dNe (picD P) (picD Q) = some (.bool (!decide (P = Q))) := by
  rw [dNe_ok h h2 (by omega) (by omega)]
  show some (PyData.bool (!PyData.eqvAll _ _)) = _
  rw [eqvAll_rows]
theorem eq_picL {P Q : List (List Nat)} (h : Tame 1 7000 (picL P)) (h2 : Tame 1 7000 (picL Q)) : dEq (picL P) (picL Q) = some (.bool (decide (P = Q))) := by
  rw [dEq_ok h h2 (by omega) (by omega)]
  show some (PyData.bool (PyData.eqvAll _ _)) = _
  rw [eqvAll_rows]
/-! ### in the frame -/
def inF (h w : Nat) (s : Sk) : Bool := decide (s.1 < h) && decide (s.2.1 + s.2.2.length ≤ w)
def Fine (l : List Sk) : Prop := (∀ s ∈ l, Bd s ∧ s.2.2 ≠ []) ∧ l.length ≤ 3000
def leads (P Q : List (List Nat)) (w : Nat) (l : List Sk) : Bool := l.all (inF Q.length w) && decide (l.foldl put (fr Q.length w P) = Q)
theorem patch_chars {r s : List Nat} {k : Nat} (h1 : ∀ c ∈ r, c < 1114112) (h2 : ∀ c ∈ s, c < 1114112) : ∀ c ∈ patch r k s, c < 1114112 := fun c m => by
  unfold patch at m
  simp only [List.mem_append] at m
  rcases m with (m | m) | m
  · exact h1 c (List.mem_of_mem_take m)
  · exact h2 c m
  · exact h1 c (List.mem_of_mem_drop m)
theorem put_keep {w : Nat} {rows : List (List Nat)} {s : Sk} (hr : ∀ r ∈ rows, r.length = w ∧ ∀ c ∈ r, c < 1114112) (hb : Bd s) (h1 : s.1 < rows.length) (h2 : s.2.1 + s.2.2.length ≤ w) : (put rows s).length = rows.length ∧ ∀ r ∈ put rows s, r.length = w ∧ ∀ c ∈ r, c < 1114112 := by
  obtain ⟨a1, a2⟩ := put_len (fun r m => (hr r m).1) h1 h2
  refine ⟨a1, fun r m => ⟨a2 r m, ?_⟩⟩
  unfold put at m
  rcases List.mem_or_eq_of_mem_set m with m | rfl
  · exact (hr r m).2
  · exact patch_chars (hr _ (getD_mem h1)).2 hb.2.2.2
theorem puts_keep {w : Nat} : ∀ (l : List Sk) (rows : List (List Nat)), (∀ r ∈ rows, r.length = w ∧ ∀ c ∈ r, c < 1114112) → (∀ s ∈ l, Bd s) → (l.all (inF rows.length w) = true) → (l.foldl put rows).length = rows.length ∧ ∀ r ∈ l.foldl put rows, r.length = w ∧ ∀ c ∈ r, c < 1114112
  | [], rows, h, _, _ => ⟨rfl, h⟩
  | s :: l, rows, h, hb, ha => by
    rw [List.all_cons, Bool.and_eq_true] at ha
    obtain ⟨a1, a2⟩ := ha
    unfold inF at a1
    rw [Bool.and_eq_true] at a1
    obtain ⟨p1, p2⟩ := put_keep h (hb s List.mem_cons_self) (of_decide_eq_true a1.1) (of_decide_eq_true a1.2)
    obtain ⟨q1, q2⟩ := puts_keep l (put rows s) p2 (fun s' m => hb s' (List.mem_cons_of_mem _ m)) (by rw [p1]; exact a2)
    exact ⟨by rw [List.foldl_cons, q1, p1], q2⟩
section
variable {M : List Int} {a b : List Nat} {w v h : Nat} {P Q : List (List Nat)} {A B X Y Z : SV} {l : List Sk}
theorem e_in_frame {s : Sk} (hb : Bd s) : F_is_in_frame [.d (stD s), .d (.int (h : Nat)), .d (.int (w : Nat))] M = .ok (.bool (inF h w s)) M := by
  have := hb.2.2.1
  have d1 : dLen [.str (T s.2.2)] = some (.int s.2.2.length) := dLen_T (by omega)
  have z : bodyF 3 6 (sSeq s_is_in_frame_0 s_is_in_frame_1) [.d (stD s), .d (.int (h : Nat)), .d (.int (w : Nat))] M = .ok (.bool (inF h w s)) M := by
    have t0 : s_is_in_frame_0 [.d (stD s), .d (.int (h : Nat)), .d (.int (w : Nat)), .un, .un, .un] M = .nx [.d (stD s), .d (.int (h : Nat)), .d (.int (w : Nat)), .d (.int (s.1 : Nat)), .d (.int (s.2.1 : Nat)), .d (.str (T s.2.2))] M := by simp [s_is_in_frame_0]
    rw [e_bodyF, if_pos (by rfl)]
    show (sSeq _ _ [.d (stD s), .d (.int (h : Nat)), .d (.int (w : Nat)), .un, .un, .un] M).rs = _
    rw [e_sSeq, t0, seq_nx]
    unfold inF
    have e1 : decide ((s.2.1 : Int) + (s.2.2.length : Int) ≤ (w : Int)) = decide (s.2.1 + s.2.2.length ≤ w) := by
      by_cases q : s.2.1 + s.2.2.length ≤ w
      · rw [decide_eq_true q, decide_eq_true (by omega)]
      · rw [decide_eq_false q, decide_eq_false (by omega)]
    have e2 : decide ((s.1 : Int) < (h : Int)) = decide (s.1 < h) := by
      by_cases q : s.1 < h
      · rw [decide_eq_true q, decide_eq_true (by omega)]
      · rw [decide_eq_false q, decide_eq_false (by omega)]
    by_cases q : s.1 < h
    · simp [s_is_in_frame_1, d1, e1, e2, q]
    · simp [s_is_in_frame_1, d1, e1, e2, q]
  rw [← q_is_in_frame] at z
  exact z
theorem ld_body {rows : List (List Nat)} {r0 : List Nat} {s : Sk} (i0 : dIx (picD Q) (.int 0) = some (rowD r0)) (d1 : dLen [rowD r0] = some (.int (w : Nat))) (hr : ∀ r ∈ rows, r.length = w) (hw : w ≤ 100) (hb : Bd s ∧ s.2.2 ≠ []) :
    s__law_leads_1_b [A, .d (picD Q), B, .l (rows.map rowD), .d (.int (s.1 : Nat)), .d (.int (s.2.1 : Nat)), .d (.str (T s.2.2))] M = if inF rows.length w s = true then .nx [A, .d (picD Q), B, .l ((put rows s).map rowD), .d (.int (s.1 : Nat)), .d (.int (s.2.1 : Nat)), .d (.str (T s.2.2))] M else .ret (.bool false) M := by
  have := hb.1.2.2.1
  have d2 : dLen [.str (T s.2.2)] = some (.int s.2.2.length) := dLen_T (by omega)
  have em : dEq (.str (T s.2.2)) (.str (Str.ofString "")) = some (.bool false) := by
    rw [em_T, dEq_strs, T_beq, decide_eq_false hb.2]
  have dl : dLen [.list (rows.map rowD)] = some (.int rows.length) := by simp
  have t0 : s__law_leads_1_b_0 [A, .d (picD Q), B, .l (rows.map rowD), .d (.int (s.1 : Nat)), .d (.int (s.2.1 : Nat)), .d (.str (T s.2.2))] M = if inF rows.length w s = true then .nx [A, .d (picD Q), B, .l (rows.map rowD), .d (.int (s.1 : Nat)), .d (.int (s.2.1 : Nat)), .d (.str (T s.2.2))] M else .ret (.bool false) M := by
    unfold inF
    have e1 : decide ((s.2.1 : Int) + (s.2.2.length : Int) > (w : Int)) = !decide (s.2.1 + s.2.2.length ≤ w) := by
      by_cases q : s.2.1 + s.2.2.length ≤ w
      · rw [decide_eq_true q, decide_eq_false (by omega)]; rfl
      · rw [decide_eq_false q, decide_eq_true (by omega)]; rfl
    have e2 : decide ((s.1 : Int) < (rows.length : Int)) = decide (s.1 < rows.length) := by
      by_cases q : s.1 < rows.length
      · rw [decide_eq_true q, decide_eq_true (by omega)]
      · rw [decide_eq_false q, decide_eq_false (by omega)]
    have e3 : decide ((0 : Int) ≤ (s.1 : Int)) = true := decide_eq_true (by omega)
    have e4 : decide ((s.2.1 : Int) < (0 : Int)) = false := decide_eq_false (by omega)
    simp only [s__law_leads_1_b_0, e_sIf, e_fOr, e_fNot, e_asB, e_fCh, e_fOp, e_fCall, e_fCons, e_fNil, e_vV]
    simp only [show ([A, SV.d (picD Q), B, .l (rows.map rowD), .d (.int (s.1 : Nat)), .d (.int (s.2.1 : Nat)), .d (.str (T s.2.2))] : Rho)[1]? = some (.d (picD Q)) from rfl, show ([A, SV.d (picD Q), B, .l (rows.map rowD), .d (.int (s.1 : Nat)), .d (.int (s.2.1 : Nat)), .d (.str (T s.2.2))] : Rho)[3]? = some (.l (rows.map rowD)) from rfl,
      show ([A, SV.d (picD Q), B, .l (rows.map rowD), .d (.int (s.1 : Nat)), .d (.int (s.2.1 : Nat)), .d (.str (T s.2.2))] : Rho)[4]? = some (.d (.int (s.1 : Nat))) from rfl, show ([A, SV.d (picD Q), B, .l (rows.map rowD), .d (.int (s.1 : Nat)), .d (.int (s.2.1 : Nat)), .d (.str (T s.2.2))] : Rho)[5]? = some (.d (.int (s.2.1 : Nat))) from rfl,
      show ([A, SV.d (picD Q), B, .l (rows.map rowD), .d (.int (s.1 : Nat)), .d (.int (s.2.1 : Nat)), .d (.str (T s.2.2))] : Rho)[6]? = some (.d (.str (T s.2.2))) from rfl, bnd_ok, dLe_int, dLt_int, dGt_int, dAdd_int, of_some, i0, d1, d2, dl, e1, e2, e3, e4, em, selB_bool, if_true]
    by_cases q1 : s.1 < rows.length
    · by_cases q2 : s.2.1 + s.2.2.length ≤ w
      · simp [q1, q2]
      · simp [q1, q2]
    · simp [q1]
  unfold s__law_leads_1_b
  rw [e_sSeq, t0]
  by_cases q : inF rows.length w s = true
  · rw [if_pos q, if_pos q, seq_nx]
    unfold inF at q
    rw [Bool.and_eq_true] at q
    have h1 := of_decide_eq_true q.1
    have h2 := of_decide_eq_true q.2
    obtain ⟨a1, a2, a3, a4, a5⟩ := e_patch (hr _ (getD_mem h1)) hw h2
    have ix := at_rows h1
    have ixn : L2.ixN (rows.map rowD).length (s.1 : Int) = some s.1 := ixN_nat (by simpa using h1)
    have e : (rows.map rowD).set s.1 (rowD (patch (rows.getD s.1 []) s.2.1 s.2.2)) = (put rows s).map rowD := set_rows
    simp only [s__law_leads_1_b_1, e_sPut, e_fOp, e_fSl, e_vV, e_fNo, e_fPt, e_fCall, e_fCons, e_fNil]
    generalize rows.map rowD = R at *
    generalize rows.getD s.1 [] = r at *
    simp [ix, a1, a2, a3, a4, a5, ixn, e]
  · rw [if_neg q, if_neg q, seq_ret]
theorem ld_loop {r0 : List Nat} (i0 : dIx (picD Q) (.int 0) = some (rowD r0)) (d1 : dLen [rowD r0] = some (.int (w : Nat))) : ∀ (l : List Sk) (rows : List (List Nat)) (X Y Z : SV), (∀ r ∈ rows, r.length = w ∧ ∀ c ∈ r, c < 1114112) → w ≤ 100 → (∀ s ∈ l, Bd s ∧ s.2.2 ≠ []) →
    ∃ X' Y' Z', forGo (pTup 3 (pCons (pName 4) (pCons (pName 5) (pCons (pName 6) pNil)))) s__law_leads_1_b (l.map stD) [A, .d (picD Q), B, .l (rows.map rowD), X, Y, Z] M = if l.all (inF rows.length w) = true then .nx [A, .d (picD Q), B, .l ((l.foldl put rows).map rowD), X', Y', Z'] M else .ret (.bool false) M
  | [], rows, X, Y, Z, _, _, _ => ⟨X, Y, Z, rfl⟩
  | s :: l, rows, X, Y, Z, hr, hw, hs => by
    have hb := hs s List.mem_cons_self
    have b := ld_body (M := M) (A := A) (B := B) i0 d1 (fun r m => (hr r m).1) hw hb
    have pt : pTup 3 (pCons (pName 4) (pCons (pName 5) (pCons (pName 6) pNil))) (stD s) [A, .d (picD Q), B, .l (rows.map rowD), X, Y, Z] = some [A, .d (picD Q), B, .l (rows.map rowD), .d (.int (s.1 : Nat)), .d (.int (s.2.1 : Nat)), .d (.str (T s.2.2))] := rfl
    by_cases q : inF rows.length w s = true
    · have q' := q
      unfold inF at q'
      rw [Bool.and_eq_true] at q'
      obtain ⟨p1, p2⟩ := put_keep hr hb.1 (of_decide_eq_true q'.1) (of_decide_eq_true q'.2)
      obtain ⟨X', Y', Z', e⟩ := ld_loop i0 d1 l (put rows s) (.d (.int (s.1 : Nat))) (.d (.int (s.2.1 : Nat))) (.d (.str (T s.2.2))) p2 hw (fun s' m => hs s' (List.mem_cons_of_mem _ m))
      refine ⟨X', Y', Z', ?_⟩
      rw [p1] at e
      rw [List.map_cons, e_for1, pt]
      dsimp only
      rw [b, if_pos q, turn_nx, e, List.all_cons, q, Bool.true_and, List.foldl_cons]
    · refine ⟨X, Y, Z, ?_⟩
      rw [List.map_cons, e_for1, pt]
      dsimp only
      rw [b, if_neg q, turn_ret, List.all_cons, if_neg (by simp [q])]
theorem e_leads (p : Pc v P) (q : Pc w Q) (hl : Fine l) : F__law_leads [.d (picD P), .d (picD Q), .d (.tuple (l.map stD))] M = .ok (.bool (leads P Q w l)) M := by
  obtain ⟨r0, i0, d1, _⟩ := head0 q
  have hi := q.hi
  have wi := q.wi
  have d2 : dLen [picD Q] = some (.int Q.length) := by simp
  have f := e_lframed (M := M) (h := Q.length) (w := w) p (by omega) wi
  obtain ⟨X, Y, Z, e⟩ := ld_loop (M := M) (A := .d (picD P)) (B := .d (.tuple (l.map stD))) i0 d1 l (fr Q.length w P) .un .un .un (fr_row p) (by omega) hl.1
  rw [fr_len] at e
  have t0 : s__law_leads_0 [.d (picD P), .d (picD Q), .d (.tuple (l.map stD)), .un, .un, .un, .un] M = .nx [.d (picD P), .d (picD Q), .d (.tuple (l.map stD)), .l ((fr Q.length w P).map rowD), .un, .un, .un] M := by
    simp [s__law_leads_0, -dLen_tup, -dIx_tup, d1, d2, i0, f]
  have t1 : s__law_leads_1 [.d (picD P), .d (picD Q), .d (.tuple (l.map stD)), .l ((fr Q.length w P).map rowD), .un, .un, .un] M = if l.all (inF Q.length w) = true then .nx [.d (picD P), .d (picD Q), .d (.tuple (l.map stD)), .l ((l.foldl put (fr Q.length w P)).map rowD), X, Y, Z] M else .ret (.bool false) M := by
    rw [← e]; simp [s__law_leads_1]
  have z : bodyF 3 7 (sSeq s__law_leads_0 (sSeq s__law_leads_1 (sRet (fOp dEq (fCall dTuple (fCons (vV 3) fNil)) (vV 1))))) [.d (picD P), .d (picD Q), .d (.tuple (l.map stD))] M = .ok (.bool (leads P Q w l)) M := by
    rw [e_bodyF, if_pos (by rfl)]
    show (sSeq _ _ [.d (picD P), .d (picD Q), .d (.tuple (l.map stD)), .un, .un, .un, .un] M).rs = _
    rw [e_sSeq, t0, seq_nx, e_sSeq, t1]
    unfold leads
    by_cases qa : l.all (inF Q.length w) = true
    · rw [if_pos qa, seq_nx, qa, Bool.true_and]
      obtain ⟨k1, k2⟩ := puts_keep l (fr Q.length w P) (fr_row p) (fun s m => (hl.1 s m).1) (by rw [fr_len]; exact qa)
      have tq := (tame_rows (P := Q) (fun r m => ⟨by have := (q.row r m).1; omega, (q.row r m).2⟩) (by omega)).1
      have tp := (tame_rows (P := l.foldl put (fr Q.length w P)) (fun r m => ⟨by have := (k2 r m).1; omega, (k2 r m).2⟩) (by rw [k1, fr_len]; omega)).1
      have ee := eq_pic tp tq
      simp [ee]
    · rw [if_neg qa, seq_ret, Bool.eq_false_iff.mpr qa]; rfl
  rw [← q__law_leads] at z
  exact z
end
end K

set_option Elab.async false
set_option linter.all false
set_option maxRecDepth 100000
set_option maxHeartbeats 1000000
namespace K
open PySem RL K98
section
variable {M : List Int} {a b : List Nat} {w v h : Nat} {P Q : List (List Nat)} {A B X Y Z : SV} {l : List Sk}
theorem e_is_stroke {s : Sk} (hb : Bd s ∧ s.2.2 ≠ []) : F_is_stroke_anew [.d (stD s)] M = .ok (.bool true) M := by
  obtain ⟨⟨b1, b2, b3, _⟩, b4⟩ := hb
  have d2 : dLen [.str (T s.2.2)] = some (.int s.2.2.length) := dLen_T (by omega)
  have em : dEq (.str (T s.2.2)) (.str (Str.ofString "")) = some (.bool false) := by
    rw [em_T, dEq_strs, T_beq, decide_eq_false b4]
  have l3 : dNe (.int 3) (.int 3) = some (.bool false) := by rw [dNe_int]; rfl
  have t0 : s_is_stroke_anew_0 [.d (stD s)] M = .nx [.d (stD s)] M := by
    simp [s_is_stroke_anew_0, tyS, em, l3]
  have t1 : s_is_stroke_anew_1 [.d (stD s)] M = .ret (.bool true) M := by
    have c1 : (decide ((0 : Int) ≤ (s.1 : Int)) && decide ((s.1 : Int) ≤ 2000)) = true := by
      rw [decide_eq_true (by omega), decide_eq_true (by omega)]; rfl
    have c2 : (decide ((0 : Int) ≤ (s.2.1 : Int)) && decide ((s.2.1 : Int) ≤ 20000)) = true := by
      rw [decide_eq_true (by omega), decide_eq_true (by omega)]; rfl
    have c3 : decide ((s.2.2.length : Int) ≤ 20000) = true := decide_eq_true (by omega)
    simp only [s_is_stroke_anew_1, e_sRet, e_fAndV, e_fFn, e_agCons, e_agNil, e_fOp, e_fCall, e_fCons, e_fNil, e_vV, c_MOST_HIGH, c_MOST_WIDE]
    simp [d2, c1, c2, c3, -Bool.and_eq_true]
    rw [if_pos (by omega), if_pos (by omega)]
  have z : bodyF 1 1 (sSeq s_is_stroke_anew_0 s_is_stroke_anew_1) [.d (stD s)] M = .ok (.bool true) M := by
    rw [e_bodyF, if_pos (by rfl)]
    show (sSeq _ _ [.d (stD s)] M).rs = _
    rw [e_sSeq, t0, seq_nx, t1]; rfl
  rw [← q_is_stroke_anew] at z
  exact z
theorem e_are_strokes (hl : Fine l) : F_are_strokes_anew [.d (.tuple (l.map stD))] M = .ok (.bool true) M := by
  have hn := hl.2
  have lc := lc_all (g := pName 1) (fe := fFn F_is_stroke_anew (agCons (vE 1) agNil)) (ρ := [.d (.tuple (l.map stD)), .un]) stD (fun _ => .bool true) l (fun s m => ⟨_, rfl, fun M => by simp [e_is_stroke (hl.1 s m)]⟩) M
  unfold F_are_strokes_anew
  rw [e_bodyF, if_pos (by rfl)]
  unfold f_are_strokes_anew
  simp [tyS, lcRun_le (xs := l.map stD) (by simp; omega), lc, dAll_true]
theorem e_are_strokes_no {xs : List D} : F_are_strokes_anew [.d (.list xs)] M = .ok (.bool false) M := by
  unfold F_are_strokes_anew
  rw [e_bodyF, if_pos (by rfl)]
  unfold f_are_strokes_anew
  simp [tyS]
theorem dAll_map {γ : Type} (l : List γ) (f : γ → Bool) : dAll [.list (l.map fun x => .bool (f x))] = some (.bool (l.all f)) := by
  show (boolsD _).map _ = _
  have : (l.map fun x => PyData.bool (f x)) = (l.map f).map .bool := by rw [List.map_map]; rfl
  rw [this, boolsD_map]
  simp [List.all_map]
theorem lc_frame (hl : Fine l) {g : Pat} {ρ : Rho} {i1 i2 i3 : Nat} (hg : ∀ s, ∃ ρ1, g (stD s) ρ = some ρ1 ∧ ρ1[i1]? = some (.d (stD s)) ∧ ρ1[i2]? = some (.d (.int (h : Nat))) ∧ ρ1[i3]? = some (.d (.int (w : Nat)))) : lcGo g fYes (fFn F_is_in_frame (agCons (vE i1) (agCons (vE i2) (agCons (vE i3) agNil)))) ρ (l.map stD) M = .ok (l.map fun s => .bool (inF h w s)) M :=
  lc_all (g := g) (fe := fFn F_is_in_frame (agCons (vE i1) (agCons (vE i2) (agCons (vE i3) agNil)))) (ρ := ρ) stD (fun s => .bool (inF h w s)) l (fun s m => by
    obtain ⟨ρ1, e, g1, g2, g3⟩ := hg s
    exact ⟨ρ1, e, fun M => by simp [g1, g2, g3, e_in_frame (hl.1 s m).1]⟩) M
theorem e_drawn_anew (p : Pc v P) (hl : Fine l) (h0 : 0 < h) (hh : h ≤ 60) (hw : w ≤ 60) (ha : l.all (inF h w) = true) : F_drawn_anew [.d (picD P), .d (.tuple (l.map stD)), .d (.int (h : Nat)), .d (.int (w : Nat))] M = .ok (picD (l.foldl put (fr h w P))) M := by
  have hn := hl.2
  have t0 : s_drawn_anew_0 [.d (picD P), .d (.tuple (l.map stD)), .d (.int (h : Nat)), .d (.int (w : Nat)), .un] M = .nx [.d (picD P), .d (.tuple (l.map stD)), .d (.int (h : Nat)), .d (.int (w : Nat)), .un] M := by
    simp [s_drawn_anew_0, e_check1 p]
  have c1 : (decide ((1 : Int) ≤ (h : Int)) && decide ((h : Int) ≤ 2000)) = true := by
    rw [decide_eq_true (by omega), decide_eq_true (by omega)]; rfl
  have c2 : (decide ((0 : Int) ≤ (w : Int)) && decide ((w : Int) ≤ 20000)) = true := by
    rw [decide_eq_true (by omega), decide_eq_true (by omega)]; rfl
  have t1 : s_drawn_anew_1 [.d (picD P), .d (.tuple (l.map stD)), .d (.int (h : Nat)), .d (.int (w : Nat)), .un] M = .nx [.d (picD P), .d (.tuple (l.map stD)), .d (.int (h : Nat)), .d (.int (w : Nat)), .un] M := by
    simp only [s_drawn_anew_1, e_sIf, e_fOr, e_fNot, e_fTru, e_fFn, e_agCons, e_agNil, c_MOST_HIGH, c_MOST_WIDE]
    simp [c1, c2, -Bool.and_eq_true, -Bool.and_eq_false_imp, -decide_eq_true_eq]
    omega
  have lf := lc_frame (M := M) (h := h) (w := w) (l := l) hl (g := pName 4) (ρ := [.d (picD P), .d (.tuple (l.map stD)), .d (.int (h : Nat)), .d (.int (w : Nat)), .un]) (i1 := 4) (i2 := 2) (i3 := 3) (fun s => ⟨_, rfl, rfl, rfl, rfl⟩)
  have da := dAll_map l (inF h w)
  rw [ha] at da
  have t2 : s_drawn_anew_2 [.d (picD P), .d (.tuple (l.map stD)), .d (.int (h : Nat)), .d (.int (w : Nat)), .un] M = .nx [.d (picD P), .d (.tuple (l.map stD)), .d (.int (h : Nat)), .d (.int (w : Nat)), .un] M := by
    simp [s_drawn_anew_2, e_are_strokes hl, lcRun_le (xs := l.map stD) (by simp; omega), lf, da]
  have fr0 := e_framed (M := M) (h := h) (w := w) p hh hw
  have dr := e_drawn_over (M := M) (w := w) (l := l) (rows := fr h w P) (fun r m => (fr_row p r m).1) (by omega) (fun s m => by
    have := List.all_eq_true.mp ha s m
    unfold inF at this
    rw [Bool.and_eq_true] at this
    rw [fr_len]
    exact ⟨of_decide_eq_true this.1, of_decide_eq_true this.2⟩)
  have t3 : s_drawn_anew_3 [.d (picD P), .d (.tuple (l.map stD)), .d (.int (h : Nat)), .d (.int (w : Nat)), .un] M = .ret (picD (l.foldl put (fr h w P))) M := by
    simp [s_drawn_anew_3, fr0, dr]
  have z : bodyF 4 5 (sSeq s_drawn_anew_0 (sSeq s_drawn_anew_1 (sSeq s_drawn_anew_2 s_drawn_anew_3))) [.d (picD P), .d (.tuple (l.map stD)), .d (.int (h : Nat)), .d (.int (w : Nat))] M = .ok (picD (l.foldl put (fr h w P))) M := by
    rw [e_bodyF, if_pos (by rfl)]
    show (sSeq _ _ [.d (picD P), .d (.tuple (l.map stD)), .d (.int (h : Nat)), .d (.int (w : Nat)), .un] M).rs = _
    rw [e_sSeq, t0, seq_nx, e_sSeq, t1, seq_nx, e_sSeq, t2, seq_nx, t3]; rfl
  rw [← q_drawn_anew] at z
  exact z
/-- how many signs differ -/
abbrev chs (P Q : List (List Nat)) (w : Nat) : Nat := (((fr Q.length w P).zip Q).map fun z => (chg 0 z.1 z.2).length).sum
theorem lc_ones {ρ : Rho} {i1 i2 : Nat} (hl : a.length = b.length) (hn : i1 < ρ.length ∧ i2 < ρ.length ∧ i1 ≠ i2) : lcGo (pTup 2 (pCons (pName i1) (pCons (pName i2) pNil))) (asB (fOp dNe (vV i1) (vV i2))) (fun _ M => .ok (.int 1) M) ρ ((List.range b.length).map fun k => PyData.tuple [.str (T [a.getD k 0]), .str (T [b.getD k 0])]) M = .ok ((chg 0 a b).map fun _ => .int 1) M := by
  obtain ⟨h1, h2, h3⟩ := hn
  have l := lc_enc (g := pTup 2 (pCons (pName i1) (pCons (pName i2) pNil))) (ft := asB (fOp dNe (vV i1) (vV i2))) (fe := fun _ M => .ok (.int 1) M) (ρ := ρ) (fun k : Nat => PyData.tuple [.str (T [a.getD k 0]), .str (T [b.getD k 0])]) (dif a b) (fun _ => .int 1) (List.range b.length) (fun k hk => by
    have kb : k < b.length := List.mem_range.mp hk
    refine ⟨(ρ.set i1 (.d (.str (T [a.getD k 0])))).set i2 (.d (.str (T [b.getD k 0]))), by simp, fun M => ?_, fun _ M => rfl⟩
    have g2 : ((ρ.set i1 (.d (.str (T [a.getD k 0])))).set i2 (.d (.str (T [b.getD k 0]))))[i1]? = some (.d (.str (T [a.getD k 0]))) := by
      rw [List.getElem?_set_ne (Ne.symm h3), List.getElem?_set_self h1]
    have g3 : ((ρ.set i1 (.d (.str (T [a.getD k 0])))).set i2 (.d (.str (T [b.getD k 0]))))[i2]? = some (.d (.str (T [b.getD k 0]))) := by
      rw [List.getElem?_set_self (by rw [List.length_set]; exact h2)]
    rw [dif_D hl kb]
    generalize (ρ.set i1 (.d (.str (T [a.getD k 0])))).set i2 (.d (.str (T [b.getD k 0]))) = ρ3 at g2 g3
    simp [g2, g3, -List.getD_eq_getElem?_getD]) M
  rw [chg_filter hl] at l
  exact l
theorem e_dots (p : Pc v P) (q : Pc w Q) : F_dots_changed [.d (picD P), .d (picD Q)] M = .ok (.int (chs P Q w : Nat)) M := by
  obtain ⟨r0, i0, d1, _⟩ := head0 q
  have hi := q.hi
  have wi := q.wi
  have d2 : dLen [picD Q] = some (.int Q.length) := by simp
  have f := e_framed (M := M) (h := Q.length) (w := w) p (by omega) wi
  have t0 : s_dots_changed_0 [.d (picD P), .d (picD Q), .un, .un, .un, .un, .un] M = .nx [.d (picD P), .d (picD Q), .un, .un, .un, .un, .un] M := by
    simp [s_dots_changed_0, e_check2 p q]
  have lc := lc_all (g := pTup 2 (pCons (pName 3) (pCons (pName 4) pNil))) (fe := (fCall dLen (fCons (fz (fLc [5, 6] (pTup 2 (pCons (pName 5) (pCons (pName 6) pNil))) (asB (fOp dNe (vV 5) (vV 6))) (fun _ M => .ok (.int 1) M) (fZip (fCons (vV 3) (fCons (vV 4) fNil))))) fNil))) (ρ := [.d (picD P), .d (picD Q), .un, .un, .un, .un, .un]) pairD (fun z => .int ((chg 0 z.1 z.2).length : Nat)) ((fr Q.length w P).zip Q) (fun z m => ⟨_, rfl, fun M => by
    have hl := zip_len p q z m
    have h2 := (q.row z.2 (mem_zip m).2).1
    have l2 := lc_ones (M := M) (ρ := [.d (picD P), .d (picD Q), .un, .d (rowD z.1), .d (rowD z.2), .un, .un]) (i1 := 5) (i2 := 6) hl (by simp)
    have zr := zip_rows z.1 z.2 hl
    show (fCall dLen _ [.d (picD P), .d (picD Q), .un, .d (rowD z.1), .d (rowD z.2), .un, .un] M) = _
    have wz : wipeR ([SV.d (picD P), .d (picD Q), .un, .d (rowD z.1), .d (rowD z.2), .un, .un] : Rho) [5, 6] = [SV.d (picD P), .d (picD Q), .un, .d (rowD z.1), .d (rowD z.2), .un, .un] := rfl
    simp only [e_fCall, e_fCons, e_fz, e_fLc, e_fZip, e_fNil, e_vV, wz]
    simp only [show ([SV.d (picD P), .d (picD Q), .un, .d (rowD z.1), .d (rowD z.2), .un, .un] : Rho)[3]? = some (.d (rowD z.1)) from rfl, show ([SV.d (picD P), .d (picD Q), .un, .d (rowD z.1), .d (rowD z.2), .un, .un] : Rho)[4]? = some (.d (rowD z.2)) from rfl, bnd_ok, items_T, Option.bind_some, Option.map_some, of_some]
    rw [zr, lcRun_le (by simp; omega), l2]
    simp⟩) M
  have sm := dSum_nat ((fr Q.length w P).zip Q) fun z => (chg 0 z.1 z.2).length
  have ll : ((fr Q.length w P).zip Q).length ≤ 20 := by rw [List.length_zip]; omega
  have t1 : s_dots_changed_1 [.d (picD P), .d (picD Q), .un, .un, .un, .un, .un] M = .ret (.int (chs P Q w : Nat)) M := by
    simp only [s_dots_changed_1, e_sZipSum]
    simp [-dLen_tup, -dIx_tup, d1, d2, i0, f, zipD_rows, lcRun_le (xs := ((fr Q.length w P).zip Q).map pairD) (by rw [List.length_map]; omega), lc, sm]
  have z : bodyF 2 7 (sSeq s_dots_changed_0 s_dots_changed_1) [.d (picD P), .d (picD Q)] M = .ok (.int (chs P Q w : Nat)) M := by
    rw [e_bodyF, if_pos (by rfl)]
    show (sSeq _ _ [.d (picD P), .d (picD Q), .un, .un, .un, .un, .un] M).rs = _
    rw [e_sSeq, t0, seq_nx, t1]; rfl
  rw [← q_dots_changed] at z
  exact z
/-! ### shows_anew -/
theorem shows_pre (p : Pc v P) (q : Pc w Q) {x : D} : s_shows_anew_0 [.d (picD P), .d (picD Q), .d x, .un, .un, .un] M = .nx [.d (picD P), .d (picD Q), .d x, .un, .un, .un] M := by
  simp [s_shows_anew_0, e_check2 p q]
theorem l2_ne : dNe (.int 2) (.int 2) = some (.bool false) := by rw [dNe_int]; rfl
theorem e_shows_list (p : Pc v P) (q : Pc w Q) {c : Int} {xs : List D} : F_shows_anew [.d (picD P), .d (picD Q), .d (.tuple [.int c, .list xs])] M = .ok (.bool false) M := by
  have t1 : s_shows_anew_1 [.d (picD P), .d (picD Q), .d (.tuple [.int c, .list xs]), .un, .un, .un] M = .ret (.bool false) M := by
    simp [s_shows_anew_1, tyS, l2_ne, e_are_strokes_no]
  have z : bodyF 3 6 (sSeq s_shows_anew_0 (sSeq s_shows_anew_1 (sSeq s_shows_anew_2 (sSeq s_shows_anew_3 (sSeq s_shows_anew_4 s_shows_anew_5))))) [.d (picD P), .d (picD Q), .d (.tuple [.int c, .list xs])] M = .ok (.bool false) M := by
    rw [e_bodyF, if_pos (by rfl)]
    show (sSeq _ _ [.d (picD P), .d (picD Q), .d (.tuple [.int c, .list xs]), .un, .un, .un] M).rs = _
    rw [e_sSeq, shows_pre p q, seq_nx, e_sSeq, t1, seq_ret]; rfl
  rw [← q_shows_anew] at z
  exact z
theorem e_shows (p : Pc v P) (q : Pc w Q) (hl : Fine l) (c : Nat) : F_shows_anew [.d (picD P), .d (picD Q), .d (.tuple [.int (c : Nat), .tuple (l.map stD)])] M = .ok (.bool (decide (c = spent l) && decide (c = cst P Q w) && leads P Q w l)) M := by
  obtain ⟨r0, i0, d1, _⟩ := head0 q
  have hi := q.hi
  have wi := q.wi
  have hn := hl.2
  have d2 : dLen [picD Q] = some (.int Q.length) := by simp
  generalize hv : PyData.tuple [.int (c : Nat), .tuple (l.map stD)] = val
  have x0 : dIx val (.int 0) = some (.int (c : Nat)) := by rw [← hv]; simp
  have x1 : dIx val (.int 1) = some (.tuple (l.map stD)) := by rw [← hv]; simp
  have xl : dLen [val] = some (.int 2) := by rw [← hv]; simp
  have xt : tyS val = some "tuple" := by rw [← hv]; rfl
  have t1 : s_shows_anew_1 [.d (picD P), .d (picD Q), .d val, .un, .un, .un] M = .nx [.d (picD P), .d (picD Q), .d val, .un, .un, .un] M := by
    simp [s_shows_anew_1, xt, xl, x0, x1, l2_ne, e_are_strokes hl]
  have co := e_cost_of (M := M) (l := l) (fun s m => (hl.1 s m).1) (by omega)
  have lc : F_least_cost [.d (picD P), .d (picD Q)] M = .ok (.int (cst P Q w : Nat)) M := e_least_cost p q
  have n1 : dNe (.int (c : Nat)) (.int (spent l : Nat)) = some (.bool (!decide (c = spent l))) := by
    rw [dNe_int]
    by_cases e : c = spent l
    · rw [decide_eq_true e, decide_eq_true (by omega)]
    · rw [decide_eq_false e, decide_eq_false (by omega)]
  have n2 : dNe (.int (c : Nat)) (.int (cst P Q w : Nat)) = some (.bool (!decide (c = cst P Q w))) := by
    rw [dNe_int]
    by_cases e : c = cst P Q w
    · rw [decide_eq_true e, decide_eq_true (by omega)]
    · rw [decide_eq_false e, decide_eq_false (by intro z; exact e (by omega))]
  have t2 : s_shows_anew_2 [.d (picD P), .d (picD Q), .d val, .un, .un, .un] M = if c = spent l ∧ c = cst P Q w then .nx [.d (picD P), .d (picD Q), .d val, .un, .un, .un] M else .ret (.bool false) M := by
    simp only [s_shows_anew_2, e_sIf, e_fOr, e_asB, e_fOp, e_fFn, e_agCons, e_agNil, e_vV, e_vE]
    by_cases q1 : c = spent l
    · rw [decide_eq_true q1] at n1
      by_cases q2 : c = cst P Q w
      · rw [decide_eq_true q2] at n2
        rw [if_pos ⟨q1, q2⟩]
        simp [x0, x1, co, n1, lc, n2]
      · rw [decide_eq_false q2] at n2
        rw [if_neg fun z => q2 z.2]
        simp [x0, x1, co, n1, lc, n2]
    · rw [decide_eq_false q1] at n1
      rw [if_neg fun z => q1 z.1]
      simp [x0, x1, co, n1]
  have t3 : s_shows_anew_3 [.d (picD P), .d (picD Q), .d val, .un, .un, .un] M = .nx [.d (picD P), .d (picD Q), .d val, .d (.int (Q.length : Nat)), .d (.int (w : Nat)), .un] M := by
    simp [s_shows_anew_3, -dLen_tup, -dIx_tup, d1, d2, i0]
  have lf := lc_frame (M := M) (h := Q.length) (w := w) (l := l) hl (g := pName 5) (ρ := [.d (picD P), .d (picD Q), .d val, .d (.int (Q.length : Nat)), .d (.int (w : Nat)), .un]) (i1 := 5) (i2 := 3) (i3 := 4) (fun s => ⟨_, rfl, rfl, rfl, rfl⟩)
  have da := dAll_map l (inF Q.length w)
  have t4 : s_shows_anew_4 [.d (picD P), .d (picD Q), .d val, .d (.int (Q.length : Nat)), .d (.int (w : Nat)), .un] M = if l.all (inF Q.length w) = true then .nx [.d (picD P), .d (picD Q), .d val, .d (.int (Q.length : Nat)), .d (.int (w : Nat)), .un] M else .ret (.bool false) M := by
    by_cases qa : l.all (inF Q.length w) = true
    · rw [qa] at da
      rw [if_pos qa]
      simp [s_shows_anew_4, x1, lcRun_le (xs := l.map stD) (by simp; omega), lf, da]
    · rw [Bool.eq_false_iff.mpr qa] at da
      rw [if_neg qa]
      simp [s_shows_anew_4, x1, lcRun_le (xs := l.map stD) (by simp; omega), lf, da]
  have z : bodyF 3 6 (sSeq s_shows_anew_0 (sSeq s_shows_anew_1 (sSeq s_shows_anew_2 (sSeq s_shows_anew_3 (sSeq s_shows_anew_4 s_shows_anew_5))))) [.d (picD P), .d (picD Q), .d val] M = .ok (.bool (decide (c = spent l) && decide (c = cst P Q w) && leads P Q w l)) M := by
    rw [e_bodyF, if_pos (by rfl)]
    show (sSeq _ _ [.d (picD P), .d (picD Q), .d val, .un, .un, .un] M).rs = _
    rw [e_sSeq, shows_pre p q, seq_nx, e_sSeq, t1, seq_nx, e_sSeq, t2]
    by_cases q12 : c = spent l ∧ c = cst P Q w
    · rw [if_pos q12, seq_nx, e_sSeq, t3, seq_nx, e_sSeq, t4, decide_eq_true q12.1, decide_eq_true q12.2]
      unfold leads
      by_cases qa : l.all (inF Q.length w) = true
      · rw [if_pos qa, seq_nx, qa]
        obtain ⟨k1, k2⟩ := puts_keep l (fr Q.length w P) (fr_row p) (fun s m => (hl.1 s m).1) (by rw [fr_len]; exact qa)
        have tq := (tame_rows (P := Q) (fun r m => ⟨by have := (q.row r m).1; omega, (q.row r m).2⟩) (by omega)).2
        have tp := (tame_rows (P := l.foldl put (fr Q.length w P)) (fun r m => ⟨by have := (k2 r m).1; omega, (k2 r m).2⟩) (by rw [k1, fr_len]; omega)).2
        have ee := eq_picL tp tq
        have fr0 := e_framed (M := M) (h := Q.length) (w := w) p (by omega) wi
        have dr := e_drawn_over (M := M) (w := w) (l := l) (rows := fr Q.length w P) (fun r m => (fr_row p r m).1) (by omega) (fun s m => by
          have := List.all_eq_true.mp qa s m
          unfold inF at this
          rw [Bool.and_eq_true] at this
          rw [fr_len]
          exact ⟨of_decide_eq_true this.1, of_decide_eq_true this.2⟩)
        simp [s_shows_anew_5, x1, fr0, dr, ee]
      · rw [if_neg qa, seq_ret, Bool.eq_false_iff.mpr qa]; rfl
    · rw [if_neg q12, seq_ret]
      have : (decide (c = spent l) && decide (c = cst P Q w)) = false := by
        rw [← Bool.not_eq_true, Bool.and_eq_true]
        exact fun z => q12 ⟨of_decide_eq_true z.1, of_decide_eq_true z.2⟩
      rw [this]; rfl
  rw [← q_shows_anew] at z
  exact z
end
end K

set_option Elab.async false
set_option linter.all false
set_option maxRecDepth 100000
set_option maxHeartbeats 1000000
namespace K
open PySem RL K98
theorem e_law_take {u : Int} {M : List Int} {b : Nat} (hu : 0 < u) (hu2 : u < 1073741824) (h : Pot (b + 1) M) : ∃ k M', F__law_take [.pot, .d (.int u)] M = .ok (.int k) M' ∧ 0 ≤ k ∧ k < u ∧ Pot b M' :=
  take_ok (A := 176804) (B := 1795) (C := 16292) (E := 7376) (by omega) (by omega) (by omega) (by omega) hu hu2 h
theorem e_law_of {x : D} {n : Nat} {M : List Int} {b : Nat} (hl : dLen [x] = some (.int n)) (hn : 0 < n) (hn2 : n < 1000000) (h : Pot (b + 1) M) : ∃ k M', k < n ∧ Pot b M' ∧ ∀ y, dIx x (.int (k : Nat)) = some y → F__law_of [.pot, .d x] M = .ok y M' := by
  obtain ⟨k, M', e, k0, k1, hp⟩ := e_law_take (u := n) (by omega) (by omega) h
  refine ⟨k.toNat, M', by omega, hp, fun y hy => ?_⟩
  have ek : ((k.toNat : Nat) : Int) = k := Int.toNat_of_nonneg k0
  rw [ek] at hy
  unfold F__law_of
  rw [e_bodyF, if_pos (by rfl)]
  unfold f__law_of
  simp [hl, e, hy]
/-- a drawn sign -/
def Ch (y : D) (c : Nat) : Prop := y = .str (T [c]) ∧ c < 128
theorem e_sign {s : Str} {l : List Nat} (hs : s = T l) (hl : ∀ c ∈ l, c < 128) (h0 : 0 < l.length) (hl2 : l.length < 1000) {M : List Int} {b : Nat} (h : Pot (b + 1) M) : ∃ c M', F__law_of [.pot, .d (.str s)] M = .ok (.str (T [c])) M' ∧ c < 128 ∧ Pot b M' := by
  subst hs
  obtain ⟨k, M', hk, hp, f⟩ := e_law_of (x := .str (T l)) (n := l.length) (dLen_T (by omega)) h0 (by omega) h
  exact ⟨l[k], M', f _ (dIx_T (by omega) hk), hl _ (List.getElem_mem hk), hp⟩
theorem sA : Str.ofString "AB  " = T [65, 66, 32, 32] := by decide +kernel
theorem sB : Str.ofString "ABx " = T [65, 66, 120, 32] := by decide +kernel
theorem e_signA {M : List Int} {b : Nat} (h : Pot (b + 1) M) : ∃ c M', F__law_of [.pot, .d (.str (Str.ofString "AB  "))] M = .ok (.str (T [c])) M' ∧ c < 128 ∧ Pot b M' := e_sign sA (by decide) (by decide) (by decide) h
theorem e_signB {M : List Int} {b : Nat} (h : Pot (b + 1) M) : ∃ c M', F__law_of [.pot, .d (.str (Str.ofString "ABx "))] M = .ok (.str (T [c])) M' ∧ c < 128 ∧ Pot b M' := e_sign sB (by decide) (by decide) (by decide) h
abbrev chD (r : List Nat) : List D := r.map fun c => .str (T [c])
theorem chars_of : ∀ {ys : List D}, (∀ y ∈ ys, ∃ c, y = .str (T [c]) ∧ c < 128) → ∃ cs, ys = chD cs ∧ cs.length = ys.length ∧ ∀ c ∈ cs, c < 128
  | [], _ => ⟨[], rfl, rfl, fun c m => by simp at m⟩
  | y :: ys, h => by
    obtain ⟨c, rfl, hc⟩ := h y List.mem_cons_self
    obtain ⟨cs, rfl, hl, hcs⟩ := chars_of fun z m => h z (List.mem_cons_of_mem _ m)
    refine ⟨c :: cs, rfl, by simp, fun d m => ?_⟩
    rcases List.mem_cons.mp m with rfl | m
    · exact hc
    · exact hcs d m
theorem flat1 : ∀ (r : List Nat), (r.map fun c => [c]).flatten = r
  | [] => rfl
  | c :: r => by rw [List.map_cons, List.flatten_cons, flat1 r]; rfl
theorem dJoin_ch {r : List Nat} (h : r.length ≤ 1000) : dJoin (.str (Str.ofString "")) (.list (chD r)) = some (rowD r) := by
  have j := dJoin_T (ls := r.map fun c => [c]) (by
    rw [List.map_map]
    have : (List.length ∘ fun c : Nat => [c]) = fun _ => 1 := rfl
    rw [this]
    have : ∀ l : List Nat, (l.map fun _ => 1).sum = l.length := fun l => by induction l with | nil => rfl | cons a l ih => rw [List.map_cons, List.sum_cons, ih, List.length_cons]; omega
    rw [this]; omega)
  rw [List.map_map, flat1] at j
  rw [em_T]
  exact j
section
variable {M : List Int} {w b : Nat}
theorem pic_body {A B Y : SV} {rows : List (List Nat)} {lap : D} (hw : w ≤ 60) (hl : rows.length ≤ 100) (h : Pot (1 * w + b) M) : ∃ (r : List Nat) (M' : List Int), s__law_picture_1_b [.pot, A, .d (.int (w : Nat)), .l (rows.map rowD), Y, .un] M = .nx [.pot, A, .d (.int (w : Nat)), .l ((rows ++ [r]).map rowD), Y, .un] M' ∧ r.length = w ∧ (∀ c ∈ r, c < 128) ∧ Pot b M' := by
  obtain ⟨ys, M', e, hp, yl, yr⟩ := lc_pot (g := pName 5) (fe := fFn F__law_of (agPot 0 (agCons (fun _ M => .ok (.str "AB  ") M) agNil))) (ρ := [.pot, A, .d (.int (w : Nat)), .l (rows.map rowD), Y, .un]) (fun k : Nat => PyData.int (k : Nat)) (fun _ y => ∃ c, y = .str (T [c]) ∧ c < 128) Pot 1 (List.range w) b M (fun i m => ⟨_, rfl, fun b M hp => by
    obtain ⟨c, M', e, hc, hp'⟩ := e_signA (M := M) (b := b) (by rw [Nat.add_comm] at hp; exact hp)
    exact ⟨_, M', by simp [e], ⟨c, rfl, hc⟩, hp'⟩⟩) (by simpa using h)
  rw [List.length_range] at yl
  obtain ⟨cs, rfl, cl, cc⟩ := chars_of (ys := ys) (fun y m => by
    obtain ⟨k, hk⟩ := List.mem_iff_getElem?.mp m
    have hkl : k < ys.length := (List.getElem?_eq_some_iff.mp hk).1
    exact yr k k y (List.getElem?_range (by omega)) hk)
  refine ⟨cs, M', ?_, by omega, cc, hp⟩
  have hr : rng1 [.int (w : Int)] M = .ok ((List.range w).map fun f : Nat => PyData.int (f : Nat)) M := by
    rw [rng1_int (by omega) (by omega), rgItems_map, Int.toNat_natCast]
  have j := dJoin_ch (r := cs) (by omega)
  simp only [s__law_picture_1_b, e_sApp, e_fJoin, e_fz, e_fLc, e_fRng1, e_fCons, e_fNil, e_vV]
  simp [hr, lcRun_le (xs := (List.range w).map fun f : Nat => PyData.int (f : Nat)) (by simp; omega), e, j]
  omega
theorem pic_loop (hw : w ≤ 60) {A B : SV} : ∀ (n k : Nat) (rows : List (List Nat)) (M : List Int) (Y : SV), rows.length + n ≤ 100 → (∀ r ∈ rows, r.length = w ∧ ∀ c ∈ r, c < 128) → Pot (w * n + b) M → ∃ (rows' : List (List Nat)) (M' : List Int) (Y' : SV), forGo (pName 4) s__law_picture_1_b ((List.range' k n).map fun j => PyData.int (j : Nat)) [.pot, A, .d (.int (w : Nat)), .l (rows.map rowD), Y, .un] M = .nx [.pot, A, .d (.int (w : Nat)), .l (rows'.map rowD), Y', .un] M' ∧ rows'.length = rows.length + n ∧ (∀ r ∈ rows', r.length = w ∧ ∀ c ∈ r, c < 128) ∧ Pot b M'
  | 0, k, rows, M, Y, _, hr, h => ⟨rows, M, Y, rfl, rfl, hr, by simpa using h⟩
  | n + 1, k, rows, M, Y, hl, hr, h => by
    obtain ⟨r, M1, e1, rl, rc, h1⟩ := pic_body (M := M) (A := A) (B := B) (Y := .d (.int (k : Nat))) (rows := rows) (lap := .none) (b := w * n + b) hw (by omega) (by rw [Nat.one_mul]; rw [Nat.mul_succ] at h; rw [← Nat.add_assoc, Nat.add_comm w]; exact h)
    obtain ⟨rows', M', Y', e, l2, r2, h2⟩ := pic_loop hw (A := A) (B := B) n (k + 1) (rows ++ [r]) M1 (.d (.int (k : Nat))) (by simp; omega) (fun r' m => by
      rcases List.mem_append.mp m with m | m
      · exact hr r' m
      · rw [List.mem_singleton.mp m]; exact ⟨rl, rc⟩) h1
    refine ⟨rows', M', Y', ?_, by simp at l2; omega, r2, h2⟩
    rw [List.range'_succ, List.map_cons, e_for1, ← e]
    simp only [e_pName]
    rw [show (([.pot, A, .d (.int (w : Nat)), .l (rows.map rowD), Y, .un] : Rho).set 4 (.d (.int (k : Nat)))) = [.pot, A, .d (.int (w : Nat)), .l (rows.map rowD), .d (.int (k : Nat)), .un] from rfl, e1, turn_nx]
theorem e_picture {h : Nat} (h0 : 0 < h) (hh : h ≤ 10) (hw : w ≤ 60) (hp : Pot (w * h + b) M) : ∃ (P : List (List Nat)) (M' : List Int), F__law_picture [.pot, .d (.int (h : Nat)), .d (.int (w : Nat))] M = .ok (picD P) M' ∧ Pc w P ∧ P.length = h ∧ Pot b M' := by
  obtain ⟨rows, M', Y, e, l, r, hp'⟩ := pic_loop (b := b) hw (A := .d (.int (h : Nat))) (B := .un) h 0 [] M .un (by simp; omega) (fun r m => by simp at m) hp
  have t0 : s__law_picture_0 [.pot, .d (.int (h : Nat)), .d (.int (w : Nat)), .un, .un, .un] M = .nx [.pot, .d (.int (h : Nat)), .d (.int (w : Nat)), .l [], .un, .un] M := by simp [s__law_picture_0]
  have t1 : s__law_picture_1 [.pot, .d (.int (h : Nat)), .d (.int (w : Nat)), .l [], .un, .un] M = .nx [.pot, .d (.int (h : Nat)), .d (.int (w : Nat)), .l (rows.map rowD), Y, .un] M' := by
    have hr : rng1 [.int (h : Int)] M = .ok ((List.range h).map fun f : Nat => PyData.int (f : Nat)) M := by
      rw [rng1_int (by omega) (by omega), rgItems_map, Int.toNat_natCast]
    rw [← e, ← List.range_eq_range']
    simp only [s__law_picture_1, e_sFor, e_fRng1, e_fCons, e_fNil, e_vV]
    simp [hr]
  refine ⟨rows, M', ?_, ⟨fun q => by rw [q] at l; simp at l; omega, by simp at l; omega, hw, fun x m => ⟨(r x m).1, fun c hc => by have := (r x m).2 c hc; omega⟩⟩, by simpa using l, hp'⟩
  have z : bodyF 3 6 (sSeq s__law_picture_0 (sSeq s__law_picture_1 (sRet (fCall dTuple (fCons (vV 3) fNil))))) [.pot, .d (.int (h : Nat)), .d (.int (w : Nat))] M = .ok (picD rows) M' := by
    rw [e_bodyF, if_pos (by rfl)]
    show (sSeq _ _ [.pot, .d (.int (h : Nat)), .d (.int (w : Nat)), .un, .un, .un] M).rs = _
    rw [e_sSeq, t0, seq_nx, e_sSeq, t1, seq_nx]
    simp
  rw [← q__law_picture] at z
  exact z
/-! ### a picture near another one -/
theorem pick_ok {dss : List (List D)} (h0 : 0 < dss.length) (h1 : dss.length < 1000) (hp : Pot (b + 1) M) : ∃ j ds M', pickF pn__law_of pk__law_of dss M = .ok (j, ds) M' ∧ dss[j]? = some ds ∧ Pot b M' := by
  obtain ⟨k, M', e, k0, k1, hp'⟩ := e_law_take (u := (dss.length : Int)) (by omega) (by omega) hp
  obtain ⟨j, rfl⟩ : ∃ j : Nat, k = j := ⟨k.toNat, by omega⟩
  have hj : j < dss.length := by omega
  refine ⟨j, dss[j], M', ?_, List.getElem?_eq_getElem hj, hp'⟩
  have ix : L2.ixN dss.length (j : Int) = some j := ixN_nat hj
  have hk : pk__law_of [.pot, .d (.list (dss.map .list))] M = .ok (.int (j : Int)) M' := by
    simp [pk__law_of, e]
  unfold pickF
  show ((pk__law_of [.pot, .d (.list (dss.map .list))] M).nox.bnd _) = _
  rw [hk]
  simp only [nox_ok, bnd_ok, ix, List.getElem?_eq_getElem hj]
theorem tame_ch {r : List Nat} (h : ∀ c ∈ r, c < 1114112) (hl : r.length ≤ 60) : Tame 1 7000 (.list (chD r)) := tame_lst (k := 0) (w := 100) (fun x m => by
  obtain ⟨c, hc, rfl⟩ := List.mem_map.mp m
  exact tame_row (r := [c]) (fun d hd => by rw [List.mem_singleton.mp hd]; exact h c hc) (by simp)) (by omega) (by rw [List.length_map]; omega)
theorem near_if_ok {P : List (List Nat)} {j : Nat} {r : List Nat} {A X Z : SV} (p : Pc w P) (hw0 : 0 < w) (hj : P[j]? = some r) (hp : Pot (b + 2) M) : ∃ (P' : List (List Nat)) (M' : List Int), nearIf (asB (fOp dNe (vV 4) (fz (fLst fNil)))) (fFn F__law_take (agPot 0 (agCons (fCall dLen (fCons (vV 4) fNil)) agNil))) (fFn F__law_of (agPot 0 (agCons (fun _ M => .ok (.str "ABx ") M) agNil))) j (chD r) (P.map chD) [.pot, A, X, Z, .l (chD r)] M = .ok (P'.map chD) M' ∧ Pc w P' ∧ P'.length = P.length ∧ Pot b M' := by
  have m : r ∈ P := List.mem_of_getElem? hj
  obtain ⟨rl, rc⟩ := p.row r m
  have wi := p.wi
  have ne := ne_nil (tame_ch rc (by omega)) (by omega)
  have nn : ¬ (chD r = []) := fun e => by
    have := congrArg List.length e
    rw [List.length_map] at this
    have : r.length = 0 := this
    omega
  rw [decide_eq_false nn] at ne
  obtain ⟨c, M1, e1, hc, h1⟩ := e_signB (M := M) (b := b + 1) hp
  obtain ⟨k, M2, e2, k0, k1, h2⟩ := e_law_take (u := (w : Int)) (b := b) (by omega) (by omega) h1
  obtain ⟨i, rfl⟩ : ∃ i : Nat, k = i := ⟨k.toNat, by omega⟩
  have dl : dLen [.list (chD r)] = some (.int (w : Int)) := by
    show some (PyData.int ((chD r).length : Nat)) = _
    rw [List.length_map, rl]
  have ix : L2.ixN (chD r).length (i : Int) = some i := ixN_nat (by rw [List.length_map]; omega)
  have t : asB (fOp dNe (vV 4) (fz (fLst fNil))) [.pot, A, X, Z, .l (chD r)] M = .ok true M := by
    simp [ne]
  have f1 : fFn F__law_of (agPot 0 (agCons (fun _ M => .ok (.str "ABx ") M) agNil)) [.pot, A, X, Z, .l (chD r)] M = .ok (.str (T [c])) M1 := by
    simp [e1]
  have f2 : fFn F__law_take (agPot 0 (agCons (fCall dLen (fCons (vV 4) fNil)) agNil)) [.pot, A, X, Z, .l (chD r)] M1 = .ok (.int (i : Int)) M2 := by
    simp [-dLen_lst, dl, e2]
  refine ⟨P.set j (r.set i c), M2, ?_, ⟨fun e => ?_, by rw [List.length_set]; exact p.hi, wi, fun x mx => ?_⟩, List.length_set, h2⟩
  · unfold nearIf
    rw [t]
    simp only [nox_ok, bnd_ok, if_true]
    rw [f1]
    simp only [nox_ok, bnd_ok]
    rw [f2]
    simp only [nox_ok, bnd_ok, ix]
    have z : (chD r).set i (.str (T [c])) = chD (r.set i c) := (List.map_set).symm
    rw [z, List.map_set]
  · have := congrArg List.length e
    rw [List.length_set] at this
    exact p.ne (List.eq_nil_of_length_eq_zero (by simpa using this))
  · rcases List.mem_or_eq_of_mem_set mx with mx | rfl
    · exact p.row x mx
    · refine ⟨by rw [List.length_set]; exact rl, fun d hd => ?_⟩
      rcases List.mem_or_eq_of_mem_set hd with hd | rfl
      · exact rc d hd
      · omega
theorem near_loop {A : SV} (hw0 : 0 < w) : ∀ (n k : Nat) (P : List (List Nat)) (M : List Int) (Y : SV), Pc w P → Pot (3 * n + b) M → ∃ (P' : List (List Nat)) (M' : List Int) (Y' : SV), nearGo pn__law_of 0 3 4 pk__law_of (asB (fOp dNe (vV 4) (fz (fLst fNil)))) (fFn F__law_take (agPot 0 (agCons (fCall dLen (fCons (vV 4) fNil)) agNil))) (fFn F__law_of (agPot 0 (agCons (fun _ M => .ok (.str "ABx ") M) agNil))) ((List.range' k n).map fun j => PyData.int (j : Nat)) [.pot, A, .un, Y, .un] (P.map chD) M = .ok ([.pot, A, .un, Y', .un], P'.map chD) M' ∧ Pc w P' ∧ P'.length = P.length ∧ Pot b M'
  | 0, k, P, M, Y, p, h => ⟨P, M, Y, rfl, p, rfl, by simpa using h⟩
  | n + 1, k, P, M, Y, p, h => by
    have hi := p.hi
    have pl : 0 < P.length := List.length_pos_iff.mpr p.ne
    obtain ⟨j, ds, M1, e1, g1, h1⟩ := pick_ok (dss := P.map chD) (M := M) (b := 3 * n + b + 2) (by simpa using pl) (by simp; omega) (by rw [show 3 * n + b + 2 + 1 = 3 * (n + 1) + b from by omega]; exact h)
    rw [List.getElem?_map] at g1
    cases hj : P[j]? with
    | none => rw [hj] at g1; cases g1
    | some r =>
      rw [hj] at g1; cases g1
      obtain ⟨P1, M2, e2, p1, l1, h2⟩ := near_if_ok (A := A) (X := .un) (Z := .d (.int (k : Nat))) p hw0 hj h1
      obtain ⟨P', M', Y', e, p', l', h'⟩ := near_loop (A := A) hw0 n (k + 1) P1 M2 (.d (.int (k : Nat))) p1 h2
      refine ⟨P', M', Y', ?_, p', by omega, h'⟩
      rw [List.range'_succ, List.map_cons]
      unfold nearGo
      show ((pickF pn__law_of pk__law_of (P.map chD) M).bnd _) = _
      rw [e1]
      show ((nearIf _ _ _ j (chD r) (P.map chD) [.pot, A, .un, .d (.int (k : Nat)), .l (chD r)] M1).bnd _) = _
      rw [e2]
      exact e
theorem lcN_rows {ρ : Rho} (hρ : 4 < ρ.length) : ∀ (P : List (List Nat)), (∀ r ∈ P, r.length ≤ 60) → lcGoN (pName 4) (fCall lList (fCons (vV 4) fNil)) ρ (P.map rowD) M = .ok (P.map chD) M
  | [], _ => rfl
  | r :: P, hr => by
    have ih := lcN_rows hρ P fun r' m => hr r' (List.mem_cons_of_mem _ m)
    have h0 := hr r List.mem_cons_self
    rw [List.map_cons]
    unfold lcGoN
    have g : (ρ.set 4 (.d (rowD r)))[4]? = some (.d (rowD r)) := List.getElem?_set_self hρ
    have l : lList [rowD r] = some (chD r) := if_pos (by rw [T_length]; omega)
    simp [g, l, ih]
theorem e_near {P : List (List Nat)} (p : Pc w P) (hw0 : 0 < w) (hp : Pot (30 + b) M) : ∃ (P' : List (List Nat)) (M' : List Int), F__law_near [.pot, .d (picD P)] M = .ok (picD P') M' ∧ Pc w P' ∧ P'.length = P.length ∧ Pot b M' := by
  have hi := p.hi
  obtain ⟨k, M1, e1, k0, k1, h1⟩ := e_law_take (u := 9) (M := M) (b := 29 + b) (by omega) (by omega) (by rw [show 29 + b + 1 = 30 + b from by omega]; exact hp)
  obtain ⟨n, rfl⟩ : ∃ n : Nat, k = n := ⟨k.toNat, by omega⟩
  have hr : rng1 [.int (n : Int)] M1 = .ok ((List.range n).map fun f : Nat => PyData.int (f : Nat)) M1 := by
    rw [rng1_int (by omega) (by omega), rgItems_map, Int.toNat_natCast]
  obtain ⟨P', M', Y', e, p', l', h'⟩ := near_loop (A := .d (picD P)) (b := b) hw0 n 0 P M1 .un p (h1.le (by omega))
  refine ⟨P', M', ?_, p', l', h'⟩
  have wi := p.wi
  have lc := lc_all (g := pName 4) (fe := fJoin (fun _ M => .ok (.str "") M) (vV 4)) (ρ := [.pot, .d (picD P), .d (.list (P'.map fun r => .list (chD r))), Y', .un]) (fun r : List Nat => PyData.list (chD r)) rowD P' (fun r m => ⟨_, rfl, fun M => by
    have j := dJoin_ch (r := r) (by have := (p'.row r m).1; omega)
    simp only [e_fJoin, e_vV]
    simp [j]⟩) M'
  have fin : (sRet (fCall dTuple (fCons (fz (fLc [4] (pName 4) fYes (fJoin (fun _ M => .ok (.str "") M) (vV 4)) (fItems (vV 2)))) fNil))) [.pot, .d (picD P), .d (.list (P'.map fun r => .list (chD r))), Y', .un] M' = .ret (picD P') M' := by
    have wz : wipeR ([.pot, .d (picD P), .d (.list (P'.map fun r => .list (chD r))), Y', .un] : Rho) [4] = [.pot, .d (picD P), .d (.list (P'.map fun r => .list (chD r))), Y', .un] := rfl
    simp only [e_sRet, e_fCall, e_fCons, e_fz, e_fLc, e_fItems, e_fNil, e_vV, wz]
    simp [lcRun_le (xs := P'.map fun r => PyData.list (chD r)) (by simp; omega), lc]
  unfold F__law_near
  rw [e_bodyF, if_pos (by rfl)]
  show (f__law_near [.pot, .d (picD P), .un, .un, .un] M).rs = _
  unfold f__law_near sNear
  have a1 : fLcN [4] (pName 4) (fCall lList (fCons (vV 4) fNil)) (fItems (vV 1)) [.pot, .d (picD P), .un, .un, .un] M = .ok (P.map chD) M := by
    unfold fLcN
    have : fItems (vV 1) [.pot, .d (picD P), .un, .un, .un] M = .ok (P.map rowD) M := by simp
    rw [this]
    show (if _ then _ else _) = _
    rw [if_pos (by simp; omega)]
    exact lcN_rows (by simp [wipeR]) P fun r m => by have := (p.row r m).1; omega
  rw [a1]
  rw [out_ok, if_pos ⟨rfl, Nat.lt_of_sub_eq_succ rfl, Nat.lt_of_sub_eq_succ rfl⟩]
  have a2 : fRng1 (fCons (fFn F__law_take (agPot 0 (agCons (fun _ M => .ok (.int 9) M) agNil))) fNil) [.pot, .d (picD P), .un, .un, .un] M = .ok ((List.range n).map fun f : Nat => PyData.int (f : Nat)) M1 := by
    simp [e1, hr]
  show ((fRng1 _ [.pot, .d (picD P), .un, .un, .un] M).out _ : Out).rs = _
  rw [a2]
  show ((nearGo _ _ _ _ _ _ _ _ _ [.pot, .d (picD P), .un, .un, .un] _ _).out _ : Out).rs = _
  rw [List.range_eq_range', e]
  show (sRet _ [.pot, .d (picD P), .d (.list ((P'.map chD).map .list)), Y', .un] M' : Out).rs = _
  rw [show (P'.map chD).map PyData.list = P'.map fun r => .list (chD r) from by rw [List.map_map]; rfl, fin]
  rfl
end
end K

set_option Elab.async false
set_option linter.all false
set_option maxRecDepth 100000
set_option maxHeartbeats 1000000
namespace K
open PySem RL K98
section
variable {M : List Int} {w v b : Nat} {P Q : List (List Nat)}
/-! ### _law_some -/
theorem map_erase {γ δ : Type} (f : γ → δ) : ∀ (l : List γ) (j : Nat), (l.map f).eraseIdx j = (l.eraseIdx j).map f
  | [], _ => rfl
  | _ :: _, 0 => rfl
  | x :: l, j + 1 => by
    show f x :: (l.map f).eraseIdx j = f x :: (l.eraseIdx j).map f
    rw [map_erase f l j]
theorem some_loop {A B : SV} : ∀ (n k : Nat) (left found : List Sk) (M : List Int) (Y : SV), left.length = n → left.length + found.length ≤ 100000 → Pot (n + b) M → ∃ (found' : List Sk) (M' : List Int) (Y' : SV), forGo (pName 3) s__law_some_1_b ((List.range' k n).map fun j => PyData.int (j : Nat)) [.pot, A, B, Y, .l (left.map stD), .l (found.map stD)] M = .nx [.pot, A, B, Y', .l [], .l (found'.map stD)] M' ∧ found'.length = found.length + n ∧ (∀ s ∈ found', s ∈ found ∨ s ∈ left) ∧ Pot b M'
  | 0, k, left, found, M, Y, hn, hl, h => by
    have : left = [] := List.eq_nil_of_length_eq_zero hn
    subst this
    exact ⟨found, M, Y, rfl, rfl, fun s m => .inl m, by simpa using h⟩
  | n + 1, k, left, found, M, Y, hn, hl, h => by
    obtain ⟨i, M1, e1, i0, i1, h1⟩ := e_law_take (u := (left.length : Int)) (b := n + b) (by omega) (by omega) (by rw [show n + b + 1 = n + 1 + b from by omega]; exact h)
    obtain ⟨j, rfl⟩ : ∃ j : Nat, i = j := ⟨i.toNat, by omega⟩
    have hj : j < left.length := by omega
    obtain ⟨found', M', Y', e, l2, m2, h2⟩ := some_loop (A := A) (B := B) n (k + 1) (left.eraseIdx j) (found ++ [left[j]]) M1 (.d (.int (k : Nat))) (by rw [List.length_eraseIdx_of_lt hj]; omega) (by rw [List.length_eraseIdx_of_lt hj, List.length_append, List.length_singleton]; omega) h1
    refine ⟨found', M', Y', ?_, by rw [l2, List.length_append, List.length_singleton]; omega, fun s m => ?_, h2⟩
    · have gj : (left.map stD)[j]? = some (stD left[j]) := by rw [List.getElem?_map, List.getElem?_eq_getElem hj]; rfl
      have er : (left.map stD).eraseIdx j = (left.eraseIdx j).map stD := map_erase _ _ _
      have b1 : s__law_some_1_b [.pot, A, B, .d (.int (k : Nat)), .l (left.map stD), .l (found.map stD)] M = .nx [.pot, A, B, .d (.int (k : Nat)), .l ((left.eraseIdx j).map stD), .l ((found ++ [left[j]]).map stD)] M1 := by
        have dl : dLen [.list (left.map stD)] = some (.int left.length) := by simp
        have f1 : fFn F__law_take (agPot 0 (agCons (fCall dLen (fCons (vV 4) fNil)) agNil)) [.pot, A, B, .d (.int (k : Nat)), .l (left.map stD), .l (found.map stD)] M = .ok (.int (j : Int)) M1 := by
          simp [-dLen_lst, dl, e1]
        unfold s__law_some_1_b
        rw [e_sAppPop]
        show (((fFn F__law_take _ _ M).out _ : Out)) = _
        rw [f1, out_ok]
        show (if _ then _ else _ : Out) = _
        rw [if_pos ⟨by omega, by rw [List.length_map]; omega, by rw [List.length_map]; omega, by decide⟩, Int.toNat_natCast, gj]
        dsimp only
        rw [er, List.map_append]
        rfl
      rw [List.range'_succ, List.map_cons, e_for1, ← e]
      simp only [e_pName]
      rw [show (([.pot, A, B, Y, .l (left.map stD), .l (found.map stD)] : Rho).set 3 (.d (.int (k : Nat)))) = [.pot, A, B, .d (.int (k : Nat)), .l (left.map stD), .l (found.map stD)] from rfl, b1, turn_nx]
    · rcases m2 s m with m | m
      · rcases List.mem_append.mp m with m | m
        · exact .inl m
        · rw [List.mem_singleton.mp m]; exact .inr (List.getElem_mem hj)
      · exact .inr (List.mem_of_mem_eraseIdx m)
theorem e_some {l : List Sk} (hl : l.length ≤ 3000) (hp : Pot (l.length + b) M) : ∃ (l' : List Sk) (M' : List Int), F__law_some [.pot, .d (.list (l.map stD)), .d (.int (l.length : Nat))] M = .ok (.list (l'.map stD)) M' ∧ l'.length = l.length ∧ (∀ s ∈ l', s ∈ l) ∧ Pot b M' := by
  obtain ⟨l', M', Y, e, ll, lm, hp'⟩ := some_loop (A := .d (.list (l.map stD))) (B := .d (.int (l.length : Nat))) l.length 0 l [] M .un rfl (by simp; omega) hp
  refine ⟨l', M', ?_, by simpa using ll, fun s m => (lm s m).elim (fun z => by simp at z) id, hp'⟩
  have t0 : s__law_some_0 [.pot, .d (.list (l.map stD)), .d (.int (l.length : Nat)), .un, .un, .un] M = .nx [.pot, .d (.list (l.map stD)), .d (.int (l.length : Nat)), .un, .l (l.map stD), .l []] M := by
    simp [s__law_some_0]
  have t1 : s__law_some_1 [.pot, .d (.list (l.map stD)), .d (.int (l.length : Nat)), .un, .l (l.map stD), .l []] M = .nx [.pot, .d (.list (l.map stD)), .d (.int (l.length : Nat)), Y, .l [], .l (l'.map stD)] M' := by
    have hr : rng1 [.int (l.length : Int)] M = .ok ((List.range l.length).map fun f : Nat => PyData.int (f : Nat)) M := by
      rw [rng1_int (by omega) (by omega), rgItems_map, Int.toNat_natCast]
    have mm : min (l.length : Int) (l.length : Int) = l.length := by omega
    rw [← List.range_eq_range'] at e
    simp only [s__law_some_1, e_sFor, e_fRng1, e_fCons, e_fCall, e_fNil, e_vV]
    simp [hr, mm]
    exact e
  have z : bodyF 3 6 (sSeq s__law_some_0 (sSeq s__law_some_1 s__law_some_2)) [.pot, .d (.list (l.map stD)), .d (.int (l.length : Nat))] M = .ok (.list (l'.map stD)) M' := by
    rw [e_bodyF, if_pos (by rfl)]
    show (sSeq _ _ [.pot, .d (.list (l.map stD)), .d (.int (l.length : Nat)), .un, .un, .un] M).rs = _
    rw [e_sSeq, t0, seq_nx, e_sSeq, t1, seq_nx]
    simp [s__law_some_2]
  rw [← q__law_some] at z
  exact z
/-! ### _law_lots -/
/-- a stroke that the law may try -/
def Gl (Q : List (List Nat)) (s : Sk) : Prop := Bd s ∧ s.2.2 ≠ [] ∧ s.1 < Q.length
/-- .. and no long one -/
def Gd (Q : List (List Nat)) (s : Sk) : Prop := Bd s ∧ s.2.2 ≠ [] ∧ s.1 < Q.length ∧ s.2.2.length ≤ 99
def gaps : List D := [.int 4, .int 5, .int 5, .int 6]
theorem e_gap (hp : Pot (b + 1) M) : ∃ (g : Int) (M' : List Int), F__law_of [.pot, .d (.list gaps)] M = .ok (.int g) M' ∧ Pot b M' := by
  obtain ⟨k, M', hk, hp', f⟩ := e_law_of (x := .list gaps) (n := 4) rfl (by omega) (by omega) hp
  match k, hk with
  | 0, _ => exact ⟨4, M', f _ rfl, hp'⟩
  | 1, _ => exact ⟨5, M', f _ rfl, hp'⟩
  | 2, _ => exact ⟨5, M', f _ rfl, hp'⟩
  | 3, _ => exact ⟨6, M', f _ rfl, hp'⟩
theorem e_int10 : dPow (.int 10) (.int 6) = some (.int 1000000) := by
  rw [dPow_int ⟨by omega, by decide +kernel⟩]; rfl
variable {O W1 W2 R3 R4 R5 R6 R7 : SV}
/-- one step within a row: cut here, or not -/
theorem in_body {k x c : Nat} {d : Int} {al wh pa : List Sk} {t : List Nat} {CS h : SV} {F4 : SV} (hq : Q[k]? = some t) (hk : k ≤ 90) (ht : t.length ≤ 60) (tc : ∀ c ∈ t, c < 1114112) (hx : x ≤ c) (hc : c < t.length) (hl : pa.length ≤ 5000) (hp : Pot (b + 1) M) :
    ∃ (pa' : List Sk) (B' : List D) (M' : List Int), s__law_lots_1_b_4_b [.pot, O, .d (picD Q), W1, F4, .l (al.map stD), .l (wh.map stD), .l (pa.map stD), .d (.int (k : Nat)), h, CS, .d (.list [.int (x : Nat)]), .d (.int (c : Nat)), .d (.int d), W2, R3, R4] M =
      .nx [.pot, O, .d (picD Q), W1, F4, .l (al.map stD), .l (wh.map stD), .l (pa'.map stD), .d (.int (k : Nat)), h, CS, .d (.list B'), .d (.int (c : Nat)), .d (.int d), W2, R3, R4] M' ∧ pa'.length ≤ pa.length + 1 ∧ (∀ s ∈ pa', s ∈ pa ∨ Gd Q s) ∧ (B' = [.int (x : Nat)] ∨ B' = [.int d]) ∧ Pot b M' := by
  obtain ⟨g, M', e, hp'⟩ := e_gap hp
  have kq : k < Q.length := (List.getElem?_eq_some_iff.mp hq).1
  have iq : dIx (picD Q) (.int (k : Nat)) = some (rowD t) := by
    show L2.atI (Q.map rowD) (k : Int) = _
    rw [atI_n (by simpa using kq), List.getElem?_map, hq]; rfl
  have sl := sl_mid (l := t) (a := x) (b := c + 1) (by omega) (by omega) (by omega)
  rw [show ((c + 1 : Nat) : Int) = (c : Int) + 1 from by omega] at sl
  have gd : Gd Q (k, x, (t.drop x).take (c + 1 - x)) := by
    refine ⟨⟨by dsimp only; omega, by dsimp only; omega, by dsimp only; rw [List.length_take, List.length_drop]; omega, fun z hz => tc z (List.mem_of_mem_drop (List.mem_of_mem_take hz))⟩, fun q => ?_, kq, by dsimp only; rw [List.length_take, List.length_drop]; omega⟩
    have := congrArg List.length q
    dsimp only at this
    rw [List.length_take, List.length_drop, List.length_nil] at this
    omega
  have ft : asB (fOp dGt (fOp dSub (vV 13) (vV 12)) (fFn F__law_of (agPot 0 (agCons (fz (fLst (fCons (fun _ M => .ok (.int 4) M) (fCons (fun _ M => .ok (.int 5) M) (fCons (fun _ M => .ok (.int 5) M) (fCons (fun _ M => .ok (.int 6) M) fNil)))))) agNil)))) [.pot, O, .d (picD Q), W1, F4, .l (al.map stD), .l (wh.map stD), .l (pa.map stD), .d (.int (k : Nat)), h, CS, .d (.list [.int (x : Nat)]), .d (.int (c : Nat)), .d (.int d), W2, R3, R4] M = .ok (decide (d - (c : Int) > g)) M' := by
    have e' : F__law_of [.pot, .d (.list [.int 4, .int 5, .int 5, .int 6])] M = .ok (.int g) M' := e
    simp [e']
  unfold s__law_lots_1_b_4_b
  rw [e_sIf, ft, out_ok]
  by_cases q : d - (c : Int) > g
  · refine ⟨pa ++ [(k, x, (t.drop x).take (c + 1 - x))], [.int d], M', ?_, by simp, fun s m => ?_, .inr rfl, hp'⟩
    · rw [decide_eq_true q, if_pos rfl]
      have t0 : s__law_lots_1_b_4_b_t_0 [.pot, O, .d (picD Q), W1, F4, .l (al.map stD), .l (wh.map stD), .l (pa.map stD), .d (.int (k : Nat)), h, CS, .d (.list [.int (x : Nat)]), .d (.int (c : Nat)), .d (.int d), W2, R3, R4] M' = .nx [.pot, O, .d (picD Q), W1, F4, .l (al.map stD), .l (wh.map stD), .l ((pa ++ [(k, x, (t.drop x).take (c + 1 - x))]).map stD), .d (.int (k : Nat)), h, CS, .d (.list [.int (x : Nat)]), .d (.int (c : Nat)), .d (.int d), W2, R3, R4] M' := by
        simp only [s__law_lots_1_b_4_b_t_0, e_sApp]
        simp [-dIx_tup, iq, sl]
        omega
      unfold s__law_lots_1_b_4_b_t
      rw [e_sSeq, t0, seq_nx]
      simp [s__law_lots_1_b_4_b_t_1]
    · rcases List.mem_append.mp m with m | m
      · exact .inl m
      · rw [List.mem_singleton.mp m]; exact .inr gd
  · exact ⟨pa, [.int (x : Nat)], M', by rw [decide_eq_false q, if_neg (by decide)]; rfl, by omega, fun s m => .inl m, .inl rfl, hp'⟩
theorem in_loop {k : Nat} {al wh : List Sk} {t : List Nat} {CS h F4 : SV} (hq : Q[k]? = some t) (hk : k ≤ 90) (ht : t.length ≤ 60) (tc : ∀ c ∈ t, c < 1114112) : ∀ (cs : List Nat) (x : Nat) (pa : List Sk) (M : List Int) (Y Z : SV), Up cs → (∀ c ∈ cs, x ≤ c ∧ c < t.length) → pa.length + cs.length ≤ 5000 → Pot (cs.length + b) M →
    ∃ (pa' : List Sk) (B' Y' Z' : SV) (M' : List Int), forGo (pTup 2 (pCons (pName 12) (pCons (pName 13) pNil))) s__law_lots_1_b_4_b (zipD (intsN cs) (intsN (cs.drop 1) ++ [.int 1000000])) [.pot, O, .d (picD Q), W1, F4, .l (al.map stD), .l (wh.map stD), .l (pa.map stD), .d (.int (k : Nat)), h, CS, .d (.list [.int (x : Nat)]), Y, Z, W2, R3, R4] M =
      .nx [.pot, O, .d (picD Q), W1, F4, .l (al.map stD), .l (wh.map stD), .l (pa'.map stD), .d (.int (k : Nat)), h, CS, B', Y', Z', W2, R3, R4] M' ∧ pa'.length ≤ pa.length + cs.length ∧ (∀ s ∈ pa', s ∈ pa ∨ Gd Q s) ∧ Pot b M'
  | [], x, pa, M, Y, Z, _, _, _, hp => ⟨pa, _, Y, Z, M, rfl, by simp, fun s m => .inl m, by simpa using hp⟩
  | c :: cs, x, pa, M, Y, Z, up, hc, hl, hp => by
    rw [List.length_cons] at hl hp
    have h0 := hc c List.mem_cons_self
    have zc : ∃ d : Int, zipD (intsN (c :: cs)) (intsN ((c :: cs).drop 1) ++ [.int 1000000]) = .tuple [.int (c : Nat), .int d] :: zipD (intsN cs) (intsN (cs.drop 1) ++ [.int 1000000]) ∧ (cs = [] ∨ ∃ c' cs', cs = c' :: cs' ∧ d = c') := by
      cases cs with
      | nil => exact ⟨1000000, rfl, .inl rfl⟩
      | cons c' cs' => exact ⟨c', rfl, .inr ⟨c', cs', rfl, rfl⟩⟩
    obtain ⟨d, zc, hd⟩ := zc
    obtain ⟨pa1, B1, M1, e1, l1, m1, b1, h1⟩ := in_body (O := O) (W1 := W1) (W2 := W2) (R3 := R3) (R4 := R4) (al := al) (wh := wh) (pa := pa) (CS := CS) (h := h) (F4 := F4) (d := d) hq hk ht tc h0.1 h0.2 (by omega) (M := M) (b := cs.length + b) (by rw [show cs.length + b + 1 = cs.length + 1 + b from by omega]; exact hp)
    have pt : pTup 2 (pCons (pName 12) (pCons (pName 13) pNil)) (.tuple [.int (c : Nat), .int d]) [.pot, O, .d (picD Q), W1, F4, .l (al.map stD), .l (wh.map stD), .l (pa.map stD), .d (.int (k : Nat)), h, CS, .d (.list [.int (x : Nat)]), Y, Z, W2, R3, R4] =
      some [.pot, O, .d (picD Q), W1, F4, .l (al.map stD), .l (wh.map stD), .l (pa.map stD), .d (.int (k : Nat)), h, CS, .d (.list [.int (x : Nat)]), .d (.int (c : Nat)), .d (.int d), W2, R3, R4] := rfl
    rcases hd with rfl | ⟨c', cs', rfl, rfl⟩
    · refine ⟨pa1, .d (.list B1), .d (.int (c : Nat)), .d (.int d), M1, ?_, by simp; omega, m1, by simpa using h1⟩
      rw [zc, e_for1, pt]
      dsimp only
      rw [e1, turn_nx]
      rfl
    · obtain ⟨x', hx', hb⟩ : ∃ x' : Nat, (∀ d ∈ c' :: cs', x' ≤ d) ∧ B1 = [.int (x' : Nat)] := by
        rcases b1 with rfl | rfl
        · exact ⟨x, fun d m => (hc d (List.mem_cons_of_mem _ m)).1, rfl⟩
        · refine ⟨c', fun d m => ?_, rfl⟩
          rcases List.mem_cons.mp m with rfl | m
          · omega
          · exact Nat.le_of_lt (up.2.1 d m)
      subst hb
      obtain ⟨pa2, B2, Y2, Z2, M2, e2, l2, m2, h2⟩ := in_loop (al := al) (wh := wh) (CS := CS) (h := h) (F4 := F4) hq hk ht tc (c' :: cs') x' pa1 M1 (.d (.int (c : Nat))) (.d (.int (c' : Int))) up.2 (fun d m => ⟨hx' d m, (hc d (List.mem_cons_of_mem _ m)).2⟩) (by omega) h1
      refine ⟨pa2, B2, Y2, Z2, M2, ?_, by rw [List.length_cons]; omega, fun s m => ?_, h2⟩
      · rw [zc, e_for1, pt]
        dsimp only
        rw [e1, turn_nx]
        exact e2
      · rcases m2 s m with m | m
        · exact m1 s m
        · exact .inr m
end
end K

set_option Elab.async false
set_option linter.all false
set_option maxRecDepth 100000
set_option maxHeartbeats 1000000
namespace K
open PySem RL K98
theorem int_id {k : Nat} {ρ : Rho} {M : List Int} {i : Nat} (h : ρ[i]? = some (.d (.int (k : Nat)))) : fCall dInt (fCons (vV i) fNil) ρ M = .ok (.int (k : Nat)) M := by
  simp [h]
section
variable {M : List Int} {w v b : Nat} {P Q : List (List Nat)} {O F3 F4 X10 X11 X12 X13 : SV}
theorem lot_row {k : Nat} {al wh pa : List Sk} {h t : List Nat} (hq : Q[k]? = some t) (hk : k ≤ 90) (hl : h.length = t.length) (ht : t.length ≤ 60) (tc : ∀ c ∈ t, c < 1114112) (l1 : al.length ≤ 4000) (l2 : wh.length ≤ 4000) (l3 : pa.length ≤ 4000) (hp : Pot (60 + b) M) :
    ∃ (al' wh' pa' : List Sk) (Y10 Y11 Y12 Y13 : SV) (M' : List Int), s__law_lots_1_b [.pot, O, .d (picD Q), F3, F4, .l (al.map stD), .l (wh.map stD), .l (pa.map stD), .d (.int (k : Nat)), .d (rowD h), X10, X11, X12, X13, .un, .un, .un] M =
      .nx [.pot, O, .d (picD Q), F3, F4, .l (al'.map stD), .l (wh'.map stD), .l (pa'.map stD), .d (.int (k : Nat)), .d (rowD h), Y10, Y11, Y12, Y13, .un, .un, .un] M' ∧ (al'.length ≤ al.length + 60 ∧ wh'.length ≤ wh.length + 1 ∧ pa'.length ≤ pa.length + 60) ∧ (∀ s ∈ al', s ∈ al ∨ Gd Q s) ∧ (∀ s ∈ wh', s ∈ wh ∨ Gd Q s) ∧ (∀ s ∈ pa', s ∈ pa ∨ Gd Q s) ∧ Pot b M' := by
  have kq : k < Q.length := (List.getElem?_eq_some_iff.mp hq).1
  have iq : dIx (picD Q) (.int (k : Nat)) = some (rowD t) := by
    show L2.atI (Q.map rowD) (k : Int) = _
    rw [atI_n (by simpa using kq), List.getElem?_map, hq]; rfl
  have ch := e_changes (M := M) hl ht
  have cl : (chg 0 h t).length ≤ 60 := by have := chg_len (i := 0) (a := h) (b := t); omega
  have up : Up (chg 0 h t) := chg_up
  have cc : ∀ c ∈ chg 0 h t, c < t.length := fun c m => by have := chg_ge m; omega
  have t0 : s__law_lots_1_b_0 [.pot, O, .d (picD Q), F3, F4, .l (al.map stD), .l (wh.map stD), .l (pa.map stD), .d (.int (k : Nat)), .d (rowD h), X10, X11, X12, X13, .un, .un, .un] M = .nx [.pot, O, .d (picD Q), F3, F4, .l (al.map stD), .l (wh.map stD), .l (pa.map stD), .d (.int (k : Nat)), .d (rowD h), .d (.list (intsN (chg 0 h t))), X11, X12, X13, .un, .un, .un] M := by
    simp [s__law_lots_1_b_0, -dIx_tup, iq, ch]
  generalize chg 0 h t = cs at cl up cc t0
  let al' : List Sk := al ++ cs.map fun c => (k, c, [t.getD c 0])
  have gd1 : ∀ s ∈ al', s ∈ al ∨ Gd Q s := fun s m => by
    rcases List.mem_append.mp m with m | m
    · exact .inl m
    · obtain ⟨c, hc, rfl⟩ := List.mem_map.mp m
      have := cc c hc
      refine .inr ⟨⟨by dsimp only; omega, by dsimp only; omega, by simp, fun z hz => ?_⟩, by simp, kq, by simp⟩
      rw [List.mem_singleton.mp hz]
      exact tc _ (by rw [List.getD_eq_getElem?_getD, List.getElem?_eq_getElem this]; exact List.getElem_mem this)
  have t1 : s__law_lots_1_b_1 [.pot, O, .d (picD Q), F3, F4, .l (al.map stD), .l (wh.map stD), .l (pa.map stD), .d (.int (k : Nat)), .d (rowD h), .d (.list (intsN cs)), X11, X12, X13, .un, .un, .un] M = .nx [.pot, O, .d (picD Q), F3, F4, .l (al'.map stD), .l (wh.map stD), .l (pa.map stD), .d (.int (k : Nat)), .d (rowD h), .d (.list (intsN cs)), X11, X12, X13, .un, .un, .un] M := by
    have lc := lc_all (g := pName 12) (fe := (fTup (fCons (fCall dInt (fCons (vV 8) fNil)) (fCons (vE 12) (fCons (fOp dIx (fOp dIx (vV 2) (vV 8)) (vV 12)) fNil))))) (ρ := [.pot, O, .d (picD Q), F3, F4, .l (al.map stD), .l (wh.map stD), .l (pa.map stD), .d (.int (k : Nat)), .d (rowD h), .d (.list (intsN cs)), X11, .un, X13, .un, .un, .un]) (fun c : Nat => PyData.int (c : Nat)) (fun c => stD (k, c, [t.getD c 0])) cs (fun c m => ⟨_, rfl, fun M => by
      have hc := cc c m
      have ix : dIx (rowD t) (.int (c : Nat)) = some (.str (T [t.getD c 0])) := by
        rw [dIx_T (by omega) hc, List.getD_eq_getElem?_getD, List.getElem?_eq_getElem hc]; rfl
      simp [-dIx_tup, iq, ix, -List.getD_eq_getElem?_getD]⟩) M
    simp only [s__law_lots_1_b_1, e_sExt, e_fz, e_fLc, e_fItems]
    have wz : wipeR ([.pot, O, .d (picD Q), F3, F4, .l (al.map stD), .l (wh.map stD), .l (pa.map stD), .d (.int (k : Nat)), .d (rowD h), .d (.list (intsN cs)), X11, X12, X13, .un, .un, .un] : Rho) [12] = [.pot, O, .d (picD Q), F3, F4, .l (al.map stD), .l (wh.map stD), .l (pa.map stD), .d (.int (k : Nat)), .d (rowD h), .d (.list (intsN cs)), X11, .un, X13, .un, .un, .un] := rfl
    rw [wz]
    simp [lcRun_le (xs := intsN cs) (by simp; omega), lc, -List.getD_eq_getElem?_getD]
    rw [if_pos (by omega)]
    simp [al', -List.getD_eq_getElem?_getD]
  have al2 : al'.length ≤ al.length + 60 := by simp [al']; omega
  generalize al' = al'' at gd1 t1 al2
  have tb : ∃ wh' : List Sk, s__law_lots_1_b_2 [.pot, O, .d (picD Q), F3, F4, .l (al''.map stD), .l (wh.map stD), .l (pa.map stD), .d (.int (k : Nat)), .d (rowD h), .d (.list (intsN cs)), X11, X12, X13, .un, .un, .un] M = .nx [.pot, O, .d (picD Q), F3, F4, .l (al''.map stD), .l (wh'.map stD), .l (pa.map stD), .d (.int (k : Nat)), .d (rowD h), .d (.list (intsN cs)), X11, X12, X13, .un, .un, .un] M ∧ wh'.length ≤ wh.length + 1 ∧ ∀ s ∈ wh', s ∈ wh ∨ Gd Q s := by
    have ne := ne_nil (xs := intsN cs) (k := 1) (w := 7000) (tame_lst (k := 0) (w := 40) (fun x m => by
      obtain ⟨c, hc, rfl⟩ := List.mem_map.mp m
      have := cc c hc
      exact tame_n (by omega)) (by omega) (by rw [List.length_map]; omega)) (by omega)
    cases cs with
    | nil =>
      have ne : dNe (.list []) (.list []) = some (.bool false) := ne
      exact ⟨wh, by simp [s__law_lots_1_b_2, ne], by omega, fun s m => .inl m⟩
    | cons c cs =>
      have ne : dNe (.list (intsN (c :: cs))) (.list []) = some (.bool true) := ne
      obtain ⟨lst, hlast⟩ : ∃ l, (c :: cs).getLast? = some l := by
        cases hq : (c :: cs).getLast? with
        | none => simp at hq
        | some l => exact ⟨l, rfl⟩
      obtain ⟨pre, hpre⟩ : ∃ pre, c :: cs = pre ++ [lst] := by
        rcases List.eq_nil_or_concat (c :: cs) with e | ⟨pre, x, e⟩
        · cases e
        · rw [List.concat_eq_append] at e
          rw [e, List.getLast?_append] at hlast
          simp at hlast
          subst hlast
          exact ⟨pre, e⟩
      have il : L2.atI (intsN (c :: cs)) (-1) = some (.int (lst : Nat)) := by
        rw [hpre]
        unfold intsN
        rw [List.map_append]
        exact atI_last
      have lm : lst ∈ c :: cs := List.mem_of_getLast? hlast
      have ll := cc lst lm
      have cle : c ≤ lst := by
        rcases List.mem_cons.mp lm with rfl | lm
        · omega
        · exact Nat.le_of_lt (up.1 lst lm)
      have sl := sl_mid (l := t) (a := c) (b := lst + 1) (by omega) (by omega) (by omega)
      rw [show ((lst + 1 : Nat) : Int) = (lst : Int) + 1 from by omega] at sl
      refine ⟨wh ++ [(k, c, (t.drop c).take (lst + 1 - c))], ?_, by simp, fun s m => ?_⟩
      · have tt : s__law_lots_1_b_2_t [.pot, O, .d (picD Q), F3, F4, .l (al''.map stD), .l (wh.map stD), .l (pa.map stD), .d (.int (k : Nat)), .d (rowD h), .d (.list (intsN (c :: cs))), X11, X12, X13, .un, .un, .un] M = .nx [.pot, O, .d (picD Q), F3, F4, .l (al''.map stD), .l ((wh ++ [(k, c, (t.drop c).take (lst + 1 - c))]).map stD), .l (pa.map stD), .d (.int (k : Nat)), .d (rowD h), .d (.list (intsN (c :: cs))), X11, X12, X13, .un, .un, .un] M := by
          have i0 : dIx (.list (intsN (c :: cs))) (.int 0) = some (.int (c : Nat)) := by
            show L2.atI (.int (c : Nat) :: intsN cs) 0 = _
            exact atI_0
          have i1 : dIx (.list (intsN (c :: cs))) (.int (-1)) = some (.int (lst : Nat)) := il
          simp only [s__law_lots_1_b_2_t, e_sApp]
          generalize intsN (c :: cs) = CS at i0 i1
          simp [-dIx_tup, -dIx_lst, iq, i0, i1, sl]
          omega
        simp only [s__law_lots_1_b_2, e_sIf, e_asB, e_fOp, e_vV, e_fz, e_fLst, e_fNil]
        generalize intsN (c :: cs) = CS at ne tt
        simp [ne, tt]
      · rcases List.mem_append.mp m with m | m
        · exact .inl m
        · rw [List.mem_singleton.mp m]
          refine .inr ⟨⟨by dsimp only; omega, by dsimp only; omega, by dsimp only; rw [List.length_take, List.length_drop]; omega, fun z hz => tc z (List.mem_of_mem_drop (List.mem_of_mem_take hz))⟩, fun q => ?_, kq, by dsimp only; rw [List.length_take, List.length_drop]; omega⟩
          have := congrArg List.length q
          dsimp only at this
          rw [List.length_take, List.length_drop, List.length_nil] at this
          omega
  obtain ⟨wh', t2, wl, wg⟩ := tb
  have t3 : s__law_lots_1_b_3 [.pot, O, .d (picD Q), F3, F4, .l (al''.map stD), .l (wh'.map stD), .l (pa.map stD), .d (.int (k : Nat)), .d (rowD h), .d (.list (intsN cs)), X11, X12, X13, .un, .un, .un] M = .nx [.pot, O, .d (picD Q), F3, F4, .l (al''.map stD), .l (wh'.map stD), .l (pa.map stD), .d (.int (k : Nat)), .d (rowD h), .d (.list (intsN cs)), .d (.list ((intsN cs).take 1)), X12, X13, .un, .un, .un] M := by
    have := lsl_to (l := intsN cs) (b := 1)
    have := this
    simp only [s__law_lots_1_b_3]
    simp
    exact this.trans (by simp)
  have t4 : s__law_lots_1_b_4 [.pot, O, .d (picD Q), F3, F4, .l (al''.map stD), .l (wh'.map stD), .l (pa.map stD), .d (.int (k : Nat)), .d (rowD h), .d (.list (intsN cs)), .d (.list ((intsN cs).take 1)), X12, X13, .un, .un, .un] M =
      forGo (pTup 2 (pCons (pName 12) (pCons (pName 13) pNil))) s__law_lots_1_b_4_b (zipD (intsN cs) (intsN (cs.drop 1) ++ [.int 1000000])) [.pot, O, .d (picD Q), F3, F4, .l (al''.map stD), .l (wh'.map stD), .l (pa.map stD), .d (.int (k : Nat)), .d (rowD h), .d (.list (intsN cs)), .d (.list ((intsN cs).take 1)), X12, X13, .un, .un, .un] M := by
    have c1 : cutD (intsN cs) (some (1 : Int)) none = intsN (cs.drop 1) := by
      have := lsl_from (l := intsN cs) (a := 1)
      refine Eq.trans this ?_
      unfold intsN
      rw [List.map_drop]
    have ad : dAdd (.list (intsN (cs.drop 1))) (.list [.int 1000000]) = some (.list (intsN (cs.drop 1) ++ [.int 1000000])) := dAdd_lst (by simp; omega)
    simp only [s__law_lots_1_b_4, e_sFor, e_fZip, e_fCons, e_fOp, e_fSl, e_fNo, e_fPt, e_fz, e_fLst, e_fNil, e_vV, e_vE]
    generalize hI : intsN cs = I at c1
    generalize intsN (cs.drop 1) = J at c1 ad
    simp [c1, ad, e_int10]
  have tin : ∃ (pa' : List Sk) (B' Y' Z' : SV) (M' : List Int), forGo (pTup 2 (pCons (pName 12) (pCons (pName 13) pNil))) s__law_lots_1_b_4_b (zipD (intsN cs) (intsN (cs.drop 1) ++ [.int 1000000])) [.pot, O, .d (picD Q), F3, F4, .l (al''.map stD), .l (wh'.map stD), .l (pa.map stD), .d (.int (k : Nat)), .d (rowD h), .d (.list (intsN cs)), .d (.list ((intsN cs).take 1)), X12, X13, .un, .un, .un] M =
      .nx [.pot, O, .d (picD Q), F3, F4, .l (al''.map stD), .l (wh'.map stD), .l (pa'.map stD), .d (.int (k : Nat)), .d (rowD h), .d (.list (intsN cs)), B', Y', Z', .un, .un, .un] M' ∧ pa'.length ≤ pa.length + cs.length ∧ (∀ s ∈ pa', s ∈ pa ∨ Gd Q s) ∧ Pot b M' := by
    cases cs with
    | nil => exact ⟨pa, _, _, _, M, rfl, by simp, fun s m => .inl m, hp.le (by omega)⟩
    | cons c cs =>
      obtain ⟨pa', B', Y', Z', M', e, l, m, h'⟩ := in_loop (O := O) (W1 := F3) (W2 := .un) (R3 := .un) (R4 := .un) (b := b) (al := al'') (wh := wh') (CS := .d (.list (intsN (c :: cs)))) (h := .d (rowD h)) (F4 := F4) hq hk ht tc (c :: cs) c pa M X12 X13 up (fun d m => ⟨by
        rcases List.mem_cons.mp m with rfl | m
        · omega
        · exact Nat.le_of_lt (up.1 d m), cc d m⟩) (by omega) (hp.le (by omega))
      exact ⟨pa', B', Y', Z', M', e, l, m, h'⟩
  obtain ⟨pa', B', Y', Z', M', e, pl, pg, h'⟩ := tin
  refine ⟨al'', wh', pa', .d (.list (intsN cs)), B', Y', Z', M', ?_, ⟨al2, wl, by omega⟩, gd1, wg, pg, h'⟩
  unfold s__law_lots_1_b
  rw [e_sSeq, t0, seq_nx, e_sSeq, t1, seq_nx, e_sSeq, t2, seq_nx, e_sSeq, t3, seq_nx, t4, e]
theorem lot_loop : ∀ (R : List (List Nat)) (k : Nat) (al wh pa : List Sk) (M : List Int) (X8 X9 X10 X11 X12 X13 : SV), k + R.length = Q.length → Q.length ≤ 20 → w ≤ 60 → (∀ r ∈ R, r.length = w) → (∀ r ∈ Q, r.length = w ∧ ∀ c ∈ r, c < 1114112) →
    al.length ≤ 60 * k → wh.length ≤ k → pa.length ≤ 60 * k → (∀ s ∈ al, Gd Q s) → (∀ s ∈ wh, Gd Q s) → (∀ s ∈ pa, Gd Q s) → Pot (60 * R.length + b) M →
    ∃ (al' wh' pa' : List Sk) (Y8 Y9 Y10 Y11 Y12 Y13 : SV) (M' : List Int), forGo (pTup 2 (pCons (pName 8) (pCons (pName 9) pNil))) s__law_lots_1_b (numD k (R.map rowD)) [.pot, O, .d (picD Q), F3, F4, .l (al.map stD), .l (wh.map stD), .l (pa.map stD), X8, X9, X10, X11, X12, X13, .un, .un, .un] M =
      .nx [.pot, O, .d (picD Q), F3, F4, .l (al'.map stD), .l (wh'.map stD), .l (pa'.map stD), Y8, Y9, Y10, Y11, Y12, Y13, .un, .un, .un] M' ∧ (al'.length ≤ 60 * Q.length ∧ wh'.length ≤ Q.length ∧ pa'.length ≤ 60 * Q.length) ∧ (∀ s ∈ al', Gd Q s) ∧ (∀ s ∈ wh', Gd Q s) ∧ (∀ s ∈ pa', Gd Q s) ∧ Pot b M'
  | [], k, al, wh, pa, M, X8, X9, X10, X11, X12, X13, hk, _, _, _, _, a1, a2, a3, g1, g2, g3, hp => ⟨al, wh, pa, X8, X9, X10, X11, X12, X13, M, rfl, by simp at hk; subst hk; exact ⟨a1, a2, a3⟩, g1, g2, g3, by simpa using hp⟩
  | h :: R, k, al, wh, pa, M, X8, X9, X10, X11, X12, X13, hk, hQ, hw, hr, hq, a1, a2, a3, g1, g2, g3, hp => by
    rw [List.length_cons] at hk hp
    have kq : k < Q.length := by omega
    have hh := hr h List.mem_cons_self
    have hm : Q[k] ∈ Q := List.getElem_mem kq
    obtain ⟨al1, wh1, pa1, Y10, Y11, Y12, Y13, M1, e1, ⟨b1, b2, b3⟩, c1, c2, c3, h1⟩ := lot_row (O := O) (F3 := F3) (F4 := F4) (X10 := X10) (X11 := X11) (X12 := X12) (X13 := X13) (k := k) (al := al) (wh := wh) (pa := pa) (h := h) (t := Q[k]) (M := M) (b := 60 * R.length + b) (List.getElem?_eq_getElem kq) (by omega) (by rw [hh, (hq _ hm).1]) (by rw [(hq _ hm).1]; exact hw) (hq _ hm).2 (by omega) (by omega) (by omega) (hp.le (by omega))
    obtain ⟨al', wh', pa', Z8, Z9, Z10, Z11, Z12, Z13, M', e, d1, d2, d3, d4, h2⟩ := lot_loop R (k + 1) al1 wh1 pa1 M1 (.d (.int (k : Nat))) (.d (rowD h)) Y10 Y11 Y12 Y13 (by omega) hQ hw (fun r m => hr r (List.mem_cons_of_mem _ m)) hq (by omega) (by omega) (by omega) (fun s m => (c1 s m).elim (g1 s) id) (fun s m => (c2 s m).elim (g2 s) id) (fun s m => (c3 s m).elim (g3 s) id) h1
    refine ⟨al', wh', pa', Z8, Z9, Z10, Z11, Z12, Z13, M', ?_, d1, d2, d3, d4, h2⟩
    rw [List.map_cons, numD, e_for1, ← e]
    have pt : pTup 2 (pCons (pName 8) (pCons (pName 9) pNil)) (.tuple [.int (k : Nat), rowD h]) [.pot, O, .d (picD Q), F3, F4, .l (al.map stD), .l (wh.map stD), .l (pa.map stD), X8, X9, X10, X11, X12, X13, .un, .un, .un] =
      some [.pot, O, .d (picD Q), F3, F4, .l (al.map stD), .l (wh.map stD), .l (pa.map stD), .d (.int (k : Nat)), .d (rowD h), X10, X11, X12, X13, .un, .un, .un] := rfl
    rw [pt]
    dsimp only
    rw [e1, turn_nx]
end
end K

set_option Elab.async false
set_option linter.all false
set_option maxRecDepth 100000
set_option maxHeartbeats 1000000
namespace K
open PySem RL K98
theorem sx_T : Str.ofString "x" = T [120] := by decide +kernel
abbrev lotD (l : List Sk) : D := .tuple (l.map stD)
section
variable {M : List Int} {w v b : Nat} {P Q : List (List Nat)}
theorem e_lots (p : Pc v P) (q : Pc w Q) (hw0 : 0 < w) (hp : Pot (8200 + b) M) : ∃ (lots : List (List Sk)) (M' : List Int), F__law_lots [.pot, .d (picD P), .d (picD Q)] M = .ok (.list (lots.map lotD)) M' ∧ lots.length ≤ 5 ∧ (∀ l ∈ lots, (∀ s ∈ l, Gl Q s) ∧ l.length ≤ 1300) ∧ Pot b M' := by
  obtain ⟨r0, i0, d1, r0l, r0m, _⟩ := head0 q
  have hi := q.hi
  have wi := q.wi
  have q0 : 0 < Q.length := List.length_pos_iff.mpr q.ne
  have d2 : dLen [picD Q] = some (.int Q.length) := by simp
  have f := e_lframed (M := M) (h := Q.length) (w := w) p (by omega) wi
  generalize hO : picD P = OP at *
  obtain ⟨al, wh, pa, Y8, Y9, Y10, Y11, Y12, Y13, M1, e1, ⟨a1, a2, a3⟩, g1, g2, g3, h1⟩ := lot_loop (O := .d OP) (F3 := .un) (F4 := .d (picD (fr Q.length w P))) (b := 7000 + b) (fr Q.length w P) 0 [] [] [] M .un .un .un .un .un .un (by rw [fr_len]; omega) hi wi (fun r m => (fr_row p r m).1) q.row (by simp) (by simp) (by simp) (fun s m => by simp at m) (fun s m => by simp at m) (fun s m => by simp at m) (hp.le (by rw [fr_len]; omega))
  have t0 : s__law_lots_0 [.pot, .d OP, .d (picD Q), .un, .un, .un, .un, .un, .un, .un, .un, .un, .un, .un, .un, .un, .un] M = .nx [.pot, .d OP, .d (picD Q), .un, .d (picD (fr Q.length w P)), .l [], .l [], .l [], .un, .un, .un, .un, .un, .un, .un, .un, .un] M := by
    simp [s__law_lots_0, -dLen_tup, -dIx_tup, d1, d2, i0, f]
  have t1 : s__law_lots_1 [.pot, .d OP, .d (picD Q), .un, .d (picD (fr Q.length w P)), .l [], .l [], .l [], .un, .un, .un, .un, .un, .un, .un, .un, .un] M = .nx [.pot, .d OP, .d (picD Q), .un, .d (picD (fr Q.length w P)), .l (al.map stD), .l (wh.map stD), .l (pa.map stD), Y8, Y9, Y10, Y11, Y12, Y13, .un, .un, .un] M1 := by
    rw [← e1]
    simp [s__law_lots_1]
  have t2 : s__law_lots_2 [.pot, .d OP, .d (picD Q), .un, .d (picD (fr Q.length w P)), .l (al.map stD), .l (wh.map stD), .l (pa.map stD), Y8, Y9, Y10, Y11, Y12, Y13, .un, .un, .un] M1 = .nx [.pot, .d OP, .d (picD Q), .l [.list (al.map stD), .list (wh.map stD), .list (pa.map stD)], .d (picD (fr Q.length w P)), .d (.list (al.map stD)), .d (.list (wh.map stD)), .d (.list (pa.map stD)), Y8, Y9, Y10, Y11, Y12, Y13, .un, .un, .un] M1 := by
    simp [s__law_lots_2, s__law_lots_2_z, s__law_lots_2_z_z, s__law_lots_2_z_z_z]
  let p2 : List Sk := pa ++ [(0, 0, r0.take 1)]
  have t3 : s__law_lots_3 [.pot, .d OP, .d (picD Q), .l [.list (al.map stD), .list (wh.map stD), .list (pa.map stD)], .d (picD (fr Q.length w P)), .d (.list (al.map stD)), .d (.list (wh.map stD)), .d (.list (pa.map stD)), Y8, Y9, Y10, Y11, Y12, Y13, .un, .un, .un] M1 = .nx [.pot, .d OP, .d (picD Q), .l [.list (al.map stD), .list (wh.map stD), .list (pa.map stD), .list (p2.map stD)], .d (picD (fr Q.length w P)), .d (.list (al.map stD)), .d (.list (wh.map stD)), .d (.list (pa.map stD)), Y8, Y9, Y10, Y11, Y12, Y13, .un, .un, .un] M1 := by
    have sl := sl_to (l := r0) (b := 1) (by omega)
    have ad : dAdd (.list (pa.map stD)) (.list [stD (0, 0, r0.take 1)]) = some (.list (p2.map stD)) := by
      rw [dAdd_lst (by simp; omega)]
      simp [p2]
    have tt : s__law_lots_3_t [.pot, .d OP, .d (picD Q), .l [.list (al.map stD), .list (wh.map stD), .list (pa.map stD)], .d (picD (fr Q.length w P)), .d (.list (al.map stD)), .d (.list (wh.map stD)), .d (.list (pa.map stD)), Y8, Y9, Y10, Y11, Y12, Y13, .un, .un, .un] M1 = .nx [.pot, .d OP, .d (picD Q), .l [.list (al.map stD), .list (wh.map stD), .list (pa.map stD), .list (p2.map stD)], .d (picD (fr Q.length w P)), .d (.list (al.map stD)), .d (.list (wh.map stD)), .d (.list (pa.map stD)), Y8, Y9, Y10, Y11, Y12, Y13, .un, .un, .un] M1 := by
      have sl' : dSl (rowD r0) none (some 1) = some (rowD (r0.take 1)) := sl
      have ad' : dAdd (.list (pa.map stD)) (.list [.tuple [.int 0, .int 0, rowD (r0.take 1)]]) = some (.list (p2.map stD)) := ad
      simp only [s__law_lots_3_t, e_sApp]
      generalize pa.map stD = PA at ad'
      simp [-dIx_tup, i0, sl', ad']
    have gt : decide ((w : Int) > 0) = true := decide_eq_true (by omega)
    simp only [s__law_lots_3, e_sIf, e_asB, e_fOp, e_fCall, e_fCons, e_fNil, e_vV]
    simp [-dIx_tup, i0, d1, tt, hw0]
  let p3 : List Sk := pa.map fun s => (s.1, s.2.1, s.2.2 ++ [120])
  have t4 : s__law_lots_4 [.pot, .d OP, .d (picD Q), .l [.list (al.map stD), .list (wh.map stD), .list (pa.map stD), .list (p2.map stD)], .d (picD (fr Q.length w P)), .d (.list (al.map stD)), .d (.list (wh.map stD)), .d (.list (pa.map stD)), Y8, Y9, Y10, Y11, Y12, Y13, .un, .un, .un] M1 = .nx [.pot, .d OP, .d (picD Q), .l [.list (al.map stD), .list (wh.map stD), .list (pa.map stD), .list (p2.map stD), .list (p3.map stD)], .d (picD (fr Q.length w P)), .d (.list (al.map stD)), .d (.list (wh.map stD)), .d (.list (pa.map stD)), Y8, Y9, Y10, Y11, Y12, Y13, .un, .un, .un] M1 := by
    generalize hF : ([.list (al.map stD), .list (wh.map stD), .list (pa.map stD), .list (p2.map stD)] : List D) = FF
    have ll : FF.length = 4 := by rw [← hF]; rfl
    have lc := lc_all (g := pTup 3 (pCons (pName 9) (pCons (pName 15) (pCons (pName 16) pNil)))) (fe := (fTup (fCons (vE 9) (fCons (vE 15) (fCons (fOp dAdd (vV 16) (fun _ M => .ok (.str "x") M)) fNil))))) (ρ := [.pot, .d OP, .d (picD Q), .l FF, .d (picD (fr Q.length w P)), .d (.list (al.map stD)), .d (.list (wh.map stD)), .d (.list (pa.map stD)), Y8, .un, Y10, Y11, Y12, Y13, .un, .un, .un]) stD (fun s => stD (s.1, s.2.1, s.2.2 ++ [120])) pa (fun s m => ⟨_, rfl, fun M => by
      have := (g3 s m).2.2.2
      have ad := dAdd_T (a := s.2.2) (b := [120]) (by simp; omega)
      simp [sx_T, ad]⟩) M1
    have wz : wipeR ([.pot, .d OP, .d (picD Q), .l FF, .d (picD (fr Q.length w P)), .d (.list (al.map stD)), .d (.list (wh.map stD)), .d (.list (pa.map stD)), Y8, Y9, Y10, Y11, Y12, Y13, .un, .un, .un] : Rho) [9, 15, 16] = [.pot, .d OP, .d (picD Q), .l FF, .d (picD (fr Q.length w P)), .d (.list (al.map stD)), .d (.list (wh.map stD)), .d (.list (pa.map stD)), Y8, .un, Y10, Y11, Y12, Y13, .un, .un, .un] := rfl
    have pp : p3.map stD = pa.map fun s => stD (s.1, s.2.1, s.2.2 ++ [120]) := by
      show (pa.map _).map stD = _
      rw [List.map_map]; rfl
    have ex : ([.list (al.map stD), .list (wh.map stD), .list (pa.map stD), .list (p2.map stD), .list (p3.map stD)] : List D) = FF ++ [.list (p3.map stD)] := by rw [← hF]; rfl
    rw [ex, pp]
    simp only [s__law_lots_4, e_sApp, e_fz, e_fLc, e_fItems]
    rw [wz]
    simp [lcRun_le (xs := pa.map stD) (by simp; omega), lc, ll]
  let ls : List (List Sk) := [al, wh, pa, p2, p3]
  have lsg : ∀ l ∈ ls, (∀ s ∈ l, Gl Q s) ∧ l.length ≤ 1300 := fun l m => by
    have k3 : ∀ s, Gd Q s → Gl Q s := fun s g => ⟨g.1, g.2.1, g.2.2.1⟩
    simp only [ls, List.mem_cons, List.not_mem_nil, or_false] at m
    rcases m with rfl | rfl | rfl | rfl | rfl
    · exact ⟨fun s m => k3 s (g1 s m), by omega⟩
    · exact ⟨fun s m => k3 s (g2 s m), by omega⟩
    · exact ⟨fun s m => k3 s (g3 s m), by omega⟩
    · refine ⟨fun s m => ?_, by simp [p2]; omega⟩
      rcases List.mem_append.mp m with m | m
      · exact k3 s (g3 s m)
      · rw [List.mem_singleton.mp m]
        refine ⟨⟨by dsimp only; omega, by dsimp only; omega, by dsimp only; rw [List.length_take]; omega, fun c hc => (q.row r0 r0m).2 c (List.mem_of_mem_take hc)⟩, fun e => ?_, q0⟩
        have := congrArg List.length e
        dsimp only at this
        rw [List.length_take, List.length_nil] at this
        omega
    · refine ⟨fun s m => ?_, by simp [p3]; omega⟩
      obtain ⟨z, hz, rfl⟩ := List.mem_map.mp m
      obtain ⟨⟨z1, z2, z3, z4⟩, z5, z6, z7⟩ := g3 z hz
      refine ⟨⟨z1, z2, by simp; omega, fun c hc => ?_⟩, by simp, z6⟩
      rcases List.mem_append.mp hc with hc | hc
      · exact z4 c hc
      · rw [List.mem_singleton.mp hc]; omega
  obtain ⟨ys, M2, e2, h2, yl, yr⟩ := lc_pot (g := pName 14) (fe := (fCall dTuple (fCons (fFn F__law_some (agPot 0 (agCons (vE 14) (agCons (fCall dLen (fCons (vV 14) fNil)) agNil)))) fNil))) (ρ := [.pot, .d OP, .d (picD Q), .l (ls.map fun l => .list (l.map stD)), .d (picD (fr Q.length w P)), .d (.list (al.map stD)), .d (.list (wh.map stD)), .d (.list (pa.map stD)), Y8, Y9, Y10, Y11, Y12, Y13, .un, .un, .un]) (fun l : List Sk => PyData.list (l.map stD)) (fun _ y => ∃ l' : List Sk, y = lotD l' ∧ (∀ s ∈ l', Gl Q s) ∧ l'.length ≤ 1300) Pot 1300 ls b M1 (fun l m => ⟨_, rfl, fun b M hp => by
    obtain ⟨lg, ll⟩ := lsg l m
    obtain ⟨l', M', e, l2, m2, h'⟩ := e_some (l := l) (b := b) (M := M) (by omega) (hp.le (by omega))
    exact ⟨lotD l', M', by simp [e], ⟨l', rfl, fun s m => lg s (m2 s m), by omega⟩, h'⟩⟩) (h1.le (by simp [ls]))
  have get : ∀ (ys : List D), (∀ y ∈ ys, ∃ l' : List Sk, y = lotD l' ∧ (∀ s ∈ l', Gl Q s) ∧ l'.length ≤ 1300) → ∃ lots : List (List Sk), ys = lots.map lotD ∧ lots.length = ys.length ∧ ∀ l ∈ lots, (∀ s ∈ l, Gl Q s) ∧ l.length ≤ 1300 := by
    intro ys
    induction ys with
    | nil => intro _; exact ⟨[], rfl, rfl, fun l m => by simp at m⟩
    | cons y ys ih =>
      intro h
      obtain ⟨l', rfl, h1, h2⟩ := h y List.mem_cons_self
      obtain ⟨lots, rfl, hl, hh⟩ := ih fun z m => h z (List.mem_cons_of_mem _ m)
      refine ⟨l' :: lots, rfl, by simp, fun l m => ?_⟩
      rcases List.mem_cons.mp m with rfl | m
      · exact ⟨h1, h2⟩
      · exact hh l m
  obtain ⟨lots, rfl, ln, lg⟩ := get ys fun y m => by
    obtain ⟨k, hk⟩ := List.mem_iff_getElem?.mp m
    have hkl : k < ys.length := (List.getElem?_eq_some_iff.mp hk).1
    exact yr k ls[k] y (List.getElem?_eq_getElem (by omega)) hk
  refine ⟨lots, M2, ?_, by rw [ln, yl]; simp [ls], lg, h2⟩
  have t5 : s__law_lots_5 [.pot, .d OP, .d (picD Q), .l (ls.map fun l => .list (l.map stD)), .d (picD (fr Q.length w P)), .d (.list (al.map stD)), .d (.list (wh.map stD)), .d (.list (pa.map stD)), Y8, Y9, Y10, Y11, Y12, Y13, .un, .un, .un] M1 = .ret (.list (lots.map lotD)) M2 := by
    have l5 : (ls.map fun l => PyData.list (l.map stD)).length ≤ 16777216 := by simp [ls]
    generalize hLS : (ls.map fun l => PyData.list (l.map stD)) = LS at e2 l5
    have wz : wipeR ([.pot, .d OP, .d (picD Q), .l LS, .d (picD (fr Q.length w P)), .d (.list (al.map stD)), .d (.list (wh.map stD)), .d (.list (pa.map stD)), Y8, Y9, Y10, Y11, Y12, Y13, .un, .un, .un] : Rho) [14] = [.pot, .d OP, .d (picD Q), .l LS, .d (picD (fr Q.length w P)), .d (.list (al.map stD)), .d (.list (wh.map stD)), .d (.list (pa.map stD)), Y8, Y9, Y10, Y11, Y12, Y13, .un, .un, .un] := rfl
    simp only [s__law_lots_5, e_sRet, e_fz, e_fLc, e_fItems]
    rw [wz]
    simp only [e_vV]
    show (((lcRun _ _ _ _ LS M1).bnd _).out _ : Out) = _
    rw [lcRun_le l5, e2]
    simp
  have z : bodyF 3 17 (sSeq s__law_lots_0 (sSeq s__law_lots_1 (sSeq s__law_lots_2 (sSeq s__law_lots_3 (sSeq s__law_lots_4 s__law_lots_5))))) [.pot, .d OP, .d (picD Q)] M = .ok (.list (lots.map lotD)) M2 := by
    rw [e_bodyF, if_pos (by rfl)]
    show (sSeq _ _ [.pot, .d OP, .d (picD Q), .un, .un, .un, .un, .un, .un, .un, .un, .un, .un, .un, .un, .un, .un] M).rs = _
    rw [e_sSeq, t0, seq_nx, e_sSeq, t1, seq_nx, e_sSeq, t2, seq_nx, e_sSeq, t3, seq_nx, e_sSeq, t4, seq_nx]
    exact congrArg Out.rs t5
  rw [← q__law_lots] at z
  exact z
end
end K

set_option Elab.async false
set_option linter.all false
set_option maxRecDepth 100000
set_option maxHeartbeats 1000000
namespace K
open PySem RL K98
theorem int_ne {n : Nat} : dNe (.int (n : Nat)) (.int (n : Nat)) = some (.bool false) := by rw [dNe_int, decide_eq_true rfl]; rfl
theorem repr_b (x : Bool) : ∃ s : Str, dRepr [.bool x] = some (.str s) := ⟨_, tame_bool (k := 0) (w := 100) |>.repr (by omega) (by omega)⟩
theorem str_ne (s : Str) : dNe (.str s) (.str s) = some (.bool false) := by rw [dNe_strs]; simp
theorem isnot_f : dIs true (.bool false) (.bool false) = some (.bool false) := by rfl
section
variable {M : List Int} {w v b : Nat} {P Q : List (List Nat)}
abbrev RS (P Q : List (List Nat)) (w : Nat) (X5 X10 X11 : SV) : Rho := [.pot, .d (picD P), .d (picD Q), .d (.int (cst P Q w : Nat)), .d (picD (fr Q.length w P)), X5, .d (.int (cst P Q w : Nat)), .d (lotD (stk P Q w)), .d (.int (Q.length : Nat)), .d (.int (w : Nat)), X10, X11, .un, .un, .un, .un]
def Lok (Q : List (List Nat)) (l : List Sk) : Prop := (∀ s ∈ l, Gl Q s) ∧ l.length ≤ 3000
theorem Lok.fine {l : List Sk} (h : Lok Q l) : Fine l := ⟨fun s m => ⟨(h.1 s m).1, (h.1 s m).2.1⟩, h.2⟩
theorem lot_body {l : List Sk} {X10 X11 : SV} (p : Pc v P) (q : Pc w Q) (hl : Lok Q l) : ∃ Y10 Y11, s__law_are_strokes_right_8_b (RS P Q w (.d (lotD l)) X10 X11) M = .nx (RS P Q w (.d (lotD l)) Y10 Y11) M := by
  have hf := hl.fine
  have hi := q.hi
  have wi := q.wi
  have q0 : 0 < Q.length := List.length_pos_iff.mpr q.ne
  have ld := e_leads (M := M) (l := l) p q hf
  have sp := e_spent (M := M) (l := l) (fun s m => (hf.1 s m).1) (by have := hl.2; omega)
  have eqn : dEq (.int (spent l : Nat)) (.int (cst P Q w : Nat)) = some (.bool (decide (spent l = cst P Q w))) := by
    rw [dEq_int]
    by_cases e : spent l = cst P Q w
    · rw [decide_eq_true e, decide_eq_true (by omega)]
    · rw [decide_eq_false e, decide_eq_false (by omega)]
  have t0 : s__law_are_strokes_right_8_b_0 (RS P Q w (.d (lotD l)) X10 X11) M = .nx (RS P Q w (.d (lotD l)) (.d (.bool (leads P Q w l && decide (spent l = cst P Q w)))) X11) M := by
    simp only [s__law_are_strokes_right_8_b_0, e_sSet, e_fAndV, e_fFn, e_agCons, e_agNil, e_fOp, e_vE, e_vV]
    cases hb : leads P Q w l with
    | true => rw [hb] at ld; simp [ld, sp, eqn]
    | false => rw [hb] at ld; simp [ld]
  have sh := e_shows (M := M) p q hf (cst P Q w)
  have shv : (decide (cst P Q w = spent l) && decide (cst P Q w = cst P Q w) && leads P Q w l) = (leads P Q w l && decide (spent l = cst P Q w)) := by
    rw [decide_eq_true (rfl : cst P Q w = cst P Q w), Bool.and_true, Bool.and_comm]
    congr 1
    by_cases e : spent l = cst P Q w
    · rw [decide_eq_true e, decide_eq_true e.symm]
    · rw [decide_eq_false e, decide_eq_false fun z => e z.symm]
  rw [shv] at sh
  obtain ⟨rs, hrs⟩ := repr_b (leads P Q w l && decide (spent l = cst P Q w))
  generalize (leads P Q w l && decide (spent l = cst P Q w)) = so at sh hrs t0
  have t1 : s__law_are_strokes_right_8_b_1 (RS P Q w (.d (lotD l)) (.d (.bool so)) X11) M = .nx (RS P Q w (.d (lotD l)) (.d (.bool so)) X11) M := by
    have sn := str_ne rs
    simp only [s__law_are_strokes_right_8_b_1, e_sIf, e_asB, e_fOp, e_fCall, e_fCons, e_fNil, e_fFn, e_agCons, e_agNil, e_vE, e_vV]
    simp [sh, hrs, sn, -dNe_strs]
  have sh1 := e_shows (M := M) p q hf (cst P Q w + 1)
  have sh1v : (decide (cst P Q w + 1 = spent l) && decide (cst P Q w + 1 = cst P Q w) && leads P Q w l) = false := by
    rw [decide_eq_false (show ¬ (cst P Q w + 1 = cst P Q w) from by omega)]; simp
  rw [sh1v] at sh1
  have sh2 := e_shows_list (M := M) p q (c := (cst P Q w : Nat)) (xs := l.map stD)
  have t2 : s__law_are_strokes_right_8_b_2 (RS P Q w (.d (lotD l)) (.d (.bool so)) X11) M = .nx (RS P Q w (.d (lotD l)) (.d (.bool so)) X11) M := by
    have sh1' : F_shows_anew [.d (picD P), .d (picD Q), .d (.tuple [.int ((cst P Q w : Nat) + 1 : Int), lotD l])] M = .ok (.bool false) M := sh1
    simp only [s__law_are_strokes_right_8_b_2, e_sIf, e_fOr, e_asB, e_fOp, e_fFn, e_agCons, e_agNil, e_fz, e_fCall, e_fCons, e_fNil, e_vE, e_vV]
    simp [sh1', sh2, isnot_f]
  let fine : List Sk := l.filter fun s => decide (s.2.1 + s.2.2.length ≤ w)
  have t3 : s__law_are_strokes_right_8_b_3 (RS P Q w (.d (lotD l)) (.d (.bool so)) X11) M = .nx (RS P Q w (.d (lotD l)) (.d (.bool so)) (.d (.list (fine.map stD)))) M := by
    have lc := lc_enc (g := pTup 3 (pCons (pName 12) (pCons (pName 13) (pCons (pName 14) pNil)))) (ft := asB (fOp dLe (fOp dAdd (vV 13) (fCall dLen (fCons (vV 14) fNil))) (vV 9))) (fe := (fTup (fCons (vE 12) (fCons (vE 13) (fCons (vE 14) fNil))))) (ρ := RS P Q w (.d (lotD l)) (.d (.bool so)) X11) stD (fun s => decide (s.2.1 + s.2.2.length ≤ w)) stD l (fun s m => by
      have := (hf.1 s m).1.2.2.1
      have dl : dLen [.str (T s.2.2)] = some (.int s.2.2.length) := dLen_T (by omega)
      have e1 : decide ((s.2.1 : Int) + (s.2.2.length : Int) ≤ (w : Int)) = decide (s.2.1 + s.2.2.length ≤ w) := by
        by_cases q : s.2.1 + s.2.2.length ≤ w
        · rw [decide_eq_true q, decide_eq_true (by omega)]
        · rw [decide_eq_false q, decide_eq_false (by omega)]
      exact ⟨_, rfl, fun M => by simp [dl, e1], fun _ M => by simp⟩) M
    have wz : wipeR (RS P Q w (.d (lotD l)) (.d (.bool so)) X11) [12, 13, 14] = RS P Q w (.d (lotD l)) (.d (.bool so)) X11 := rfl
    simp only [s__law_are_strokes_right_8_b_3, e_sSet, e_fz, e_fLc, e_fItems]
    rw [wz]
    have := hl.2
    simp [lcRun_le (xs := l.map stD) (by simp; omega), lc, fine]
  have t4 : s__law_are_strokes_right_8_b_4 (RS P Q w (.d (lotD l)) (.d (.bool so)) (.d (.list (fine.map stD)))) M = .nx (RS P Q w (.d (lotD l)) (.d (.bool so)) (.d (.list (fine.map stD)))) M := by
    by_cases e : fine.length = l.length
    · have all : ∀ s ∈ l, s.2.1 + s.2.2.length ≤ w := fun s m => by
        have := List.length_filter_eq_length_iff.mp e s m
        exact of_decide_eq_true this
      have ai : l.all (inF Q.length w) = true := List.all_eq_true.mpr fun s m => by
        unfold inF
        rw [Bool.and_eq_true]
        exact ⟨decide_eq_true (hl.1 s m).2.2, decide_eq_true (all s m)⟩
      have dr := e_drawn_anew (M := M) (h := Q.length) (w := w) (l := l) p hf q0 (by omega) wi ai
      obtain ⟨k1, k2⟩ := puts_keep l (fr Q.length w P) (fr_row p) (fun s m => (hf.1 s m).1) (by rw [fr_len]; exact ai)
      have tq := (tame_rows (P := Q) (fun r m => ⟨by have := (q.row r m).1; omega, (q.row r m).2⟩) (by omega)).1
      have tp := (tame_rows (P := l.foldl put (fr Q.length w P)) (fun r m => ⟨by have := (k2 r m).1; omega, (k2 r m).2⟩) (by rw [k1, fr_len]; omega)).1
      have ee := eq_pic tp tq
      have lv : leads P Q w l = decide (l.foldl put (fr Q.length w P) = Q) := by unfold leads; rw [ai, Bool.true_and]
      rw [lv] at ld
      generalize decide (l.foldl put (fr Q.length w P) = Q) = z at ld ee
      have zz : dNe (.bool z) (.bool z) = some (.bool false) := by
        rw [dNe_ok (k := 0) (w := 1) (k' := 0) (w' := 1) tame_bool tame_bool (by omega) (by omega), (tame_bool (k := 0) (w := 1)).eqv]; rfl
      have en : dEq (.int (l.length : Nat)) (.int (l.length : Nat)) = some (.bool true) := by rw [dEq_int, decide_eq_true rfl]
      simp only [s__law_are_strokes_right_8_b_4, e_sIf, e_fAnd, e_asB, e_fOp, e_fCall, e_fCons, e_fNil, e_fFn, e_agCons, e_agNil, e_vE, e_vV]
      simp [e, en, ld, dr, ee, zz]
    · have en : dEq (.int (fine.length : Nat)) (.int (l.length : Nat)) = some (.bool false) := by rw [dEq_int, decide_eq_false (by omega)]
      simp only [s__law_are_strokes_right_8_b_4, e_sIf, e_fAnd, e_asB, e_fOp, e_fCall, e_fCons, e_fNil, e_vV]
      simp [en]
  refine ⟨.d (.bool so), .d (.list (fine.map stD)), ?_⟩
  unfold s__law_are_strokes_right_8_b
  rw [e_sSeq, t0, seq_nx, e_sSeq, t1, seq_nx, e_sSeq, t2, seq_nx, e_sSeq, t3, seq_nx, t4]
theorem lot_all (p : Pc v P) (q : Pc w Q) : ∀ (L : List (List Sk)) (X5 X10 X11 : SV), (∀ l ∈ L, Lok Q l) → ∃ Y5 Y10 Y11, forGo (pName 5) s__law_are_strokes_right_8_b (L.map lotD) (RS P Q w X5 X10 X11) M = .nx (RS P Q w Y5 Y10 Y11) M
  | [], X5, X10, X11, _ => ⟨X5, X10, X11, rfl⟩
  | l :: L, X5, X10, X11, h => by
    obtain ⟨Y10, Y11, e1⟩ := lot_body (M := M) (X10 := X10) (X11 := X11) p q (h l List.mem_cons_self)
    obtain ⟨Y5, Z10, Z11, e2⟩ := lot_all p q L (.d (lotD l)) Y10 Y11 fun l' m => h l' (List.mem_cons_of_mem _ m)
    refine ⟨Y5, Z10, Z11, ?_⟩
    rw [List.map_cons, e_for1, ← e2]
    simp only [e_pName]
    rw [show (RS P Q w X5 X10 X11).set 5 (.d (lotD l)) = RS P Q w (.d (lotD l)) X10 X11 from rfl, e1, turn_nx]
theorem fine_nil : Fine [] := ⟨fun s m => by simp at m, by simp⟩
theorem stk_lok (p : Pc v P) (q : Pc w Q) : Lok Q (stk P Q w) := ⟨fun s m => by
  obtain ⟨a, b, c, d⟩ := stk_bd p q s m
  exact ⟨a, b, c⟩, by have := stk_len p q; omega⟩
theorem stk_all (p : Pc v P) (q : Pc w Q) : (stk P Q w).all (inF Q.length w) = true := List.all_eq_true.mpr fun s m => by
  obtain ⟨a, b, c, d⟩ := stk_bd p q s m
  unfold inF
  rw [Bool.and_eq_true]
  exact ⟨decide_eq_true c, decide_eq_true d⟩
theorem e_strokes_right (p : Pc v P) (q : Pc w Q) (hw0 : 0 < w) (hp : Pot (8200 + b) M) : ∃ M' : List Int, F__law_are_strokes_right [.pot, .d (picD P), .d (picD Q)] M = .ok (.bool true) M' ∧ Pot b M' := by
  obtain ⟨r0, i0, d1, r0l, r0m, _⟩ := head0 q
  have hi := q.hi
  have wi := q.wi
  have q0 : 0 < Q.length := List.length_pos_iff.mpr q.ne
  have d2 : dLen [picD Q] = some (.int Q.length) := by simp
  have f := e_lframed (M := M) (h := Q.length) (w := w) p (by omega) wi
  have lok := stk_lok p q
  have all := stk_all p q
  have an := e_anew (M := M) p q
  have lc := e_law_cost (M := M) p q
  have sp := e_spent (M := M) (l := stk P Q w) (fun s m => (lok.1 s m).1) (by have := lok.2; omega)
  rw [stk_spent p q] at sp
  have ld := e_leads (M := M) (l := stk P Q w) p q lok.fine
  have lv : leads P Q w (stk P Q w) = true := by
    unfold leads
    rw [all, Bool.true_and]
    exact decide_eq_true (stk_draws p q)
  rw [lv] at ld
  have ine := int_ne (n := cst P Q w)
  let A : Rho := [.pot, .d (picD P), .d (picD Q), .un, .un, .un, .d (.int (cst P Q w : Nat)), .d (lotD (stk P Q w)), .un, .un, .un, .un, .un, .un, .un, .un]
  have t0 : s__law_are_strokes_right_0 [.pot, .d (picD P), .d (picD Q), .un, .un, .un, .un, .un, .un, .un, .un, .un, .un, .un, .un, .un] M = .nx [.pot, .d (picD P), .d (picD Q), .un, .un, .un, .d (.int (cst P Q w : Nat)), .d (lotD (stk P Q w)), .un, .un, .un, .un, .un, .un, .un, .un] M := by
    simp [s__law_are_strokes_right_0, an]
  have t1 : s__law_are_strokes_right_1 [.pot, .d (picD P), .d (picD Q), .un, .un, .un, .d (.int (cst P Q w : Nat)), .d (lotD (stk P Q w)), .un, .un, .un, .un, .un, .un, .un, .un] M = .nx [.pot, .d (picD P), .d (picD Q), .d (.int (cst P Q w : Nat)), .un, .un, .d (.int (cst P Q w : Nat)), .d (lotD (stk P Q w)), .un, .un, .un, .un, .un, .un, .un, .un] M := by
    simp [s__law_are_strokes_right_1, lc]
  have t2 : s__law_are_strokes_right_2 [.pot, .d (picD P), .d (picD Q), .d (.int (cst P Q w : Nat)), .un, .un, .d (.int (cst P Q w : Nat)), .d (lotD (stk P Q w)), .un, .un, .un, .un, .un, .un, .un, .un] M = .nx [.pot, .d (picD P), .d (picD Q), .d (.int (cst P Q w : Nat)), .un, .un, .d (.int (cst P Q w : Nat)), .d (lotD (stk P Q w)), .un, .un, .un, .un, .un, .un, .un, .un] M := by
    simp [s__law_are_strokes_right_2, ine, sp, ld]
  have t3 : s__law_are_strokes_right_3 [.pot, .d (picD P), .d (picD Q), .d (.int (cst P Q w : Nat)), .un, .un, .d (.int (cst P Q w : Nat)), .d (lotD (stk P Q w)), .un, .un, .un, .un, .un, .un, .un, .un] M = .nx [.pot, .d (picD P), .d (picD Q), .d (.int (cst P Q w : Nat)), .un, .un, .d (.int (cst P Q w : Nat)), .d (lotD (stk P Q w)), .d (.int (Q.length : Nat)), .d (.int (w : Nat)), .un, .un, .un, .un, .un, .un] M := by
    simp [s__law_are_strokes_right_3, -dLen_tup, -dIx_tup, d1, d2, i0]
  have dr := e_drawn_anew (M := M) (h := Q.length) (w := w) (l := stk P Q w) p lok.fine q0 (by omega) wi all
  rw [stk_draws p q] at dr
  have tq := (tame_rows (P := Q) (fun r m => ⟨by have := (q.row r m).1; omega, (q.row r m).2⟩) (by omega)).1
  have nq := ne_pic tq tq
  rw [decide_eq_true rfl] at nq
  have t4 : s__law_are_strokes_right_4 [.pot, .d (picD P), .d (picD Q), .d (.int (cst P Q w : Nat)), .un, .un, .d (.int (cst P Q w : Nat)), .d (lotD (stk P Q w)), .d (.int (Q.length : Nat)), .d (.int (w : Nat)), .un, .un, .un, .un, .un, .un] M = .nx [.pot, .d (picD P), .d (picD Q), .d (.int (cst P Q w : Nat)), .un, .un, .d (.int (cst P Q w : Nat)), .d (lotD (stk P Q w)), .d (.int (Q.length : Nat)), .d (.int (w : Nat)), .un, .un, .un, .un, .un, .un] M := by
    simp [s__law_are_strokes_right_4, dr, nq]
  have t5 : s__law_are_strokes_right_5 [.pot, .d (picD P), .d (picD Q), .d (.int (cst P Q w : Nat)), .un, .un, .d (.int (cst P Q w : Nat)), .d (lotD (stk P Q w)), .d (.int (Q.length : Nat)), .d (.int (w : Nat)), .un, .un, .un, .un, .un, .un] M = .nx (RS P Q w .un .un .un) M := by
    simp [s__law_are_strokes_right_5, f]
  have dc := e_dots (M := M) p q
  have t6 : s__law_are_strokes_right_6 (RS P Q w .un .un .un) M = .nx (RS P Q w .un .un .un) M := by
    have lcz := lc_all (g := pTup 2 (pCons (pName 12) (pCons (pName 15) pNil))) (fe := (fCall dLen (fCons (fFn F__law_changes (agCons (vE 12) (agCons (vE 15) agNil))) fNil))) (ρ := RS P Q w .un .un .un) pairD (fun z => .int ((chg 0 z.1 z.2).length : Nat)) ((fr Q.length w P).zip Q) (fun z m => ⟨_, rfl, fun M => by
      have hl := zip_len p q z m
      have h2 := (q.row z.2 (mem_zip m).2).1
      simp [e_changes (M := M) (a := z.1) (b := z.2) hl (by omega)]⟩) M
    have sm := dSum_nat ((fr Q.length w P).zip Q) fun z => (chg 0 z.1 z.2).length
    have ll : ((fr Q.length w P).zip Q).length ≤ 20 := by rw [List.length_zip]; omega
    have wz : wipeR (RS P Q w .un .un .un) [12, 15] = RS P Q w .un .un .un := rfl
    have cn := int_ne (n := chs P Q w)
    simp only [s__law_are_strokes_right_6, e_sIf, e_asB, e_fOp, e_fFn, e_agCons, e_agNil, e_fCall, e_fCons, e_fNil, e_fz, e_fLc, e_fZip]
    rw [wz]
    simp [dc, zipD_rows, lcRun_le (xs := ((fr Q.length w P).zip Q).map pairD) (by rw [List.length_map]; omega), lcz, sm, cn]
  have pf := fr_pc (h := Q.length) (w := w) p q0 hi wi
  have fi : fr Q.length w (fr Q.length w P) = fr Q.length w P := by
    have := fr_id (w := w) (P := fr Q.length w P) (fun r m => (fr_row p r m).1)
    rw [fr_len] at this
    exact this
  have an2 := e_anew (M := M) pf q
  have ce : cst (fr Q.length w P) Q w = cst P Q w := by
    show rows2 (fr Q.length w (fr Q.length w P)) Q = _
    rw [fi]
  have dr0 := e_drawn_anew (M := M) (h := Q.length) (w := w) (l := []) p fine_nil q0 (by omega) wi rfl
  have tf := (tame_rows (P := fr Q.length w P) (fun r m => ⟨by have := (fr_row p r m).1; omega, (fr_row p r m).2⟩) (by rw [fr_len]; omega)).1
  have nf := ne_pic tf tf
  rw [decide_eq_true rfl] at nf
  have t7 : s__law_are_strokes_right_7 (RS P Q w .un .un .un) M = .nx (RS P Q w .un .un .un) M := by
    rw [ce] at an2
    have dr0' : F_drawn_anew [.d (picD P), .d (.tuple []), .d (.int (Q.length : Nat)), .d (.int (w : Nat))] M = .ok (picD (fr Q.length w P)) M := dr0
    simp only [s__law_are_strokes_right_7, e_sIf, e_fOr, e_asB, e_fOp, e_fFn, e_agCons, e_agNil, e_fTup, e_fNil, e_vE, e_vV]
    simp [dr0', nf, an2, ine]
  obtain ⟨lots, M1, el, ln, lg, h1⟩ := e_lots p q hw0 hp
  obtain ⟨Y5, Y10, Y11, ea⟩ := lot_all (M := M1) p q (stk P Q w :: (stk P Q w).reverse :: lots) .un .un .un (fun l m => by
    simp only [List.mem_cons] at m
    rcases m with rfl | rfl | m
    · exact lok
    · exact ⟨fun s m => lok.1 s (List.mem_reverse.mp m), by rw [List.length_reverse]; exact lok.2⟩
    · exact ⟨(lg l m).1, by have := (lg l m).2; omega⟩)
  have t8 : s__law_are_strokes_right_8 (RS P Q w .un .un .un) M = .nx (RS P Q w Y5 Y10 Y11) M1 := by
    rw [← ea]
    have rv : ((stk P Q w).map stD).reverse = (stk P Q w).reverse.map stD := by rw [List.map_reverse]
    have ad : dAdd (.list [lotD (stk P Q w), .tuple ((stk P Q w).map stD).reverse]) (.list (lots.map lotD)) = some (.list ((stk P Q w :: (stk P Q w).reverse :: lots).map lotD)) := by
      rw [rv]; exact dAdd_lst (by simp; omega)
    generalize hL : (stk P Q w :: (stk P Q w).reverse :: lots).map lotD = LL at ad
    simp only [s__law_are_strokes_right_8, e_sFor, e_fItems, e_fOp, e_fz, e_fLst, e_fCons, e_fNil, e_fRev, e_fFn, e_agCons, e_agNil, e_agPot, e_vE, e_vV]
    simp [el, ad]
  refine ⟨M1, ?_, h1⟩
  have z : bodyF 3 16 (sSeq s__law_are_strokes_right_0 (sSeq s__law_are_strokes_right_1 (sSeq s__law_are_strokes_right_2 (sSeq s__law_are_strokes_right_3 (sSeq s__law_are_strokes_right_4 (sSeq s__law_are_strokes_right_5 (sSeq s__law_are_strokes_right_6 (sSeq s__law_are_strokes_right_7 (sSeq s__law_are_strokes_right_8 (sRet (fun _ M => .ok (.bool true) M))))))))))) [.pot, .d (picD P), .d (picD Q)] M = .ok (.bool true) M1 := by
    rw [e_bodyF, if_pos (by rfl)]
    show (sSeq _ _ [.pot, .d (picD P), .d (picD Q), .un, .un, .un, .un, .un, .un, .un, .un, .un, .un, .un, .un, .un] M).rs = _
    rw [e_sSeq, t0, seq_nx, e_sSeq, t1, seq_nx, e_sSeq, t2, seq_nx, e_sSeq, t3, seq_nx, e_sSeq, t4, seq_nx, e_sSeq, t5, seq_nx, e_sSeq, t6, seq_nx, e_sSeq, t7, seq_nx, e_sSeq, t8, seq_nx]
    simp
  rw [← q__law_are_strokes_right] at z
  exact z
end
end K

set_option Elab.async false
set_option linter.all false
set_option maxRecDepth 100000
set_option maxHeartbeats 1000000
namespace K
open PySem RL K98
/-! ### parts put together -/
theorem rows2_app : ∀ (A C B D' : List (List Nat)), A.length = C.length → rows2 (A ++ B) (C ++ D') = rows2 A C + rows2 B D'
  | [], [], B, D', _ => by simp [rows2]
  | [], _ :: _, _, _, h => by simp at h
  | _ :: _, [], _, _, h => by simp at h
  | a :: A, c :: C, B, D', h => by
    show wgt _ + rows2 (A ++ B) (C ++ D') = wgt _ + rows2 A C + rows2 B D'
    rw [rows2_app A C B D' (by simpa using h)]; omega
theorem chg_app : ∀ (a c b d : List Nat) (i : Nat), a.length = c.length → chg i (a ++ b) (c ++ d) = chg i a c ++ chg (i + a.length) b d
  | [], [], b, d, i, _ => by simp [chg]
  | [], _ :: _, _, _, _, h => by simp at h
  | _ :: _, [], _, _, _, h => by simp at h
  | x :: a, y :: c, b, d, i, h => by
    have ih := chg_app a c b d (i + 1) (by simpa using h)
    rw [List.cons_append, List.cons_append, chg_cc, chg_cc, ih, List.length_cons, show i + 1 + a.length = i + (a.length + 1) from by omega]
    split <;> simp
theorem chg_same : ∀ (a : List Nat) (i : Nat), chg i a a = []
  | [], i => rfl
  | x :: a, i => by rw [chg_cc, if_pos rfl, chg_same a (i + 1)]
theorem chg_shift : ∀ (a b : List Nat) (i k : Nat), chg (i + k) a b = (chg i a b).map (· + k)
  | [], b, i, k => by cases b <;> simp [chg]
  | _ :: _, [], i, k => by simp [chg]
  | x :: a, y :: b, i, k => by
    have ih := chg_shift a b (i + 1) k
    rw [chg_cc, chg_cc, show i + k + 1 = i + 1 + k from by omega, ih]
    split <;> simp
theorem wt_shift : ∀ (cs : List Nat) (l k : Nat), wt (l + k) (cs.map (· + k)) = wt l cs
  | [], l, k => rfl
  | c :: cs, l, k => by
    show min 5 (c + k - (l + k)) + wt (c + k) (cs.map (· + k)) = min 5 (c - l) + wt c cs
    rw [wt_shift cs c k, Nat.add_sub_add_right]
theorem wgt_shift (cs : List Nat) (k : Nat) : wgt (cs.map (· + k)) = wgt cs := by
  cases cs with
  | nil => rfl
  | cons c cs => exact congrArg (5 + ·) (wt_shift cs c k)
theorem wt_far : ∀ (xs ys : List Nat) (l : Nat), (∀ y ∈ ys, l + 5 ≤ y) → (∀ x ∈ xs, ∀ y ∈ ys, x + 5 ≤ y) → wt l (xs ++ ys) = wt l xs + wgt ys
  | [], [], l, _, _ => rfl
  | [], y :: ys, l, h, _ => by
    have := h y List.mem_cons_self
    show min 5 (y - l) + wt y ys = 0 + (5 + wt y ys)
    omega
  | x :: xs, ys, l, h, h2 => by
    show min 5 (x - l) + wt x (xs ++ ys) = min 5 (x - l) + wt x xs + wgt ys
    rw [wt_far xs ys x (h2 x List.mem_cons_self) fun x' m => h2 x' (List.mem_cons_of_mem _ m)]; omega
theorem wgt_far (xs ys : List Nat) (h : ∀ x ∈ xs, ∀ y ∈ ys, x + 5 ≤ y) : wgt (xs ++ ys) = wgt xs + wgt ys := by
  cases xs with
  | nil => simp [wgt]
  | cons x xs =>
    show 5 + wt x (xs ++ ys) = 5 + wt x xs + wgt ys
    rw [wt_far xs ys x (h x List.mem_cons_self) fun x' m => h x' (List.mem_cons_of_mem _ m)]; omega
/-- a row beside another one, six blanks between -/
theorem wgt_beside {a c b d : List Nat} (h : a.length = c.length) : wgt (chg 0 (a ++ blk 6 ++ b) (c ++ blk 6 ++ d)) = wgt (chg 0 a c) + wgt (chg 0 b d) := by
  rw [List.append_assoc, List.append_assoc, chg_app a c _ _ 0 h, chg_app (blk 6) (blk 6) b d _ rfl, chg_same, List.nil_append, Nat.zero_add, blk_len]
  have s := chg_shift b d 0 (a.length + 6)
  rw [Nat.zero_add] at s
  rw [s, wgt_far, wgt_shift]
  intro x hx y hy
  have := chg_ge hx
  obtain ⟨z, hz, rfl⟩ := List.mem_map.mp hy
  omega
theorem rows2_beside : ∀ (A C B D' : List (List Nat)), A.length = C.length → B.length = A.length → D'.length = A.length → (∀ p ∈ A.zip C, p.1.length = p.2.length) →
    rows2 ((A.zip B).map fun z => z.1 ++ blk 6 ++ z.2) ((C.zip D').map fun z => z.1 ++ blk 6 ++ z.2) = rows2 A C + rows2 B D'
  | [], [], [], [], _, _, _, _ => rfl
  | a :: A, c :: C, b :: B, d :: D', h1, h2, h3, hp => by
    have ih := rows2_beside A C B D' (by simpa using h1) (by simpa using h2) (by simpa using h3) fun p m => hp p (by simp [m])
    have e := wgt_beside (a := a) (c := c) (b := b) (d := d) (hp (a, c) (by simp))
    show wgt (chg 0 (a ++ blk 6 ++ b) (c ++ blk 6 ++ d)) + rows2 ((A.zip B).map fun z => z.1 ++ blk 6 ++ z.2) ((C.zip D').map fun z => z.1 ++ blk 6 ++ z.2) = wgt (chg 0 a c) + rows2 A C + (wgt (chg 0 b d) + rows2 B D')
    rw [ih, e]; omega
  | [], _ :: _, _, _, h, _, _, _ => by simp at h
  | _ :: _, [], _, _, h, _, _, _ => by simp at h
  | [], [], _ :: _, _, _, h, _, _ => by simp at h
  | [], [], [], _ :: _, _, _, h, _ => by simp at h
  | _ :: _, _ :: _, [], _, _, h, _, _ => by simp at h
  | _ :: _, _ :: _, _ :: _, [], _, _, h, _ => by simp at h
section
variable {M : List Int} {w v b : Nat} {P Q O F N : List (List Nat)}
theorem app_pc (p : Pc w P) (q : Pc w Q) (h : P.length + Q.length ≤ 20) : Pc w (P ++ Q) :=
  ⟨fun e => p.ne (List.append_eq_nil_iff.mp e).1, by rw [List.length_append]; exact h, p.wi, fun r m => (List.mem_append.mp m).elim (p.row r) (q.row r)⟩
abbrev bes (A B : List (List Nat)) : List (List Nat) := (A.zip B).map fun z => z.1 ++ blk 6 ++ z.2
theorem bes_pc (p : Pc w P) (q : Pc w Q) (hl : P.length = Q.length) (hw : w + w + 6 ≤ 60) : Pc (w + 6 + w) (bes P Q) := by
  refine ⟨fun e => ?_, by rw [List.length_map, List.length_zip]; have := p.hi; omega, by omega, fun r m => ?_⟩
  · have := congrArg List.length e
    rw [List.length_map, List.length_zip, List.length_nil] at this
    have := List.length_pos_iff.mpr p.ne
    omega
  · obtain ⟨z, hz, rfl⟩ := List.mem_map.mp m
    obtain ⟨h1, h2⟩ := p.row z.1 (mem_zip hz).1
    obtain ⟨h3, h4⟩ := q.row z.2 (mem_zip hz).2
    refine ⟨by rw [List.length_append, List.length_append, blk_len]; omega, fun c hc => ?_⟩
    simp only [List.mem_append] at hc
    rcases hc with (hc | hc) | hc
    · exact h2 c hc
    · rw [List.eq_of_mem_replicate hc]; omega
    · exact h4 c hc
theorem cst_same {w : Nat} {P Q : List (List Nat)} (hl : P.length = Q.length) (h : ∀ r ∈ P, r.length = w) : cst P Q w = rows2 P Q := by
  show rows2 (fr Q.length w P) Q = _
  rw [← hl, fr_id h]
/-- the comprehension that puts rows beside one another -/
theorem lc_beside {ρ : Rho} (p : Pc w P) (q : Pc w Q) (hw : w ≤ 20) (g7 : ρ[7]? = some (.d (rowD (blk 6)))) (hρ : ρ.length = 18) : lcGo (pTup 2 (pCons (pName 16) (pCons (pName 17) pNil))) fYes (fOp dAdd (fOp dAdd (vV 16) (vV 7)) (vV 17)) ρ ((P.zip Q).map pairD) M = .ok ((bes P Q).map rowD) M := by
  have l := lc_all (g := pTup 2 (pCons (pName 16) (pCons (pName 17) pNil))) (fe := fOp dAdd (fOp dAdd (vV 16) (vV 7)) (vV 17)) (ρ := ρ) pairD (fun z => rowD (z.1 ++ blk 6 ++ z.2)) (P.zip Q) (fun z m => by
    have h1 := (p.row z.1 (mem_zip m).1).1
    have h2 := (q.row z.2 (mem_zip m).2).1
    have a1 := dAdd_T (a := z.1) (b := blk 6) (by rw [blk_len]; omega)
    have a2 := dAdd_T (a := z.1 ++ blk 6) (b := z.2) (by rw [List.length_append, blk_len]; omega)
    refine ⟨(ρ.set 16 (.d (rowD z.1))).set 17 (.d (rowD z.2)), by simp, fun M => ?_⟩
    have k16 : ((ρ.set 16 (.d (rowD z.1))).set 17 (.d (rowD z.2)))[16]? = some (.d (rowD z.1)) := by
      rw [List.getElem?_set_ne (by decide), List.getElem?_set_self (by omega)]
    have k17 : ((ρ.set 16 (.d (rowD z.1))).set 17 (.d (rowD z.2)))[17]? = some (.d (rowD z.2)) := by
      rw [List.getElem?_set_self (by rw [List.length_set]; omega)]
    have k7 : ((ρ.set 16 (.d (rowD z.1))).set 17 (.d (rowD z.2)))[7]? = some (.d (rowD (blk 6))) := by
      rw [List.getElem?_set_ne (by decide), List.getElem?_set_ne (by decide)]; exact g7
    generalize (ρ.set 16 (.d (rowD z.1))).set 17 (.d (rowD z.2)) = ρ3 at k16 k17 k7
    simp only [e_fOp, e_vV, k16, k17, k7, bnd_ok, a1, a2, of_some]) M
  rw [l, bes, List.map_map]
  rfl
theorem e_parts_right (p : Pc w P) (o : Pc w O) (f : Pc w F) (n : Pc w N) (h1 : O.length = P.length) (h2 : N.length = F.length) (h3 : P.length ≤ 5) (h4 : F.length ≤ 4) (hw0 : 0 < w) (hw : w ≤ 15) : F__law_are_parts_right [.pot, .d (picD P), .d (picD O), .d (picD F), .d (picD N)] M = .ok (.bool true) M := by
  have pl : 0 < P.length := List.length_pos_iff.mpr p.ne
  have fl : 0 < F.length := List.length_pos_iff.mpr f.ne
  -- beneath one another
  have pf := app_pc p f (by omega)
  have on := app_pc o n (by omega)
  have a1 : dAdd (picD P) (picD F) = some (picD (P ++ F)) := by
    rw [dAdd_tup (by simp; omega), ← List.map_append]
  have a2 : dAdd (picD O) (picD N) = some (picD (O ++ N)) := by
    rw [dAdd_tup (by simp; omega), ← List.map_append]
  have c1 : cst (P ++ F) (O ++ N) w = cst P O w + cst F N w := by
    rw [cst_same (by simp; omega) (fun r m => (pf.row r m).1), cst_same h1.symm (fun r m => (p.row r m).1), cst_same h2.symm (fun r m => (f.row r m).1), rows2_app _ _ _ _ h1.symm]
  have e1 := e_anew (M := M) pf on
  rw [c1] at e1
  have e2 := e_anew (M := M) p o
  have e3 := e_anew (M := M) f n
  have n1 : dNe (.int ((cst P O w + cst F N w : Nat))) (.int ((cst P O w : Nat) + (cst F N w : Nat) : Int)) = some (.bool false) := by
    rw [dNe_int, decide_eq_true (by omega)]; rfl
  have t0 : s__law_are_parts_right_0 [.pot, .d (picD P), .d (picD O), .d (picD F), .d (picD N), .un, .un, .un, .un, .un, .un, .un, .un, .un, .un, .un, .un, .un] M = .nx [.pot, .d (picD P), .d (picD O), .d (picD F), .d (picD N), .un, .un, .un, .un, .un, .un, .un, .un, .un, .un, .un, .un, .un] M := by
    generalize hz : cst P O w + cst F N w = z at e1 n1
    simp only [s__law_are_parts_right_0, e_sIf, e_asB, e_fOp, e_fFn, e_agCons, e_agNil, e_vV, e_vE]
    simp [a1, a2, e1, e2, e3, n1]
  let tall : Nat := max P.length F.length
  have tl : tall ≤ 5 ∧ 0 < tall := by simp only [tall]; omega
  have tm : max (P.length : Int) (F.length : Int) = (tall : Nat) := by simp only [tall]; omega
  generalize tall = t at tl tm
  have t1 : s__law_are_parts_right_1 [.pot, .d (picD P), .d (picD O), .d (picD F), .d (picD N), .un, .un, .un, .un, .un, .un, .un, .un, .un, .un, .un, .un, .un] M = .nx [.pot, .d (picD P), .d (picD O), .d (picD F), .d (picD N), .d (.int (t : Nat)), .un, .un, .un, .un, .un, .un, .un, .un, .un, .un, .un, .un] M := by
    simp [s__law_are_parts_right_1, tm]
  obtain ⟨r0, i0, d1, _⟩ := head0 p
  have t2 : s__law_are_parts_right_2 [.pot, .d (picD P), .d (picD O), .d (picD F), .d (picD N), .d (.int (t : Nat)), .un, .un, .un, .un, .un, .un, .un, .un, .un, .un, .un, .un] M = .nx [.pot, .d (picD P), .d (picD O), .d (picD F), .d (picD N), .d (.int (t : Nat)), .d (.int (w : Nat)), .un, .un, .un, .un, .un, .un, .un, .un, .un, .un, .un] M := by
    simp [s__law_are_parts_right_2, -dIx_tup, i0, d1]
  have fp := fun M => e_lframed (M := M) (h := t) (w := w) p (by omega) (by omega)
  have fo := fun M => e_lframed (M := M) (h := t) (w := w) o (by omega) (by omega)
  have ff := fun M => e_lframed (M := M) (h := t) (w := w) f (by omega) (by omega)
  have fn := fun M => e_lframed (M := M) (h := t) (w := w) n (by omega) (by omega)
  have qp := fr_pc (h := t) (w := w) p tl.2 (by omega) (by omega)
  have qo := fr_pc (h := t) (w := w) o tl.2 (by omega) (by omega)
  have qf := fr_pc (h := t) (w := w) f tl.2 (by omega) (by omega)
  have qn := fr_pc (h := t) (w := w) n tl.2 (by omega) (by omega)
  have lp : (fr t w P).length = t := fr_len
  have lo : (fr t w O).length = t := fr_len
  have lf : (fr t w F).length = t := fr_len
  have ln : (fr t w N).length = t := fr_len
  have t3 : s__law_are_parts_right_3 [.pot, .d (picD P), .d (picD O), .d (picD F), .d (picD N), .d (.int (t : Nat)), .d (.int (w : Nat)), .un, .un, .un, .un, .un, .un, .un, .un, .un, .un, .un] M = .nx [.pot, .d (picD P), .d (picD O), .d (picD F), .d (picD N), .d (.int (t : Nat)), .d (.int (w : Nat)), .un, .un, .d (picD (fr t w P)), .d (picD (fr t w O)), .un, .un, .un, .un, .un, .un, .un] M := by
    simp [s__law_are_parts_right_3, lcRun_le, e_lc1, fp, fo]
  have t4 : s__law_are_parts_right_4 [.pot, .d (picD P), .d (picD O), .d (picD F), .d (picD N), .d (.int (t : Nat)), .d (.int (w : Nat)), .un, .un, .d (picD (fr t w P)), .d (picD (fr t w O)), .un, .un, .un, .un, .un, .un, .un] M = .nx [.pot, .d (picD P), .d (picD O), .d (picD F), .d (picD N), .d (.int (t : Nat)), .d (.int (w : Nat)), .un, .un, .d (picD (fr t w P)), .d (picD (fr t w O)), .d (picD (fr t w F)), .d (picD (fr t w N)), .un, .un, .un, .un, .un] M := by
    simp [s__law_are_parts_right_4, lcRun_le, e_lc1, ff, fn]
  generalize fr t w P = L at *
  generalize fr t w O = R at *
  generalize fr t w F = L2 at *
  generalize fr t w N = R2 at *
  have m6 : dMul (.str (T [32])) (.int 6) = some (rowD (blk 6)) := by rw [dMul_T (by omega) (by omega)]; rfl
  have t5 : s__law_are_parts_right_5 [.pot, .d (picD P), .d (picD O), .d (picD F), .d (picD N), .d (.int (t : Nat)), .d (.int (w : Nat)), .un, .un, .d (picD L), .d (picD R), .d (picD L2), .d (picD R2), .un, .un, .un, .un, .un] M = .nx [.pot, .d (picD P), .d (picD O), .d (picD F), .d (picD N), .d (.int (t : Nat)), .d (.int (w : Nat)), .d (rowD (blk 6)), .un, .d (picD L), .d (picD R), .d (picD L2), .d (picD R2), .un, .un, .un, .un, .un] M := by
    simp [s__law_are_parts_right_5, sp_T, m6]
  have inner : ∀ (X Y : List (List Nat)) (M : List Int), Pc w X → Pc w Y → X.length = t → Y.length = t → (fCall dTuple (fCons (fz (fLc [16, 17] (pTup 2 (pCons (pName 16) (pCons (pName 17) pNil))) fYes (fOp dAdd (fOp dAdd (vV 16) (vV 7)) (vV 17)) (fZip (fCons (vV 14) (fCons (vV 15) fNil))))) fNil)) [.pot, .d (picD P), .d (picD O), .d (picD F), .d (picD N), .d (.int (t : Nat)), .d (.int (w : Nat)), .d (rowD (blk 6)), .un, .d (picD L), .d (picD R), .d (picD L2), .d (picD R2), .un, .d (picD X), .d (picD Y), .un, .un] M = .ok (picD (bes X Y)) M := by
    intro X Y M hx hy l1 l2
    have lc := lc_beside (M := M) (ρ := [.pot, .d (picD P), .d (picD O), .d (picD F), .d (picD N), .d (.int (t : Nat)), .d (.int (w : Nat)), .d (rowD (blk 6)), .un, .d (picD L), .d (picD R), .d (picD L2), .d (picD R2), .un, .d (picD X), .d (picD Y), .un, .un]) hx hy (by omega) rfl rfl
    have wz : wipeR ([.pot, .d (picD P), .d (picD O), .d (picD F), .d (picD N), .d (.int (t : Nat)), .d (.int (w : Nat)), .d (rowD (blk 6)), .un, .d (picD L), .d (picD R), .d (picD L2), .d (picD R2), .un, .d (picD X), .d (picD Y), .un, .un] : Rho) [16, 17] = [.pot, .d (picD P), .d (picD O), .d (picD F), .d (picD N), .d (.int (t : Nat)), .d (.int (w : Nat)), .d (rowD (blk 6)), .un, .d (picD L), .d (picD R), .d (picD L2), .d (picD R2), .un, .d (picD X), .d (picD Y), .un, .un] := rfl
    simp only [e_fCall, e_fCons, e_fz, e_fLc, e_fZip, e_fNil]
    rw [wz]
    show _ = Rs.ok (PyData.tuple ((bes X Y).map rowD)) M
    generalize hbs : (bes X Y).map rowD = BS at lc ⊢
    simp [zipD_rows, lcRun_le (xs := (X.zip Y).map pairD) (by rw [List.length_map, List.length_zip]; omega), lc]
  have t6 : s__law_are_parts_right_6 [.pot, .d (picD P), .d (picD O), .d (picD F), .d (picD N), .d (.int (t : Nat)), .d (.int (w : Nat)), .d (rowD (blk 6)), .un, .d (picD L), .d (picD R), .d (picD L2), .d (picD R2), .un, .un, .un, .un, .un] M = .nx [.pot, .d (picD P), .d (picD O), .d (picD F), .d (picD N), .d (.int (t : Nat)), .d (.int (w : Nat)), .d (rowD (blk 6)), .d (.list [picD (bes L L2), picD (bes R R2)]), .d (picD L), .d (picD R), .d (picD L2), .d (picD R2), .un, .un, .un, .un, .un] M := by
    have i1 := inner L L2 M qp qf lp lf
    have i2 := inner R R2 M qo qn lo ln
    unfold s__law_are_parts_right_6
    generalize (fCall dTuple (fCons (fz (fLc [16, 17] (pTup 2 (pCons (pName 16) (pCons (pName 17) pNil))) fYes (fOp dAdd (fOp dAdd (vV 16) (vV 7)) (vV 17)) (fZip (fCons (vV 14) (fCons (vV 15) fNil))))) fNil)) = ev at i1 i2
    simp [lcRun_le, e_lc1, i1, i2]
  have b1 := bes_pc qp qf (by omega) (by omega)
  have b2 := bes_pc qo qn (by omega) (by omega)
  have lb : (bes L L2).length = (bes R R2).length := by rw [List.length_map, List.length_map, List.length_zip, List.length_zip]; omega
  have f1 := e_anew (M := M) b1 b2
  have f2 := e_anew (M := M) qp qo
  have f3 := e_anew (M := M) qf qn
  have c2 : cst (bes L L2) (bes R R2) (w + 6 + w) = cst L R w + cst L2 R2 w := by
    rw [cst_same lb (fun r m => (b1.row r m).1), cst_same (by omega) (fun r m => (qp.row r m).1), cst_same (by omega) (fun r m => (qf.row r m).1)]
    exact rows2_beside L R L2 R2 (by omega) (by omega) (by omega) fun z m => by rw [(qp.row z.1 (mem_zip m).1).1, (qo.row z.2 (mem_zip m).2).1]
  rw [c2] at f1
  have n2 : dEq (.int ((cst L R w + cst L2 R2 w : Nat))) (.int ((cst L R w : Nat) + (cst L2 R2 w : Nat) : Int)) = some (.bool true) := by
    rw [dEq_int, decide_eq_true (by omega)]
  have t7 : s__law_are_parts_right_7 [.pot, .d (picD P), .d (picD O), .d (picD F), .d (picD N), .d (.int (t : Nat)), .d (.int (w : Nat)), .d (rowD (blk 6)), .d (.list [picD (bes L L2), picD (bes R R2)]), .d (picD L), .d (picD R), .d (picD L2), .d (picD R2), .un, .un, .un, .un, .un] M = .ret (.bool true) M := by
    generalize hz : cst L R w + cst L2 R2 w = z at f1 n2
    generalize hb1 : picD (bes L L2) = B1 at f1
    generalize hb2 : picD (bes R R2) = B2 at f1
    simp only [s__law_are_parts_right_7, e_sRet, e_fOp, e_fFn, e_agCons, e_agNil, e_vV, e_vE]
    simp [f1, f2, f3, n2]
  have z : bodyF 5 18 (sSeq s__law_are_parts_right_0 (sSeq s__law_are_parts_right_1 (sSeq s__law_are_parts_right_2 (sSeq s__law_are_parts_right_3 (sSeq s__law_are_parts_right_4 (sSeq s__law_are_parts_right_5 (sSeq s__law_are_parts_right_6 s__law_are_parts_right_7))))))) [.pot, .d (picD P), .d (picD O), .d (picD F), .d (picD N)] M = .ok (.bool true) M := by
    rw [e_bodyF, if_pos (by rfl)]
    show (sSeq _ _ [.pot, .d (picD P), .d (picD O), .d (picD F), .d (picD N), .un, .un, .un, .un, .un, .un, .un, .un, .un, .un, .un, .un, .un] M).rs = _
    rw [e_sSeq, t0, seq_nx, e_sSeq, t1, seq_nx, e_sSeq, t2, seq_nx, e_sSeq, t3, seq_nx, e_sSeq, t4, seq_nx, e_sSeq, t5, seq_nx, e_sSeq, t6, seq_nx, t7]; rfl
  rw [← q__law_are_parts_right] at z
  exact z
end
end K

set_option Elab.async false
set_option linter.all false
set_option maxRecDepth 100000
set_option maxHeartbeats 1000000
namespace K
open PySem RL K98
section
variable {M : List Int} {b : Nat}
theorem take1 {u : Nat} (hu : 0 < u) (hu2 : u < 100000) (h : Pot (b + 1) M) : ∃ (k : Nat) (M' : List Int), F__law_take [.pot, .d (.int (u : Nat))] M = .ok (.int (k : Nat)) M' ∧ k < u ∧ Pot b M' := by
  obtain ⟨k, M', e, k0, k1, h'⟩ := e_law_take (u := (u : Int)) (by omega) (by omega) h
  exact ⟨k.toNat, M', by rw [Int.toNat_of_nonneg k0]; exact e, by omega, h'⟩
/-- a picture of a drawn height -/
theorem pic_of {u w : Nat} (hu : 0 < u) (hu2 : u ≤ 5) (hw : w ≤ 14) (h : Pot (71 + b) M) : ∃ (P : List (List Nat)) (k : Nat) (M1 M' : List Int), F__law_take [.pot, .d (.int (u : Nat))] M = .ok (.int (k : Nat)) M1 ∧ F__law_picture [.pot, .d (.int (1 + (k : Nat) : Int)), .d (.int (w : Nat))] M1 = .ok (picD P) M' ∧ Pc w P ∧ P.length ≤ u ∧ Pot b M' := by
  obtain ⟨k, M1, e1, hk, h1⟩ := take1 (b := 70 + b) hu (by omega) (by rw [show 70 + b + 1 = 71 + b from by omega]; exact h)
  have hm : w * (k + 1) ≤ 14 * 5 := Nat.mul_le_mul hw (by omega)
  obtain ⟨P, M', e2, p, l, h2⟩ := e_picture (b := b) (h := k + 1) (w := w) (M := M1) (by omega) (by omega) (by omega) (h1.le (by omega))
  rw [show (((k + 1 : Nat)) : Int) = 1 + (k : Int) from by omega] at e2
  exact ⟨P, k, M1, M', e1, e2, p, by omega, h2⟩
theorem right_body {X Y : SV} {A1 A2 A3 A4 A5 A6 : SV} {P Q : List (List Nat)} {v w : Nat} (p : Pc v P) (q : Pc w Q) (hw0 : 0 < w) (h : Pot (8200 + b) M) : ∃ M', s__law_right_5_b [.pot, A1, A2, A3, A4, A5, A6, .d (picD P), .d (picD Q)] M = .nx [.pot, A1, A2, A3, A4, A5, A6, .d (picD P), .d (picD Q)] M' ∧ Pot b M' := by
  obtain ⟨M', e, h'⟩ := e_strokes_right (M := M) (b := b) p q hw0 h
  exact ⟨M', by simp [s__law_right_5_b, e], h'⟩
theorem e_right (hp : Pot (42000 + b) M) : ∃ M', F__law_right [.pot] M = .ok (.bool true) M' ∧ Pot b M' := by
  obtain ⟨k0, M0, e0, hk0, h0⟩ := take1 (u := 14) (M := M) (b := 41999 + b) (by omega) (by omega) (by rw [show 41999 + b + 1 = 42000 + b from by omega]; exact hp)
  let w := k0 + 1
  have hw : 0 < w ∧ w ≤ 14 := by simp only [w]; omega
  have ew : (1 : Int) + (k0 : Int) = ((w : Nat) : Int) := by simp only [w]; omega
  generalize w = w at hw ew
  have t0 : s__law_right_0 [.pot, .un, .un, .un, .un, .un, .un, .un, .un] M = .nx [.pot, .d (.int (w : Nat)), .un, .un, .un, .un, .un, .un, .un] M0 := by
    have e0' : F__law_take [.pot, .d (.int 14)] M = .ok (.int (k0 : Nat)) M0 := e0
    simp [s__law_right_0, e0', ew]
  obtain ⟨P, k1, M1, M2, e1, e2, p, pl, h2⟩ := pic_of (u := 5) (w := w) (M := M0) (b := 41900 + b) (by omega) (by omega) hw.2 (h0.le (by omega))
  have t1 : s__law_right_1 [.pot, .d (.int (w : Nat)), .un, .un, .un, .un, .un, .un, .un] M0 = .nx [.pot, .d (.int (w : Nat)), .d (picD P), .un, .un, .un, .un, .un, .un] M2 := by
    have e1' : F__law_take [.pot, .d (.int 5)] M0 = .ok (.int (k1 : Nat)) M1 := e1
    simp [s__law_right_1, e1', e2]
  obtain ⟨O, M3, e3, o, ol, h3⟩ := e_near (M := M2) (b := 41800 + b) p hw.1 (h2.le (by omega))
  obtain ⟨F, k2, M4, M5, e4, e5, f, fl, h5⟩ := pic_of (u := 4) (w := w) (M := M3) (b := 41700 + b) (by omega) (by omega) hw.2 (h3.le (by omega))
  have t2 : s__law_right_2 [.pot, .d (.int (w : Nat)), .d (picD P), .un, .un, .un, .un, .un, .un] M2 = .nx [.pot, .d (.int (w : Nat)), .d (picD P), .un, .un, .d (picD O), .d (picD F), .un, .un] M5 := by
    have e4' : F__law_take [.pot, .d (.int 4)] M3 = .ok (.int (k2 : Nat)) M4 := e4
    simp [s__law_right_2, e3, e4', e5]
  obtain ⟨N, M6, e6, n, nl, h6⟩ := e_near (M := M5) (b := 41600 + b) f hw.1 (h5.le (by omega))
  have t3 : s__law_right_3 [.pot, .d (.int (w : Nat)), .d (picD P), .un, .un, .d (picD O), .d (picD F), .un, .un] M5 = .nx [.pot, .d (.int (w : Nat)), .d (picD P), .d (picD N), .un, .d (picD O), .d (picD F), .un, .un] M6 := by
    simp [s__law_right_3, e6]
  obtain ⟨k3, M7, e7, hk3, h7⟩ := take1 (u := 5) (M := M6) (b := 41599 + b) (by omega) (by omega) (by rw [show 41599 + b + 1 = 41600 + b from by omega]; exact h6)
  obtain ⟨k4, M8, e8, hk4, h8⟩ := take1 (u := 14) (M := M7) (b := 41598 + b) (by omega) (by omega) (by rw [show 41598 + b + 1 = 41599 + b from by omega]; exact h7)
  have hm : (k4 + 1) * (k3 + 1) ≤ 14 * 5 := Nat.mul_le_mul (by omega) (by omega)
  obtain ⟨D', M9, e9, d, dl, h9⟩ := e_picture (b := 41500 + b) (h := k3 + 1) (w := k4 + 1) (M := M8) (by omega) (by omega) (by omega) (h8.le (by omega))
  have t4 : s__law_right_4 [.pot, .d (.int (w : Nat)), .d (picD P), .d (picD N), .un, .d (picD O), .d (picD F), .un, .un] M6 = .nx [.pot, .d (.int (w : Nat)), .d (picD P), .d (picD N), .d (picD D'), .d (picD O), .d (picD F), .un, .un] M9 := by
    have e7' : F__law_take [.pot, .d (.int 5)] M6 = .ok (.int (k3 : Nat)) M7 := e7
    have e8' : F__law_take [.pot, .d (.int 14)] M7 = .ok (.int (k4 : Nat)) M8 := e8
    rw [show (((k3 + 1 : Nat)) : Int) = 1 + (k3 : Int) from by omega, show (((k4 + 1 : Nat)) : Int) = 1 + (k4 : Int) from by omega] at e9
    simp [s__law_right_4, e7', e8', e9]
  have hd : 0 < k4 + 1 := by omega
  obtain ⟨Ma, ea, ha⟩ := right_body (X := .un) (Y := .un) (A1 := .d (.int (w : Nat))) (A2 := .d (picD P)) (A3 := .d (picD N)) (A4 := .d (picD D')) (A5 := .d (picD O)) (A6 := .d (picD F)) (M := M9) (b := 33000 + b) p o hw.1 (h9.le (by omega))
  obtain ⟨Mb, eb, hb⟩ := right_body (X := .un) (Y := .un) (A1 := .d (.int (w : Nat))) (A2 := .d (picD P)) (A3 := .d (picD N)) (A4 := .d (picD D')) (A5 := .d (picD O)) (A6 := .d (picD F)) (M := Ma) (b := 24700 + b) f n hw.1 (ha.le (by omega))
  obtain ⟨Mc, ec, hc⟩ := right_body (X := .un) (Y := .un) (A1 := .d (.int (w : Nat))) (A2 := .d (picD P)) (A3 := .d (picD N)) (A4 := .d (picD D')) (A5 := .d (picD O)) (A6 := .d (picD F)) (M := Mb) (b := 16450 + b) p d hd (hb.le (by omega))
  obtain ⟨Md, ed, hd'⟩ := right_body (X := .un) (Y := .un) (A1 := .d (.int (w : Nat))) (A2 := .d (picD P)) (A3 := .d (picD N)) (A4 := .d (picD D')) (A5 := .d (picD O)) (A6 := .d (picD F)) (M := Mc) (b := 8220 + b) d p hw.1 (hc.le (by omega))
  obtain ⟨Me, ee, he⟩ := right_body (X := .un) (Y := .un) (A1 := .d (.int (w : Nat))) (A2 := .d (picD P)) (A3 := .d (picD N)) (A4 := .d (picD D')) (A5 := .d (picD O)) (A6 := .d (picD F)) (M := Md) (b := b) p p hw.1 (hd'.le (by omega))
  have t5 : s__law_right_5 [.pot, .d (.int (w : Nat)), .d (picD P), .d (picD N), .d (picD D'), .d (picD O), .d (picD F), .un, .un] M9 = .nx [.pot, .d (.int (w : Nat)), .d (picD P), .d (picD N), .d (picD D'), .d (picD O), .d (picD F), .d (picD P), .d (picD P)] Me := by
    generalize picD P = PP at *
    generalize picD O = OO at *
    generalize picD F = FF at *
    generalize picD N = NN at *
    generalize picD D' = DD at *
    simp [s__law_right_5, e_for1, ea, eb, ec, ed, ee]
  have pr := e_parts_right (M := Me) p o f n ol nl pl fl hw.1 (by omega)
  have t6 : s__law_right_6 [.pot, .d (.int (w : Nat)), .d (picD P), .d (picD N), .d (picD D'), .d (picD O), .d (picD F), .d (picD P), .d (picD P)] Me = .ret (.bool true) Me := by
    simp [s__law_right_6, pr]
  refine ⟨Me, ?_, he⟩
  have z : bodyF 1 9 (sSeq s__law_right_0 (sSeq s__law_right_1 (sSeq s__law_right_2 (sSeq s__law_right_3 (sSeq s__law_right_4 (sSeq s__law_right_5 s__law_right_6)))))) [.pot] M = .ok (.bool true) Me := by
    rw [e_bodyF, if_pos (by rfl)]
    show (sSeq _ _ [.pot, .un, .un, .un, .un, .un, .un, .un, .un] M).rs = _
    rw [e_sSeq, t0, seq_nx, e_sSeq, t1, seq_nx, e_sSeq, t2, seq_nx, e_sSeq, t3, seq_nx, e_sSeq, t4, seq_nx, e_sSeq, t5, seq_nx, t6]; rfl
  rw [← q__law_right] at z
  exact z
end
theorem law (ns : List Int) (hl : ns.length ≤ 63) : ∃ M, F_law [.r ns] [] = .ok (.bool true) M :=
  law_holds (A := 17841) (B := 32581) (C := 147324) (E := 62061) (Fr := F__law_right) (c := 42000) (laps := 2) (most := 3) (by omega) (by omega) (by omega) (by omega) (by omega) (by omega) (by omega) (by decide)
    (fun b M hp => e_right hp) hl
end K

set_option Elab.async false
set_option linter.all false
set_option maxRecDepth 100000
set_option maxHeartbeats 0
namespace K
open PySem PySem.Spec PyProof.Rows L2 RL
def top (i : Nat) : Stmt := PySem.Challenge.pw_whatthepicturesays_k98_whole_strokes_by.main.body.getD i (.Pass ⟨0, 0, 0, 0⟩)
def v_BLANK_DOT : V := .str " "
theorem c_BLANK_DOT_dt {K : PySem.W.Frag} : ∀ G, Dt K G c_BLANK_DOT v_BLANK_DOT := fun _ => dtS.mpr rfl
def v_LIFT : V := .int 4
theorem c_LIFT_dt {K : PySem.W.Frag} : ∀ G, Dt K G c_LIFT v_LIFT := fun _ => dtI.mpr rfl
def v_MOST_HIGH : V := .int 2000
theorem c_MOST_HIGH_dt {K : PySem.W.Frag} : ∀ G, Dt K G c_MOST_HIGH v_MOST_HIGH := fun _ => dtI.mpr rfl
def v_MOST_WIDE : V := .int 20000
theorem c_MOST_WIDE_dt {K : PySem.W.Frag} : ∀ G, Dt K G c_MOST_WIDE v_MOST_WIDE := fun _ => dtI.mpr rfl
structure Hds (W : Wb) : Prop where
  b_abs : W.mg "abs" = none
  b_all : W.mg "all" = none
  b_bool : W.mg "bool" = none
  b_enumerate : W.mg "enumerate" = none
  b_int : W.mg "int" = none
  b_isinstance : W.mg "isinstance" = none
  b_len : W.mg "len" = none
  b_list : W.mg "list" = none
  b_max : W.mg "max" = none
  b_min : W.mg "min" = none
  b_range : W.mg "range" = none
  b_repr : W.mg "repr" = none
  b_str : W.mg "str" = none
  b_sum : W.mg "sum" = none
  b_tuple : W.mg "tuple" = none
  b_zip : W.mg "zip" = none
  c_BLANK_DOT : ∃ u, W.mg "BLANK_DOT" = some u ∧ RelV v_BLANK_DOT u
  c_LIFT : ∃ u, W.mg "LIFT" = some u ∧ RelV v_LIFT u
  c_MOST_HIGH : ∃ u, W.mg "MOST_HIGH" = some u ∧ RelV v_MOST_HIGH u
  c_MOST_WIDE : ∃ u, W.mg "MOST_WIDE" = some u ∧ RelV v_MOST_WIDE u
theorem nd_is_integer : N_is_integer.Nodup := by decide
theorem b_is_integer (W : Wb) (hd : Hds W) : JB (cx W N_is_integer (defScope (top 6)) 0) (defBody (top 6)) f_is_integer :=
  (jb_one (js_ret (re_and (re_isi (T := "int") (rv_var (i := 0) rfl (.inl (by kernel_rfl))) (by kernel_rfl) hd.b_isinstance (by kernel_rfl) hd.b_int rfl) (re_one (re_not (re_isi (T := "bool") (rv_var (i := 0) rfl (.inl (by kernel_rfl))) (by kernel_rfl) hd.b_isinstance (by kernel_rfl) hd.b_bool rfl))))))
theorem nd_is_between : N_is_between.Nodup := by decide
theorem b_is_between (W : Wb) (hd : Hds W) (h_is_integer : Dfn W "is_integer" 1 1 F_is_integer) : JB (cx W N_is_between (defScope (top 7)) 1) (defBody (top 7)) f_is_between :=
  (jb_one (js_ret (re_and (re_dfn h_is_integer (Nat.le_of_ble_eq_true rfl) (by kernel_rfl) (rg_cons (re_var (i := 0) rfl (.inl (by kernel_rfl))) rg_nil)) (re_one (re_chain ox_le ox_le (rv_var (i := 1) rfl (.inl (by kernel_rfl))) (rv_var (i := 0) rfl (.inl (by kernel_rfl))) (rv_var (i := 2) rfl (.inl (by kernel_rfl))))))))
theorem nd_is_plain_picture : N_is_plain_picture.Nodup := by decide
theorem b_is_plain_picture (W : Wb) (hd : Hds W) : JB (cx W N_is_plain_picture (defScope (top 13)) 0) (defBody (top 13)) f_is_plain_picture :=
  (jb_cons (js_if (RW.t (rw_or (rt_not (rt_tru (RE.v (re_isi (T := "tuple") (rv_var (i := 0) rfl (.inr (.inl (by kernel_rfl)))) (by kernel_rfl) hd.b_isinstance (by kernel_rfl) hd.b_tuple rfl)))) (rw_or1 (rt_not (rt_chain ox_le ox_le (RE.v re_int) (RE.v (j_callB cx_len (ra_cons (rv_var (i := 0) rfl (.inr (.inl (by kernel_rfl)))) ra_nil) (by kernel_rfl) hd.b_len rfl)) (RE.v (re_glob (by kernel_rfl) hd.c_MOST_HIGH.choose_spec.1 hd.c_MOST_HIGH.choose_spec.2 c_MOST_HIGH_dt))))))) (jb_one (js_ret re_bl)) jb_nil)
  (jb_cons (js_if (rt_not (rt_tru (RE.v (j_callB cx_all (ra_cons (RE.v (RF.e (rf_lc (own := [("row", 1)]) nd_is_plain_picture (ri_seqV (rv_var (i := 0) rfl (.inr (.inl (by kernel_rfl))))) (blkOk_by (by kernel_rfl)) (rp_name (i := 1) nd_is_plain_picture rfl (.inl (by kernel_rfl)) (by kernel_rfl)) (by decide) rts_nil (re_isi (T := "str") (rv_var (i := 1) rfl (.inl (by kernel_rfl))) (by kernel_rfl) hd.b_isinstance (by kernel_rfl) hd.b_str rfl)))) ra_nil) (by kernel_rfl) hd.b_all rfl)))) (jb_one (js_ret re_bl)) jb_nil)
  (jb_one (js_ret (re_and (j_callB cx_all (ra_cons (RE.v (RF.e (rf_lc (own := [("row", 1)]) nd_is_plain_picture (ri_seqV (rv_var (i := 0) rfl (.inr (.inl (by kernel_rfl))))) (blkOk_by (by kernel_rfl)) (rp_name (i := 1) nd_is_plain_picture rfl (.inl (by kernel_rfl)) (by kernel_rfl)) (by decide) rts_nil (re_cmp ox_eq (RE.v (j_callB cx_len (ra_cons (rv_var (i := 1) rfl (.inl (by kernel_rfl))) ra_nil) (by kernel_rfl) hd.b_len rfl)) (RE.v (j_callB cx_len (ra_cons (RE.v (j_ix ix_any (rv_var (i := 0) rfl (.inr (.inl (by kernel_rfl)))) (RE.v re_int))) ra_nil) (by kernel_rfl) hd.b_len rfl)) (nomark _))))) ra_nil) (by kernel_rfl) hd.b_all rfl) (re_one (re_cmp ox_le (RE.v (j_callB cx_len (ra_cons (RE.v (j_ix ix_any (rv_var (i := 0) rfl (.inr (.inl (by kernel_rfl)))) (RE.v re_int))) ra_nil) (by kernel_rfl) hd.b_len rfl)) (RE.v (re_glob (by kernel_rfl) hd.c_MOST_WIDE.choose_spec.1 hd.c_MOST_WIDE.choose_spec.2 c_MOST_WIDE_dt)) (nomark _))))))))
theorem nd_check_pictures : N_check_pictures.Nodup := by decide
theorem b_check_pictures (W : Wb) (hd : Hds W) (h_is_plain_picture : Dfn W "is_plain_picture" 1 1 F_is_plain_picture) : JB (cx W N_check_pictures (defScope (top 14)) 1) (defBody (top 14)) f_check_pictures :=
  (jb_one (js_for (ri_seq (re_var (i := 0) rfl (.inl (by kernel_rfl)))) (rp_name (i := 1) nd_check_pictures rfl (.inl (by kernel_rfl)) rfl) (jb_one (js_if (rt_not (rt_tru (RE.v (re_dfn h_is_plain_picture (Nat.le_of_ble_eq_true rfl) (by kernel_rfl) (rg_cons (re_var (i := 1) rfl (.inl (by kernel_rfl))) rg_nil))))) (jb_one js_bad) jb_nil))))
theorem nd_is_stroke_anew : N_is_stroke_anew.Nodup := by decide
theorem b_is_stroke_anew (W : Wb) (hd : Hds W) (h_is_between : Dfn W "is_between" 2 3 F_is_between) : JB (cx W N_is_stroke_anew (defScope (top 15)) 2) (defBody (top 15)) f_is_stroke_anew :=
  (jb_cons (js_if (RW.t (rw_or (rt_not (rt_tru (RE.v (re_isi (T := "tuple") (rv_var (i := 0) rfl (.inl (by kernel_rfl))) (by kernel_rfl) hd.b_isinstance (by kernel_rfl) hd.b_tuple rfl)))) (rw_or (rt_cmp ox_ne (RE.v (j_callB cx_len (ra_cons (rv_var (i := 0) rfl (.inl (by kernel_rfl))) ra_nil) (by kernel_rfl) hd.b_len rfl)) (RE.v re_int) (nomark _)) (rw_or (rt_not (rt_tru (RE.v (re_isi (T := "str") (RE.v (j_ix ix_any (rv_var (i := 0) rfl (.inl (by kernel_rfl))) (RE.v re_int))) (by kernel_rfl) hd.b_isinstance (by kernel_rfl) hd.b_str rfl)))) (rw_or1 (rt_cmp ox_eq (RE.v (j_ix ix_any (rv_var (i := 0) rfl (.inl (by kernel_rfl))) (RE.v re_int))) (RE.v re_str) (nomark _))))))) (jb_one (js_ret re_bl)) jb_nil)
  (jb_one (js_ret (re_and (re_dfn h_is_between (Nat.le_of_ble_eq_true rfl) (by kernel_rfl) (rg_cons (j_ix ix_any (rv_var (i := 0) rfl (.inl (by kernel_rfl))) (RE.v re_int)) (rg_cons re_int (rg_cons (re_glob (by kernel_rfl) hd.c_MOST_HIGH.choose_spec.1 hd.c_MOST_HIGH.choose_spec.2 c_MOST_HIGH_dt) rg_nil)))) (re_and (re_dfn h_is_between (Nat.le_of_ble_eq_true rfl) (by kernel_rfl) (rg_cons (j_ix ix_any (rv_var (i := 0) rfl (.inl (by kernel_rfl))) (RE.v re_int)) (rg_cons re_int (rg_cons (re_glob (by kernel_rfl) hd.c_MOST_WIDE.choose_spec.1 hd.c_MOST_WIDE.choose_spec.2 c_MOST_WIDE_dt) rg_nil)))) (re_one (re_cmp ox_le (RE.v (j_callB cx_len (ra_cons (RE.v (j_ix ix_any (rv_var (i := 0) rfl (.inl (by kernel_rfl))) (RE.v re_int))) ra_nil) (by kernel_rfl) hd.b_len rfl)) (RE.v (re_glob (by kernel_rfl) hd.c_MOST_WIDE.choose_spec.1 hd.c_MOST_WIDE.choose_spec.2 c_MOST_WIDE_dt)) (nomark _))))))))
theorem nd_are_strokes_anew : N_are_strokes_anew.Nodup := by decide
theorem b_are_strokes_anew (W : Wb) (hd : Hds W) (h_is_stroke_anew : Dfn W "is_stroke_anew" 3 1 F_is_stroke_anew) : JB (cx W N_are_strokes_anew (defScope (top 16)) 3) (defBody (top 16)) f_are_strokes_anew :=
  (jb_one (js_ret (re_and (re_isi (T := "tuple") (rv_var (i := 0) rfl (.inl (by kernel_rfl))) (by kernel_rfl) hd.b_isinstance (by kernel_rfl) hd.b_tuple rfl) (re_one (j_callB cx_all (ra_cons (RE.v (RF.e (rf_lc (own := [("one", 1)]) nd_are_strokes_anew (ri_seqV (rv_var (i := 0) rfl (.inl (by kernel_rfl)))) (blkOk_by (by kernel_rfl)) (rp_name (i := 1) nd_are_strokes_anew rfl (.inl (by kernel_rfl)) (by kernel_rfl)) (by decide) rts_nil (re_dfn h_is_stroke_anew (Nat.le_of_ble_eq_true rfl) (by kernel_rfl) (rg_cons (re_var (i := 1) rfl (.inl (by kernel_rfl))) rg_nil))))) ra_nil) (by kernel_rfl) hd.b_all rfl)))))
theorem nd_framed : N_framed.Nodup := by decide
theorem b_framed (W : Wb) (hd : Hds W) : JB (cx W N_framed (defScope (top 17)) 0) (defBody (top 17)) f_framed :=
  (jb_cons (js_setLc (i := 3) (own := [("row", 4)]) nd_framed (ri_seqV (RE.v (j_sl sl_any (rv_var (i := 0) rfl (.inl (by kernel_rfl))) ro_none (ro_some (rv_var (i := 1) rfl (.inl (by kernel_rfl))))))) (blkOk_by (by kernel_rfl)) (rp_name (i := 4) nd_framed rfl (.inl (by kernel_rfl)) (by kernel_rfl)) (by decide) rts_nil (j_op ox_add (RE.v (j_sl sl_any (rv_var (i := 4) rfl (.inl (by kernel_rfl))) ro_none (ro_some (rv_var (i := 2) rfl (.inr (.inl (by kernel_rfl))))))) (RE.v (j_op ox_mul (RE.v (re_glob (by kernel_rfl) hd.c_BLANK_DOT.choose_spec.1 hd.c_BLANK_DOT.choose_spec.2 c_BLANK_DOT_dt)) (RE.v (j_op ox_sub (rv_var (i := 2) rfl (.inr (.inl (by kernel_rfl)))) (RE.v (j_callB cx_len (ra_cons (rv_var (i := 4) rfl (.inl (by kernel_rfl))) ra_nil) (by kernel_rfl) hd.b_len rfl))))))) rfl (by kernel_rfl) (fun env h => sw_true (by rw [h]; exact (by kernel_rfl)) (by rw [h]; exact (by kernel_rfl)) rfl (by kernel_rfl)))
  (jb_one (js_ret (j_op ox_add (rv_var (i := 3) rfl (.inl (by kernel_rfl))) (RE.v (j_op ox_mul (RE.v (RF.e (rf_lst (rl_cons (j_op ox_mul (RE.v (re_glob (by kernel_rfl) hd.c_BLANK_DOT.choose_spec.1 hd.c_BLANK_DOT.choose_spec.2 c_BLANK_DOT_dt)) (rv_var (i := 2) rfl (.inr (.inl (by kernel_rfl))))) rl_nil)))) (RE.v (j_op ox_sub (rv_var (i := 1) rfl (.inl (by kernel_rfl))) (RE.v (j_callB cx_len (ra_cons (rv_var (i := 3) rfl (.inl (by kernel_rfl))) ra_nil) (by kernel_rfl) hd.b_len rfl))))))))))
theorem nd_is_in_frame : N_is_in_frame.Nodup := by decide
theorem b_is_in_frame (W : Wb) (hd : Hds W) : JB (cx W N_is_in_frame (defScope (top 18)) 0) (defBody (top 18)) f_is_in_frame :=
  (jb_cons (js_asg (rp_tup (n := 3) (rps_cons (rp_name (i := 3) nd_is_in_frame rfl (.inl (by kernel_rfl)) rfl) (rps_cons (rp_name (i := 4) nd_is_in_frame rfl (.inl (by kernel_rfl)) rfl) (rps_cons (rp_name (i := 5) nd_is_in_frame rfl (.inl (by kernel_rfl)) rfl) rps_nil)))) (re_var (i := 0) rfl (.inl (by kernel_rfl))) (fun _ _ => rfl) (fun _ _ => rfl))
  (jb_one (js_ret (re_and (re_cmp ox_lt (rv_var (i := 3) rfl (.inl (by kernel_rfl))) (rv_var (i := 1) rfl (.inl (by kernel_rfl))) (nomark _)) (re_one (re_cmp ox_le (RE.v (j_op ox_add (rv_var (i := 4) rfl (.inl (by kernel_rfl))) (RE.v (j_callB cx_len (ra_cons (rv_var (i := 5) rfl (.inl (by kernel_rfl))) ra_nil) (by kernel_rfl) hd.b_len rfl)))) (rv_var (i := 2) rfl (.inl (by kernel_rfl))) (nomark _)))))))
theorem nd_drawn_over : N_drawn_over.Nodup := by decide
theorem b_drawn_over (W : Wb) (hd : Hds W) : JB (cx W N_drawn_over (defScope (top 19)) 0) (defBody (top 19)) f_drawn_over :=
  (jb_cons (js_setL (i := 2) nd_drawn_over rfl (.inl (by kernel_rfl)) rfl (j_callT cx_listF (ra_cons (rv_var (i := 0) rfl (.inl (by kernel_rfl))) ra_nil) (by kernel_rfl) hd.b_list rfl) (fun _ _ => rfl))
  (jb_cons (js_for (ri_seq (re_var (i := 1) rfl (.inl (by kernel_rfl)))) (rp_tup (n := 3) (rps_cons (rp_name (i := 3) nd_drawn_over rfl (.inl (by kernel_rfl)) rfl) (rps_cons (rp_name (i := 4) nd_drawn_over rfl (.inl (by kernel_rfl)) rfl) (rps_cons (rp_name (i := 5) nd_drawn_over rfl (.inl (by kernel_rfl)) rfl) rps_nil)))) (jb_one (js_put (i := 2) rfl (.inl (by kernel_rfl)) (rv_var (i := 3) rfl (.inl (by kernel_rfl))) (j_op ox_add (RE.v (j_op ox_add (RE.v (j_sl sl_any (RE.v (j_ix ix_any (rv_var (i := 2) rfl (.inl (by kernel_rfl))) (rv_var (i := 3) rfl (.inl (by kernel_rfl))))) ro_none (ro_some (rv_var (i := 4) rfl (.inl (by kernel_rfl)))))) (rv_var (i := 5) rfl (.inl (by kernel_rfl))))) (RE.v (j_sl sl_any (RE.v (j_ix ix_any (rv_var (i := 2) rfl (.inl (by kernel_rfl))) (rv_var (i := 3) rfl (.inl (by kernel_rfl))))) (ro_some (RE.v (j_op ox_add (rv_var (i := 4) rfl (.inl (by kernel_rfl))) (RE.v (j_callB cx_len (ra_cons (rv_var (i := 5) rfl (.inl (by kernel_rfl))) ra_nil) (by kernel_rfl) hd.b_len rfl))))) ro_none))) (fun _ _ => rfl) (fun _ _ => rfl))))
  (jb_one (js_frz 2 (js_ret (re_var (i := 2) rfl (.inl (by kernel_rfl))))))))
theorem nd_stroke_cost : N_stroke_cost.Nodup := by decide
theorem b_stroke_cost (W : Wb) (hd : Hds W) : JB (cx W N_stroke_cost (defScope (top 20)) 0) (defBody (top 20)) f_stroke_cost :=
  (jb_one (js_ret (j_op ox_add (RE.v (re_glob (by kernel_rfl) hd.c_LIFT.choose_spec.1 hd.c_LIFT.choose_spec.2 c_LIFT_dt)) (RE.v (j_callB cx_len (ra_cons (RE.v (j_ix ix_any (rv_var (i := 0) rfl (.inl (by kernel_rfl))) (RE.v re_int))) ra_nil) (by kernel_rfl) hd.b_len rfl)))))
theorem nd_cost_of : N_cost_of.Nodup := by decide
theorem b_cost_of (W : Wb) (hd : Hds W) (h_stroke_cost : Dfn W "stroke_cost" 1 1 F_stroke_cost) : JB (cx W N_cost_of (defScope (top 21)) 1) (defBody (top 21)) f_cost_of :=
  (jb_one (js_ret (j_callB cx_sum (ra_cons (RE.v (RF.e (rf_lc (own := [("one", 1)]) nd_cost_of (ri_seqV (rv_var (i := 0) rfl (.inl (by kernel_rfl)))) (blkOk_by (by kernel_rfl)) (rp_name (i := 1) nd_cost_of rfl (.inl (by kernel_rfl)) (by kernel_rfl)) (by decide) rts_nil (re_dfn h_stroke_cost (Nat.le_of_ble_eq_true rfl) (by kernel_rfl) (rg_cons (re_var (i := 1) rfl (.inl (by kernel_rfl))) rg_nil))))) ra_nil) (by kernel_rfl) hd.b_sum rfl)))
theorem nd_runs_of : N_runs_of.Nodup := by decide
theorem b_runs_of (W : Wb) (hd : Hds W) : JB (cx W N_runs_of (defScope (top 22)) 0) (defBody (top 22)) f_runs_of :=
  (jb_cons (js_setL (i := 2) nd_runs_of rfl (.inl (by kernel_rfl)) rfl (rf_lst rl_nil) (fun _ _ => rfl))
  (jb_cons (js_for (ri_seq (RF.e (rf_lc (own := [("at", 4), ("here", 5), ("there", 6)]) nd_runs_of (ri_enumzipV (ra_cons (rv_var (i := 0) rfl (.inl (by kernel_rfl))) (ra_cons (rv_var (i := 1) rfl (.inl (by kernel_rfl))) ra_nil)) (by kernel_rfl) hd.b_enumerate (by kernel_rfl) hd.b_zip) (blkOk_by (by kernel_rfl)) (rp_tup (n := 2) (rps_cons (rp_name (i := 4) nd_runs_of rfl (.inl (by kernel_rfl)) (by kernel_rfl)) (rps_cons (rp_tup (n := 2) (rps_cons (rp_name (i := 5) nd_runs_of rfl (.inl (by kernel_rfl)) (by kernel_rfl)) (rps_cons (rp_name (i := 6) nd_runs_of rfl (.inl (by kernel_rfl)) (by kernel_rfl)) rps_nil))) rps_nil))) (by decide) (rts_one (rt_cmp ox_ne (rv_var (i := 5) rfl (.inl (by kernel_rfl))) (rv_var (i := 6) rfl (.inl (by kernel_rfl))) (nomark _))) (re_var (i := 4) rfl (.inl (by kernel_rfl)))))) (rp_name (i := 3) nd_runs_of rfl (.inl (by kernel_rfl)) rfl) (jb_one (js_if (RW.t (rw_and (rt_cmp ox_ne (rv_var (i := 2) rfl (.inl (by kernel_rfl))) (RE.v (RF.e (rf_lst rl_nil))) (nomark _)) (rw_and1 (rt_cmp ox_le (RE.v (j_op ox_sub (rv_var (i := 3) rfl (.inl (by kernel_rfl))) (RE.v (j_ix ix_any (RE.v (j_ix ix_any (rv_var (i := 2) rfl (.inl (by kernel_rfl))) (RE.v (re_neg (RE.v re_int))))) (RE.v re_int))))) (RE.v (re_glob (by kernel_rfl) hd.c_LIFT.choose_spec.1 hd.c_LIFT.choose_spec.2 c_LIFT_dt)) (nomark _))))) (jb_one (js_put (i := 2) rfl (.inl (by kernel_rfl)) (RE.v (re_neg (RE.v re_int))) (re_tup (rl_cons (j_ix ix_any (RE.v (j_ix ix_any (rv_var (i := 2) rfl (.inl (by kernel_rfl))) (RE.v (re_neg (RE.v re_int))))) (RE.v re_int)) (rl_cons (re_var (i := 3) rfl (.inl (by kernel_rfl))) rl_nil))) (fun _ _ => rfl) (fun _ _ => rfl))) (jb_one (js_app (i := 2) rfl (.inl (by kernel_rfl)) (re_tup (rl_cons (re_var (i := 3) rfl (.inl (by kernel_rfl))) (rl_cons (re_var (i := 3) rfl (.inl (by kernel_rfl))) rl_nil))))))))
  (jb_one (js_frz 2 (js_ret (re_var (i := 2) rfl (.inl (by kernel_rfl))))))))
theorem nd_least_strokes : N_least_strokes.Nodup := by decide
theorem b_least_strokes (W : Wb) (hd : Hds W) (h_framed : Dfn W "framed" 1 3 F_framed) (h_runs_of : Dfn W "runs_of" 1 2 F_runs_of) : JB (cx W N_least_strokes (defScope (top 23)) 1) (defBody (top 23)) f_least_strokes :=
  (jb_cons (js_setL (i := 2) nd_least_strokes rfl (.inl (by kernel_rfl)) rfl (rf_lst rl_nil) (fun _ _ => rfl))
  (jb_cons (js_for (ri_enumzip (rl_cons (re_dfn h_framed (Nat.le_of_ble_eq_true rfl) (by kernel_rfl) (rg_cons (re_var (i := 0) rfl (.inl (by kernel_rfl))) (rg_cons (j_callB cx_len (ra_cons (rv_var (i := 1) rfl (.inl (by kernel_rfl))) ra_nil) (by kernel_rfl) hd.b_len rfl) (rg_cons (j_callB cx_len (ra_cons (RE.v (j_ix ix_any (rv_var (i := 1) rfl (.inl (by kernel_rfl))) (RE.v re_int))) ra_nil) (by kernel_rfl) hd.b_len rfl) rg_nil)))) (rl_cons (re_var (i := 1) rfl (.inl (by kernel_rfl))) rl_nil)) (by kernel_rfl) hd.b_enumerate (by kernel_rfl) hd.b_zip) (rp_tup (n := 2) (rps_cons (rp_name (i := 3) nd_least_strokes rfl (.inr (by kernel_rfl)) rfl) (rps_cons (rp_tup (n := 2) (rps_cons (rp_name (i := 4) nd_least_strokes rfl (.inl (by kernel_rfl)) rfl) (rps_cons (rp_name (i := 5) nd_least_strokes rfl (.inr (by kernel_rfl)) rfl) rps_nil))) rps_nil))) (jb_one (js_ext (i := 2) rfl (.inl (by kernel_rfl)) (RE.v (RF.e (rf_lc (own := [("first", 6), ("last", 7)]) nd_least_strokes (ri_seqV (RE.v (re_dfn h_runs_of (Nat.le_of_ble_eq_true rfl) (by kernel_rfl) (rg_cons (re_var (i := 4) rfl (.inl (by kernel_rfl))) (rg_cons (re_var (i := 5) rfl (.inr (.inl (by kernel_rfl)))) rg_nil))))) (blkOk_by (by kernel_rfl)) (rp_tup (n := 2) (rps_cons (rp_name (i := 6) nd_least_strokes rfl (.inl (by kernel_rfl)) (by kernel_rfl)) (rps_cons (rp_name (i := 7) nd_least_strokes rfl (.inl (by kernel_rfl)) (by kernel_rfl)) rps_nil))) (by decide) rts_nil (re_tup (rl_cons (re_var (i := 3) rfl (.inr (.inl (by kernel_rfl)))) (rl_cons (re_var (i := 6) rfl (.inl (by kernel_rfl))) (rl_cons (j_sl sl_any (rv_var (i := 5) rfl (.inr (.inl (by kernel_rfl)))) (ro_some (rv_var (i := 6) rfl (.inl (by kernel_rfl)))) (ro_some (RE.v (j_op ox_add (rv_var (i := 7) rfl (.inl (by kernel_rfl))) (RE.v re_int))))) rl_nil))))))))))
  (jb_one (js_ret (j_callT cx_tuple (ra_cons (rv_var (i := 2) rfl (.inl (by kernel_rfl))) ra_nil) (by kernel_rfl) hd.b_tuple rfl)))))
theorem nd_least_cost : N_least_cost.Nodup := by decide
theorem b_least_cost (W : Wb) (hd : Hds W) (h_framed : Dfn W "framed" 1 3 F_framed) : JB (cx W N_least_cost (defScope (top 24)) 1) (defBody (top 24)) f_least_cost :=
  (jb_cons (js_set (i := 2) nd_least_cost rfl (.inl (by kernel_rfl)) rfl re_int (fun _ _ => rfl))
  (jb_cons (js_for (ri_zip (rl_cons (re_dfn h_framed (Nat.le_of_ble_eq_true rfl) (by kernel_rfl) (rg_cons (re_var (i := 0) rfl (.inl (by kernel_rfl))) (rg_cons (j_callB cx_len (ra_cons (rv_var (i := 1) rfl (.inl (by kernel_rfl))) ra_nil) (by kernel_rfl) hd.b_len rfl) (rg_cons (j_callB cx_len (ra_cons (RE.v (j_ix ix_any (rv_var (i := 1) rfl (.inl (by kernel_rfl))) (RE.v re_int))) ra_nil) (by kernel_rfl) hd.b_len rfl) rg_nil)))) (rl_cons (re_var (i := 1) rfl (.inl (by kernel_rfl))) rl_nil)) (by kernel_rfl) hd.b_zip) (rp_tup (n := 2) (rps_cons (rp_name (i := 3) nd_least_cost rfl (.inl (by kernel_rfl)) rfl) (rps_cons (rp_name (i := 4) nd_least_cost rfl (.inl (by kernel_rfl)) rfl) rps_nil))) (jb_cons (js_set (i := 5) nd_least_cost rfl (.inl (by kernel_rfl)) rfl re_non (fun _ _ => rfl))
  (jb_one (js_for (ri_seq (RF.e (rf_lc (own := [("at", 7), ("old", 8), ("new", 9)]) nd_least_cost (ri_enumzipV (ra_cons (rv_var (i := 3) rfl (.inl (by kernel_rfl))) (ra_cons (rv_var (i := 4) rfl (.inl (by kernel_rfl))) ra_nil)) (by kernel_rfl) hd.b_enumerate (by kernel_rfl) hd.b_zip) (blkOk_by (by kernel_rfl)) (rp_tup (n := 2) (rps_cons (rp_name (i := 7) nd_least_cost rfl (.inl (by kernel_rfl)) (by kernel_rfl)) (rps_cons (rp_tup (n := 2) (rps_cons (rp_name (i := 8) nd_least_cost rfl (.inl (by kernel_rfl)) (by kernel_rfl)) (rps_cons (rp_name (i := 9) nd_least_cost rfl (.inl (by kernel_rfl)) (by kernel_rfl)) rps_nil))) rps_nil))) (by decide) (rts_one (rt_cmp ox_ne (rv_var (i := 8) rfl (.inl (by kernel_rfl))) (rv_var (i := 9) rfl (.inl (by kernel_rfl))) (nomark _))) (re_var (i := 7) rfl (.inl (by kernel_rfl)))))) (rp_name (i := 6) nd_least_cost rfl (.inl (by kernel_rfl)) rfl) (jb_cons (js_set (i := 2) nd_least_cost rfl (.inl (by kernel_rfl)) rfl (j_op ox_add (rv_var (i := 2) rfl (.inl (by kernel_rfl))) (RE.v (j_if (rt_cmp ox_is (rv_var (i := 5) rfl (.inl (by kernel_rfl))) (RE.v re_non) (nomark _)) (j_op ox_add (RE.v (re_glob (by kernel_rfl) hd.c_LIFT.choose_spec.1 hd.c_LIFT.choose_spec.2 c_LIFT_dt)) (RE.v re_int)) (j_callB cx_min (ra_cons (RE.v (j_op ox_add (RE.v (re_glob (by kernel_rfl) hd.c_LIFT.choose_spec.1 hd.c_LIFT.choose_spec.2 c_LIFT_dt)) (RE.v re_int))) (ra_cons (RE.v (j_op ox_sub (rv_var (i := 6) rfl (.inl (by kernel_rfl))) (rv_var (i := 5) rfl (.inl (by kernel_rfl))))) ra_nil)) (by kernel_rfl) hd.b_min rfl)))) (fun _ _ => rfl))
  (jb_one (js_set (i := 5) nd_least_cost rfl (.inl (by kernel_rfl)) rfl (re_var (i := 6) rfl (.inl (by kernel_rfl))) (fun _ _ => rfl))))))))
  (jb_one (js_ret (re_var (i := 2) rfl (.inl (by kernel_rfl)))))))
theorem nd_anew : N_anew.Nodup := by decide
theorem b_anew (W : Wb) (hd : Hds W) (h_check_pictures : Dfn W "check_pictures" 2 1 F_check_pictures) (h_cost_of : Dfn W "cost_of" 2 1 F_cost_of) (h_least_strokes : Dfn W "least_strokes" 2 2 F_least_strokes) : JB (cx W N_anew (defScope (top 25)) 2) (defBody (top 25)) f_anew :=
  (jb_cons (js_drop (re_dfn h_check_pictures (Nat.le_of_ble_eq_true rfl) (by kernel_rfl) (rg_cons (re_tup (rl_cons (re_var (i := 0) rfl (.inl (by kernel_rfl))) (rl_cons (re_var (i := 1) rfl (.inl (by kernel_rfl))) rl_nil))) rg_nil)) (fun _ _ => rfl))
  (jb_cons (js_set (i := 2) nd_anew rfl (.inl (by kernel_rfl)) rfl (re_dfn h_least_strokes (Nat.le_of_ble_eq_true rfl) (by kernel_rfl) (rg_cons (re_var (i := 0) rfl (.inl (by kernel_rfl))) (rg_cons (re_var (i := 1) rfl (.inl (by kernel_rfl))) rg_nil))) (fun _ _ => rfl))
  (jb_one (js_ret (re_tup (rl_cons (re_dfn h_cost_of (Nat.le_of_ble_eq_true rfl) (by kernel_rfl) (rg_cons (re_var (i := 2) rfl (.inl (by kernel_rfl))) rg_nil)) (rl_cons (re_var (i := 2) rfl (.inl (by kernel_rfl))) rl_nil)))))))
theorem nd_drawn_anew : N_drawn_anew.Nodup := by decide
theorem b_drawn_anew (W : Wb) (hd : Hds W) (h_are_strokes_anew : Dfn W "are_strokes_anew" 4 1 F_are_strokes_anew) (h_check_pictures : Dfn W "check_pictures" 2 1 F_check_pictures) (h_drawn_over : Dfn W "drawn_over" 1 2 F_drawn_over) (h_framed : Dfn W "framed" 1 3 F_framed) (h_is_between : Dfn W "is_between" 2 3 F_is_between) (h_is_in_frame : Dfn W "is_in_frame" 1 3 F_is_in_frame) : JB (cx W N_drawn_anew (defScope (top 26)) 4) (defBody (top 26)) f_drawn_anew :=
  (jb_cons (js_drop (re_dfn h_check_pictures (Nat.le_of_ble_eq_true rfl) (by kernel_rfl) (rg_cons (re_tup (rl_cons (re_var (i := 0) rfl (.inl (by kernel_rfl))) rl_nil)) rg_nil)) (fun _ _ => rfl))
  (jb_cons (js_if (RW.t (rw_or (rt_not (rt_tru (RE.v (re_dfn h_is_between (Nat.le_of_ble_eq_true rfl) (by kernel_rfl) (rg_cons (re_var (i := 2) rfl (.inr (.inl (by kernel_rfl)))) (rg_cons re_int (rg_cons (re_glob (by kernel_rfl) hd.c_MOST_HIGH.choose_spec.1 hd.c_MOST_HIGH.choose_spec.2 c_MOST_HIGH_dt) rg_nil))))))) (rw_or1 (rt_not (rt_tru (RE.v (re_dfn h_is_between (Nat.le_of_ble_eq_true rfl) (by kernel_rfl) (rg_cons (re_var (i := 3) rfl (.inr (.inl (by kernel_rfl)))) (rg_cons re_int (rg_cons (re_glob (by kernel_rfl) hd.c_MOST_WIDE.choose_spec.1 hd.c_MOST_WIDE.choose_spec.2 c_MOST_WIDE_dt) rg_nil)))))))))) (jb_one js_bad) jb_nil)
  (jb_cons (js_if (RW.t (rw_or (rt_not (rt_tru (RE.v (re_dfn h_are_strokes_anew (Nat.le_of_ble_eq_true rfl) (by kernel_rfl) (rg_cons (re_var (i := 1) rfl (.inl (by kernel_rfl))) rg_nil))))) (rw_or1 (rt_not (rt_tru (RE.v (j_callB cx_all (ra_cons (RE.v (RF.e (rf_lc (own := [("stroke", 4)]) nd_drawn_anew (ri_seqV (rv_var (i := 1) rfl (.inl (by kernel_rfl)))) (blkOk_by (by kernel_rfl)) (rp_name (i := 4) nd_drawn_anew rfl (.inl (by kernel_rfl)) (by kernel_rfl)) (by decide) rts_nil (re_dfn h_is_in_frame (Nat.le_of_ble_eq_true rfl) (by kernel_rfl) (rg_cons (re_var (i := 4) rfl (.inl (by kernel_rfl))) (rg_cons (re_var (i := 2) rfl (.inr (.inl (by kernel_rfl)))) (rg_cons (re_var (i := 3) rfl (.inr (.inl (by kernel_rfl)))) rg_nil))))))) ra_nil) (by kernel_rfl) hd.b_all rfl))))))) (jb_one js_bad) jb_nil)
  (jb_one (js_ret (j_callT cx_tuple (ra_cons (RE.v (re_dfn h_drawn_over (Nat.le_of_ble_eq_true rfl) (by kernel_rfl) (rg_cons (re_dfn h_framed (Nat.le_of_ble_eq_true rfl) (by kernel_rfl) (rg_cons (re_var (i := 0) rfl (.inl (by kernel_rfl))) (rg_cons (re_var (i := 2) rfl (.inr (.inl (by kernel_rfl)))) (rg_cons (re_var (i := 3) rfl (.inr (.inl (by kernel_rfl)))) rg_nil)))) (rg_cons (re_var (i := 1) rfl (.inl (by kernel_rfl))) rg_nil)))) ra_nil) (by kernel_rfl) hd.b_tuple rfl))))))
theorem nd_dots_changed : N_dots_changed.Nodup := by decide
theorem b_dots_changed (W : Wb) (hd : Hds W) (h_check_pictures : Dfn W "check_pictures" 2 1 F_check_pictures) (h_framed : Dfn W "framed" 1 3 F_framed) : JB (cx W N_dots_changed (defScope (top 27)) 2) (defBody (top 27)) f_dots_changed :=
  (jb_cons (js_drop (re_dfn h_check_pictures (Nat.le_of_ble_eq_true rfl) (by kernel_rfl) (rg_cons (re_tup (rl_cons (re_var (i := 0) rfl (.inl (by kernel_rfl))) (rl_cons (re_var (i := 1) rfl (.inl (by kernel_rfl))) rl_nil))) rg_nil)) (fun _ _ => rfl))
  (jb_zipSum (i := 2) (own := [("here", 3), ("there", 4)]) nd_dots_changed rfl (.inl (by kernel_rfl)) (.inl (by kernel_rfl)) rfl (rl_cons (re_dfn h_framed (Nat.le_of_ble_eq_true rfl) (by kernel_rfl) (rg_cons (re_var (i := 0) rfl (.inl (by kernel_rfl))) (rg_cons (j_callB cx_len (ra_cons (rv_var (i := 1) rfl (.inl (by kernel_rfl))) ra_nil) (by kernel_rfl) hd.b_len rfl) (rg_cons (j_callB cx_len (ra_cons (RE.v (j_ix ix_any (rv_var (i := 1) rfl (.inl (by kernel_rfl))) (RE.v re_int))) ra_nil) (by kernel_rfl) hd.b_len rfl) rg_nil)))) (rl_cons (re_var (i := 1) rfl (.inl (by kernel_rfl))) rl_nil)) (by kernel_rfl) hd.b_zip (by kernel_rfl) hd.b_sum (blkOk_by (by kernel_rfl)) (rp_tup (n := 2) (rps_cons (rp_name (i := 3) nd_dots_changed rfl (.inl (by kernel_rfl)) (by kernel_rfl)) (rps_cons (rp_name (i := 4) nd_dots_changed rfl (.inl (by kernel_rfl)) (by kernel_rfl)) rps_nil))) (by decide) rts_nil (j_callB cx_len (ra_cons (RE.v (RF.e (rf_lc (own := [("old", 5), ("new", 6)]) nd_dots_changed (ri_zipV (ra_cons (rv_var (i := 3) rfl (.inl (by kernel_rfl))) (ra_cons (rv_var (i := 4) rfl (.inl (by kernel_rfl))) ra_nil)) (by kernel_rfl) hd.b_zip) (blkOk_by (by kernel_rfl)) (rp_tup (n := 2) (rps_cons (rp_name (i := 5) nd_dots_changed rfl (.inl (by kernel_rfl)) (by kernel_rfl)) (rps_cons (rp_name (i := 6) nd_dots_changed rfl (.inl (by kernel_rfl)) (by kernel_rfl)) rps_nil))) (by decide) (rts_one (rt_cmp ox_ne (rv_var (i := 5) rfl (.inl (by kernel_rfl))) (rv_var (i := 6) rfl (.inl (by kernel_rfl))) (nomark _))) re_int))) ra_nil) (by kernel_rfl) hd.b_len rfl) (fun _ _ => rfl)))
theorem nd_shows_anew : N_shows_anew.Nodup := by decide
theorem b_shows_anew (W : Wb) (hd : Hds W) (h_are_strokes_anew : Dfn W "are_strokes_anew" 4 1 F_are_strokes_anew) (h_check_pictures : Dfn W "check_pictures" 2 1 F_check_pictures) (h_cost_of : Dfn W "cost_of" 2 1 F_cost_of) (h_drawn_over : Dfn W "drawn_over" 1 2 F_drawn_over) (h_framed : Dfn W "framed" 1 3 F_framed) (h_is_in_frame : Dfn W "is_in_frame" 1 3 F_is_in_frame) (h_is_integer : Dfn W "is_integer" 1 1 F_is_integer) (h_least_cost : Dfn W "least_cost" 2 2 F_least_cost) : JB (cx W N_shows_anew (defScope (top 28)) 4) (defBody (top 28)) f_shows_anew :=
  (jb_cons (js_drop (re_dfn h_check_pictures (Nat.le_of_ble_eq_true rfl) (by kernel_rfl) (rg_cons (re_tup (rl_cons (re_var (i := 0) rfl (.inl (by kernel_rfl))) (rl_cons (re_var (i := 1) rfl (.inl (by kernel_rfl))) rl_nil))) rg_nil)) (fun _ _ => rfl))
  (jb_cons (js_if (RW.t (rw_or (rt_not (rt_tru (RE.v (re_isi (T := "tuple") (rv_var (i := 2) rfl (.inl (by kernel_rfl))) (by kernel_rfl) hd.b_isinstance (by kernel_rfl) hd.b_tuple rfl)))) (rw_or (rt_cmp ox_ne (RE.v (j_callB cx_len (ra_cons (rv_var (i := 2) rfl (.inl (by kernel_rfl))) ra_nil) (by kernel_rfl) hd.b_len rfl)) (RE.v re_int) (nomark _)) (rw_or (rt_not (rt_tru (RE.v (re_dfn h_is_integer (Nat.le_of_ble_eq_true rfl) (by kernel_rfl) (rg_cons (j_ix ix_any (rv_var (i := 2) rfl (.inl (by kernel_rfl))) (RE.v re_int)) rg_nil))))) (rw_or1 (rt_not (rt_tru (RE.v (re_dfn h_are_strokes_anew (Nat.le_of_ble_eq_true rfl) (by kernel_rfl) (rg_cons (j_ix ix_any (rv_var (i := 2) rfl (.inl (by kernel_rfl))) (RE.v re_int)) rg_nil)))))))))) (jb_one (js_ret re_bl)) jb_nil)
  (jb_cons (js_if (RW.t (rw_or (rt_cmp ox_ne (RE.v (j_ix ix_any (rv_var (i := 2) rfl (.inl (by kernel_rfl))) (RE.v re_int))) (RE.v (re_dfn h_cost_of (Nat.le_of_ble_eq_true rfl) (by kernel_rfl) (rg_cons (j_ix ix_any (rv_var (i := 2) rfl (.inl (by kernel_rfl))) (RE.v re_int)) rg_nil))) (nomark _)) (rw_or1 (rt_cmp ox_ne (RE.v (j_ix ix_any (rv_var (i := 2) rfl (.inl (by kernel_rfl))) (RE.v re_int))) (RE.v (re_dfn h_least_cost (Nat.le_of_ble_eq_true rfl) (by kernel_rfl) (rg_cons (re_var (i := 0) rfl (.inl (by kernel_rfl))) (rg_cons (re_var (i := 1) rfl (.inl (by kernel_rfl))) rg_nil)))) (nomark _))))) (jb_one (js_ret re_bl)) jb_nil)
  (jb_cons (js_parN (pn_cons (i := 3) nd_shows_anew rfl (.inr (by kernel_rfl)) rfl (pn_cons (i := 4) nd_shows_anew rfl (.inr (by kernel_rfl)) rfl pn_nil)) (rm_d (j_callB cx_len (ra_cons (rv_var (i := 1) rfl (.inl (by kernel_rfl))) ra_nil) (by kernel_rfl) hd.b_len rfl) (rm_d (j_callB cx_len (ra_cons (RE.v (j_ix ix_any (rv_var (i := 1) rfl (.inl (by kernel_rfl))) (RE.v re_int))) ra_nil) (by kernel_rfl) hd.b_len rfl) rm_nil)) (fun _ _ => rfl) (fun env h => by cases env; cases h; exact (by kernel_rfl)))
  (jb_cons (js_if (rt_not (rt_tru (RE.v (j_callB cx_all (ra_cons (RE.v (RF.e (rf_lc (own := [("stroke", 5)]) nd_shows_anew (ri_seqV (RE.v (j_ix ix_any (rv_var (i := 2) rfl (.inl (by kernel_rfl))) (RE.v re_int)))) (blkOk_by (by kernel_rfl)) (rp_name (i := 5) nd_shows_anew rfl (.inl (by kernel_rfl)) (by kernel_rfl)) (by decide) rts_nil (re_dfn h_is_in_frame (Nat.le_of_ble_eq_true rfl) (by kernel_rfl) (rg_cons (re_var (i := 5) rfl (.inl (by kernel_rfl))) (rg_cons (re_var (i := 3) rfl (.inr (.inl (by kernel_rfl)))) (rg_cons (re_var (i := 4) rfl (.inr (.inl (by kernel_rfl)))) rg_nil))))))) ra_nil) (by kernel_rfl) hd.b_all rfl)))) (jb_one (js_ret re_bl)) jb_nil)
  (jb_one (js_ret (re_cmp ox_eq (RE.v (re_dfn h_drawn_over (Nat.le_of_ble_eq_true rfl) (by kernel_rfl) (rg_cons (re_dfn h_framed (Nat.le_of_ble_eq_true rfl) (by kernel_rfl) (rg_cons (re_var (i := 0) rfl (.inl (by kernel_rfl))) (rg_cons (re_var (i := 3) rfl (.inr (.inl (by kernel_rfl)))) (rg_cons (re_var (i := 4) rfl (.inr (.inl (by kernel_rfl)))) rg_nil)))) (rg_cons (j_ix ix_any (rv_var (i := 2) rfl (.inl (by kernel_rfl))) (RE.v re_int)) rg_nil)))) (RE.v (RF.e (j_callT cx_listF (ra_cons (rv_var (i := 1) rfl (.inl (by kernel_rfl))) ra_nil) (by kernel_rfl) hd.b_list rfl))) (nomark _)))))))))
theorem nd__law_pot : N__law_pot.Nodup := by decide
theorem b__law_pot (W : Wb) (hd : Hds W) : JB (cx W N__law_pot (defScope (top 30)) 0) (defBody (top 30)) f__law_pot :=
  (jb_cons (js_set (i := 2) nd__law_pot rfl (.inl (by kernel_rfl)) rfl (j_if (rt_cmp ox_lt (rv_var (i := 1) rfl (.inl (by kernel_rfl))) (RE.v (re_lenP (i := 0) rfl (.inl (by kernel_rfl)) (by kernel_rfl) hd.b_len)) (nomark _)) (re_pot (i := 0) rfl (.inl (by kernel_rfl)) (rv_var (i := 1) rfl (.inl (by kernel_rfl)))) (j_op ox_add (RE.v (j_op ox_add (RE.v (j_op ox_mod (RE.v (j_callB cx_sum (ra_cons (RE.v (RF.e (rf_slP (i := 0) rfl (.inl (by kernel_rfl)) ro_none (ro_some (RE.v re_int))))) ra_nil) (by kernel_rfl) hd.b_sum rfl)) (RE.v re_int))) (RE.v (j_op ox_mul (RE.v re_int) (rv_var (i := 1) rfl (.inl (by kernel_rfl))))))) (RE.v re_int))) (fun _ _ => rfl))
  (jb_cons (js_set (i := 3) nd__law_pot rfl (.inl (by kernel_rfl)) rfl (j_op ox_mul (RE.v (j_op ox_mod (RE.v (j_callT cx_int (ra_cons (RE.v (j_callB cx_abs (ra_cons (rv_var (i := 2) rfl (.inl (by kernel_rfl))) ra_nil) (by kernel_rfl) hd.b_abs rfl)) ra_nil) (by kernel_rfl) hd.b_int rfl)) (RE.v (j_op ox_pow (RE.v (j_op ox_pow (RE.v re_int) (RE.v re_int))) (RE.v re_int))))) (RE.v (j_callT cx_int (ra_cons (RE.v (re_cmp ox_ge (RE.v (j_callB cx_abs (ra_cons (rv_var (i := 2) rfl (.inl (by kernel_rfl))) ra_nil) (by kernel_rfl) hd.b_abs rfl)) (RE.v (j_op ox_pow (RE.v re_int) (RE.v re_int))) (nomark _))) ra_nil) (by kernel_rfl) hd.b_int rfl))) (fun _ _ => rfl))
  (jb_cons (js_set (i := 4) nd__law_pot rfl (.inl (by kernel_rfl)) rfl (j_op ox_mod (RE.v (j_callT cx_int (ra_cons (rv_var (i := 2) rfl (.inl (by kernel_rfl))) ra_nil) (by kernel_rfl) hd.b_int rfl)) (RE.v re_int)) (fun _ _ => rfl))
  (jb_one (js_ret (RF.e (rf_lst (rl_cons (re_var (i := 3) rfl (.inl (by kernel_rfl))) (rl_cons (j_op ox_mod (RE.v (j_callT cx_int (ra_cons (RE.v (j_op ox_add (RE.v (j_op ox_add (RE.v (j_op ox_mul (rv_var (i := 4) rfl (.inl (by kernel_rfl))) (RE.v re_int))) (RE.v (j_op ox_mul (RE.v (j_op ox_mul (RE.v re_int) (rv_var (i := 1) rfl (.inl (by kernel_rfl))))) (rv_var (i := 1) rfl (.inl (by kernel_rfl))))))) (RE.v re_int))) ra_nil) (by kernel_rfl) hd.b_int rfl)) (RE.v re_int)) (rl_cons re_int rl_nil))))))))))
theorem nd__law_take : N__law_take.Nodup := by decide
theorem b__law_take (W : Wb) (hd : Hds W) : JB (cx W N__law_take (defScope (top 31)) 0) (defBody (top 31)) f__law_take :=
  (jb_cons (js_if (rt_cmp ox_gt (RE.v (re_pot (i := 0) rfl (.inl (by kernel_rfl)) (RE.v re_int))) (RE.v re_int) (nomark _)) (jb_cons (js_set (i := 4) nd__law_take rfl (.inl (by kernel_rfl)) rfl (j_op ox_mod (RE.v (j_callT cx_int (ra_cons (RE.v (re_pot (i := 0) rfl (.inl (by kernel_rfl)) (RE.v re_int))) ra_nil) (by kernel_rfl) hd.b_int rfl)) (rv_var (i := 1) rfl (.inl (by kernel_rfl)))) (fun _ _ => rfl))
  (jb_cons (js_pot (i := 0) (k := 0) rfl (.inl (by kernel_rfl)) (j_op ox_fdiv (RE.v (re_pot (i := 0) rfl (.inl (by kernel_rfl)) (RE.v re_int))) (rv_var (i := 1) rfl (.inl (by kernel_rfl)))) (fun _ _ => rfl) (fun _ _ => rfl))
  (jb_one (js_ret (j_callT cx_int (ra_cons (rv_var (i := 4) rfl (.inl (by kernel_rfl))) ra_nil) (by kernel_rfl) hd.b_int rfl))))) jb_nil)
  (jb_cons (js_pot (i := 0) (k := 2) rfl (.inl (by kernel_rfl)) (j_op ox_add (RE.v (re_pot (i := 0) rfl (.inl (by kernel_rfl)) (RE.v re_int))) (RE.v re_int)) (fun _ _ => rfl) (fun _ _ => rfl))
  (jb_cons (js_set (i := 2) nd__law_take rfl (.inl (by kernel_rfl)) rfl (j_ix ix_any (RE.v (RF.e (rf_lst (rl_cons re_int (rl_cons re_int (rl_cons re_int (rl_cons re_int (rl_cons re_int rl_nil)))))))) (RE.v (j_op ox_mod (RE.v (j_callT cx_int (ra_cons (RE.v (re_pot (i := 0) rfl (.inl (by kernel_rfl)) (RE.v re_int))) ra_nil) (by kernel_rfl) hd.b_int rfl)) (RE.v re_int)))) (fun _ _ => rfl))
  (jb_cons (js_set (i := 3) nd__law_take rfl (.inl (by kernel_rfl)) rfl (j_op ox_mod (RE.v (j_callT cx_int (ra_cons (RE.v (j_op ox_pow (RE.v (j_callT cx_int (ra_cons (RE.v (j_op ox_add (RE.v (j_op ox_add (RE.v (re_pot (i := 0) rfl (.inl (by kernel_rfl)) (RE.v re_int))) (RE.v (j_op ox_mul (RE.v (j_op ox_mul (RE.v re_int) (RE.v (re_pot (i := 0) rfl (.inl (by kernel_rfl)) (RE.v re_int))))) (RE.v (re_pot (i := 0) rfl (.inl (by kernel_rfl)) (RE.v re_int))))))) (RE.v re_int))) ra_nil) (by kernel_rfl) hd.b_int rfl)) (RE.v re_int))) ra_nil) (by kernel_rfl) hd.b_int rfl)) (rv_var (i := 2) rfl (.inl (by kernel_rfl)))) (fun _ _ => rfl))
  (jb_cons (js_set (i := 3) nd__law_take rfl (.inl (by kernel_rfl)) rfl (j_op ox_mod (RE.v (j_callT cx_int (ra_cons (RE.v (j_op ox_mul (rv_var (i := 3) rfl (.inl (by kernel_rfl))) (RE.v (j_op ox_add (RE.v (j_op ox_mod (RE.v (j_callT cx_int (ra_cons (rv_var (i := 3) rfl (.inl (by kernel_rfl))) ra_nil) (by kernel_rfl) hd.b_int rfl)) (RE.v re_int))) (RE.v (j_op ox_mul (RE.v re_int) (RE.v (re_pot (i := 0) rfl (.inl (by kernel_rfl)) (RE.v re_int))))))))) ra_nil) (by kernel_rfl) hd.b_int rfl)) (RE.v re_int)) (fun _ _ => rfl))
  (jb_one (js_ret (j_op ox_mod (RE.v (j_callT cx_int (ra_cons (RE.v (j_op ox_fdiv (rv_var (i := 3) rfl (.inl (by kernel_rfl))) (RE.v re_int))) ra_nil) (by kernel_rfl) hd.b_int rfl)) (rv_var (i := 1) rfl (.inl (by kernel_rfl)))))))))))
theorem nd__law_of : N__law_of.Nodup := by decide
theorem bp__law_of {W : Wb} (hd : Hds W) (h__law_take : Dfn W "_law_take" 1 2 F__law_take) {f : Addr} {fd : FuncData} (FD : FunD W.K "_law_of" "_law_of" (defArgs (top 32)) (defBody (top 32)) (defScope (top 32)) [] [] f fd) (S : FnScope N__law_of ["pot", "some"] (defScope (top 32))) : FnP W 2 f fd ["pot", "some"] (spPick W pn__law_of pk__law_of) :=
  fnP_pick FD S rfl (.inl (by kernel_rfl)) (RE.v (re_dfn h__law_take (Nat.le_of_ble_eq_true rfl) (by kernel_rfl) (rg_pot (i := 0) rfl (.inl (by kernel_rfl)) (rg_cons (j_callB cx_len (ra_cons (rv_var (i := 1) rfl (.inl (by kernel_rfl))) ra_nil) (by kernel_rfl) hd.b_len rfl) rg_nil))))
theorem b__law_of (W : Wb) (hd : Hds W) (h__law_take : Dfn W "_law_take" 1 2 F__law_take) : JB (cx W N__law_of (defScope (top 32)) 1) (defBody (top 32)) f__law_of :=
  (jb_one (js_ret (j_ix ix_any (rv_var (i := 1) rfl (.inl (by kernel_rfl))) (RE.v (re_dfn h__law_take (Nat.le_of_ble_eq_true rfl) (by kernel_rfl) (rg_pot (i := 0) rfl (.inl (by kernel_rfl)) (rg_cons (j_callB cx_len (ra_cons (rv_var (i := 1) rfl (.inl (by kernel_rfl))) ra_nil) (by kernel_rfl) hd.b_len rfl) rg_nil)))))))
theorem nd__law_cells : N__law_cells.Nodup := by decide
theorem b__law_cells (W : Wb) (hd : Hds W) : JB (cx W N__law_cells (defScope (top 33)) 0) (defBody (top 33)) f__law_cells :=
  (jb_one (js_ret (RF.e (rf_lr1 (j_callB cx_max (ra_cons (RE.v re_int) (ra_cons (RE.v (j_callB cx_min (ra_cons (rv_var (i := 1) rfl (.inl (by kernel_rfl))) (ra_cons (RE.v (re_lenP (i := 0) rfl (.inl (by kernel_rfl)) (by kernel_rfl) hd.b_len)) ra_nil)) (by kernel_rfl) hd.b_min rfl)) ra_nil)) (by kernel_rfl) hd.b_max rfl) (by kernel_rfl) hd.b_list (by kernel_rfl) hd.b_range))))
theorem nd__law_some : N__law_some.Nodup := by decide
theorem b__law_some (W : Wb) (hd : Hds W) (h__law_take : Dfn W "_law_take" 1 2 F__law_take) : JB (cx W N__law_some (defScope (top 34)) 1) (defBody (top 34)) f__law_some :=
  (jb_cons (js_par2 (i := 4) (j := 5) nd__law_some rfl rfl (by decide) (by kernel_rfl) (by kernel_rfl) (rm_l (j_callT cx_listF (ra_cons (rv_var (i := 1) rfl (.inl (by kernel_rfl))) ra_nil) (by kernel_rfl) hd.b_list rfl) (rm_l (rf_lst rl_nil) rm_nil)) (fun env h => by cases env; cases h; exact (by kernel_rfl)))
  (jb_cons (js_for (ri_range1 (ra_cons (RE.v (j_callB cx_min (ra_cons (rv_var (i := 2) rfl (.inl (by kernel_rfl))) (ra_cons (RE.v (j_callB cx_len (ra_cons (rv_var (i := 4) rfl (.inl (by kernel_rfl))) ra_nil) (by kernel_rfl) hd.b_len rfl)) ra_nil)) (by kernel_rfl) hd.b_min rfl)) ra_nil) (by kernel_rfl) hd.b_range) (rp_name (i := 3) nd__law_some rfl (.inl (by kernel_rfl)) rfl) (jb_one (js_appPop (i := 5) (j := 4) rfl (.inl (by kernel_rfl)) rfl (.inl (by kernel_rfl)) (RE.v (re_dfn h__law_take (Nat.le_of_ble_eq_true rfl) (by kernel_rfl) (rg_pot (i := 0) rfl (.inl (by kernel_rfl)) (rg_cons (j_callB cx_len (ra_cons (rv_var (i := 4) rfl (.inl (by kernel_rfl))) ra_nil) (by kernel_rfl) hd.b_len rfl) rg_nil)))))))
  (jb_one (js_frz 5 (js_ret (re_var (i := 5) rfl (.inl (by kernel_rfl))))))))
theorem nd__law_picture : N__law_picture.Nodup := by decide
theorem b__law_picture (W : Wb) (hd : Hds W) (h__law_of : Dfn W "_law_of" 2 2 F__law_of) : JB (cx W N__law_picture (defScope (top 35)) 2) (defBody (top 35)) f__law_picture :=
  (jb_cons (js_setL (i := 3) nd__law_picture rfl (.inl (by kernel_rfl)) rfl (rf_lst rl_nil) (fun _ _ => rfl))
  (jb_cons (js_for (ri_range1 (ra_cons (rv_var (i := 1) rfl (.inl (by kernel_rfl))) ra_nil) (by kernel_rfl) hd.b_range) (rp_name (i := 4) nd__law_picture rfl (.inl (by kernel_rfl)) rfl) (jb_one (js_app (i := 3) rfl (.inl (by kernel_rfl)) (re_join (RE.v re_str) (RE.v (RF.e (rf_lc (own := [("at", 5)]) nd__law_picture (ri_range1 (ra_cons (rv_var (i := 2) rfl (.inl (by kernel_rfl))) ra_nil) (by kernel_rfl) hd.b_range) (blkOk_by (by kernel_rfl)) (rp_name (i := 5) nd__law_picture rfl (.inl (by kernel_rfl)) (by kernel_rfl)) (by decide) rts_nil (re_dfn h__law_of (Nat.le_of_ble_eq_true rfl) (by kernel_rfl) (rg_pot (i := 0) rfl (.inr (.inl (by kernel_rfl))) (rg_cons re_str rg_nil))))))))))
  (jb_one (js_ret (j_callT cx_tuple (ra_cons (rv_var (i := 3) rfl (.inl (by kernel_rfl))) ra_nil) (by kernel_rfl) hd.b_tuple rfl)))))
theorem nd__law_near : N__law_near.Nodup := by decide
theorem b__law_near (W : Wb) (hd : Hds W) (h__law_of : Dfn W "_law_of" 2 2 F__law_of) (h__law_take : Dfn W "_law_take" 1 2 F__law_take) (hp__law_of : DfnP W "_law_of" 2 (spPick W pn__law_of pk__law_of)) : JB (cx W N__law_near (defScope (top 36)) 2) (defBody (top 36)) f__law_near :=
  (jb_near (ir := 2) (ip := 0) (il := 3) (iw := 4) (own := [("row", 4)]) nd__law_near (ri_seqV (rv_var (i := 1) rfl (.inl (by kernel_rfl)))) (blkOk_by (by kernel_rfl)) (rp_name (i := 4) nd__law_near rfl (.inl (by kernel_rfl)) (by kernel_rfl)) (by decide) (j_callT cx_listF (ra_cons (rv_var (i := 4) rfl (.inl (by kernel_rfl))) ra_nil) (by kernel_rfl) hd.b_list rfl) rfl (by kernel_rfl) (.inl (by kernel_rfl)) rfl (.inl (by kernel_rfl)) rfl (.inl (by kernel_rfl)) rfl rfl (.inl (by kernel_rfl)) (.inl (by kernel_rfl)) rfl (by decide) (fun env h => sw_true (by rw [h]; exact (by kernel_rfl)) (by rw [h]; exact (by kernel_rfl)) rfl (by kernel_rfl))
  (ri_range1 (ra_cons (RE.v (re_dfn h__law_take (Nat.le_of_ble_eq_true rfl) (by kernel_rfl) (rg_pot (i := 0) rfl (.inl (by kernel_rfl)) (rg_cons re_int rg_nil)))) ra_nil) (by kernel_rfl) hd.b_range) hp__law_of (Nat.le_of_ble_eq_true rfl) (by kernel_rfl) (fun _ _ => rfl) (rt_cmp ox_ne (rv_var (i := 4) rfl (.inl (by kernel_rfl))) (RE.v (RF.e (rf_lst rl_nil))) (nomark _)) (RE.v (re_dfn h__law_take (Nat.le_of_ble_eq_true rfl) (by kernel_rfl) (rg_pot (i := 0) rfl (.inl (by kernel_rfl)) (rg_cons (j_callB cx_len (ra_cons (rv_var (i := 4) rfl (.inl (by kernel_rfl))) ra_nil) (by kernel_rfl) hd.b_len rfl) rg_nil)))) (re_dfn h__law_of (Nat.le_of_ble_eq_true rfl) (by kernel_rfl) (rg_pot (i := 0) rfl (.inl (by kernel_rfl)) (rg_cons re_str rg_nil))) (fun _ _ => rfl) (fun _ _ => rfl)
  (jb_one (js_ret (j_callT cx_tuple (ra_cons (RE.v (RF.e (rf_lc (own := [("row", 4)]) nd__law_near (ri_seqV (rv_var (i := 2) rfl (.inl (by kernel_rfl)))) (blkOk_by (by kernel_rfl)) (rp_name (i := 4) nd__law_near rfl (.inl (by kernel_rfl)) (by kernel_rfl)) (by decide) rts_nil (re_join (RE.v re_str) (rv_var (i := 4) rfl (.inl (by kernel_rfl))))))) ra_nil) (by kernel_rfl) hd.b_tuple rfl))))
theorem nd__law_framed : N__law_framed.Nodup := by decide
theorem b__law_framed (W : Wb) (hd : Hds W) : JB (cx W N__law_framed (defScope (top 37)) 0) (defBody (top 37)) f__law_framed :=
  (jb_cons (js_setLc (i := 3) (own := [("row", 4)]) nd__law_framed (ri_seqV (RE.v (j_sl sl_any (rv_var (i := 0) rfl (.inl (by kernel_rfl))) ro_none (ro_some (rv_var (i := 1) rfl (.inl (by kernel_rfl))))))) (blkOk_by (by kernel_rfl)) (rp_name (i := 4) nd__law_framed rfl (.inl (by kernel_rfl)) (by kernel_rfl)) (by decide) rts_nil (j_sl sl_any (RE.v (j_op ox_add (rv_var (i := 4) rfl (.inl (by kernel_rfl))) (RE.v (j_op ox_mul (RE.v re_str) (rv_var (i := 2) rfl (.inr (.inl (by kernel_rfl)))))))) ro_none (ro_some (rv_var (i := 2) rfl (.inr (.inl (by kernel_rfl)))))) rfl (by kernel_rfl) (fun env h => sw_true (by rw [h]; exact (by kernel_rfl)) (by rw [h]; exact (by kernel_rfl)) rfl (by kernel_rfl)))
  (jb_one (js_ret (j_callT cx_tuple (ra_cons (RE.v (j_op ox_add (rv_var (i := 3) rfl (.inl (by kernel_rfl))) (RE.v (j_op ox_mul (RE.v (RF.e (rf_lst (rl_cons (j_op ox_mul (RE.v re_str) (rv_var (i := 2) rfl (.inr (.inl (by kernel_rfl))))) rl_nil)))) (RE.v (j_op ox_sub (rv_var (i := 1) rfl (.inl (by kernel_rfl))) (RE.v (j_callB cx_len (ra_cons (rv_var (i := 3) rfl (.inl (by kernel_rfl))) ra_nil) (by kernel_rfl) hd.b_len rfl)))))))) ra_nil) (by kernel_rfl) hd.b_tuple rfl))))
theorem nd__law_changes : N__law_changes.Nodup := by decide
theorem b__law_changes (W : Wb) (hd : Hds W) : JB (cx W N__law_changes (defScope (top 38)) 0) (defBody (top 38)) f__law_changes :=
  (jb_one (js_ret (RF.e (rf_lc (own := [("at", 2)]) nd__law_changes (ri_range1 (ra_cons (RE.v (j_callB cx_len (ra_cons (rv_var (i := 1) rfl (.inr (.inl (by kernel_rfl)))) ra_nil) (by kernel_rfl) hd.b_len rfl)) ra_nil) (by kernel_rfl) hd.b_range) (blkOk_by (by kernel_rfl)) (rp_name (i := 2) nd__law_changes rfl (.inl (by kernel_rfl)) (by kernel_rfl)) (by decide) (rts_one (rt_cmp ox_ne (RE.v (j_ix ix_any (rv_var (i := 0) rfl (.inr (.inl (by kernel_rfl)))) (rv_var (i := 2) rfl (.inl (by kernel_rfl))))) (RE.v (j_ix ix_any (rv_var (i := 1) rfl (.inr (.inl (by kernel_rfl)))) (rv_var (i := 2) rfl (.inl (by kernel_rfl))))) (nomark _))) (re_var (i := 2) rfl (.inl (by kernel_rfl)))))))
theorem nd__law_row_cost : N__law_row_cost.Nodup := by decide
theorem b__law_row_cost (W : Wb) (hd : Hds W) (h__law_changes : Dfn W "_law_changes" 1 2 F__law_changes) : JB (cx W N__law_row_cost (defScope (top 39)) 1) (defBody (top 39)) f__law_row_cost :=
  (jb_cons (js_set (i := 2) nd__law_row_cost rfl (.inr (by kernel_rfl)) rfl (re_dfn h__law_changes (Nat.le_of_ble_eq_true rfl) (by kernel_rfl) (rg_cons (re_var (i := 0) rfl (.inl (by kernel_rfl))) (rg_cons (re_var (i := 1) rfl (.inl (by kernel_rfl))) rg_nil))) (fun _ _ => rfl))
  (jb_cons (js_setL (i := 3) nd__law_row_cost rfl (.inr (by kernel_rfl)) rfl (rf_lst (rl_cons re_int rl_nil)) (fun _ _ => rfl))
  (jb_cons (js_for (ri_range1 (ra_cons (RE.v (j_callB cx_len (ra_cons (rv_var (i := 2) rfl (.inr (.inl (by kernel_rfl)))) ra_nil) (by kernel_rfl) hd.b_len rfl)) ra_nil) (by kernel_rfl) hd.b_range) (rp_name (i := 4) nd__law_row_cost rfl (.inr (by kernel_rfl)) rfl) (jb_cons (js_setLc (i := 5) (own := [("first", 6)]) nd__law_row_cost (ri_range1 (ra_cons (RE.v (j_op ox_add (rv_var (i := 4) rfl (.inr (.inl (by kernel_rfl)))) (RE.v re_int))) ra_nil) (by kernel_rfl) hd.b_range) (blkOk_by (by kernel_rfl)) (rp_name (i := 6) nd__law_row_cost rfl (.inl (by kernel_rfl)) (by kernel_rfl)) (by decide) rts_nil (j_op ox_add (RE.v (j_op ox_sub (RE.v (j_op ox_add (RE.v (j_op ox_add (RE.v (j_ix ix_any (rv_var (i := 3) rfl (.inr (.inl (by kernel_rfl)))) (rv_var (i := 6) rfl (.inl (by kernel_rfl))))) (RE.v re_int))) (RE.v (j_ix ix_any (rv_var (i := 2) rfl (.inr (.inl (by kernel_rfl)))) (rv_var (i := 4) rfl (.inr (.inl (by kernel_rfl)))))))) (RE.v (j_ix ix_any (rv_var (i := 2) rfl (.inr (.inl (by kernel_rfl)))) (rv_var (i := 6) rfl (.inl (by kernel_rfl))))))) (RE.v re_int)) rfl (by kernel_rfl) (fun env h => sw_true (by rw [h]; exact (by kernel_rfl)) (by rw [h]; exact (by kernel_rfl)) rfl (by kernel_rfl)))
  (jb_one (js_app (i := 3) rfl (.inr (.inl (by kernel_rfl))) (j_callB cx_min (ra_cons (rv_var (i := 5) rfl (.inl (by kernel_rfl))) ra_nil) (by kernel_rfl) hd.b_min rfl)))))
  (jb_one (js_ret (j_ix ix_any (rv_var (i := 3) rfl (.inr (.inl (by kernel_rfl)))) (RE.v (re_neg (RE.v re_int)))))))))
theorem nd__law_cost : N__law_cost.Nodup := by decide
theorem b__law_cost (W : Wb) (hd : Hds W) (h__law_framed : Dfn W "_law_framed" 1 3 F__law_framed) (h__law_row_cost : Dfn W "_law_row_cost" 2 2 F__law_row_cost) : JB (cx W N__law_cost (defScope (top 40)) 2) (defBody (top 40)) f__law_cost :=
  (jb_one (js_ret (j_callB cx_sum (ra_cons (RE.v (RF.e (rf_lc (own := [("row", 2), ("its", 3)]) nd__law_cost (ri_zipV (ra_cons (RE.v (re_dfn h__law_framed (Nat.le_of_ble_eq_true rfl) (by kernel_rfl) (rg_cons (re_var (i := 0) rfl (.inl (by kernel_rfl))) (rg_cons (j_callB cx_len (ra_cons (rv_var (i := 1) rfl (.inl (by kernel_rfl))) ra_nil) (by kernel_rfl) hd.b_len rfl) (rg_cons (j_callB cx_len (ra_cons (RE.v (j_ix ix_any (rv_var (i := 1) rfl (.inl (by kernel_rfl))) (RE.v re_int))) ra_nil) (by kernel_rfl) hd.b_len rfl) rg_nil))))) (ra_cons (rv_var (i := 1) rfl (.inl (by kernel_rfl))) ra_nil)) (by kernel_rfl) hd.b_zip) (blkOk_by (by kernel_rfl)) (rp_tup (n := 2) (rps_cons (rp_name (i := 2) nd__law_cost rfl (.inl (by kernel_rfl)) (by kernel_rfl)) (rps_cons (rp_name (i := 3) nd__law_cost rfl (.inl (by kernel_rfl)) (by kernel_rfl)) rps_nil))) (by decide) rts_nil (re_dfn h__law_row_cost (Nat.le_of_ble_eq_true rfl) (by kernel_rfl) (rg_cons (re_var (i := 2) rfl (.inl (by kernel_rfl))) (rg_cons (re_var (i := 3) rfl (.inl (by kernel_rfl))) rg_nil)))))) ra_nil) (by kernel_rfl) hd.b_sum rfl)))
theorem nd__law_spent : N__law_spent.Nodup := by decide
theorem b__law_spent (W : Wb) (hd : Hds W) : JB (cx W N__law_spent (defScope (top 41)) 0) (defBody (top 41)) f__law_spent :=
  (jb_one (js_ret (j_callB cx_sum (ra_cons (RE.v (RF.e (rf_lc (own := [("row", 1), ("column", 2), ("signs", 3)]) nd__law_spent (ri_seqV (rv_var (i := 0) rfl (.inl (by kernel_rfl)))) (blkOk_by (by kernel_rfl)) (rp_tup (n := 3) (rps_cons (rp_name (i := 1) nd__law_spent rfl (.inl (by kernel_rfl)) (by kernel_rfl)) (rps_cons (rp_name (i := 2) nd__law_spent rfl (.inl (by kernel_rfl)) (by kernel_rfl)) (rps_cons (rp_name (i := 3) nd__law_spent rfl (.inl (by kernel_rfl)) (by kernel_rfl)) rps_nil)))) (by decide) rts_nil (j_op ox_add (RE.v re_int) (RE.v (j_callB cx_len (ra_cons (rv_var (i := 3) rfl (.inl (by kernel_rfl))) ra_nil) (by kernel_rfl) hd.b_len rfl)))))) ra_nil) (by kernel_rfl) hd.b_sum rfl)))
theorem nd__law_leads : N__law_leads.Nodup := by decide
theorem b__law_leads (W : Wb) (hd : Hds W) (h__law_framed : Dfn W "_law_framed" 1 3 F__law_framed) : JB (cx W N__law_leads (defScope (top 42)) 1) (defBody (top 42)) f__law_leads :=
  (jb_cons (js_setL (i := 3) nd__law_leads rfl (.inl (by kernel_rfl)) rfl (j_callT cx_listF (ra_cons (RE.v (re_dfn h__law_framed (Nat.le_of_ble_eq_true rfl) (by kernel_rfl) (rg_cons (re_var (i := 0) rfl (.inl (by kernel_rfl))) (rg_cons (j_callB cx_len (ra_cons (rv_var (i := 1) rfl (.inl (by kernel_rfl))) ra_nil) (by kernel_rfl) hd.b_len rfl) (rg_cons (j_callB cx_len (ra_cons (RE.v (j_ix ix_any (rv_var (i := 1) rfl (.inl (by kernel_rfl))) (RE.v re_int))) ra_nil) (by kernel_rfl) hd.b_len rfl) rg_nil))))) ra_nil) (by kernel_rfl) hd.b_list rfl) (fun _ _ => rfl))
  (jb_cons (js_for (ri_seq (re_var (i := 2) rfl (.inl (by kernel_rfl)))) (rp_tup (n := 3) (rps_cons (rp_name (i := 4) nd__law_leads rfl (.inl (by kernel_rfl)) rfl) (rps_cons (rp_name (i := 5) nd__law_leads rfl (.inl (by kernel_rfl)) rfl) (rps_cons (rp_name (i := 6) nd__law_leads rfl (.inl (by kernel_rfl)) rfl) rps_nil)))) (jb_cons (js_if (RW.t (rw_or (rt_not (rt_chain ox_le ox_lt (RE.v re_int) (rv_var (i := 4) rfl (.inl (by kernel_rfl))) (RE.v (j_callB cx_len (ra_cons (rv_var (i := 3) rfl (.inl (by kernel_rfl))) ra_nil) (by kernel_rfl) hd.b_len rfl)))) (rw_or (rt_cmp ox_lt (rv_var (i := 5) rfl (.inl (by kernel_rfl))) (RE.v re_int) (nomark _)) (rw_or (rt_cmp ox_gt (RE.v (j_op ox_add (rv_var (i := 5) rfl (.inl (by kernel_rfl))) (RE.v (j_callB cx_len (ra_cons (rv_var (i := 6) rfl (.inl (by kernel_rfl))) ra_nil) (by kernel_rfl) hd.b_len rfl)))) (RE.v (j_callB cx_len (ra_cons (RE.v (j_ix ix_any (rv_var (i := 1) rfl (.inl (by kernel_rfl))) (RE.v re_int))) ra_nil) (by kernel_rfl) hd.b_len rfl)) (nomark _)) (rw_or1 (rt_cmp ox_eq (rv_var (i := 6) rfl (.inl (by kernel_rfl))) (RE.v re_str) (nomark _))))))) (jb_one (js_ret re_bl)) jb_nil)
  (jb_one (js_put (i := 3) rfl (.inl (by kernel_rfl)) (rv_var (i := 4) rfl (.inl (by kernel_rfl))) (j_op ox_add (RE.v (j_op ox_add (RE.v (j_sl sl_any (RE.v (j_ix ix_any (rv_var (i := 3) rfl (.inl (by kernel_rfl))) (rv_var (i := 4) rfl (.inl (by kernel_rfl))))) ro_none (ro_some (rv_var (i := 5) rfl (.inl (by kernel_rfl)))))) (rv_var (i := 6) rfl (.inl (by kernel_rfl))))) (RE.v (j_sl sl_any (RE.v (j_ix ix_any (rv_var (i := 3) rfl (.inl (by kernel_rfl))) (rv_var (i := 4) rfl (.inl (by kernel_rfl))))) (ro_some (RE.v (j_op ox_add (rv_var (i := 5) rfl (.inl (by kernel_rfl))) (RE.v (j_callB cx_len (ra_cons (rv_var (i := 6) rfl (.inl (by kernel_rfl))) ra_nil) (by kernel_rfl) hd.b_len rfl))))) ro_none))) (fun _ _ => rfl) (fun _ _ => rfl)))))
  (jb_one (js_ret (re_cmp ox_eq (RE.v (j_callT cx_tuple (ra_cons (rv_var (i := 3) rfl (.inl (by kernel_rfl))) ra_nil) (by kernel_rfl) hd.b_tuple rfl)) (rv_var (i := 1) rfl (.inl (by kernel_rfl))) (nomark _))))))
theorem nd__law_lots : N__law_lots.Nodup := by decide
theorem b__law_lots (W : Wb) (hd : Hds W) (h__law_changes : Dfn W "_law_changes" 1 2 F__law_changes) (h__law_framed : Dfn W "_law_framed" 1 3 F__law_framed) (h__law_of : Dfn W "_law_of" 2 2 F__law_of) (h__law_some : Dfn W "_law_some" 2 3 F__law_some) : JB (cx W N__law_lots (defScope (top 43)) 2) (defBody (top 43)) f__law_lots :=
  (jb_cons (js_parN (pn_cons (i := 4) nd__law_lots rfl (.inl (by kernel_rfl)) rfl (pn_cons (i := 5) nd__law_lots rfl (.inl (by kernel_rfl)) rfl (pn_cons (i := 6) nd__law_lots rfl (.inl (by kernel_rfl)) rfl (pn_cons (i := 7) nd__law_lots rfl (.inl (by kernel_rfl)) rfl pn_nil)))) (rm_d (re_dfn h__law_framed (Nat.le_of_ble_eq_true rfl) (by kernel_rfl) (rg_cons (re_var (i := 1) rfl (.inl (by kernel_rfl))) (rg_cons (j_callB cx_len (ra_cons (rv_var (i := 2) rfl (.inr (.inl (by kernel_rfl)))) ra_nil) (by kernel_rfl) hd.b_len rfl) (rg_cons (j_callB cx_len (ra_cons (RE.v (j_ix ix_any (rv_var (i := 2) rfl (.inr (.inl (by kernel_rfl)))) (RE.v re_int))) ra_nil) (by kernel_rfl) hd.b_len rfl) rg_nil)))) (rm_l (rf_lst rl_nil) (rm_l (rf_lst rl_nil) (rm_l (rf_lst rl_nil) rm_nil)))) (fun _ _ => rfl) (fun env h => by cases env; cases h; exact (by kernel_rfl)))
  (jb_cons (js_for (ri_enum (rl_cons (re_var (i := 4) rfl (.inl (by kernel_rfl))) rl_nil) (by kernel_rfl) hd.b_enumerate) (rp_tup (n := 2) (rps_cons (rp_name (i := 8) nd__law_lots rfl (.inr (by kernel_rfl)) rfl) (rps_cons (rp_name (i := 9) nd__law_lots rfl (.inl (by kernel_rfl)) rfl) rps_nil))) (jb_cons (js_set (i := 10) nd__law_lots rfl (.inl (by kernel_rfl)) rfl (re_dfn h__law_changes (Nat.le_of_ble_eq_true rfl) (by kernel_rfl) (rg_cons (re_var (i := 9) rfl (.inl (by kernel_rfl))) (rg_cons (j_ix ix_any (rv_var (i := 2) rfl (.inr (.inl (by kernel_rfl)))) (rv_var (i := 8) rfl (.inr (.inl (by kernel_rfl))))) rg_nil))) (fun _ _ => rfl))
  (jb_cons (js_ext (i := 5) rfl (.inl (by kernel_rfl)) (RE.v (RF.e (rf_lc (own := [("place", 12)]) nd__law_lots (ri_seqV (rv_var (i := 10) rfl (.inl (by kernel_rfl)))) (blkOk_by (by kernel_rfl)) (rp_name (i := 12) nd__law_lots rfl (.inl (by kernel_rfl)) (by kernel_rfl)) (by decide) rts_nil (re_tup (rl_cons (j_callT cx_int (ra_cons (rv_var (i := 8) rfl (.inr (.inl (by kernel_rfl)))) ra_nil) (by kernel_rfl) hd.b_int rfl) (rl_cons (re_var (i := 12) rfl (.inl (by kernel_rfl))) (rl_cons (j_ix ix_any (RE.v (j_ix ix_any (rv_var (i := 2) rfl (.inr (.inl (by kernel_rfl)))) (rv_var (i := 8) rfl (.inr (.inl (by kernel_rfl)))))) (rv_var (i := 12) rfl (.inl (by kernel_rfl)))) rl_nil))))))))
  (jb_cons (js_if (rt_cmp ox_ne (rv_var (i := 10) rfl (.inl (by kernel_rfl))) (RE.v (RF.e (rf_lst rl_nil))) (nomark _)) (jb_one (js_app (i := 6) rfl (.inl (by kernel_rfl)) (re_tup (rl_cons (j_callT cx_int (ra_cons (rv_var (i := 8) rfl (.inr (.inl (by kernel_rfl)))) ra_nil) (by kernel_rfl) hd.b_int rfl) (rl_cons (j_ix ix_any (rv_var (i := 10) rfl (.inl (by kernel_rfl))) (RE.v re_int)) (rl_cons (j_sl sl_any (RE.v (j_ix ix_any (rv_var (i := 2) rfl (.inr (.inl (by kernel_rfl)))) (rv_var (i := 8) rfl (.inr (.inl (by kernel_rfl)))))) (ro_some (RE.v (j_ix ix_any (rv_var (i := 10) rfl (.inl (by kernel_rfl))) (RE.v re_int)))) (ro_some (RE.v (j_op ox_add (RE.v (j_ix ix_any (rv_var (i := 10) rfl (.inl (by kernel_rfl))) (RE.v (re_neg (RE.v re_int))))) (RE.v re_int))))) rl_nil)))))) jb_nil)
  (jb_cons (js_set (i := 11) nd__law_lots rfl (.inl (by kernel_rfl)) rfl (j_sl sl_any (rv_var (i := 10) rfl (.inl (by kernel_rfl))) ro_none (ro_some (RE.v re_int))) (fun _ _ => rfl))
  (jb_one (js_for (ri_zip (rl_cons (re_var (i := 10) rfl (.inl (by kernel_rfl))) (rl_cons (j_op ox_add (RE.v (j_sl sl_any (rv_var (i := 10) rfl (.inl (by kernel_rfl))) (ro_some (RE.v re_int)) ro_none)) (RE.v (RF.e (rf_lst (rl_cons (j_op ox_pow (RE.v re_int) (RE.v re_int)) rl_nil))))) rl_nil)) (by kernel_rfl) hd.b_zip) (rp_tup (n := 2) (rps_cons (rp_name (i := 12) nd__law_lots rfl (.inl (by kernel_rfl)) rfl) (rps_cons (rp_name (i := 13) nd__law_lots rfl (.inl (by kernel_rfl)) rfl) rps_nil))) (jb_one (js_if (rt_cmp ox_gt (RE.v (j_op ox_sub (rv_var (i := 13) rfl (.inl (by kernel_rfl))) (rv_var (i := 12) rfl (.inl (by kernel_rfl))))) (RE.v (re_dfn h__law_of (Nat.le_of_ble_eq_true rfl) (by kernel_rfl) (rg_pot (i := 0) rfl (.inr (.inl (by kernel_rfl))) (rg_cons (RF.e (rf_lst (rl_cons re_int (rl_cons re_int (rl_cons re_int (rl_cons re_int rl_nil)))))) rg_nil)))) (nomark _)) (jb_cons (js_app (i := 7) rfl (.inl (by kernel_rfl)) (re_tup (rl_cons (j_callT cx_int (ra_cons (rv_var (i := 8) rfl (.inr (.inl (by kernel_rfl)))) ra_nil) (by kernel_rfl) hd.b_int rfl) (rl_cons (j_ix ix_any (rv_var (i := 11) rfl (.inl (by kernel_rfl))) (RE.v re_int)) (rl_cons (j_sl sl_any (RE.v (j_ix ix_any (rv_var (i := 2) rfl (.inr (.inl (by kernel_rfl)))) (rv_var (i := 8) rfl (.inr (.inl (by kernel_rfl)))))) (ro_some (RE.v (j_ix ix_any (rv_var (i := 11) rfl (.inl (by kernel_rfl))) (RE.v re_int)))) (ro_some (RE.v (j_op ox_add (rv_var (i := 12) rfl (.inl (by kernel_rfl))) (RE.v re_int))))) rl_nil)))))
  (jb_one (js_set (i := 11) nd__law_lots rfl (.inl (by kernel_rfl)) rfl (RF.e (rf_lst (rl_cons (re_var (i := 13) rfl (.inl (by kernel_rfl))) rl_nil))) (fun _ _ => rfl)))) jb_nil)))))))))
  (jb_cons (js_frz 7 (js_frz 6 (js_frz 5 (js_setL (i := 3) nd__law_lots rfl (.inl (by kernel_rfl)) rfl (rf_lst (rl_cons (re_var (i := 5) rfl (.inl (by kernel_rfl))) (rl_cons (re_var (i := 6) rfl (.inl (by kernel_rfl))) (rl_cons (re_var (i := 7) rfl (.inl (by kernel_rfl))) rl_nil)))) (fun _ _ => rfl)))))
  (jb_cons (js_if (rt_cmp ox_gt (RE.v (j_callB cx_len (ra_cons (RE.v (j_ix ix_any (rv_var (i := 2) rfl (.inr (.inl (by kernel_rfl)))) (RE.v re_int))) ra_nil) (by kernel_rfl) hd.b_len rfl)) (RE.v re_int) (nomark _)) (jb_one (js_app (i := 3) rfl (.inl (by kernel_rfl)) (j_op ox_add (rv_var (i := 7) rfl (.inl (by kernel_rfl))) (RE.v (RF.e (rf_lst (rl_cons (re_tup (rl_cons re_int (rl_cons re_int (rl_cons (j_sl sl_any (RE.v (j_ix ix_any (rv_var (i := 2) rfl (.inr (.inl (by kernel_rfl)))) (RE.v re_int))) ro_none (ro_some (RE.v re_int))) rl_nil)))) rl_nil))))))) jb_nil)
  (jb_cons (js_app (i := 3) rfl (.inl (by kernel_rfl)) (RF.e (rf_lc (own := [("row", 9), ("column", 15), ("signs", 16)]) nd__law_lots (ri_seqV (rv_var (i := 7) rfl (.inl (by kernel_rfl)))) (blkOk_by (by kernel_rfl)) (rp_tup (n := 3) (rps_cons (rp_name (i := 9) nd__law_lots rfl (.inl (by kernel_rfl)) (by kernel_rfl)) (rps_cons (rp_name (i := 15) nd__law_lots rfl (.inl (by kernel_rfl)) (by kernel_rfl)) (rps_cons (rp_name (i := 16) nd__law_lots rfl (.inl (by kernel_rfl)) (by kernel_rfl)) rps_nil)))) (by decide) rts_nil (re_tup (rl_cons (re_var (i := 9) rfl (.inl (by kernel_rfl))) (rl_cons (re_var (i := 15) rfl (.inl (by kernel_rfl))) (rl_cons (j_op ox_add (rv_var (i := 16) rfl (.inl (by kernel_rfl))) (RE.v re_str)) rl_nil)))))))
  (jb_one (js_ret (RF.e (rf_lc (own := [("lot", 14)]) nd__law_lots (ri_seqV (rv_var (i := 3) rfl (.inl (by kernel_rfl)))) (blkOk_by (by kernel_rfl)) (rp_name (i := 14) nd__law_lots rfl (.inl (by kernel_rfl)) (by kernel_rfl)) (by decide) rts_nil (j_callT cx_tuple (ra_cons (RE.v (re_dfn h__law_some (Nat.le_of_ble_eq_true rfl) (by kernel_rfl) (rg_pot (i := 0) rfl (.inr (.inl (by kernel_rfl))) (rg_cons (re_var (i := 14) rfl (.inl (by kernel_rfl))) (rg_cons (j_callB cx_len (ra_cons (rv_var (i := 14) rfl (.inl (by kernel_rfl))) ra_nil) (by kernel_rfl) hd.b_len rfl) rg_nil))))) ra_nil) (by kernel_rfl) hd.b_tuple rfl))))))))))
theorem nd__law_are_strokes_right : N__law_are_strokes_right.Nodup := by decide
theorem b__law_are_strokes_right (W : Wb) (hd : Hds W) (h__law_changes : Dfn W "_law_changes" 1 2 F__law_changes) (h__law_cost : Dfn W "_law_cost" 3 2 F__law_cost) (h__law_framed : Dfn W "_law_framed" 1 3 F__law_framed) (h__law_leads : Dfn W "_law_leads" 2 3 F__law_leads) (h__law_lots : Dfn W "_law_lots" 3 3 F__law_lots) (h__law_spent : Dfn W "_law_spent" 1 1 F__law_spent) (h_anew : Dfn W "anew" 3 2 F_anew) (h_dots_changed : Dfn W "dots_changed" 3 2 F_dots_changed) (h_drawn_anew : Dfn W "drawn_anew" 5 4 F_drawn_anew) (h_shows_anew : Dfn W "shows_anew" 5 3 F_shows_anew) : JB (cx W N__law_are_strokes_right (defScope (top 44)) 5) (defBody (top 44)) f__law_are_strokes_right :=
  (jb_cons (js_asg (rp_tup (n := 2) (rps_cons (rp_name (i := 6) nd__law_are_strokes_right rfl (.inl (by kernel_rfl)) rfl) (rps_cons (rp_name (i := 7) nd__law_are_strokes_right rfl (.inl (by kernel_rfl)) rfl) rps_nil))) (re_dfn h_anew (Nat.le_of_ble_eq_true rfl) (by kernel_rfl) (rg_cons (re_var (i := 1) rfl (.inl (by kernel_rfl))) (rg_cons (re_var (i := 2) rfl (.inl (by kernel_rfl))) rg_nil))) (fun _ _ => rfl) (fun _ _ => rfl))
  (jb_cons (js_set (i := 3) nd__law_are_strokes_right rfl (.inl (by kernel_rfl)) rfl (re_dfn h__law_cost (Nat.le_of_ble_eq_true rfl) (by kernel_rfl) (rg_cons (re_var (i := 1) rfl (.inl (by kernel_rfl))) (rg_cons (re_var (i := 2) rfl (.inl (by kernel_rfl))) rg_nil))) (fun _ _ => rfl))
  (jb_cons (js_if (RW.t (rw_or (rt_cmp ox_ne (rv_var (i := 6) rfl (.inl (by kernel_rfl))) (rv_var (i := 3) rfl (.inl (by kernel_rfl))) (nomark _)) (rw_or (rt_cmp ox_ne (RE.v (re_dfn h__law_spent (Nat.le_of_ble_eq_true rfl) (by kernel_rfl) (rg_cons (re_var (i := 7) rfl (.inl (by kernel_rfl))) rg_nil))) (rv_var (i := 6) rfl (.inl (by kernel_rfl))) (nomark _)) (rw_or1 (rt_not (rt_tru (RE.v (re_dfn h__law_leads (Nat.le_of_ble_eq_true rfl) (by kernel_rfl) (rg_cons (re_var (i := 1) rfl (.inl (by kernel_rfl))) (rg_cons (re_var (i := 2) rfl (.inl (by kernel_rfl))) (rg_cons (re_var (i := 7) rfl (.inl (by kernel_rfl))) rg_nil))))))))))) (jb_one (js_ret re_bl)) jb_nil)
  (jb_cons (js_parN (pn_cons (i := 8) nd__law_are_strokes_right rfl (.inl (by kernel_rfl)) rfl (pn_cons (i := 9) nd__law_are_strokes_right rfl (.inr (by kernel_rfl)) rfl pn_nil)) (rm_d (j_callB cx_len (ra_cons (rv_var (i := 2) rfl (.inl (by kernel_rfl))) ra_nil) (by kernel_rfl) hd.b_len rfl) (rm_d (j_callB cx_len (ra_cons (RE.v (j_ix ix_any (rv_var (i := 2) rfl (.inl (by kernel_rfl))) (RE.v re_int))) ra_nil) (by kernel_rfl) hd.b_len rfl) rm_nil)) (fun _ _ => rfl) (fun env h => by cases env; cases h; exact (by kernel_rfl)))
  (jb_cons (js_if (rt_cmp ox_ne (RE.v (re_dfn h_drawn_anew (Nat.le_of_ble_eq_true rfl) (by kernel_rfl) (rg_cons (re_var (i := 1) rfl (.inl (by kernel_rfl))) (rg_cons (re_var (i := 7) rfl (.inl (by kernel_rfl))) (rg_cons (re_var (i := 8) rfl (.inl (by kernel_rfl))) (rg_cons (re_var (i := 9) rfl (.inr (.inl (by kernel_rfl)))) rg_nil)))))) (rv_var (i := 2) rfl (.inl (by kernel_rfl))) (nomark _)) (jb_one (js_ret re_bl)) jb_nil)
  (jb_cons (js_set (i := 4) nd__law_are_strokes_right rfl (.inl (by kernel_rfl)) rfl (re_dfn h__law_framed (Nat.le_of_ble_eq_true rfl) (by kernel_rfl) (rg_cons (re_var (i := 1) rfl (.inl (by kernel_rfl))) (rg_cons (re_var (i := 8) rfl (.inl (by kernel_rfl))) (rg_cons (re_var (i := 9) rfl (.inr (.inl (by kernel_rfl)))) rg_nil)))) (fun _ _ => rfl))
  (jb_cons (js_if (rt_cmp ox_ne (RE.v (re_dfn h_dots_changed (Nat.le_of_ble_eq_true rfl) (by kernel_rfl) (rg_cons (re_var (i := 1) rfl (.inl (by kernel_rfl))) (rg_cons (re_var (i := 2) rfl (.inl (by kernel_rfl))) rg_nil)))) (RE.v (j_callB cx_sum (ra_cons (RE.v (RF.e (rf_lc (own := [("row", 12), ("its", 15)]) nd__law_are_strokes_right (ri_zipV (ra_cons (rv_var (i := 4) rfl (.inl (by kernel_rfl))) (ra_cons (rv_var (i := 2) rfl (.inl (by kernel_rfl))) ra_nil)) (by kernel_rfl) hd.b_zip) (blkOk_by (by kernel_rfl)) (rp_tup (n := 2) (rps_cons (rp_name (i := 12) nd__law_are_strokes_right rfl (.inl (by kernel_rfl)) (by kernel_rfl)) (rps_cons (rp_name (i := 15) nd__law_are_strokes_right rfl (.inl (by kernel_rfl)) (by kernel_rfl)) rps_nil))) (by decide) rts_nil (j_callB cx_len (ra_cons (RE.v (re_dfn h__law_changes (Nat.le_of_ble_eq_true rfl) (by kernel_rfl) (rg_cons (re_var (i := 12) rfl (.inl (by kernel_rfl))) (rg_cons (re_var (i := 15) rfl (.inl (by kernel_rfl))) rg_nil)))) ra_nil) (by kernel_rfl) hd.b_len rfl)))) ra_nil) (by kernel_rfl) hd.b_sum rfl)) (nomark _)) (jb_one (js_ret re_bl)) jb_nil)
  (jb_cons (js_if (RW.t (rw_or (rt_cmp ox_ne (RE.v (re_dfn h_drawn_anew (Nat.le_of_ble_eq_true rfl) (by kernel_rfl) (rg_cons (re_var (i := 1) rfl (.inl (by kernel_rfl))) (rg_cons (re_tup rl_nil) (rg_cons (re_var (i := 8) rfl (.inl (by kernel_rfl))) (rg_cons (re_var (i := 9) rfl (.inr (.inl (by kernel_rfl)))) rg_nil)))))) (rv_var (i := 4) rfl (.inl (by kernel_rfl))) (nomark _)) (rw_or1 (rt_cmp ox_ne (RE.v (j_ix ix_any (RE.v (re_dfn h_anew (Nat.le_of_ble_eq_true rfl) (by kernel_rfl) (rg_cons (re_var (i := 4) rfl (.inl (by kernel_rfl))) (rg_cons (re_var (i := 2) rfl (.inl (by kernel_rfl))) rg_nil)))) (RE.v re_int))) (rv_var (i := 6) rfl (.inl (by kernel_rfl))) (nomark _))))) (jb_one (js_ret re_bl)) jb_nil)
  (jb_cons (js_for (ri_seq (j_op ox_add (RE.v (RF.e (rf_lst (rl_cons (re_var (i := 7) rfl (.inl (by kernel_rfl))) (rl_cons (re_rev (rv_var (i := 7) rfl (.inl (by kernel_rfl)))) rl_nil))))) (RE.v (re_dfn h__law_lots (Nat.le_of_ble_eq_true rfl) (by kernel_rfl) (rg_pot (i := 0) rfl (.inl (by kernel_rfl)) (rg_cons (re_var (i := 1) rfl (.inl (by kernel_rfl))) (rg_cons (re_var (i := 2) rfl (.inl (by kernel_rfl))) rg_nil))))))) (rp_name (i := 5) nd__law_are_strokes_right rfl (.inl (by kernel_rfl)) rfl) (jb_cons (js_set (i := 10) nd__law_are_strokes_right rfl (.inl (by kernel_rfl)) rfl (re_and (re_dfn h__law_leads (Nat.le_of_ble_eq_true rfl) (by kernel_rfl) (rg_cons (re_var (i := 1) rfl (.inl (by kernel_rfl))) (rg_cons (re_var (i := 2) rfl (.inl (by kernel_rfl))) (rg_cons (re_var (i := 5) rfl (.inl (by kernel_rfl))) rg_nil)))) (re_one (re_cmp ox_eq (RE.v (re_dfn h__law_spent (Nat.le_of_ble_eq_true rfl) (by kernel_rfl) (rg_cons (re_var (i := 5) rfl (.inl (by kernel_rfl))) rg_nil))) (rv_var (i := 3) rfl (.inl (by kernel_rfl))) (nomark _)))) (fun _ _ => rfl))
  (jb_cons (js_if (rt_cmp ox_ne (RE.v (j_callB cx_repr (ra_cons (RE.v (re_dfn h_shows_anew (Nat.le_of_ble_eq_true rfl) (by kernel_rfl) (rg_cons (re_var (i := 1) rfl (.inl (by kernel_rfl))) (rg_cons (re_var (i := 2) rfl (.inl (by kernel_rfl))) (rg_cons (re_tup (rl_cons (re_var (i := 3) rfl (.inl (by kernel_rfl))) (rl_cons (re_var (i := 5) rfl (.inl (by kernel_rfl))) rl_nil))) rg_nil))))) ra_nil) (by kernel_rfl) hd.b_repr rfl)) (RE.v (j_callB cx_repr (ra_cons (rv_var (i := 10) rfl (.inl (by kernel_rfl))) ra_nil) (by kernel_rfl) hd.b_repr rfl)) (nomark _)) (jb_one (js_ret re_bl)) jb_nil)
  (jb_cons (js_if (RW.t (rw_or (rt_cmp ox_isnot (RE.v (re_dfn h_shows_anew (Nat.le_of_ble_eq_true rfl) (by kernel_rfl) (rg_cons (re_var (i := 1) rfl (.inl (by kernel_rfl))) (rg_cons (re_var (i := 2) rfl (.inl (by kernel_rfl))) (rg_cons (re_tup (rl_cons (j_op ox_add (rv_var (i := 3) rfl (.inl (by kernel_rfl))) (RE.v re_int)) (rl_cons (re_var (i := 5) rfl (.inl (by kernel_rfl))) rl_nil))) rg_nil))))) (RE.v re_bl) (nomark _)) (rw_or1 (rt_cmp ox_isnot (RE.v (re_dfn h_shows_anew (Nat.le_of_ble_eq_true rfl) (by kernel_rfl) (rg_cons (re_var (i := 1) rfl (.inl (by kernel_rfl))) (rg_cons (re_var (i := 2) rfl (.inl (by kernel_rfl))) (rg_cons (re_tup (rl_cons (re_var (i := 3) rfl (.inl (by kernel_rfl))) (rl_cons (RF.e (j_callT cx_listF (ra_cons (rv_var (i := 5) rfl (.inl (by kernel_rfl))) ra_nil) (by kernel_rfl) hd.b_list rfl)) rl_nil))) rg_nil))))) (RE.v re_bl) (nomark _))))) (jb_one (js_ret re_bl)) jb_nil)
  (jb_cons (js_setLc (i := 11) (own := [("row", 12), ("column", 13), ("signs", 14)]) nd__law_are_strokes_right (ri_seqV (rv_var (i := 5) rfl (.inl (by kernel_rfl)))) (blkOk_by (by kernel_rfl)) (rp_tup (n := 3) (rps_cons (rp_name (i := 12) nd__law_are_strokes_right rfl (.inl (by kernel_rfl)) (by kernel_rfl)) (rps_cons (rp_name (i := 13) nd__law_are_strokes_right rfl (.inl (by kernel_rfl)) (by kernel_rfl)) (rps_cons (rp_name (i := 14) nd__law_are_strokes_right rfl (.inl (by kernel_rfl)) (by kernel_rfl)) rps_nil)))) (by decide) (rts_one (rt_cmp ox_le (RE.v (j_op ox_add (rv_var (i := 13) rfl (.inl (by kernel_rfl))) (RE.v (j_callB cx_len (ra_cons (rv_var (i := 14) rfl (.inl (by kernel_rfl))) ra_nil) (by kernel_rfl) hd.b_len rfl)))) (rv_var (i := 9) rfl (.inr (.inl (by kernel_rfl)))) (nomark _))) (re_tup (rl_cons (re_var (i := 12) rfl (.inl (by kernel_rfl))) (rl_cons (re_var (i := 13) rfl (.inl (by kernel_rfl))) (rl_cons (re_var (i := 14) rfl (.inl (by kernel_rfl))) rl_nil)))) rfl (by kernel_rfl) (fun env h => sw_true (by rw [h]; exact (by kernel_rfl)) (by rw [h]; exact (by kernel_rfl)) rfl (by kernel_rfl)))
  (jb_one (js_if (RW.t (rw_and (rt_cmp ox_eq (RE.v (j_callB cx_len (ra_cons (rv_var (i := 11) rfl (.inl (by kernel_rfl))) ra_nil) (by kernel_rfl) hd.b_len rfl)) (RE.v (j_callB cx_len (ra_cons (rv_var (i := 5) rfl (.inl (by kernel_rfl))) ra_nil) (by kernel_rfl) hd.b_len rfl)) (nomark _)) (rw_and1 (rt_cmp ox_ne (RE.v (re_dfn h__law_leads (Nat.le_of_ble_eq_true rfl) (by kernel_rfl) (rg_cons (re_var (i := 1) rfl (.inl (by kernel_rfl))) (rg_cons (re_var (i := 2) rfl (.inl (by kernel_rfl))) (rg_cons (re_var (i := 5) rfl (.inl (by kernel_rfl))) rg_nil))))) (RE.v (re_cmp ox_eq (RE.v (re_dfn h_drawn_anew (Nat.le_of_ble_eq_true rfl) (by kernel_rfl) (rg_cons (re_var (i := 1) rfl (.inl (by kernel_rfl))) (rg_cons (re_var (i := 5) rfl (.inl (by kernel_rfl))) (rg_cons (re_var (i := 8) rfl (.inl (by kernel_rfl))) (rg_cons (re_var (i := 9) rfl (.inr (.inl (by kernel_rfl)))) rg_nil)))))) (rv_var (i := 2) rfl (.inl (by kernel_rfl))) (nomark _))) (nomark _))))) (jb_one (js_ret re_bl)) jb_nil)))))))
  (jb_one (js_ret re_bl)))))))))))
theorem nd__law_are_parts_right : N__law_are_parts_right.Nodup := by decide
theorem b__law_are_parts_right (W : Wb) (hd : Hds W) (h__law_framed : Dfn W "_law_framed" 1 3 F__law_framed) (h_anew : Dfn W "anew" 3 2 F_anew) : JB (cx W N__law_are_parts_right (defScope (top 45)) 3) (defBody (top 45)) f__law_are_parts_right :=
  (jb_cons (js_if (rt_cmp ox_ne (RE.v (j_ix ix_any (RE.v (re_dfn h_anew (Nat.le_of_ble_eq_true rfl) (by kernel_rfl) (rg_cons (j_op ox_add (rv_var (i := 1) rfl (.inl (by kernel_rfl))) (rv_var (i := 3) rfl (.inl (by kernel_rfl)))) (rg_cons (j_op ox_add (rv_var (i := 2) rfl (.inl (by kernel_rfl))) (rv_var (i := 4) rfl (.inl (by kernel_rfl)))) rg_nil)))) (RE.v re_int))) (RE.v (j_op ox_add (RE.v (j_ix ix_any (RE.v (re_dfn h_anew (Nat.le_of_ble_eq_true rfl) (by kernel_rfl) (rg_cons (re_var (i := 1) rfl (.inl (by kernel_rfl))) (rg_cons (re_var (i := 2) rfl (.inl (by kernel_rfl))) rg_nil)))) (RE.v re_int))) (RE.v (j_ix ix_any (RE.v (re_dfn h_anew (Nat.le_of_ble_eq_true rfl) (by kernel_rfl) (rg_cons (re_var (i := 3) rfl (.inl (by kernel_rfl))) (rg_cons (re_var (i := 4) rfl (.inl (by kernel_rfl))) rg_nil)))) (RE.v re_int))))) (nomark _)) (jb_one (js_ret re_bl)) jb_nil)
  (jb_cons (js_set (i := 5) nd__law_are_parts_right rfl (.inr (by kernel_rfl)) rfl (j_callB cx_max (ra_cons (RE.v (j_callB cx_len (ra_cons (rv_var (i := 1) rfl (.inl (by kernel_rfl))) ra_nil) (by kernel_rfl) hd.b_len rfl)) (ra_cons (RE.v (j_callB cx_len (ra_cons (rv_var (i := 3) rfl (.inl (by kernel_rfl))) ra_nil) (by kernel_rfl) hd.b_len rfl)) ra_nil)) (by kernel_rfl) hd.b_max rfl) (fun _ _ => rfl))
  (jb_cons (js_set (i := 6) nd__law_are_parts_right rfl (.inr (by kernel_rfl)) rfl (j_callB cx_len (ra_cons (RE.v (j_ix ix_any (rv_var (i := 1) rfl (.inl (by kernel_rfl))) (RE.v re_int))) ra_nil) (by kernel_rfl) hd.b_len rfl) (fun _ _ => rfl))
  (jb_cons (js_asg (rp_tup (n := 2) (rps_cons (rp_name (i := 9) nd__law_are_parts_right rfl (.inl (by kernel_rfl)) rfl) (rps_cons (rp_name (i := 10) nd__law_are_parts_right rfl (.inl (by kernel_rfl)) rfl) rps_nil))) (RF.e (rf_lc (own := [("picture", 13)]) nd__law_are_parts_right (ri_seqV (RE.v (re_tup (rl_cons (re_var (i := 1) rfl (.inl (by kernel_rfl))) (rl_cons (re_var (i := 2) rfl (.inl (by kernel_rfl))) rl_nil))))) (blkOk_by (by kernel_rfl)) (rp_name (i := 13) nd__law_are_parts_right rfl (.inl (by kernel_rfl)) (by kernel_rfl)) (by decide) rts_nil (re_dfn h__law_framed (Nat.le_of_ble_eq_true rfl) (by kernel_rfl) (rg_cons (re_var (i := 13) rfl (.inl (by kernel_rfl))) (rg_cons (re_var (i := 5) rfl (.inr (.inl (by kernel_rfl)))) (rg_cons (re_var (i := 6) rfl (.inr (.inl (by kernel_rfl)))) rg_nil)))))) (fun _ _ => rfl) (fun _ _ => rfl))
  (jb_cons (js_asg (rp_tup (n := 2) (rps_cons (rp_name (i := 11) nd__law_are_parts_right rfl (.inl (by kernel_rfl)) rfl) (rps_cons (rp_name (i := 12) nd__law_are_parts_right rfl (.inl (by kernel_rfl)) rfl) rps_nil))) (RF.e (rf_lc (own := [("picture", 13)]) nd__law_are_parts_right (ri_seqV (RE.v (re_tup (rl_cons (re_var (i := 3) rfl (.inl (by kernel_rfl))) (rl_cons (re_var (i := 4) rfl (.inl (by kernel_rfl))) rl_nil))))) (blkOk_by (by kernel_rfl)) (rp_name (i := 13) nd__law_are_parts_right rfl (.inl (by kernel_rfl)) (by kernel_rfl)) (by decide) rts_nil (re_dfn h__law_framed (Nat.le_of_ble_eq_true rfl) (by kernel_rfl) (rg_cons (re_var (i := 13) rfl (.inl (by kernel_rfl))) (rg_cons (re_var (i := 5) rfl (.inr (.inl (by kernel_rfl)))) (rg_cons (re_var (i := 6) rfl (.inr (.inl (by kernel_rfl)))) rg_nil)))))) (fun _ _ => rfl) (fun _ _ => rfl))
  (jb_cons (js_set (i := 7) nd__law_are_parts_right rfl (.inr (by kernel_rfl)) rfl (j_op ox_mul (RE.v re_str) (RE.v re_int)) (fun _ _ => rfl))
  (jb_cons (js_setLc (i := 8) (own := [("mine", 14), ("more", 15)]) nd__law_are_parts_right (ri_seqV (RE.v (re_tup (rl_cons (re_tup (rl_cons (re_var (i := 9) rfl (.inl (by kernel_rfl))) (rl_cons (re_var (i := 11) rfl (.inl (by kernel_rfl))) rl_nil))) (rl_cons (re_tup (rl_cons (re_var (i := 10) rfl (.inl (by kernel_rfl))) (rl_cons (re_var (i := 12) rfl (.inl (by kernel_rfl))) rl_nil))) rl_nil))))) (blkOk_by (by kernel_rfl)) (rp_tup (n := 2) (rps_cons (rp_name (i := 14) nd__law_are_parts_right rfl (.inl (by kernel_rfl)) (by kernel_rfl)) (rps_cons (rp_name (i := 15) nd__law_are_parts_right rfl (.inl (by kernel_rfl)) (by kernel_rfl)) rps_nil))) (by decide) rts_nil (j_callT cx_tuple (ra_cons (RE.v (RF.e (rf_lc (own := [("row", 16), ("its", 17)]) nd__law_are_parts_right (ri_zipV (ra_cons (rv_var (i := 14) rfl (.inl (by kernel_rfl))) (ra_cons (rv_var (i := 15) rfl (.inl (by kernel_rfl))) ra_nil)) (by kernel_rfl) hd.b_zip) (blkOk_by (by kernel_rfl)) (rp_tup (n := 2) (rps_cons (rp_name (i := 16) nd__law_are_parts_right rfl (.inl (by kernel_rfl)) (by kernel_rfl)) (rps_cons (rp_name (i := 17) nd__law_are_parts_right rfl (.inl (by kernel_rfl)) (by kernel_rfl)) rps_nil))) (by decide) rts_nil (j_op ox_add (RE.v (j_op ox_add (rv_var (i := 16) rfl (.inl (by kernel_rfl))) (rv_var (i := 7) rfl (.inr (.inl (by kernel_rfl)))))) (rv_var (i := 17) rfl (.inl (by kernel_rfl))))))) ra_nil) (by kernel_rfl) hd.b_tuple rfl) rfl (by kernel_rfl) (fun env h => sw_true (by rw [h]; exact (by kernel_rfl)) (by rw [h]; exact (by kernel_rfl)) rfl (by kernel_rfl)))
  (jb_one (js_ret (re_cmp ox_eq (RE.v (j_ix ix_any (RE.v (re_dfn h_anew (Nat.le_of_ble_eq_true rfl) (by kernel_rfl) (rg_cons (j_ix ix_any (rv_var (i := 8) rfl (.inl (by kernel_rfl))) (RE.v re_int)) (rg_cons (j_ix ix_any (rv_var (i := 8) rfl (.inl (by kernel_rfl))) (RE.v re_int)) rg_nil)))) (RE.v re_int))) (RE.v (j_op ox_add (RE.v (j_ix ix_any (RE.v (re_dfn h_anew (Nat.le_of_ble_eq_true rfl) (by kernel_rfl) (rg_cons (re_var (i := 9) rfl (.inl (by kernel_rfl))) (rg_cons (re_var (i := 10) rfl (.inl (by kernel_rfl))) rg_nil)))) (RE.v re_int))) (RE.v (j_ix ix_any (RE.v (re_dfn h_anew (Nat.le_of_ble_eq_true rfl) (by kernel_rfl) (rg_cons (re_var (i := 11) rfl (.inl (by kernel_rfl))) (rg_cons (re_var (i := 12) rfl (.inl (by kernel_rfl))) rg_nil)))) (RE.v re_int))))) (nomark _)))))))))))
theorem nd__law_right : N__law_right.Nodup := by decide
theorem b__law_right (W : Wb) (hd : Hds W) (h__law_are_parts_right : Dfn W "_law_are_parts_right" 4 5 F__law_are_parts_right) (h__law_are_strokes_right : Dfn W "_law_are_strokes_right" 6 3 F__law_are_strokes_right) (h__law_near : Dfn W "_law_near" 3 2 F__law_near) (h__law_picture : Dfn W "_law_picture" 3 3 F__law_picture) (h__law_take : Dfn W "_law_take" 1 2 F__law_take) : JB (cx W N__law_right (defScope (top 46)) 6) (defBody (top 46)) f__law_right :=
  (jb_cons (js_set (i := 1) nd__law_right rfl (.inl (by kernel_rfl)) rfl (j_callT cx_int (ra_cons (RE.v (j_op ox_add (RE.v re_int) (RE.v (re_dfn h__law_take (Nat.le_of_ble_eq_true rfl) (by kernel_rfl) (rg_pot (i := 0) rfl (.inl (by kernel_rfl)) (rg_cons re_int rg_nil)))))) ra_nil) (by kernel_rfl) hd.b_int rfl) (fun _ _ => rfl))
  (jb_cons (js_set (i := 2) nd__law_right rfl (.inl (by kernel_rfl)) rfl (re_dfn h__law_picture (Nat.le_of_ble_eq_true rfl) (by kernel_rfl) (rg_pot (i := 0) rfl (.inl (by kernel_rfl)) (rg_cons (j_op ox_add (RE.v re_int) (RE.v (re_dfn h__law_take (Nat.le_of_ble_eq_true rfl) (by kernel_rfl) (rg_pot (i := 0) rfl (.inl (by kernel_rfl)) (rg_cons re_int rg_nil))))) (rg_cons (re_var (i := 1) rfl (.inl (by kernel_rfl))) rg_nil)))) (fun _ _ => rfl))
  (jb_cons (js_par2 (i := 5) (j := 6) nd__law_right rfl rfl (by decide) (by kernel_rfl) (by kernel_rfl) (rm_d (re_dfn h__law_near (Nat.le_of_ble_eq_true rfl) (by kernel_rfl) (rg_pot (i := 0) rfl (.inl (by kernel_rfl)) (rg_cons (re_var (i := 2) rfl (.inl (by kernel_rfl))) rg_nil))) (rm_d (re_dfn h__law_picture (Nat.le_of_ble_eq_true rfl) (by kernel_rfl) (rg_pot (i := 0) rfl (.inl (by kernel_rfl)) (rg_cons (j_op ox_add (RE.v re_int) (RE.v (re_dfn h__law_take (Nat.le_of_ble_eq_true rfl) (by kernel_rfl) (rg_pot (i := 0) rfl (.inl (by kernel_rfl)) (rg_cons re_int rg_nil))))) (rg_cons (re_var (i := 1) rfl (.inl (by kernel_rfl))) rg_nil)))) rm_nil)) (fun env h => by cases env; cases h; exact (by kernel_rfl)))
  (jb_cons (js_set (i := 3) nd__law_right rfl (.inl (by kernel_rfl)) rfl (re_dfn h__law_near (Nat.le_of_ble_eq_true rfl) (by kernel_rfl) (rg_pot (i := 0) rfl (.inl (by kernel_rfl)) (rg_cons (re_var (i := 6) rfl (.inl (by kernel_rfl))) rg_nil))) (fun _ _ => rfl))
  (jb_cons (js_set (i := 4) nd__law_right rfl (.inl (by kernel_rfl)) rfl (re_dfn h__law_picture (Nat.le_of_ble_eq_true rfl) (by kernel_rfl) (rg_pot (i := 0) rfl (.inl (by kernel_rfl)) (rg_cons (j_op ox_add (RE.v re_int) (RE.v (re_dfn h__law_take (Nat.le_of_ble_eq_true rfl) (by kernel_rfl) (rg_pot (i := 0) rfl (.inl (by kernel_rfl)) (rg_cons re_int rg_nil))))) (rg_cons (j_op ox_add (RE.v re_int) (RE.v (re_dfn h__law_take (Nat.le_of_ble_eq_true rfl) (by kernel_rfl) (rg_pot (i := 0) rfl (.inl (by kernel_rfl)) (rg_cons re_int rg_nil))))) rg_nil)))) (fun _ _ => rfl))
  (jb_cons (js_for (ri_seq (re_tup (rl_cons (re_tup (rl_cons (re_var (i := 2) rfl (.inl (by kernel_rfl))) (rl_cons (re_var (i := 5) rfl (.inl (by kernel_rfl))) rl_nil))) (rl_cons (re_tup (rl_cons (re_var (i := 6) rfl (.inl (by kernel_rfl))) (rl_cons (re_var (i := 3) rfl (.inl (by kernel_rfl))) rl_nil))) (rl_cons (re_tup (rl_cons (re_var (i := 2) rfl (.inl (by kernel_rfl))) (rl_cons (re_var (i := 4) rfl (.inl (by kernel_rfl))) rl_nil))) (rl_cons (re_tup (rl_cons (re_var (i := 4) rfl (.inl (by kernel_rfl))) (rl_cons (re_var (i := 2) rfl (.inl (by kernel_rfl))) rl_nil))) (rl_cons (re_tup (rl_cons (re_var (i := 2) rfl (.inl (by kernel_rfl))) (rl_cons (re_var (i := 2) rfl (.inl (by kernel_rfl))) rl_nil))) rl_nil))))))) (rp_tup (n := 2) (rps_cons (rp_name (i := 7) nd__law_right rfl (.inl (by kernel_rfl)) rfl) (rps_cons (rp_name (i := 8) nd__law_right rfl (.inl (by kernel_rfl)) rfl) rps_nil))) (jb_one (js_if (rt_not (rt_tru (RE.v (re_dfn h__law_are_strokes_right (Nat.le_of_ble_eq_true rfl) (by kernel_rfl) (rg_pot (i := 0) rfl (.inl (by kernel_rfl)) (rg_cons (re_var (i := 7) rfl (.inl (by kernel_rfl))) (rg_cons (re_var (i := 8) rfl (.inl (by kernel_rfl))) rg_nil))))))) (jb_one (js_ret re_bl)) jb_nil)))
  (jb_one (js_ret (re_dfn h__law_are_parts_right (Nat.le_of_ble_eq_true rfl) (by kernel_rfl) (rg_pot (i := 0) rfl (.inl (by kernel_rfl)) (rg_cons (re_var (i := 2) rfl (.inl (by kernel_rfl))) (rg_cons (re_var (i := 5) rfl (.inl (by kernel_rfl))) (rg_cons (re_var (i := 6) rfl (.inl (by kernel_rfl))) (rg_cons (re_var (i := 3) rfl (.inl (by kernel_rfl))) rg_nil))))))))))))))
theorem nd_law : N_law.Nodup := by decide
theorem b_law (W : Wb) (hd : Hds W) (h__law_cells : Dfn W "_law_cells" 1 2 F__law_cells) (h__law_pot : Dfn W "_law_pot" 1 2 F__law_pot) (h__law_right : Dfn W "_law_right" 7 1 F__law_right) : JB (cx W N_law (defScope (top 47)) 7) (defBody (top 47)) f_law :=
  (jb_cons (js_for (ri_seq (re_dfn h__law_cells (Nat.le_of_ble_eq_true rfl) (by kernel_rfl) (rg_pot (i := 0) rfl (.inl (by kernel_rfl)) (rg_cons re_int rg_nil)))) (rp_name (i := 1) nd_law rfl (.inl (by kernel_rfl)) rfl) (jb_turn (i := 2) nd_law rfl (.inr (by kernel_rfl)) rfl (re_dfn h__law_pot (Nat.le_of_ble_eq_true rfl) (by kernel_rfl) (rg_pot (i := 0) rfl (.inl (by kernel_rfl)) (rg_cons (re_var (i := 1) rfl (.inl (by kernel_rfl))) rg_nil))) (rt_not (rt_tru (RE.v (j_callB cx_all (ra_cons (RE.v (RF.e (rf_lc (own := [("lap", 3)]) nd_law (ri_range1 (ra_cons (RE.v re_int) ra_nil) (by kernel_rfl) hd.b_range) (blkOk_by (by kernel_rfl)) (rp_name (i := 3) nd_law rfl (.inl (by kernel_rfl)) (by kernel_rfl)) (by decide) rts_nil (re_dfn h__law_right (Nat.le_of_ble_eq_true rfl) (by kernel_rfl) (rg_pot (i := 2) rfl (.inr (.inl (by kernel_rfl))) rg_nil))))) ra_nil) (by kernel_rfl) hd.b_all rfl)))) (fun _ _ => rfl)))
  (jb_one (js_ret re_bl)))

end K

set_option Elab.async false
set_option linter.all false
set_option maxRecDepth 100000
set_option maxHeartbeats 0
namespace K
open PySem PySem.Spec PyProof.Rows L2 RL
theorem blt_of {K : PySem.W.Frag} {h : Heap} {mg : Str → Option Value} (X : K.In h) (G : h.Ns mainGlobals mg) {x : Str} {id : String} (c : Hd.bltB K x id = true) : mg x = some (.builtin id) := by
  unfold Hd.bltB at c
  split at c
  · rename_i q e
    have z := of_decide_eq_true c
    subst z
    exact PySem.W.mg_of X G e
  · cases c
theorem hds {W : Wb} {h : Heap} (X : W.K.In h) (G : h.Ns mainGlobals W.mg) (c : He.SaysD Hd.fa Hd.fn W.K) (m : Hd.ex W.K = true) : Hds W where
  b_abs := He.free_ok X G (c.fact 37 (f := .free "abs") rfl)
  b_all := He.free_ok X G (c.fact 38 (f := .free "all") rfl)
  b_bool := He.free_ok X G (c.fact 39 (f := .free "bool") rfl)
  b_enumerate := He.free_ok X G (c.fact 40 (f := .free "enumerate") rfl)
  b_int := He.free_ok X G (c.fact 41 (f := .free "int") rfl)
  b_isinstance := He.free_ok X G (c.fact 42 (f := .free "isinstance") rfl)
  b_len := He.free_ok X G (c.fact 43 (f := .free "len") rfl)
  b_list := He.free_ok X G (c.fact 44 (f := .free "list") rfl)
  b_max := He.free_ok X G (c.fact 45 (f := .free "max") rfl)
  b_min := He.free_ok X G (c.fact 46 (f := .free "min") rfl)
  b_range := He.free_ok X G (c.fact 47 (f := .free "range") rfl)
  b_repr := He.free_ok X G (c.fact 48 (f := .free "repr") rfl)
  b_str := He.free_ok X G (c.fact 49 (f := .free "str") rfl)
  b_sum := He.free_ok X G (c.fact 50 (f := .free "sum") rfl)
  b_tuple := He.free_ok X G (c.fact 52 (f := .free "tuple") rfl)
  b_zip := He.free_ok X G (c.fact 53 (f := .free "zip") rfl)
  c_BLANK_DOT := let ⟨t, e⟩ := He.str_ok X G (c.fact 54 (f := .str "BLANK_DOT" " ") rfl); ⟨_, e, t, rfl⟩
  c_LIFT := let ⟨t, e⟩ := He.int_ok X G (c.fact 55 (f := .int "LIFT" 4) rfl); ⟨_, e, t, rfl⟩
  c_MOST_HIGH := let ⟨t, e⟩ := He.int_ok X G (c.fact 56 (f := .int "MOST_HIGH" 2000) rfl); ⟨_, e, t, rfl⟩
  c_MOST_WIDE := let ⟨t, e⟩ := He.int_ok X G (c.fact 57 (f := .int "MOST_WIDE" 20000) rfl); ⟨_, e, t, rfl⟩
theorem sc_is_integer : FnScope N_is_integer ["value"] (defScope (top 6)) := ⟨rfl, rfl, rfl, by decide +kernel, rfl, by decide +kernel, by decide +kernel⟩
theorem sc_is_between : FnScope N_is_between ["value", "low", "high"] (defScope (top 7)) := ⟨rfl, rfl, rfl, by decide +kernel, rfl, by decide +kernel, by decide +kernel⟩
theorem sc_is_plain_picture : FnScope N_is_plain_picture ["value"] (defScope (top 13)) := ⟨rfl, rfl, rfl, by decide +kernel, rfl, by decide +kernel, by decide +kernel⟩
theorem sc_check_pictures : FnScope N_check_pictures ["some"] (defScope (top 14)) := ⟨rfl, rfl, rfl, by decide +kernel, rfl, by decide +kernel, by decide +kernel⟩
theorem sc_is_stroke_anew : FnScope N_is_stroke_anew ["value"] (defScope (top 15)) := ⟨rfl, rfl, rfl, by decide +kernel, rfl, by decide +kernel, by decide +kernel⟩
theorem sc_are_strokes_anew : FnScope N_are_strokes_anew ["value"] (defScope (top 16)) := ⟨rfl, rfl, rfl, by decide +kernel, rfl, by decide +kernel, by decide +kernel⟩
theorem sc_framed : FnScope N_framed ["picture", "high", "wide"] (defScope (top 17)) := ⟨rfl, rfl, rfl, by decide +kernel, rfl, by decide +kernel, by decide +kernel⟩
theorem sc_is_in_frame : FnScope N_is_in_frame ["stroke", "high", "wide"] (defScope (top 18)) := ⟨rfl, rfl, rfl, by decide +kernel, rfl, by decide +kernel, by decide +kernel⟩
theorem sc_drawn_over : FnScope N_drawn_over ["rows", "strokes"] (defScope (top 19)) := ⟨rfl, rfl, rfl, by decide +kernel, rfl, by decide +kernel, by decide +kernel⟩
theorem sc_stroke_cost : FnScope N_stroke_cost ["stroke"] (defScope (top 20)) := ⟨rfl, rfl, rfl, by decide +kernel, rfl, by decide +kernel, by decide +kernel⟩
theorem sc_cost_of : FnScope N_cost_of ["strokes"] (defScope (top 21)) := ⟨rfl, rfl, rfl, by decide +kernel, rfl, by decide +kernel, by decide +kernel⟩
theorem sc_runs_of : FnScope N_runs_of ["one", "other"] (defScope (top 22)) := ⟨rfl, rfl, rfl, by decide +kernel, rfl, by decide +kernel, by decide +kernel⟩
theorem sc_least_strokes : FnScope N_least_strokes ["one", "other"] (defScope (top 23)) := ⟨rfl, rfl, rfl, by decide +kernel, rfl, by decide +kernel, by decide +kernel⟩
theorem sc_least_cost : FnScope N_least_cost ["one", "other"] (defScope (top 24)) := ⟨rfl, rfl, rfl, by decide +kernel, rfl, by decide +kernel, by decide +kernel⟩
theorem sc_anew : FnScope N_anew ["one", "other"] (defScope (top 25)) := ⟨rfl, rfl, rfl, by decide +kernel, rfl, by decide +kernel, by decide +kernel⟩
theorem sc_drawn_anew : FnScope N_drawn_anew ["one", "strokes", "high", "wide"] (defScope (top 26)) := ⟨rfl, rfl, rfl, by decide +kernel, rfl, by decide +kernel, by decide +kernel⟩
theorem sc_dots_changed : FnScope N_dots_changed ["one", "other"] (defScope (top 27)) := ⟨rfl, rfl, rfl, by decide +kernel, rfl, by decide +kernel, by decide +kernel⟩
theorem sc_shows_anew : FnScope N_shows_anew ["one", "other", "value"] (defScope (top 28)) := ⟨rfl, rfl, rfl, by decide +kernel, rfl, by decide +kernel, by decide +kernel⟩
theorem sc__law_pot : FnScope N__law_pot ["script", "place"] (defScope (top 30)) := ⟨rfl, rfl, rfl, by decide +kernel, rfl, by decide +kernel, by decide +kernel⟩
theorem sc__law_take : FnScope N__law_take ["pot", "upto"] (defScope (top 31)) := ⟨rfl, rfl, rfl, by decide +kernel, rfl, by decide +kernel, by decide +kernel⟩
theorem sc__law_of : FnScope N__law_of ["pot", "some"] (defScope (top 32)) := ⟨rfl, rfl, rfl, by decide +kernel, rfl, by decide +kernel, by decide +kernel⟩
theorem sc__law_cells : FnScope N__law_cells ["script", "most"] (defScope (top 33)) := ⟨rfl, rfl, rfl, by decide +kernel, rfl, by decide +kernel, by decide +kernel⟩
theorem sc__law_some : FnScope N__law_some ["pot", "some", "many"] (defScope (top 34)) := ⟨rfl, rfl, rfl, by decide +kernel, rfl, by decide +kernel, by decide +kernel⟩
theorem sc__law_picture : FnScope N__law_picture ["pot", "high", "wide"] (defScope (top 35)) := ⟨rfl, rfl, rfl, by decide +kernel, rfl, by decide +kernel, by decide +kernel⟩
theorem sc__law_near : FnScope N__law_near ["pot", "picture"] (defScope (top 36)) := ⟨rfl, rfl, rfl, by decide +kernel, rfl, by decide +kernel, by decide +kernel⟩
theorem sc__law_framed : FnScope N__law_framed ["picture", "high", "wide"] (defScope (top 37)) := ⟨rfl, rfl, rfl, by decide +kernel, rfl, by decide +kernel, by decide +kernel⟩
theorem sc__law_changes : FnScope N__law_changes ["row", "other"] (defScope (top 38)) := ⟨rfl, rfl, rfl, by decide +kernel, rfl, by decide +kernel, by decide +kernel⟩
theorem sc__law_row_cost : FnScope N__law_row_cost ["row", "other"] (defScope (top 39)) := ⟨rfl, rfl, rfl, by decide +kernel, rfl, by decide +kernel, by decide +kernel⟩
theorem sc__law_cost : FnScope N__law_cost ["one", "other"] (defScope (top 40)) := ⟨rfl, rfl, rfl, by decide +kernel, rfl, by decide +kernel, by decide +kernel⟩
theorem sc__law_spent : FnScope N__law_spent ["strokes"] (defScope (top 41)) := ⟨rfl, rfl, rfl, by decide +kernel, rfl, by decide +kernel, by decide +kernel⟩
theorem sc__law_leads : FnScope N__law_leads ["one", "other", "strokes"] (defScope (top 42)) := ⟨rfl, rfl, rfl, by decide +kernel, rfl, by decide +kernel, by decide +kernel⟩
theorem sc__law_lots : FnScope N__law_lots ["pot", "one", "other"] (defScope (top 43)) := ⟨rfl, rfl, rfl, by decide +kernel, rfl, by decide +kernel, by decide +kernel⟩
theorem sc__law_are_strokes_right : FnScope N__law_are_strokes_right ["pot", "one", "other"] (defScope (top 44)) := ⟨rfl, rfl, rfl, by decide +kernel, rfl, by decide +kernel, by decide +kernel⟩
theorem sc__law_are_parts_right : FnScope N__law_are_parts_right ["pot", "one", "other", "far", "near"] (defScope (top 45)) := ⟨rfl, rfl, rfl, by decide +kernel, rfl, by decide +kernel, by decide +kernel⟩
theorem sc__law_right : FnScope N__law_right ["pot"] (defScope (top 46)) := ⟨rfl, rfl, rfl, by decide +kernel, rfl, by decide +kernel, by decide +kernel⟩
theorem sc_law : FnScope N_law ["script"] (defScope (top 47)) := ⟨rfl, rfl, rfl, by decide +kernel, rfl, by decide +kernel, by decide +kernel⟩
theorem law_fn {W : Wb} {h : Heap} (X : W.K.In h) (G : h.Ns mainGlobals W.mg) (c : He.SaysD Hd.fa Hd.fn W.K) (m : Hd.ex W.K = true) {fd : FuncData} (FD : FunD W.K "law" "law" (defArgs (top 47)) (defBody (top 47)) (defScope (top 47)) [] [] (He.fAd W.K ("law", none)) fd) : FnG W 8 (He.fAd W.K ("law", none)) fd ["script"] F_law := by
  have hd : Hds W := hds X G c m
  have h_is_integer : Dfn W "is_integer" 1 1 F_is_integer := by
    obtain ⟨fd, FD⟩ := c.def_ 0 (d := Hd.dd 6 "is_integer") rfl
    exact dfn_of FD sc_is_integer (b_is_integer W hd) (He.glo_ok X G (c.fact 0 (f := .glo "is_integer") rfl)) (FD.bindsN fun _ _ _ _ _ _ us hl => match us, hl with | [_], _ => rfl) rfl rfl
  have h_is_between : Dfn W "is_between" 2 3 F_is_between := by
    obtain ⟨fd, FD⟩ := c.def_ 1 (d := Hd.dd 7 "is_between") rfl
    exact dfn_of FD sc_is_between (b_is_between W hd h_is_integer) (He.glo_ok X G (c.fact 1 (f := .glo "is_between") rfl)) (FD.bindsN fun _ _ _ _ _ _ us hl => match us, hl with | [_, _, _], _ => rfl) rfl rfl
  have h_is_plain_picture : Dfn W "is_plain_picture" 1 1 F_is_plain_picture := by
    obtain ⟨fd, FD⟩ := c.def_ 2 (d := Hd.dd 13 "is_plain_picture") rfl
    exact dfn_of FD sc_is_plain_picture (b_is_plain_picture W hd) (He.glo_ok X G (c.fact 2 (f := .glo "is_plain_picture") rfl)) (FD.bindsN fun _ _ _ _ _ _ us hl => match us, hl with | [_], _ => rfl) rfl rfl
  have h_check_pictures : Dfn W "check_pictures" 2 1 F_check_pictures := by
    obtain ⟨fd, FD⟩ := c.def_ 3 (d := Hd.dd 14 "check_pictures") rfl
    exact dfn_of FD sc_check_pictures (b_check_pictures W hd h_is_plain_picture) (He.glo_ok X G (c.fact 3 (f := .glo "check_pictures") rfl)) (FD.bindsN fun _ _ _ _ _ _ us hl => match us, hl with | [_], _ => rfl) rfl rfl
  have h_is_stroke_anew : Dfn W "is_stroke_anew" 3 1 F_is_stroke_anew := by
    obtain ⟨fd, FD⟩ := c.def_ 4 (d := Hd.dd 15 "is_stroke_anew") rfl
    exact dfn_of FD sc_is_stroke_anew (b_is_stroke_anew W hd h_is_between) (He.glo_ok X G (c.fact 4 (f := .glo "is_stroke_anew") rfl)) (FD.bindsN fun _ _ _ _ _ _ us hl => match us, hl with | [_], _ => rfl) rfl rfl
  have h_are_strokes_anew : Dfn W "are_strokes_anew" 4 1 F_are_strokes_anew := by
    obtain ⟨fd, FD⟩ := c.def_ 5 (d := Hd.dd 16 "are_strokes_anew") rfl
    exact dfn_of FD sc_are_strokes_anew (b_are_strokes_anew W hd h_is_stroke_anew) (He.glo_ok X G (c.fact 5 (f := .glo "are_strokes_anew") rfl)) (FD.bindsN fun _ _ _ _ _ _ us hl => match us, hl with | [_], _ => rfl) rfl rfl
  have h_framed : Dfn W "framed" 1 3 F_framed := by
    obtain ⟨fd, FD⟩ := c.def_ 6 (d := Hd.dd 17 "framed") rfl
    exact dfn_of FD sc_framed (b_framed W hd) (He.glo_ok X G (c.fact 6 (f := .glo "framed") rfl)) (FD.bindsN fun _ _ _ _ _ _ us hl => match us, hl with | [_, _, _], _ => rfl) rfl rfl
  have h_is_in_frame : Dfn W "is_in_frame" 1 3 F_is_in_frame := by
    obtain ⟨fd, FD⟩ := c.def_ 7 (d := Hd.dd 18 "is_in_frame") rfl
    exact dfn_of FD sc_is_in_frame (b_is_in_frame W hd) (He.glo_ok X G (c.fact 7 (f := .glo "is_in_frame") rfl)) (FD.bindsN fun _ _ _ _ _ _ us hl => match us, hl with | [_, _, _], _ => rfl) rfl rfl
  have h_drawn_over : Dfn W "drawn_over" 1 2 F_drawn_over := by
    obtain ⟨fd, FD⟩ := c.def_ 8 (d := Hd.dd 19 "drawn_over") rfl
    exact dfn_of FD sc_drawn_over (b_drawn_over W hd) (He.glo_ok X G (c.fact 8 (f := .glo "drawn_over") rfl)) (FD.bindsN fun _ _ _ _ _ _ us hl => match us, hl with | [_, _], _ => rfl) rfl rfl
  have h_stroke_cost : Dfn W "stroke_cost" 1 1 F_stroke_cost := by
    obtain ⟨fd, FD⟩ := c.def_ 9 (d := Hd.dd 20 "stroke_cost") rfl
    exact dfn_of FD sc_stroke_cost (b_stroke_cost W hd) (He.glo_ok X G (c.fact 9 (f := .glo "stroke_cost") rfl)) (FD.bindsN fun _ _ _ _ _ _ us hl => match us, hl with | [_], _ => rfl) rfl rfl
  have h_cost_of : Dfn W "cost_of" 2 1 F_cost_of := by
    obtain ⟨fd, FD⟩ := c.def_ 10 (d := Hd.dd 21 "cost_of") rfl
    exact dfn_of FD sc_cost_of (b_cost_of W hd h_stroke_cost) (He.glo_ok X G (c.fact 10 (f := .glo "cost_of") rfl)) (FD.bindsN fun _ _ _ _ _ _ us hl => match us, hl with | [_], _ => rfl) rfl rfl
  have h_runs_of : Dfn W "runs_of" 1 2 F_runs_of := by
    obtain ⟨fd, FD⟩ := c.def_ 11 (d := Hd.dd 22 "runs_of") rfl
    exact dfn_of FD sc_runs_of (b_runs_of W hd) (He.glo_ok X G (c.fact 11 (f := .glo "runs_of") rfl)) (FD.bindsN fun _ _ _ _ _ _ us hl => match us, hl with | [_, _], _ => rfl) rfl rfl
  have h_least_strokes : Dfn W "least_strokes" 2 2 F_least_strokes := by
    obtain ⟨fd, FD⟩ := c.def_ 12 (d := Hd.dd 23 "least_strokes") rfl
    exact dfn_of FD sc_least_strokes (b_least_strokes W hd h_framed h_runs_of) (He.glo_ok X G (c.fact 12 (f := .glo "least_strokes") rfl)) (FD.bindsN fun _ _ _ _ _ _ us hl => match us, hl with | [_, _], _ => rfl) rfl rfl
  have h_least_cost : Dfn W "least_cost" 2 2 F_least_cost := by
    obtain ⟨fd, FD⟩ := c.def_ 13 (d := Hd.dd 24 "least_cost") rfl
    exact dfn_of FD sc_least_cost (b_least_cost W hd h_framed) (He.glo_ok X G (c.fact 13 (f := .glo "least_cost") rfl)) (FD.bindsN fun _ _ _ _ _ _ us hl => match us, hl with | [_, _], _ => rfl) rfl rfl
  have h_anew : Dfn W "anew" 3 2 F_anew := by
    obtain ⟨fd, FD⟩ := c.def_ 14 (d := Hd.dd 25 "anew") rfl
    exact dfn_of FD sc_anew (b_anew W hd h_check_pictures h_cost_of h_least_strokes) (He.glo_ok X G (c.fact 14 (f := .glo "anew") rfl)) (FD.bindsN fun _ _ _ _ _ _ us hl => match us, hl with | [_, _], _ => rfl) rfl rfl
  have h_drawn_anew : Dfn W "drawn_anew" 5 4 F_drawn_anew := by
    obtain ⟨fd, FD⟩ := c.def_ 15 (d := Hd.dd 26 "drawn_anew") rfl
    exact dfn_of FD sc_drawn_anew (b_drawn_anew W hd h_are_strokes_anew h_check_pictures h_drawn_over h_framed h_is_between h_is_in_frame) (He.glo_ok X G (c.fact 15 (f := .glo "drawn_anew") rfl)) (FD.bindsN fun _ _ _ _ _ _ us hl => match us, hl with | [_, _, _, _], _ => rfl) rfl rfl
  have h_dots_changed : Dfn W "dots_changed" 3 2 F_dots_changed := by
    obtain ⟨fd, FD⟩ := c.def_ 16 (d := Hd.dd 27 "dots_changed") rfl
    exact dfn_of FD sc_dots_changed (b_dots_changed W hd h_check_pictures h_framed) (He.glo_ok X G (c.fact 16 (f := .glo "dots_changed") rfl)) (FD.bindsN fun _ _ _ _ _ _ us hl => match us, hl with | [_, _], _ => rfl) rfl rfl
  have h_shows_anew : Dfn W "shows_anew" 5 3 F_shows_anew := by
    obtain ⟨fd, FD⟩ := c.def_ 17 (d := Hd.dd 28 "shows_anew") rfl
    exact dfn_of FD sc_shows_anew (b_shows_anew W hd h_are_strokes_anew h_check_pictures h_cost_of h_drawn_over h_framed h_is_in_frame h_is_integer h_least_cost) (He.glo_ok X G (c.fact 17 (f := .glo "shows_anew") rfl)) (FD.bindsN fun _ _ _ _ _ _ us hl => match us, hl with | [_, _, _], _ => rfl) rfl rfl
  have h__law_pot : Dfn W "_law_pot" 1 2 F__law_pot := by
    obtain ⟨fd, FD⟩ := c.def_ 18 (d := Hd.dd 30 "_law_pot") rfl
    exact dfn_of FD sc__law_pot (b__law_pot W hd) (He.glo_ok X G (c.fact 18 (f := .glo "_law_pot") rfl)) (FD.bindsN fun _ _ _ _ _ _ us hl => match us, hl with | [_, _], _ => rfl) rfl rfl
  have h__law_take : Dfn W "_law_take" 1 2 F__law_take := by
    obtain ⟨fd, FD⟩ := c.def_ 19 (d := Hd.dd 31 "_law_take") rfl
    exact dfn_of FD sc__law_take (b__law_take W hd) (He.glo_ok X G (c.fact 19 (f := .glo "_law_take") rfl)) (FD.bindsN fun _ _ _ _ _ _ us hl => match us, hl with | [_, _], _ => rfl) rfl rfl
  have h__law_of : Dfn W "_law_of" 2 2 F__law_of := by
    obtain ⟨fd, FD⟩ := c.def_ 20 (d := Hd.dd 32 "_law_of") rfl
    exact dfn_of FD sc__law_of (b__law_of W hd h__law_take) (He.glo_ok X G (c.fact 20 (f := .glo "_law_of") rfl)) (FD.bindsN fun _ _ _ _ _ _ us hl => match us, hl with | [_, _], _ => rfl) rfl rfl
  have hp__law_of : DfnP W "_law_of" 2 (spPick W pn__law_of pk__law_of) := by
    obtain ⟨fd, FD⟩ := c.def_ 20 (d := Hd.dd 32 "_law_of") rfl
    exact ⟨_, fd, _, _, bp__law_of hd h__law_take FD sc__law_of, He.glo_ok X G (c.fact 20 (f := .glo "_law_of") rfl), FD.kp, FD.bindsN fun _ _ _ _ _ _ us hl => match us, hl with | [_, _], _ => rfl⟩
  have h__law_cells : Dfn W "_law_cells" 1 2 F__law_cells := by
    obtain ⟨fd, FD⟩ := c.def_ 21 (d := Hd.dd 33 "_law_cells") rfl
    exact dfn_of FD sc__law_cells (b__law_cells W hd) (He.glo_ok X G (c.fact 21 (f := .glo "_law_cells") rfl)) (FD.bindsN fun _ _ _ _ _ _ us hl => match us, hl with | [_, _], _ => rfl) rfl rfl
  have h__law_some : Dfn W "_law_some" 2 3 F__law_some := by
    obtain ⟨fd, FD⟩ := c.def_ 22 (d := Hd.dd 34 "_law_some") rfl
    exact dfn_of FD sc__law_some (b__law_some W hd h__law_take) (He.glo_ok X G (c.fact 22 (f := .glo "_law_some") rfl)) (FD.bindsN fun _ _ _ _ _ _ us hl => match us, hl with | [_, _, _], _ => rfl) rfl rfl
  have h__law_picture : Dfn W "_law_picture" 3 3 F__law_picture := by
    obtain ⟨fd, FD⟩ := c.def_ 23 (d := Hd.dd 35 "_law_picture") rfl
    exact dfn_of FD sc__law_picture (b__law_picture W hd h__law_of) (He.glo_ok X G (c.fact 23 (f := .glo "_law_picture") rfl)) (FD.bindsN fun _ _ _ _ _ _ us hl => match us, hl with | [_, _, _], _ => rfl) rfl rfl
  have h__law_near : Dfn W "_law_near" 3 2 F__law_near := by
    obtain ⟨fd, FD⟩ := c.def_ 24 (d := Hd.dd 36 "_law_near") rfl
    exact dfn_of FD sc__law_near (b__law_near W hd h__law_of h__law_take hp__law_of) (He.glo_ok X G (c.fact 24 (f := .glo "_law_near") rfl)) (FD.bindsN fun _ _ _ _ _ _ us hl => match us, hl with | [_, _], _ => rfl) rfl rfl
  have h__law_framed : Dfn W "_law_framed" 1 3 F__law_framed := by
    obtain ⟨fd, FD⟩ := c.def_ 25 (d := Hd.dd 37 "_law_framed") rfl
    exact dfn_of FD sc__law_framed (b__law_framed W hd) (He.glo_ok X G (c.fact 25 (f := .glo "_law_framed") rfl)) (FD.bindsN fun _ _ _ _ _ _ us hl => match us, hl with | [_, _, _], _ => rfl) rfl rfl
  have h__law_changes : Dfn W "_law_changes" 1 2 F__law_changes := by
    obtain ⟨fd, FD⟩ := c.def_ 26 (d := Hd.dd 38 "_law_changes") rfl
    exact dfn_of FD sc__law_changes (b__law_changes W hd) (He.glo_ok X G (c.fact 26 (f := .glo "_law_changes") rfl)) (FD.bindsN fun _ _ _ _ _ _ us hl => match us, hl with | [_, _], _ => rfl) rfl rfl
  have h__law_row_cost : Dfn W "_law_row_cost" 2 2 F__law_row_cost := by
    obtain ⟨fd, FD⟩ := c.def_ 27 (d := Hd.dd 39 "_law_row_cost") rfl
    exact dfn_of FD sc__law_row_cost (b__law_row_cost W hd h__law_changes) (He.glo_ok X G (c.fact 27 (f := .glo "_law_row_cost") rfl)) (FD.bindsN fun _ _ _ _ _ _ us hl => match us, hl with | [_, _], _ => rfl) rfl rfl
  have h__law_cost : Dfn W "_law_cost" 3 2 F__law_cost := by
    obtain ⟨fd, FD⟩ := c.def_ 28 (d := Hd.dd 40 "_law_cost") rfl
    exact dfn_of FD sc__law_cost (b__law_cost W hd h__law_framed h__law_row_cost) (He.glo_ok X G (c.fact 28 (f := .glo "_law_cost") rfl)) (FD.bindsN fun _ _ _ _ _ _ us hl => match us, hl with | [_, _], _ => rfl) rfl rfl
  have h__law_spent : Dfn W "_law_spent" 1 1 F__law_spent := by
    obtain ⟨fd, FD⟩ := c.def_ 29 (d := Hd.dd 41 "_law_spent") rfl
    exact dfn_of FD sc__law_spent (b__law_spent W hd) (He.glo_ok X G (c.fact 29 (f := .glo "_law_spent") rfl)) (FD.bindsN fun _ _ _ _ _ _ us hl => match us, hl with | [_], _ => rfl) rfl rfl
  have h__law_leads : Dfn W "_law_leads" 2 3 F__law_leads := by
    obtain ⟨fd, FD⟩ := c.def_ 30 (d := Hd.dd 42 "_law_leads") rfl
    exact dfn_of FD sc__law_leads (b__law_leads W hd h__law_framed) (He.glo_ok X G (c.fact 30 (f := .glo "_law_leads") rfl)) (FD.bindsN fun _ _ _ _ _ _ us hl => match us, hl with | [_, _, _], _ => rfl) rfl rfl
  have h__law_lots : Dfn W "_law_lots" 3 3 F__law_lots := by
    obtain ⟨fd, FD⟩ := c.def_ 31 (d := Hd.dd 43 "_law_lots") rfl
    exact dfn_of FD sc__law_lots (b__law_lots W hd h__law_changes h__law_framed h__law_of h__law_some) (He.glo_ok X G (c.fact 31 (f := .glo "_law_lots") rfl)) (FD.bindsN fun _ _ _ _ _ _ us hl => match us, hl with | [_, _, _], _ => rfl) rfl rfl
  have h__law_are_strokes_right : Dfn W "_law_are_strokes_right" 6 3 F__law_are_strokes_right := by
    obtain ⟨fd, FD⟩ := c.def_ 32 (d := Hd.dd 44 "_law_are_strokes_right") rfl
    exact dfn_of FD sc__law_are_strokes_right (b__law_are_strokes_right W hd h__law_changes h__law_cost h__law_framed h__law_leads h__law_lots h__law_spent h_anew h_dots_changed h_drawn_anew h_shows_anew) (He.glo_ok X G (c.fact 32 (f := .glo "_law_are_strokes_right") rfl)) (FD.bindsN fun _ _ _ _ _ _ us hl => match us, hl with | [_, _, _], _ => rfl) rfl rfl
  have h__law_are_parts_right : Dfn W "_law_are_parts_right" 4 5 F__law_are_parts_right := by
    obtain ⟨fd, FD⟩ := c.def_ 33 (d := Hd.dd 45 "_law_are_parts_right") rfl
    exact dfn_of FD sc__law_are_parts_right (b__law_are_parts_right W hd h__law_framed h_anew) (He.glo_ok X G (c.fact 33 (f := .glo "_law_are_parts_right") rfl)) (FD.bindsN fun _ _ _ _ _ _ us hl => match us, hl with | [_, _, _, _, _], _ => rfl) rfl rfl
  have h__law_right : Dfn W "_law_right" 7 1 F__law_right := by
    obtain ⟨fd, FD⟩ := c.def_ 34 (d := Hd.dd 46 "_law_right") rfl
    exact dfn_of FD sc__law_right (b__law_right W hd h__law_are_parts_right h__law_are_strokes_right h__law_near h__law_picture h__law_take) (He.glo_ok X G (c.fact 34 (f := .glo "_law_right") rfl)) (FD.bindsN fun _ _ _ _ _ _ us hl => match us, hl with | [_], _ => rfl) rfl rfl
  exact fng_of FD sc_law (b_law W hd h__law_cells h__law_pot h__law_right) rfl
theorem facts {P : Program} {w : World} {K : PySem.W.Frag} {h : Heap} {mg : Str → Option Value} {f : Addr} (X : K.In h) (G : h.Ns mainGlobals mg) (hfa : mg ("law" : Str) = some (.ref f)) (c : He.SaysD Hd.fa Hd.fn K) (m : Hd.ex K = true) :
    ∃ fd : FuncData, (∀ (s : Shared) (v : Value), BindsTo s fd ⟨[v], []⟩ [("script", v)]) ∧ ∀ base : Heap, K.In base → base.Ns mainGlobals mg → FnG { P := P, w := w, K := K, mg := mg, base := base, exq := fun _ _ _ _ _ _ => False } 8 f fd ["script"] F_law := by
  obtain ⟨fd, FD⟩ := c.def_ 35 (d := Hd.dd 47 "law") rfl
  have e := hfa.symm.trans (He.glo_ok X G (c.fact 35 (f := .glo "law") rfl))
  cases e
  have b := FunD.bindsA (ps := ["script"]) FD fun _ _ _ _ _ _ us hl => match us, hl with | [_], _ => rfl
  exact ⟨fd, fun s v => b s [v] rfl, fun base KB NB => law_fn (W := { P := P, w := w, K := K, mg := mg, base := base, exq := fun _ _ _ _ _ _ => False }) KB NB c m FD⟩
end K
open PySem PySem.W PySem.Calls PyProof.Rows
theorem end_of (law : ∀ ns : List Int, ns.length ≤ 63 → ∃ M, K.F_law [.r ns] [] = .ok (.bool true) M) : PySem.Challenge.rw_whatthepicturesays_k98_whole_strokes_by.Holds := by
  w_on; o_law
  refine HandSHeadRun.head_imp (r := OpenLaw.row PySem.Challenge.rw_whatthepicturesays_k98_whole_strokes_by) (q := view (OpenLaw.row PySem.Challenge.rw_whatthepicturesays_k98_whole_strokes_by).prog [47]) (H := Hd.hk) (ob := Hd.ob) (M := 4000) (loose := Hd.looseL) (d := HandSHeadRun.topDef (OpenLaw.row PySem.Challenge.rw_whatthepicturesays_k98_whole_strokes_by).prog 47) (kwd := []) Hd.ob_eq Hd.run (by kernel_rfl) (by kernel_rfl) (by kernel_rfl) (by rfl) (by first | assumption | decide +kernel) (by decide +kernel) ⟨rfl, rfl, rfl, rfl, rfl, by decide +kernel⟩ ?hw ?hc
  case hw => w_witness2
  case hc =>
    refine RL.walk_ofR (l := PySem.Challenge.rw_whatthepicturesays_k98_whole_strokes_by) (n := 63) (k := 8) (x := "script") (F := K.F_law) (exq := fun _ _ _ _ _ _ => False) rfl (by decide) (by kernel_rfl) ⟨rfl, by decide, by decide⟩ ?F law
    intro w mg fa h Y G hmg0
    obtain ⟨Kf, KX, c⟩ := Y
    have hmg : mg ("law" : PySem.Str) = some (.ref fa) := by
      have e : (HandSHeadRun.topDef (OpenLaw.row PySem.Challenge.rw_whatthepicturesays_k98_whole_strokes_by).prog 47).name = ("law" : PySem.Str) := by kernel_rfl
      rw [← e]
      exact hmg0
    obtain ⟨fd, hb, hF⟩ := K.facts (P := (PySem.Challenge.rw_whatthepicturesays_k98_whole_strokes_by).prog) (w := w) KX G hmg c.t.d c.more
    exact ⟨Kf, fd, KX, hb, hF⟩

set_option maxRecDepth 100000 in
set_option maxHeartbeats 0 in
theorem PySem.Challenge.cw_whatthepicturesays_k98_whole_strokes_by_holds : PySem.Challenge.rw_whatthepicturesays_k98_whole_strokes_by.Holds := by
  exact end_of fun ns h => K.law ns h
