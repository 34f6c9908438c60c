import PyProof.Rows.All
import HandS.ForMost
import HandS.ForExc
import HandS.Lambda
import HandS.Wide
import HandS.WideBits
import HandS.Gcd
import HandS.TupAny
import HandS.IsInst
import HandS.Deep
import HandS.Comp
import HandS.Conv
import HandS.Zip
import HandS.SetFor
import KE.DataFind
import PyProof.ReprRoads
import HandS.ExcInit
import HandS.Defaults
import KE.KExcSuper
import KE.RegKSuper
import HandS.Style
import KE.KExcIs
import HandS.EndTab
import PyProof.Rows.RegStrFacts
import KE.SortData
import KE.DataMinMax
import HandS.TupSets
import KE.GoesMore
import KE.GoesEnum
import PyProof.EqKinds
import KE.KEqDict
import PySem.Challenge.RW_gridpolygons_k07_whole_maps_of_points
set_option Elab.async false
set_option linter.all false
set_option autoImplicit false
set_option maxRecDepth 100000
/-! DL1: data, how data stands in a heap, the state of a def at the level of data. -/
namespace DL
open PySem L2

abbrev Sub (H H' : Hp) : Prop := ∀ a o, H a = some o → H' a = some o
theorem Sub.rfl {H : Hp} : Sub H H := fun _ _ h => h
theorem Sub.tr {A B C : Hp} (x : Sub A B) (y : Sub B C) : Sub A C := fun a o h => y a o (x a o h)

/-- at a: an exception of the class at C, its dict at dx -/
def excH (a C dx : Addr) : HO := .ext fun h => ∃ (oe : Obj) (vs : Array Value), h.get? a = some oe ∧ oe.cls = .ref C ∧ oe.dict = some dx ∧ oe.data = .fields vs
mutual
/-- the value v bears the data d in the heap H; an exception of the class at C with the value d is told as .dict [(.int C, d)] -/
inductive Rp (K : PySem.W.Frag) (H : Hp) : PyData → V → Prop
  | non : Rp K H .none .non
  | bl (b : Bool) : Rp K H (.bool b) (.bl b)
  | int (i : Int) : Rp K H (.int i) (.int i)
  | str (x : Str) : Rp K H (.str x) (.str x)
  | lst {a : Addr} {xs : List V} {ds : List PyData} : L2.Rd H a (.lst xs) → RpL K H ds xs → Rp K H (.list ds) (.ref a)
  | tup {a : Addr} {xs : List V} {ds : List PyData} : SqT K H a xs → RpL K H ds xs → Rp K H (.tuple ds) (.ref a)
  | dic {a : Addr} : H a = some (.dK []) → Rp K H (.dict []) (.ref a)
  | exc {a C dx : Addr} {d : PyData} {v : V} : H a = some (excH a C dx) → H dx = some (.xd [("value", v)]) → Rp K H d v → Rp K H (.dict [(.int (C : Nat), d)]) (.ref a)
  | fn {f : Addr} : Rp K H (.dict [(.none, .int (f : Nat))]) (.ref f)
inductive RpL (K : PySem.W.Frag) (H : Hp) : List PyData → List V → Prop
  | nil : RpL K H [] []
  | cons {d : PyData} {ds : List PyData} {v : V} {vs : List V} : Rp K H d v → RpL K H ds vs → RpL K H (d :: ds) (v :: vs)
end

theorem rd_mono {H H' : Hp} (s : Sub H H') {a : Addr} {u : HO} (h : L2.Rd H a u) : L2.Rd H' a u := by
  rcases h with h | ⟨o, h⟩
  · exact .inl (s _ _ h)
  · exact .inr ⟨o, s _ _ h⟩
theorem sqL_mono {K : PySem.W.Frag} {H H' : Hp} (s : Sub H H') {a : Addr} {xs : List V} (h : SqL K H a xs) : SqL K H' a xs := by
  rcases h with (h | ⟨o, h⟩) | h
  · exact .inl (.inl (s _ _ h))
  · exact .inl (.inr ⟨o, s _ _ h⟩)
  · exact .inr h
theorem sqT_mono {K : PySem.W.Frag} {H H' : Hp} (s : Sub H H') {a : Addr} {xs : List V} (h : SqT K H a xs) : SqT K H' a xs := by
  rcases h with (h | ⟨o, h⟩) | h
  · exact .inl (.inl (s _ _ h))
  · exact .inl (.inr ⟨o, s _ _ h⟩)
  · exact .inr h

section
variable {K : PySem.W.Frag} {H H' : Hp}
mutual
theorem Rp.mono (s : Sub H H') : ∀ {d : PyData} {v : V}, Rp K H d v → Rp K H' d v
  | _, _, .non => .non
  | _, _, .bl b => .bl b
  | _, _, .int i => .int i
  | _, _, .str x => .str x
  | _, _, .lst h r => .lst (rd_mono s h) (RpL.mono s r)
  | _, _, .tup h r => .tup (sqT_mono s h) (RpL.mono s r)
  | _, _, .dic h => .dic (s _ _ h)
  | _, _, .exc h h2 r => .exc (s _ _ h) (s _ _ h2) (Rp.mono s r)
  | _, _, .fn => .fn
theorem RpL.mono (s : Sub H H') : ∀ {ds : List PyData} {vs : List V}, RpL K H ds vs → RpL K H' ds vs
  | _, _, .nil => .nil
  | _, _, .cons r q => .cons (Rp.mono s r) (RpL.mono s q)
end
theorem RpL.len : ∀ {ds : List PyData} {vs : List V}, RpL K H ds vs → vs.length = ds.length
  | _, _, .nil => rfl
  | _, _, .cons _ q => congrArg (· + 1) (RpL.len q)
theorem RpL.app : ∀ {ds es : List PyData} {vs ws : List V}, RpL K H ds vs → RpL K H es ws → RpL K H (ds ++ es) (vs ++ ws)
  | _, _, _, _, .nil, q => q
  | _, _, _, _, .cons r t, q => .cons r (RpL.app t q)
theorem RpL.get : ∀ {ds : List PyData} {vs : List V} {i : Nat} {d : PyData}, RpL K H ds vs → ds[i]? = some d → ∃ v, vs[i]? = some v ∧ Rp K H d v
  | _, _, _, _, .nil, e => by simp at e
  | _, _, 0, _, .cons r _, e => by simp at e; subst e; exact ⟨_, rfl, r⟩
  | _, _, i + 1, _, .cons _ q, e => by
    obtain ⟨v, h1, h2⟩ := RpL.get (i := i) q (by simpa using e)
    exact ⟨v, by simpa using h1, h2⟩
theorem RpL.getV : ∀ {ds : List PyData} {vs : List V} {i : Nat} {v : V}, RpL K H ds vs → vs[i]? = some v → ∃ d, ds[i]? = some d ∧ Rp K H d v
  | _, _, _, _, .nil, e => by simp at e
  | _, _, 0, _, .cons r _, e => by simp at e; subst e; exact ⟨_, rfl, r⟩
  | _, _, i + 1, _, .cons _ q, e => by
    obtain ⟨d, h1, h2⟩ := RpL.getV (i := i) q (by simpa using e)
    exact ⟨d, by simpa using h1, h2⟩
theorem RpL.set {d : PyData} {v : V} (r : Rp K H d v) : ∀ {ds : List PyData} {vs : List V} (i : Nat), RpL K H ds vs → RpL K H (ds.set i d) (vs.set i v)
  | _, _, _, .nil => .nil
  | _, _, 0, .cons _ q => .cons r q
  | _, _, i + 1, .cons p q => .cons p (RpL.set r i q)
theorem RpL.take : ∀ {ds : List PyData} {vs : List V} (n : Nat), RpL K H ds vs → RpL K H (ds.take n) (vs.take n)
  | _, _, 0, _ => .nil
  | _, _, _ + 1, .nil => .nil
  | _, _, n + 1, .cons p q => .cons p (RpL.take n q)
theorem RpL.drop : ∀ {ds : List PyData} {vs : List V} (n : Nat), RpL K H ds vs → RpL K H (ds.drop n) (vs.drop n)
  | _, _, 0, r => r
  | _, _, _ + 1, .nil => .nil
  | _, _, n + 1, .cons _ q => RpL.drop n q
theorem RpL.rev : ∀ {ds : List PyData} {vs : List V}, RpL K H ds vs → RpL K H ds.reverse vs.reverse
  | _, _, .nil => .nil
  | _, _, .cons p q => by rw [List.reverse_cons, List.reverse_cons]; exact RpL.app (RpL.rev q) (.cons p .nil)
/-- ints -/
theorem RpL.ints : ∀ {ns : List Int}, RpL K H (ns.map PyData.int) (ns.map V.int)
  | [] => .nil
  | n :: ns => .cons (.int n) (RpL.ints (ns := ns))
theorem RpL.ofInts : ∀ {ns : List Int} {vs : List V}, RpL K H (ns.map PyData.int) vs → vs = ns.map V.int
  | [], _, .nil => rfl
  | n :: ns, _, .cons p q => by cases p; rw [RpL.ofInts q]; rfl
/-- data without parts: the heap doesn't matter -/
@[simp] def flat : PyData → Bool
  | .none => true | .bool _ => true | .int _ => true | .str _ => true | _ => false
theorem Rp.flat {d : PyData} {v : V} (h : Rp K H d v) (f : flat d = true) : Rp K H' d v := by
  cases h with
  | non => exact .non
  | bl b => exact .bl b
  | int i => exact .int i
  | str x => exact .str x
  | lst _ _ => cases f
  | tup _ _ => cases f
  | dic _ => cases f
  | exc _ _ _ => cases f
  | fn => cases f
theorem Rp.int_inv {i : Int} {v : V} (h : Rp K H (.int i) v) : v = .int i := by cases h; rfl
theorem Rp.bl_inv {b : Bool} {v : V} (h : Rp K H (.bool b) v) : v = .bl b := by cases h; rfl
theorem Rp.str_inv {x : Str} {v : V} (h : Rp K H (.str x) v) : v = .str x := by cases h; rfl
theorem Rp.non_inv {v : V} (h : Rp K H .none v) : v = .non := by cases h; rfl
theorem Rp.lst_inv {ds : List PyData} {v : V} (h : Rp K H (.list ds) v) : ∃ a xs, v = .ref a ∧ L2.Rd H a (.lst xs) ∧ RpL K H ds xs := by
  cases h with | lst h r => exact ⟨_, _, rfl, h, r⟩
theorem Rp.tup_inv {ds : List PyData} {v : V} (h : Rp K H (.tuple ds) v) : ∃ a xs, v = .ref a ∧ SqT K H a xs ∧ RpL K H ds xs := by
  cases h with | tup h r => exact ⟨_, _, rfl, h, r⟩
end

/-! ### the state -/
/-- what a name holds: nothing that is known; data; a list of its own, that nothing else knows; the generator -/
inductive Sl where
  | un | im (d : PyData) | ow (ds : List PyData) | gn
/-- the names' slots; the generator's numbers -/
structure Sd where
  σ : List Sl
  g : Option (List Int)
/-- what stood ahead of the def: b all that was tracked (but the generator), f what data may lie in -/
structure Bas where
  b : Hp
  f : Hp
  g : Option Addr
  t : List (Addr × Str)
/-- the state at the level of data is held: γ the generator's list, F what data lies in -/
structure Good (K : PySem.W.Frag) (B : Bas) (γ : Addr) (F : Hp) (s : Sd) (σ : L2.St) (H : Hp) : Prop where
  sub : Sub F H
  bs : Sub B.b H
  f0 : Sub B.f F
  fr : ∀ a o, F a = some o → B.f a = some o ∨ B.b a = none
  len : s.σ.length = σ.length
  im : ∀ (i : Nat) (d : PyData), s.σ[i]? = some (.im d) → ∃ v, σ[i]? = some (some v) ∧ Rp K F d v
  ow : ∀ (i : Nat) (ds : List PyData), s.σ[i]? = some (.ow ds) → ∃ a xs, σ[i]? = some (some (.ref a)) ∧ H a = some (.lst xs) ∧ RpL K F ds xs ∧ F a = none ∧ B.b a = none ∧ (s.g.isSome = true → a ≠ γ)
  ap : ∀ (i j : Nat) (ds es : List PyData) (a : Addr), s.σ[i]? = some (.ow ds) → s.σ[j]? = some (.ow es) → σ[i]? = some (some (.ref a)) → σ[j]? = some (some (.ref a)) → i = j
  gn : ∀ (i : Nat), s.σ[i]? = some .gn → σ[i]? = some (some (.ref γ))
  gg : ∀ l, s.g = some l → H γ = some (.lst (l.map V.int)) ∧ F γ = none ∧ B.b γ = none
  gx : ∀ a, B.g = some a → γ = a
  tb : LamX.Tabs B.t H
  nt : ∀ a ps, B.b a ≠ some (.tbl ps)
  nf : ∀ a ps, F a ≠ some (.tbl ps)

/-- what an expression gives: data, or a new list that nothing else knows -/
inductive Rv where
  | im (d : PyData) | ow (ds : List PyData)
@[simp] def Rv.d : Rv → PyData
  | .im d => d
  | .ow ds => .list ds
inductive R where
  | ok (v : Rv) (s : Sd) | err (C : Addr) (d : PyData) (s : Sd) | bad
/-- a new list at a, that nothing else knows -/
structure Own (K : PySem.W.Frag) (B : Bas) (γ : Addr) (F : Hp) (s : Sd) (σ : L2.St) (H : Hp) (a : Addr) (ds : List PyData) : Prop where
  at_ : ∃ xs, H a = some (.lst xs) ∧ RpL K F ds xs
  nf : F a = none
  nb : B.b a = none
  ng : s.g.isSome = true → a ≠ γ
  ns : ∀ (i : Nat) (es : List PyData), s.σ[i]? = some (.ow es) → σ[i]? ≠ some (some (.ref a))
def RvR (K : PySem.W.Frag) (B : Bas) (γ : Addr) (F : Hp) (s : Sd) (σ : L2.St) (H : Hp) (rv : Rv) (v : V) : Prop :=
  match rv with
  | .im d => Rp K F d v
  | .ow ds => ∃ a, v = .ref a ∧ Own K B γ F s σ H a ds

section
variable {K : PySem.W.Frag} {B : Bas} {γ : Addr} {F : Hp} {s : Sd} {σ : L2.St} {H : Hp}
/-- a new thing is laid, and data may lie in it -/
theorem Good.laid (G : Good K B γ F s σ H) {p : Addr} {o : HO} (hp : H p = none) (ho : ∀ ps, o ≠ .tbl ps := by intro ps z; cases z) : Sub F (upd F p o) ∧ Good K B γ (upd F p o) s σ (upd H p o) := by
  have hF : F p = none := by
    cases e : F p with
    | none => rfl
    | some u => rw [G.sub p u e] at hp; cases hp
  have hb : B.b p = none := by
    cases e : B.b p with
    | none => rfl
    | some u => rw [G.bs p u e] at hp; cases hp
  have sF : Sub F (upd F p o) := fun a u e => by
    rw [upd_ne (ne_of_none e hF)]; exact e
  have sH : Sub H (upd H p o) := fun a u e => by
    rw [upd_ne (ne_of_none e hp)]; exact e
  refine ⟨sF, ⟨fun a u e => ?_, G.bs.tr sH, G.f0.tr sF, fun a u e => ?_, G.len, fun i d e => ?_, fun i ds e => ?_, G.ap, G.gn, fun l e => ?_, G.gx, G.tb.ext sH, G.nt, fun a ps e => ?_⟩⟩
  · by_cases ha : a = p
    · subst ha; rw [upd_same] at e ⊢; exact e
    · rw [upd_ne ha] at e ⊢; exact G.sub a u e
  · by_cases ha : a = p
    · subst ha; exact .inr hb
    · rw [upd_ne ha] at e; exact G.fr a u e
  · obtain ⟨v, h1, h2⟩ := G.im i d e
    exact ⟨v, h1, h2.mono sF⟩
  · obtain ⟨a, xs, h1, h2, h3, h4, h5, h6⟩ := G.ow i ds e
    exact ⟨a, xs, h1, sH _ _ h2, h3.mono sF, by rw [upd_ne (ne_of_none h2 hp)]; exact h4, h5, h6⟩
  · obtain ⟨h1, h2, h3⟩ := G.gg l e
    exact ⟨sH _ _ h1, by rw [upd_ne (ne_of_none h1 hp)]; exact h2, h3⟩
  · by_cases ha : a = p
    · subst ha; rw [upd_same] at e; exact ho ps (Option.some.inj e)
    · rw [upd_ne ha] at e; exact G.nf a ps e
/-- a new list is laid as an own one -/
theorem Good.laidOwn (G : Good K B γ F s σ H) {p : Addr} {ds : List PyData} {xs : List V} (hp : H p = none) (r : RpL K F ds xs) :
    Good K B γ F s σ (upd H p (.lst xs)) ∧ Own K B γ F s σ (upd H p (.lst xs)) p ds := by
  have hF : F p = none := by
    cases e : F p with
    | none => rfl
    | some u => rw [G.sub p u e] at hp; cases hp
  have hb : B.b p = none := by
    cases e : B.b p with
    | none => rfl
    | some u => rw [G.bs p u e] at hp; cases hp
  have sH : Sub H (upd H p (.lst xs)) := fun a u e => by
    rw [upd_ne (ne_of_none e hp)]; exact e
  refine ⟨⟨G.sub.tr sH, G.bs.tr sH, G.f0, G.fr, G.len, G.im, fun i es e => ?_, G.ap, G.gn, fun l e => ?_, G.gx, G.tb.ext sH, G.nt, G.nf⟩, ⟨⟨xs, upd_same, r⟩, hF, hb, fun hg => ?_, fun i es e q => ?_⟩⟩
  · obtain ⟨a, ys, h1, h2, h3⟩ := G.ow i es e
    exact ⟨a, ys, h1, sH _ _ h2, h3⟩
  · obtain ⟨h1, h2⟩ := G.gg l e
    exact ⟨sH _ _ h1, h2⟩
  · obtain ⟨l, e⟩ := Option.isSome_iff_exists.mp hg
    exact (ne_of_none (G.gg l e).1 hp).symm
  · obtain ⟨a, ys, h1, h2, _⟩ := G.ow i es e
    rw [h1] at q
    cases q
    rw [hp] at h2
    cases h2
/-- an own list becomes data -/
theorem Good.frz (G : Good K B γ F s σ H) {a : Addr} {ds : List PyData} (O : Own K B γ F s σ H a ds) :
    ∃ F', Sub F F' ∧ Good K B γ F' s σ H ∧ Rp K F' (.list ds) (.ref a) := by
  obtain ⟨xs, hx, r⟩ := O.at_
  have sF : Sub F (upd F a (.lst xs)) := fun b u e => by
    rw [upd_ne (ne_of_none e O.nf)]; exact e
  refine ⟨upd F a (.lst xs), sF, ⟨fun b u e => ?_, G.bs, G.f0.tr sF, fun b u e => ?_, G.len, fun i d e => ?_, fun i es e => ?_, G.ap, G.gn, fun l e => ?_, G.gx, G.tb, G.nt, fun b ps e => ?_⟩, .lst (.inl upd_same) (r.mono sF)⟩
  · by_cases hb : b = a
    · subst hb; rw [upd_same] at e; cases e; exact hx
    · rw [upd_ne hb] at e; exact G.sub b u e
  · by_cases hb : b = a
    · subst hb; exact .inr O.nb
    · rw [upd_ne hb] at e; exact G.fr b u e
  · obtain ⟨v, h1, h2⟩ := G.im i d e
    exact ⟨v, h1, h2.mono sF⟩
  · obtain ⟨b, ys, h1, h2, h3, h4, h5, h6⟩ := G.ow i es e
    have nba : b ≠ a := fun z => O.ns i es e (by rw [h1, z])
    exact ⟨b, ys, h1, h2, h3.mono sF, by rw [upd_ne nba]; exact h4, h5, h6⟩
  · obtain ⟨h1, h2, h3⟩ := G.gg l e
    have nga : γ ≠ a := (O.ng (by rw [e]; rfl)).symm
    exact ⟨h1, by rw [upd_ne nga]; exact h2, h3⟩
  · by_cases hb : b = a
    · subst hb; rw [upd_same] at e; cases e
    · rw [upd_ne hb] at e; exact G.nf b ps e
theorem Good.frzV (G : Good K B γ F s σ H) {rv : Rv} {v : V} (h : RvR K B γ F s σ H rv v) : ∃ F', Sub F F' ∧ Good K B γ F' s σ H ∧ Rp K F' rv.d v := by
  cases rv with
  | im d => exact ⟨F, .rfl, G, h⟩
  | ow ds =>
    obtain ⟨a, rfl, O⟩ := h
    exact G.frz O
/-- a name's slot is stored -/
theorem getset {α : Type} {l : List α} {i j : Nat} {x y : α} (h : (l.set i x)[j]? = some y) : (j = i ∧ y = x) ∨ (j ≠ i ∧ l[j]? = some y) := by
  by_cases e : j = i
  · subst e
    by_cases hl : j < l.length
    · rw [List.getElem?_set_self hl] at h
      exact .inl ⟨rfl, (Option.some.inj h).symm⟩
    · rw [List.getElem?_eq_none (by simpa using hl)] at h; cases h
  · rw [List.getElem?_set_ne (Ne.symm e)] at h
    exact .inr ⟨e, h⟩
theorem Good.setIm (G : Good K B γ F s σ H) {i : Nat} {d : PyData} {v : V} (r : Rp K F d v) : Good K B γ F ⟨s.σ.set i (.im d), s.g⟩ (σ.set i (some v)) H := by
  have ix : ∀ {j : Nat} {x : Sl}, (s.σ.set i (.im d))[j]? = some x → j = i → (σ.set i (some v))[j]? = some (some v) := fun {j x} h e => by
    subst e
    have hl : j < s.σ.length := by
      have := (List.getElem?_eq_some_iff.mp h).1
      simpa using this
    exact List.getElem?_set_self (by rw [← G.len]; exact hl)
  refine ⟨G.sub, G.bs, G.f0, G.fr, by simpa using G.len, fun j e h => ?_, fun j ds h => ?_, fun j k ds es a h1 h2 h3 h4 => ?_, fun j h => ?_, G.gg, G.gx, G.tb, G.nt, G.nf⟩
  · rcases getset h with ⟨z, e2⟩ | ⟨z, h'⟩
    · cases e2
      exact ⟨v, ix h z, r⟩
    · rw [List.getElem?_set_ne (Ne.symm z)]
      exact G.im j e h'
  · rcases getset h with ⟨z, e2⟩ | ⟨z, h'⟩
    · cases e2
    · rw [List.getElem?_set_ne (Ne.symm z)]
      exact G.ow j ds h'
  · rcases getset h1 with ⟨z, e2⟩ | ⟨z, h1'⟩
    · cases e2
    rcases getset h2 with ⟨y, e2⟩ | ⟨y, h2'⟩
    · cases e2
    rw [List.getElem?_set_ne (Ne.symm z)] at h3
    rw [List.getElem?_set_ne (Ne.symm y)] at h4
    exact G.ap j k ds es a h1' h2' h3 h4
  · rcases getset h with ⟨z, e2⟩ | ⟨z, h'⟩
    · cases e2
    · rw [List.getElem?_set_ne (Ne.symm z)]
      exact G.gn j h'
theorem Good.setOw (G : Good K B γ F s σ H) {i : Nat} {ds : List PyData} {a : Addr} (O : Own K B γ F s σ H a ds) : Good K B γ F ⟨s.σ.set i (.ow ds), s.g⟩ (σ.set i (some (.ref a))) H := by
  have ix : ∀ {j : Nat} {x : Sl}, (s.σ.set i (.ow ds))[j]? = some x → j = i → (σ.set i (some (V.ref a)))[j]? = some (some (V.ref a)) := fun {j x} h e => by
    subst e
    have hl : j < s.σ.length := by
      have := (List.getElem?_eq_some_iff.mp h).1
      simpa using this
    exact List.getElem?_set_self (by rw [← G.len]; exact hl)
  obtain ⟨xs, hx, r⟩ := O.at_
  refine ⟨G.sub, G.bs, G.f0, G.fr, by simpa using G.len, fun j e h => ?_, fun j es h => ?_, fun j k es fs b h1 h2 h3 h4 => ?_, fun j h => ?_, G.gg, G.gx, G.tb, G.nt, G.nf⟩
  · rcases getset h with ⟨z, e2⟩ | ⟨z, h'⟩
    · cases e2
    · rw [List.getElem?_set_ne (Ne.symm z)]
      exact G.im j e h'
  · rcases getset h with ⟨z, e2⟩ | ⟨z, h'⟩
    · cases e2
      exact ⟨a, xs, ix h z, hx, r, O.nf, O.nb, O.ng⟩
    · rw [List.getElem?_set_ne (Ne.symm z)]
      exact G.ow j es h'
  · rcases getset h1 with ⟨z, e2⟩ | ⟨z, h1'⟩
    · rcases getset h2 with ⟨y, e3⟩ | ⟨y, h2'⟩
      · exact z.trans y.symm
      · rw [ix h1 z] at h3
        cases h3
        rw [List.getElem?_set_ne (Ne.symm y)] at h4
        exact absurd h4 (O.ns k fs h2')
    · rcases getset h2 with ⟨y, e3⟩ | ⟨y, h2'⟩
      · rw [ix h2 y] at h4
        cases h4
        rw [List.getElem?_set_ne (Ne.symm z)] at h3
        exact absurd h3 (O.ns j es h1')
      · rw [List.getElem?_set_ne (Ne.symm z)] at h3
        rw [List.getElem?_set_ne (Ne.symm y)] at h4
        exact G.ap j k es fs b h1' h2' h3 h4
  · rcases getset h with ⟨z, e2⟩ | ⟨z, h'⟩
    · cases e2
    · rw [List.getElem?_set_ne (Ne.symm z)]
      exact G.gn j h'
/-- a slot is read: an own list becomes data -/
@[simp] def rd (s : Sd) (i : Nat) : Option (PyData × Sd) :=
  match s.σ[i]? with
  | some (.im d) => some (d, s)
  | some (.ow ds) => some (.list ds, ⟨s.σ.set i (.im (.list ds)), s.g⟩)
  | _ => none
theorem set_self {α : Type} : ∀ {l : List α} {i : Nat} {x : α}, l[i]? = some x → l.set i x = l
  | [], _, _, h => by simp at h
  | y :: l, 0, x, h => by simp at h; subst h; rfl
  | y :: l, i + 1, x, h => by
    show y :: l.set i x = y :: l
    rw [set_self (by simpa using h)]
theorem Good.own (G : Good K B γ F s σ H) {i : Nat} {ds : List PyData} {a : Addr} (e : s.σ[i]? = some (.ow ds)) (h : σ[i]? = some (some (.ref a))) :
    Own K B γ F ⟨s.σ.set i .un, s.g⟩ σ H a ds ∧ Good K B γ F ⟨s.σ.set i .un, s.g⟩ σ H := by
  obtain ⟨b, xs, h1, h2, h3, h4, h5, h6⟩ := G.ow i ds e
  rw [h] at h1
  cases h1
  refine ⟨⟨⟨xs, h2, h3⟩, h4, h5, h6, fun j es q z => ?_⟩, ⟨G.sub, G.bs, G.f0, G.fr, by simpa using G.len, fun j d q => ?_, fun j es q => ?_, fun j k es fs b q1 q2 q3 q4 => ?_, fun j q => ?_, G.gg, G.gx, G.tb, G.nt, G.nf⟩⟩
  · rcases getset q with ⟨_, e2⟩ | ⟨ne, q'⟩
    · cases e2
    · exact ne (G.ap j i es ds a q' e z h)
  · rcases getset q with ⟨_, e2⟩ | ⟨ne, q'⟩
    · cases e2
    · exact G.im j d q'
  · rcases getset q with ⟨_, e2⟩ | ⟨ne, q'⟩
    · cases e2
    · exact G.ow j es q'
  · rcases getset q1 with ⟨_, e2⟩ | ⟨_, q1'⟩
    · cases e2
    rcases getset q2 with ⟨_, e2⟩ | ⟨_, q2'⟩
    · cases e2
    exact G.ap j k es fs b q1' q2' q3 q4
  · rcases getset q with ⟨_, e2⟩ | ⟨ne, q'⟩
    · cases e2
    · exact G.gn j q'
theorem Good.rd (G : Good K B γ F s σ H) {i : Nat} {d : PyData} {s' : Sd} (e : rd s i = some (d, s')) :
    ∃ F' v, Sub F F' ∧ Good K B γ F' s' σ H ∧ σ[i]? = some (some v) ∧ Rp K F' d v := by
  unfold DL.rd at e
  split at e
  · rename_i d' h
    cases e
    obtain ⟨v, h1, h2⟩ := G.im i d h
    exact ⟨F, v, .rfl, G, h1, h2⟩
  · rename_i ds h
    cases e
    obtain ⟨a, xs, h1, _⟩ := G.ow i ds h
    obtain ⟨O, G1⟩ := G.own h h1
    obtain ⟨F', sF, G2, r⟩ := G1.frz O
    refine ⟨F', .ref a, sF, ?_, h1, r⟩
    have G3 := G2.setIm (i := i) r
    have e1 : (s.σ.set i Sl.un).set i (.im (.list ds)) = s.σ.set i (.im (.list ds)) := by simp
    rw [show (⟨s.σ.set i Sl.un, s.g⟩ : Sd).σ = s.σ.set i Sl.un from rfl, e1, set_self h1] at G3
    exact G3
  · cases e
end
end DL

set_option Elab.async false
set_option linter.all false
set_option autoImplicit false
set_option maxRecDepth 100000
/-! DL2: expressions, tests and statements at the level of data; the rules that don't look at values. -/
namespace DL
open PySem L2

end DL
namespace L2
open PySem
theorem PE.con {X : Cx} {e : Expr} {t t' : TE} (h : PE X e t) (c : ∀ σ H Q, t' σ H Q → t σ H Q) : PE X e t' := ⟨fun pins s σ H Q I q => h.run pins s σ H Q I (c σ H Q q)⟩
theorem PT.con {X : Cx} {e : Expr} {t t' : TT} (h : PT X e t) (c : ∀ σ H Q, t' σ H Q → t σ H Q) : PT X e t' := ⟨fun pins s σ H Q I q => h.run pins s σ H Q I (c σ H Q q)⟩
theorem PW.con {X : Cx} {e : Expr} {t t' : TT} (h : PW X e t) (c : ∀ σ H Q, t' σ H Q → t σ H Q) : PW X e t' := ⟨fun wh pins s σ H Q I q => h.run wh pins s σ H Q I (c σ H Q q)⟩
theorem PA.con {X : Cx} {e : List Expr} {t t' : TA} (h : PA X e t) (c : ∀ σ H Q, t' σ H Q → t σ H Q) : PA X e t' := ⟨fun pos pins s σ H Q I q => h.run pos pins s σ H Q I (c σ H Q q)⟩
theorem PS.con {X : Cx} {e : Stmt} {t t' : TS} (h : PS X e t) (c : ∀ D σ H, t' D σ H → t D σ H) : PS X e t' := ⟨fun pins s σ H D I q => h.run pins s σ H D I (c D σ H q)⟩
theorem PSs.con {X : Cx} {e : List Stmt} {t t' : TS} (h : PSs X e t) (c : ∀ D σ H, t' D σ H → t D σ H) : PSs X e t' := ⟨fun pins s σ H D I q => h.run pins s σ H D I (c D σ H q)⟩

end L2
namespace DL
open PySem L2
/-- what an expression leaves as it was: all that was tracked, but the generator -/
structure Pr (γ : Addr) (s s' : Sd) (H H' : Hp) : Prop where
  pr : ∀ a o, H a = some o → (∀ ps, o ≠ .tbl ps) → (s.g.isSome = true → a ≠ γ) → H' a = some o
  gs : s'.g.isSome = s.g.isSome
theorem Pr.rfl {γ : Addr} {s : Sd} {H : Hp} : Pr γ s s H H := ⟨fun _ _ h _ _ => h, Eq.refl _⟩
theorem Pr.tr {γ : Addr} {s s1 s2 : Sd} {H H1 H2 : Hp} (x : Pr γ s s1 H H1) (y : Pr γ s1 s2 H1 H2) : Pr γ s s2 H H2 :=
  ⟨fun a o h t n => y.pr a o (x.pr a o h t n) t (fun z => n (by rw [← x.gs]; exact z)), y.gs.trans x.gs⟩
theorem Pr.of {γ : Addr} {s s' : Sd} {H H' : Hp} (h : Sub H H') (e : s'.g = s.g) : Pr γ s s' H H' := ⟨fun a o q _ _ => h a o q, by rw [e]⟩
theorem sub_upd {H : Hp} {p : Addr} {o : HO} (h : H p = none) : Sub H (upd H p o) := fun a u e => by
  rw [upd_ne (ne_of_none e h)]; exact e

abbrev DX := Sd → R
/-- how an error of the class C with the value d lies -/
structure ErrAt (K : PySem.W.Frag) (F H : Hp) (d : PyData) (dx : Addr) : Prop where
  at_ : ∃ v, F dx = some (.xd [("value", v)]) ∧ Rp K F d v
def After (K : PySem.W.Frag) (B : Bas) (W : WX) (γ : Addr) (F : Hp) (s : Sd) (σ : L2.St) (H : Hp) (r : R) (Q : VK) : Prop :=
  match r with
  | .ok rv s' => ∀ F' H' v, Sub F F' → Pr γ s s' H H' → Good K B γ F' s' σ H' → RvR K B γ F' s' σ H' rv v → Q v H'
  | .err C d s' => ∀ F' H' dx, Sub F F' → Pr γ s s' H H' → Good K B γ F' s' σ H' → ErrAt K F' H' d dx → W (.ref C) (some dx) σ H'
  | .bad => False
def tD (K : PySem.W.Frag) (B : Bas) (W : WX) (g : DX) : TE := fun σ H Q => ∃ γ F s, Good K B γ F s σ H ∧ After K B W γ F s σ H (g s) Q

@[simp] def bindD (r : R) (k : PyData → Sd → R) : R :=
  match r with
  | .ok rv s => k rv.d s
  | .err C d s => .err C d s
  | .bad => .bad

section
variable {K : PySem.W.Frag} {B : Bas} {W : WX} {γ : Addr} {F : Hp} {s : Sd} {σ : L2.St} {H : Hp} {Q : VK}
theorem After.mono {r : R} {Q' : VK} (h : After K B W γ F s σ H r Q) (c : ∀ v H', Q v H' → Q' v H') : After K B W γ F s σ H r Q' := by
  cases r with
  | ok rv s' => exact fun F' H' v a b c' d => c _ _ (h F' H' v a b c' d)
  | err C d s' => exact h
  | bad => exact h
/-- further on -/
theorem After.on {F1 : Hp} {s1 : Sd} {H1 : Hp} {r : R} (h : After K B W γ F s σ H r Q) (sF : Sub F F1) (p : Pr γ s s1 H H1) : After K B W γ F1 s1 σ H1 r Q := by
  cases r with
  | ok rv s' => exact fun F' H' v a b c d => h F' H' v (sF.tr a) (p.tr b) c d
  | err C d s' => exact fun F' H' dx a b c e => h F' H' dx (sF.tr a) (p.tr b) c e
  | bad => exact h
/-- data handed on -/
theorem After.im {d : PyData} {s' : Sd} {F' : Hp} {v : V} {H' : Hp} (h : After K B W γ F s σ H (.ok (.im d) s') Q) (a : Sub F F') (p : Pr γ s s' H H') (G : Good K B γ F' s' σ H') (r : Rp K F' d v) : Q v H' := h F' H' v a p G r
/-- the same state, data -/
theorem After.same {d : PyData} {v : V} (h : After K B W γ F s σ H (.ok (.im d) s) Q) (G : Good K B γ F s σ H) (r : Rp K F d v) : Q v H := h F H v .rfl .rfl G r
/-- a new tuple -/
theorem After.newT {ds : List PyData} {xs : List V} (h : After K B W γ F s σ H (.ok (.im (.tuple ds)) s) Q) (G : Good K B γ F s σ H) (r : RpL K F ds xs) {p : Addr} (hp : H p = none) : Q (.ref p) (upd H p (.tup xs)) := by
  obtain ⟨sF, G1⟩ := G.laid (o := .tup xs) hp
  exact h _ _ _ sF (.of (sub_upd hp) rfl) G1 (.tup (SqT.of upd_same) (r.mono sF))
/-- a new list -/
theorem After.newL {ds : List PyData} {xs : List V} (h : After K B W γ F s σ H (.ok (.ow ds) s) Q) (G : Good K B γ F s σ H) (r : RpL K F ds xs) {p : Addr} (hp : H p = none) : Q (.ref p) (upd H p (.lst xs)) := by
  obtain ⟨G1, O⟩ := G.laidOwn hp r
  exact h _ _ _ .rfl (.of (sub_upd hp) rfl) G1 ⟨p, rfl, O⟩

theorem tD.mono {g : DX} {Q' : VK} (h : tD K B W g σ H Q) (c : ∀ v H', Q v H' → Q' v H') : tD K B W g σ H Q' := by
  obtain ⟨γ, F, s, G, A⟩ := h
  exact ⟨γ, F, s, G, A.mono c⟩
/-- behind the first part -/
def Then (K : PySem.W.Frag) (B : Bas) (W : WX) (γ : Addr) (F : Hp) (s : Sd) (σ : L2.St) (H : Hp) (k : PyData → Sd → R) (Q : VK) : VK := fun x H1 =>
  ∃ F1 s1 d, Sub F F1 ∧ Pr γ s s1 H H1 ∧ Good K B γ F1 s1 σ H1 ∧ Rp K F1 d x ∧ After K B W γ F1 s1 σ H1 (k d s1) Q
theorem tD_bind {g : DX} {k : PyData → Sd → R} (G : Good K B γ F s σ H) (h : After K B W γ F s σ H (bindD (g s) k) Q) : tD K B W g σ H (Then K B W γ F s σ H k Q) := by
  refine ⟨γ, F, s, G, ?_⟩
  unfold bindD at h
  cases e : g s with
  | ok rv s1 =>
    rw [e] at h
    intro F' H' v a p G1 r
    obtain ⟨F2, a2, G2, r2⟩ := G1.frzV r
    exact ⟨F2, s1, rv.d, a.tr a2, p, G2, r2, After.on (h : After K B W γ F s σ H (k rv.d s1) Q) (a.tr a2) p⟩
  | err C d s1 =>
    rw [e] at h
    exact h
  | bad =>
    rw [e] at h
    exact h
end

/-! ### arguments -/
inductive RA where
  | ok (ds : List PyData) (s : Sd) | err (C : Addr) (d : PyData) (s : Sd) | bad
abbrev DA := Sd → RA
@[simp] def aNil : DA := fun s => .ok [] s
@[simp] def aCons (g : DX) (t : DA) : DA := fun s => match g s with
  | .ok rv s1 => (match t s1 with | .ok ds s2 => .ok (rv.d :: ds) s2 | r => r)
  | .err C d s1 => .err C d s1
  | .bad => .bad
def AftA (K : PySem.W.Frag) (B : Bas) (W : WX) (γ : Addr) (F : Hp) (s : Sd) (σ : L2.St) (H : Hp) (r : RA) (P : List V → Hp → Prop) : Prop :=
  match r with
  | .ok ds s' => ∀ F' H' xs, Sub F F' → Pr γ s s' H H' → Good K B γ F' s' σ H' → RpL K F' ds xs → P xs H'
  | .err C d s' => ∀ F' H' dx, Sub F F' → Pr γ s s' H H' → Good K B γ F' s' σ H' → ErrAt K F' H' d dx → W (.ref C) (some dx) σ H'
  | .bad => False
def tA (K : PySem.W.Frag) (B : Bas) (W : WX) (t : DA) : TA := fun σ H P => ∃ γ F s, Good K B γ F s σ H ∧ AftA K B W γ F s σ H (t s) P
abbrev DPA (X : Cx) (B : Bas) (W : WX) (es : List Expr) (t : DA) : Prop := PA X es (tA X.K B W t)
abbrev DPE (X : Cx) (B : Bas) (W : WX) (e : Expr) (g : DX) : Prop := PE X e (tD X.K B W g)
abbrev DPT (X : Cx) (B : Bas) (W : WX) (e : Expr) (g : DX) : Prop := PT X e (tB (tD X.K B W g))
abbrev DPW (X : Cx) (B : Bas) (W : WX) (e : Expr) (g : DX) : Prop := PW X e (tB (tD X.K B W g))
theorem AftA.on {K : PySem.W.Frag} {B : Bas} {W : WX} {γ : Addr} {F F1 : Hp} {s s1 : Sd} {σ : L2.St} {H H1 : Hp} {P : List V → Hp → Prop} {r : RA} (h : AftA K B W γ F s σ H r P) (sF : Sub F F1) (p : Pr γ s s1 H H1) : AftA K B W γ F1 s1 σ H1 r P := by
  cases r with
  | ok ds s' => exact fun F' H' v a b c d => h F' H' v (sF.tr a) (p.tr b) c d
  | err C d s' => exact fun F' H' dx a b c e => h F' H' dx (sF.tr a) (p.tr b) c e
  | bad => exact h
@[simp] def bindA (r : RA) (k : List PyData → Sd → R) : R :=
  match r with
  | .ok ds s => k ds s
  | .err C d s => .err C d s
  | .bad => .bad
section
variable {X : Cx} {B : Bas} {W : WX} {e : Expr} {es : List Expr} {pos : Pos}
theorem da_nil : DPA X B W [] aNil := pa_nil.con fun σ H P ⟨γ, F, s, G, A⟩ => A F H [] .rfl .rfl G .nil
theorem da_cons {g : DX} {t : DA} (h : DPE X B W e g) (q : DPA X B W es t) (hs : starEach (e :: es) X.env = (false, eval e X.env) :: starEach es X.env := by rfl) : DPA X B W (e :: es) (aCons g t) :=
  (pa_cons h q hs).con fun σ H P ⟨γ, F, s, G, A⟩ => by
    refine ⟨γ, F, s, G, ?_⟩
    unfold aCons at A
    cases e1 : g s with
    | ok rv s1 =>
      rw [e1] at A
      intro F' H' v a p G1 r
      obtain ⟨F2, a2, G2, r2⟩ := G1.frzV r
      refine ⟨γ, F2, s1, G2, ?_⟩
      dsimp only at A
      cases e2 : t s1 with
      | ok ds s2 =>
        rw [e2] at A
        exact fun F3 H3 xs a3 p3 G3 r3 => A F3 H3 (v :: xs) ((a.tr a2).tr a3) (p.tr p3) G3 (.cons (r2.mono a3) r3)
      | err C d s2 =>
        rw [e2] at A
        exact fun F3 H3 dx a3 p3 G3 r3 => A F3 H3 dx ((a.tr a2).tr a3) (p.tr p3) G3 r3
      | bad =>
        rw [e2] at A
        exact A
    | err C d s1 =>
      rw [e1] at A
      exact A
    | bad =>
      rw [e1] at A
      exact A
/-- behind the arguments -/
theorem tA_bind {t : DA} {k : List PyData → Sd → R} {γ : Addr} {F : Hp} {s : Sd} {σ : L2.St} {H : Hp} {Q : VK} (G : Good X.K B γ F s σ H) (h : After X.K B W γ F s σ H (bindA (t s) k) Q) :
    tA X.K B W t σ H fun xs H1 => ∃ F1 s1 ds, Sub F F1 ∧ Pr γ s s1 H H1 ∧ Good X.K B γ F1 s1 σ H1 ∧ RpL X.K F1 ds xs ∧ After X.K B W γ F1 s1 σ H1 (k ds s1) Q := by
  refine ⟨γ, F, s, G, ?_⟩
  unfold bindA at h
  cases e : t s with
  | ok ds s1 =>
    rw [e] at h
    exact fun F' H' xs a p G1 r => ⟨F', s1, ds, a, p, G1, r, After.on h a p⟩
  | err C d s1 => rw [e] at h; exact h
  | bad => rw [e] at h; exact h

/-! ### names, constants -/
@[simp] def xVar (i : Nat) : DX := fun s => match rd s i with | some (d, s') => .ok (.im d) s' | none => .bad
@[simp] def xC (d : PyData) : DX := fun s => .ok (.im d) s
theorem rd_g {s s' : Sd} {i : Nat} {d : PyData} (h : rd s i = some (d, s')) : s'.g = s.g := by
  unfold DL.rd at h
  split at h
  · cases h; rfl
  · cases h; rfl
  · cases h
theorem de_var {i : Nat} {x : Str} (h : PE X (.Name x pos) (tVar i)) : DPE X B W (.Name x pos) (xVar i) := h.con fun σ H Q ⟨γ, F, s, G, A⟩ => by
  unfold xVar at A
  cases e : rd s i with
  | none => rw [e] at A; exact A.elim
  | some p =>
    obtain ⟨d, s'⟩ := p
    rw [e] at A
    obtain ⟨F', v, a, G', h1, r⟩ := G.rd e
    exact ⟨v, h1, A F' H v a (.of .rfl (rd_g e)) G' r⟩
theorem de_c {d : PyData} {v : V} (h : PE X e (tC v)) (r : ∀ F, Rp X.K F d v) : DPE X B W e (xC d) := h.con fun σ H Q ⟨γ, F, s, G, A⟩ => A.same G (r F)
theorem de_int {i : Int} {j : Nat} : DPE X B W (.Constant (.int i) j pos) (xC (.int i)) := de_c pe_int fun _ => .int i
theorem de_bl {b : Bool} {j : Nat} : DPE X B W (.Constant (.bool b) j pos) (xC (.bool b)) := de_c pe_bl fun _ => .bl b
theorem de_non {j : Nat} : DPE X B W (.Constant .none j pos) (xC .none) := de_c pe_non fun _ => .non
theorem de_str {x : Str} {j : Nat} : DPE X B W (.Constant (.str x) j pos) (xC (.str x)) := de_c pe_str fun _ => .str x
theorem de_globI {x : Str} {i : Int} {t : Tok} (hg : Gl X x) (hm : X.mg x = some (.int i t)) (hd : (x == ("__debug__" : Str)) = false := by decide) : DPE X B W (.Name x pos) (xC (.int i)) :=
  de_c (pe_glob (v := .int i) hg hm ⟨t, rfl⟩ hd) fun _ => .int i

/-! ### operations on two values -/
/-- an operation on data, by values: what it gives is what the rule asks -/
def Op2 (K : PySem.W.Frag) (h : PyData → PyData → Option Rv) (r : R2) : Prop := ∀ (B : Bas) (W : WX) (γ : Addr) (F : Hp) (s : Sd) (σ : L2.St) (H : Hp) (x y : V) (d e : PyData) (rv : Rv) (Q : VK),
  Good K B γ F s σ H → Rp K F d x → Rp K F e y → h d e = some rv → After K B W γ F s σ H (.ok rv s) Q → r x y H Q
@[simp] def xBin (h : PyData → PyData → Option Rv) (ga gb : DX) : DX := fun s => bindD (ga s) fun d s1 => bindD (gb s1) fun e s2 => match h d e with | some rv => .ok rv s2 | none => .bad
theorem bin_con {h : PyData → PyData → Option Rv} {r : R2} (o : Op2 X.K h r) {ga gb : DX} {σ : L2.St} {H : Hp} {Q : VK} (q : tD X.K B W (xBin h ga gb) σ H Q) : tOp r (tD X.K B W ga) (tD X.K B W gb) σ H Q := by
  obtain ⟨γ, F, s, G, A⟩ := q
  refine (tD_bind G A).mono fun x H1 ⟨F1, s1, d, a1, p1, G1, r1, A1⟩ => ?_
  refine (tD_bind G1 A1).mono fun y H2 ⟨F2, s2, e, a2, p2, G2, r2, A2⟩ => ?_
  dsimp only at A2
  cases he : h d e with
  | none => rw [he] at A2; exact A2.elim
  | some rv =>
    rw [he] at A2
    exact o B W γ F2 s2 σ H2 x y d e rv Q G2 (r1.mono a2) r2 he A2
theorem de_op {op : Operator} {h : PyData → PyData → Option Rv} {r : R2} {a b : Expr} {ga gb : DX} (ho : OpR X (binaryOp op) r) (o : Op2 X.K h r) (ha : DPE X B W a ga) (hb : DPE X B W b gb) : DPE X B W (.BinOp a op b pos) (xBin h ga gb) :=
  (pe_op ho ha hb).con fun σ H Q q => bin_con o q
theorem de_cmp {op : CmpOp} {h : PyData → PyData → Option Rv} {r : R2} {a b : Expr} {ga gb : DX} (ho : OpR X (compareOp op) r) (o : Op2 X.K h r) (ha : DPE X B W a ga) (hb : DPE X B W b gb) (hm : behindInMarks op b = false) : DPE X B W (.Compare a [op] [b] pos) (xBin h ga gb) :=
  (pe_cmpR ho ha hb hm).con fun σ H Q q => bin_con o q
theorem dt_cmp {op : CmpOp} {h : PyData → PyData → Option Rv} {r : R2} {a b : Expr} {ga gb : DX} (ho : OpR X (compareOp op) r) (o : Op2 X.K h r) (ha : DPE X B W a ga) (hb : DPE X B W b gb) (hm : behindInMarks op b = false) : DPT X B W (.Compare a [op] [b] pos) (xBin h ga gb) :=
  (pt_cmpR ho ha hb hm).con fun σ H Q q => bin_con o q
theorem Op2.or {K : PySem.W.Frag} {h h' : PyData → PyData → Option Rv} {r r' : R2} (o : Op2 K h r) (o' : Op2 K h' r') : Op2 K (fun d e => (h d e).or (h' d e)) (fun x y H Q => r x y H Q ∨ r' x y H Q) :=
  fun B W γ F s σ H x y d e rv Q G r1 r2 he A => by
    cases q : h d e with
    | some rv' =>
      dsimp only at he
      rw [q] at he
      cases he
      exact .inl (o B W γ F s σ H x y d e _ Q G r1 r2 q A)
    | none =>
      dsimp only at he
      rw [q] at he
      exact .inr (o' B W γ F s σ H x y d e _ Q G r1 r2 he A)
/-! on one -/
def Op1 (K : PySem.W.Frag) (h : PyData → Option Rv) (r : V → Hp → VK → Prop) : Prop := ∀ (B : Bas) (W : WX) (γ : Addr) (F : Hp) (s : Sd) (σ : L2.St) (H : Hp) (x : V) (d : PyData) (rv : Rv) (Q : VK),
  Good K B γ F s σ H → Rp K F d x → h d = some rv → After K B W γ F s σ H (.ok rv s) Q → r x H Q
@[simp] def xUn (h : PyData → Option Rv) (ga : DX) : DX := fun s => bindD (ga s) fun d s1 => match h d with | some rv => .ok rv s1 | none => .bad
theorem de_un {op : UnaryOp} {h : PyData → Option Rv} {r : V → Hp → VK → Prop} {a : Expr} {ga : DX} (ho : UnR X (unaryOp op) r) (o : Op1 X.K h r) (ha : DPE X B W a ga) : DPE X B W (.UnaryOp op a pos) (xUn h ga) :=
  (pe_un ho ha).con fun σ H Q ⟨γ, F, s, G, A⟩ => (tD_bind G A).mono fun x H1 ⟨F1, s1, d, a1, p1, G1, r1, A1⟩ => by
    try dsimp only at A1
    cases he : h d with
    | none => rw [he] at A1; exact A1.elim
    | some rv => rw [he] at A1; exact o B W γ F1 s1 σ H1 x d rv Q G1 r1 he A1

/-! ### built-ins called by name -/
def OpN (K : PySem.W.Frag) (h : List PyData → Option Rv) (r : List V → Hp → VK → Prop) : Prop := ∀ (B : Bas) (W : WX) (γ : Addr) (F : Hp) (s : Sd) (σ : L2.St) (H : Hp) (xs : List V) (ds : List PyData) (rv : Rv) (Q : VK),
  Good K B γ F s σ H → RpL K F ds xs → h ds = some rv → After K B W γ F s σ H (.ok rv s) Q → r xs H Q
@[simp] def xCall (h : List PyData → Option Rv) (t : DA) : DX := fun s => bindA (t s) fun ds s1 => match h ds with | some rv => .ok rv s1 | none => .bad
theorem call_con {h : List PyData → Option Rv} {r : List V → Hp → VK → Prop} (o : OpN X.K h r) {t : DA} {σ : L2.St} {H : Hp} {Q : VK} (q : tD X.K B W (xCall h t) σ H Q) : tCB r (tA X.K B W t) σ H Q := by
  obtain ⟨γ, F, s, G, A⟩ := q
  obtain ⟨γ', F', s', G', A'⟩ := tA_bind G A
  refine ⟨γ', F', s', G', ?_⟩
  revert A'
  cases t s' with
  | ok ds s1 =>
    intro A' F1 H1 xs a p G1 r1
    obtain ⟨F2, s2, ds2, a2, p2, G2, r2, A2⟩ := A' F1 H1 xs a p G1 r1
    try dsimp only at A2
    cases hh : h ds2 with
    | none => rw [hh] at A2; exact A2.elim
    | some rv => rw [hh] at A2; exact o B W γ F2 s2 σ H1 xs ds2 rv Q G2 r2 hh A2
  | err C d s1 => exact fun A' => A'
  | bad => exact fun A' => A'
theorem de_callB {x : Str} {id : String} {h : List PyData → Option Rv} {r : List V → Hp → VK → Prop} {p : Pos} {t : DA} (hc : CallR X (.builtin id) r) (o : OpN X.K h r) (hg : Gl X x) (hm : X.mg x = none) (hv : bootBuiltins x = some (.builtin id)) (q : DPA X B W (e :: es) t)
    (hn : x ≠ "__name__" := by decide) (hdb : (x == ("__debug__" : Str)) = false := by decide)
    (he : starEach (e :: es) X.env = (false, eval e X.env) :: starEach es X.env := by rfl) (hpl : (backTo pos (starEach es X.env)).any (·.1) = false := by rfl) : DPE X B W (.Call (.Name x p) (e :: es) [] pos) (xCall h t) :=
  (pe_callB hc hg hm hv q hn hdb he hpl).con fun σ H Q q => call_con o q
theorem de_callTy {x : Str} {T : String} {h : List PyData → Option Rv} {r : List V → Hp → VK → Prop} {p : Pos} {t : DA} (hc : CallR X (.type T) r) (o : OpN X.K h r) (hg : Gl X x) (hm : X.mg x = none) (hv : bootBuiltins x = some (.type T)) (q : DPA X B W (e :: es) t)
    (hn : x ≠ "__name__" := by decide) (hdb : (x == ("__debug__" : Str)) = false := by decide)
    (he : starEach (e :: es) X.env = (false, eval e X.env) :: starEach es X.env := by rfl) (hpl : (backTo pos (starEach es X.env)).any (·.1) = false := by rfl) : DPE X B W (.Call (.Name x p) (e :: es) [] pos) (xCall h t) :=
  (pe_callTy hc hg hm hv q hn hdb he hpl).con fun σ H Q q => call_con o q

/-! ### displays -/
@[simp] def xTup (t : DA) : DX := fun s => bindA (t s) fun ds s1 => if ds.length ≤ 1000 then .ok (.im (.tuple ds)) s1 else .bad
@[simp] def xLst (t : DA) : DX := fun s => bindA (t s) fun ds s1 => if ds.length ≤ 1000 then .ok (.ow ds) s1 else .bad
theorem le_line {n : Nat} (h : n ≤ 1000) : n ≤ sizeLine := Nat.le_trans h (by decide)
theorem tA.mono {K : PySem.W.Frag} {t : DA} {σ : L2.St} {H : Hp} {P P' : List V → Hp → Prop} (h : tA K B W t σ H P) (c : ∀ xs H', P xs H' → P' xs H') : tA K B W t σ H P' := by
  obtain ⟨γ, F, s, G, A⟩ := h
  refine ⟨γ, F, s, G, ?_⟩
  revert A
  cases t s with
  | ok ds s1 => exact fun A F' H' xs a b d f => c _ _ (A F' H' xs a b d f)
  | err C d s1 => exact fun A => A
  | bad => exact fun A => A
theorem de_tup {k : Nat} {t : DA} (q : DPA X B W es t) : DPE X B W (.Tuple es k pos) (xTup t) := (pe_tup q).con fun σ H Q ⟨γ, F, s, G, A⟩ =>
  (tA_bind G A).mono fun xs H1 ⟨F1, s1, ds, a1, p1, G1, r1, A1⟩ => by
    by_cases hl : ds.length ≤ 1000
    · rw [if_pos hl] at A1
      exact ⟨by rw [r1.len]; exact le_line hl, fun p hp => A1.newT G1 r1 hp⟩
    · rw [if_neg hl] at A1
      exact A1.elim
theorem de_lst {t : DA} (q : DPA X B W es t) : DPE X B W (.List es pos) (xLst t) := (pe_lst q).con fun σ H Q ⟨γ, F, s, G, A⟩ =>
  (tA_bind G A).mono fun xs H1 ⟨F1, s1, ds, a1, p1, G1, r1, A1⟩ => by
    by_cases hl : ds.length ≤ 1000
    · rw [if_pos hl] at A1
      exact ⟨by rw [r1.len]; exact le_line hl, fun p hp => A1.newL G1 r1 hp⟩
    · rw [if_neg hl] at A1
      exact A1.elim
/-- {} -/
theorem de_dic (h : PE X e (fun σ H Q => ∀ p, H p = none → Q (.ref p) (upd H p (.dK [])))) : DPE X B W e (xC (.dict [])) := h.con fun σ H Q ⟨γ, F, s, G, A⟩ p hp => by
  obtain ⟨sF, G1⟩ := G.laid (o := .dK []) hp
  exact A _ _ _ sF (.of (sub_upd hp) rfl) G1 (.dic upd_same)

/-! ### tests -/
@[simp] def xAnd (ga gb : DX) : DX := fun s => bindD (ga s) fun d s1 => match d with | .bool true => gb s1 | .bool false => .ok (.im (.bool false)) s1 | _ => .bad
@[simp] def xOr (ga gb : DX) : DX := fun s => bindD (ga s) fun d s1 => match d with | .bool true => .ok (.im (.bool true)) s1 | .bool false => gb s1 | _ => .bad
@[simp] def xNot (ga : DX) : DX := fun s => bindD (ga s) fun d s1 => match d with | .bool b => .ok (.im (.bool !b)) s1 | _ => .bad
@[simp] def xIf (gc ga gb : DX) : DX := fun s => bindD (gc s) fun d s1 => match d with | .bool true => ga s1 | .bool false => gb s1 | _ => .bad
/-- a test's first part is a bool -/
theorem then_bool {γ : Addr} {F : Hp} {s : Sd} {σ : L2.St} {H H1 : Hp} {x : V} {Q : VK} {k : PyData → Sd → R} (hk : ∀ d s, (∀ b, d ≠ .bool b) → k d s = .bad) (h : Then X.K B W γ F s σ H k Q x H1) :
    ∃ b F1 s1, x = .bl b ∧ Sub F F1 ∧ Pr γ s s1 H H1 ∧ Good X.K B γ F1 s1 σ H1 ∧ After X.K B W γ F1 s1 σ H1 (k (.bool b) s1) Q := by
  obtain ⟨F1, s1, d, a1, p1, G1, r1, A1⟩ := h
  cases r1 with
  | bl b => exact ⟨b, F1, s1, rfl, a1, p1, G1, A1⟩
  | _ => rw [hk _ _ (fun b z => by cases z)] at A1; exact A1.elim
theorem dt_val {g : DX} (h : DPE X B W e g) (he : ∀ whole, isTrue e X.env whole = (do let v ← whole; standAt e.pos; holding [v] (truthy v)) := by intro _; rfl) : DPT X B W e g := pt_val h he
theorem dt_w {g : DX} (h : DPW X B W e g) : DPT X B W e g := h.pt
theorem dw_and1 {g : DX} (h : DPT X B W e g) : DPW X B W (.BoolOp .And [e] pos) g := pw_and1 h
theorem dw_or1 {g : DX} (h : DPT X B W e g) : DPW X B W (.BoolOp .Or [e] pos) g := pw_or1 h
theorem dw_and {ga gb : DX} {b : Expr} {rest : List Expr} (ha : DPT X B W e ga) (hb : DPW X B W (.BoolOp .And (b :: rest) pos) gb) : DPW X B W (.BoolOp .And (e :: b :: rest) pos) (xAnd ga gb) :=
  (pw_and ha hb).con fun σ H Q ⟨γ, F, s, G, A⟩ => (tD_bind G A).mono fun x H1 h => by
    obtain ⟨b, F1, s1, rfl, a1, p1, G1, A1⟩ := then_bool (by intro d s hd; cases d <;> first | rfl | exact absurd rfl (hd _)) h
    cases b with
    | true => exact ⟨true, rfl, iteT ⟨γ, F1, s1, G1, A1⟩⟩
    | false =>
      obtain ⟨c, e, q⟩ := A1.same G1 (.bl false)
      cases e
      exact ⟨false, rfl, iteF q⟩
theorem dw_or {ga gb : DX} {b : Expr} {rest : List Expr} (ha : DPT X B W e ga) (hb : DPW X B W (.BoolOp .Or (b :: rest) pos) gb) : DPW X B W (.BoolOp .Or (e :: b :: rest) pos) (xOr ga gb) :=
  (pw_or ha hb).con fun σ H Q ⟨γ, F, s, G, A⟩ => (tD_bind G A).mono fun x H1 h => by
    obtain ⟨b, F1, s1, rfl, a1, p1, G1, A1⟩ := then_bool (by intro d s hd; cases d <;> first | rfl | exact absurd rfl (hd _)) h
    cases b with
    | false => exact ⟨false, rfl, iteF ⟨γ, F1, s1, G1, A1⟩⟩
    | true =>
      obtain ⟨c, e, q⟩ := A1.same G1 (.bl true)
      cases e
      exact ⟨true, rfl, iteT q⟩
theorem dt_not {ga : DX} (ha : DPT X B W e ga) : DPT X B W (.UnaryOp .Not e pos) (xNot ga) :=
  (pt_not ha).con fun σ H Q ⟨γ, F, s, G, A⟩ => (tD_bind G A).mono fun x H1 h => by
    obtain ⟨b, F1, s1, rfl, a1, p1, G1, A1⟩ := then_bool (by intro d s hd; cases d <;> first | rfl | exact absurd rfl (hd _)) h
    obtain ⟨c, e, q⟩ := A1.same G1 (.bl _)
    cases e
    exact ⟨b, rfl, q⟩
theorem de_one {op : BoolOp} {g : DX} (h : DPE X B W e g) : DPE X B W (.BoolOp op [e] pos) g := pe_one h
theorem de_and {ga gb : DX} {b : Expr} {rest : List Expr} (ha : DPE X B W e ga) (hb : DPE X B W (.BoolOp .And (b :: rest) pos) gb) : DPE X B W (.BoolOp .And (e :: b :: rest) pos) (xAnd ga gb) :=
  (pe_and ha hb).con fun σ H Q ⟨γ, F, s, G, A⟩ => (tD_bind G A).mono fun x H1 h => by
    obtain ⟨b, F1, s1, rfl, a1, p1, G1, A1⟩ := then_bool (by intro d s hd; cases d <;> first | rfl | exact absurd rfl (hd _)) h
    cases b with
    | true => exact ⟨true, rfl, iteT ⟨γ, F1, s1, G1, A1⟩⟩
    | false => exact ⟨false, rfl, iteF (A1.same G1 (.bl false))⟩
theorem de_or {ga gb : DX} {b : Expr} {rest : List Expr} (ha : DPE X B W e ga) (hb : DPE X B W (.BoolOp .Or (b :: rest) pos) gb) : DPE X B W (.BoolOp .Or (e :: b :: rest) pos) (xOr ga gb) :=
  (pe_or ha hb).con fun σ H Q ⟨γ, F, s, G, A⟩ => (tD_bind G A).mono fun x H1 h => by
    obtain ⟨b, F1, s1, rfl, a1, p1, G1, A1⟩ := then_bool (by intro d s hd; cases d <;> first | rfl | exact absurd rfl (hd _)) h
    cases b with
    | false => exact ⟨false, rfl, iteF ⟨γ, F1, s1, G1, A1⟩⟩
    | true => exact ⟨true, rfl, iteT (A1.same G1 (.bl true))⟩
theorem de_not {ga : DX} (ha : DPE X B W e ga) : DPE X B W (.UnaryOp .Not e pos) (xNot ga) :=
  (pe_not ha).con fun σ H Q ⟨γ, F, s, G, A⟩ => (tD_bind G A).mono fun x H1 h => by
    obtain ⟨b, F1, s1, rfl, a1, p1, G1, A1⟩ := then_bool (by intro d s hd; cases d <;> first | rfl | exact absurd rfl (hd _)) h
    exact ⟨b, rfl, A1.same G1 (.bl _)⟩
theorem de_if {c a b : Expr} {gc ga gb : DX} (hc : DPT X B W c gc) (ha : DPE X B W a ga) (hb : DPE X B W b gb) : DPE X B W (.IfExp c a b pos) (xIf gc ga gb) :=
  (pe_ifExp hc ha hb).con fun σ H Q ⟨γ, F, s, G, A⟩ => (tD_bind G A).mono fun x H1 h => by
    obtain ⟨b, F1, s1, rfl, a1, p1, G1, A1⟩ := then_bool (by intro d s hd; cases d <;> first | rfl | exact absurd rfl (hd _)) h
    cases b with
    | true => exact ⟨true, rfl, iteT ⟨γ, F1, s1, G1, A1⟩⟩
    | false => exact ⟨false, rfl, iteF ⟨γ, F1, s1, G1, A1⟩⟩
end
end DL

set_option Elab.async false
set_option linter.all false
set_option autoImplicit false
set_option maxRecDepth 100000
/-! DL3: statements at the level of data; loops. -/
namespace DL
open PySem L2

/-- what a statement comes to -/
inductive RS where
  | nx (s : Sd) | rt (v : Rv) (s : Sd) | bk (s : Sd) | ct (s : Sd) | err (C : Addr) (d : PyData) (s : Sd) | bad
abbrev DM := Sd → RS
def AfterS (K : PySem.W.Frag) (B : Bas) (W : WX) (F : Hp) (D : Ends) (r : RS) : Prop :=
  match r with
  | .nx s' => ∀ γ' F' σ' H', Sub F F' → Good K B γ' F' s' σ' H' → D.nx σ' H'
  | .bk s' => ∀ γ' F' σ' H', Sub F F' → Good K B γ' F' s' σ' H' → D.bk σ' H'
  | .ct s' => ∀ γ' F' σ' H', Sub F F' → Good K B γ' F' s' σ' H' → D.ct σ' H'
  | .rt rv s' => ∀ γ' F' σ' H' v, Sub F F' → Good K B γ' F' s' σ' H' → RvR K B γ' F' s' σ' H' rv v → D.rt v H'
  | .err C d s' => ∀ γ' F' σ' H' dx, Sub F F' → Good K B γ' F' s' σ' H' → ErrAt K F' H' d dx → W (.ref C) (some dx) σ' H'
  | .bad => False
def tS (K : PySem.W.Frag) (B : Bas) (W : WX) (g : DM) : TS := fun D σ H => ∃ γ F s, Good K B γ F s σ H ∧ AfterS K B W F D (g s)
abbrev DPS (X : Cx) (B : Bas) (W : WX) (st : Stmt) (g : DM) : Prop := PS X st (tS X.K B W g)
abbrev DPB (X : Cx) (B : Bas) (W : WX) (st : List Stmt) (g : DM) : Prop := PSs X st (tS X.K B W g)

section
variable {K : PySem.W.Frag} {B : Bas} {W : WX} {γ : Addr} {F F1 : Hp} {s s1 : Sd} {σ : L2.St} {H H1 : Hp} {D : Ends}
theorem AfterS.on {r : RS} (h : AfterS K B W F D r) (a : Sub F F1) : AfterS K B W F1 D r := by
  cases r with
  | nx s' => exact fun γ' F' σ' H' b G => h γ' F' σ' H' (a.tr b) G
  | bk s' => exact fun γ' F' σ' H' b G => h γ' F' σ' H' (a.tr b) G
  | ct s' => exact fun γ' F' σ' H' b G => h γ' F' σ' H' (a.tr b) G
  | rt rv s' => exact fun γ' F' σ' H' v b G => h γ' F' σ' H' v (a.tr b) G
  | err C d s' => exact fun γ' F' σ' H' dx b G => h γ' F' σ' H' dx (a.tr b) G
  | bad => exact h
/-- own lists that were only read are own again -/
theorem Good.thaw (G : Good K B γ F s σ H) (a : Sub F F1) (p : Pr γ s s1 H H1) (G1 : Good K B γ F1 s1 σ H1) : Good K B γ F ⟨s.σ, s1.g⟩ σ H1 := by
  refine ⟨a.tr G1.sub, G1.bs, G.f0, G.fr, G.len, G.im, fun i ds e => ?_, G.ap, G.gn, fun l e => ?_, G.gx, G1.tb, G.nt, G.nf⟩
  · obtain ⟨b, xs, h1, h2, h3, h4, h5, h6⟩ := G.ow i ds e
    exact ⟨b, xs, h1, p.pr b _ h2 (fun ps z => by cases z) h6, h3, h4, h5, fun z => h6 (by rw [← p.gs]; exact z)⟩
  · obtain ⟨h1, h2, h3⟩ := G1.gg l e
    refine ⟨h1, ?_, h3⟩
    cases q : F γ with
    | none => rfl
    | some o =>
      have := a γ o q
      rw [h2] at this
      cases this
/-- behind an expression of a statement -/
@[simp] def bindS (r : R) (k : Rv → Sd → RS) : RS :=
  match r with
  | .ok rv s => k rv s
  | .err C d s => .err C d s
  | .bad => .bad
def ThenS (K : PySem.W.Frag) (B : Bas) (W : WX) (γ : Addr) (F : Hp) (s : Sd) (σ : L2.St) (H : Hp) (k : Rv → Sd → RS) (D : Ends) : VK := fun x H1 =>
  ∃ F1 s1 rv, Sub F F1 ∧ Pr γ s s1 H H1 ∧ Good K B γ F1 s1 σ H1 ∧ RvR K B γ F1 s1 σ H1 rv x ∧ AfterS K B W F D (k rv s1)
theorem tD_bindS {g : DX} {k : Rv → Sd → RS} (G : Good K B γ F s σ H) (h : AfterS K B W F D (bindS (g s) k)) : tD K B W g σ H (ThenS K B W γ F s σ H k D) := by
  refine ⟨γ, F, s, G, ?_⟩
  unfold bindS at h
  cases e : g s with
  | ok rv s1 =>
    rw [e] at h
    exact fun F' H' v a p G1 r => ⟨F', s1, rv, a, p, G1, r, h⟩
  | err C d s1 =>
    rw [e] at h
    exact fun F' H' dx a p G1 q => h γ F' σ H' dx a G1 q
  | bad =>
    rw [e] at h
    exact h
/-- flat data that was told while own lists were data -/
theorem RvR.flat {rv : Rv} {v : V} {γ' : Addr} {s' : Sd} {σ' : L2.St} {H' : Hp} {F2 : Hp} {d : PyData} (h : RvR K B γ F s σ H (.im d) v) (f : flat d = true) : Rp K F2 d v := Rp.flat (show Rp K F d v from h) f
end

@[simp] def mNil : DM := fun s => .nx s
@[simp] def mSeq (g h : DM) : DM := fun s => match g s with | .nx s1 => h s1 | r => r
@[simp] def mDrop (g : DX) : DM := fun s => bindS (g s) fun _ s1 => .nx ⟨s.σ, s1.g⟩
@[simp] def mRet (g : DX) : DM := fun s => bindS (g s) fun rv s1 => .rt rv s1
@[simp] def mRetV (i : Nat) : DM := fun s => match s.σ[i]? with | some (.ow ds) => .rt (.ow ds) ⟨s.σ.set i .un, s.g⟩ | some (.im d) => .rt (.im d) s | _ => .bad
@[simp] def mRetN : DM := fun s => .rt (.im .none) s
@[simp] def mIf (c : DX) (g h : DM) : DM := fun s => bindS (c s) fun rv s1 => match rv with | .im (.bool true) => g ⟨s.σ, s1.g⟩ | .im (.bool false) => h ⟨s.σ, s1.g⟩ | _ => .bad
@[simp] def mSet (i : Nat) (g : DX) : DM := fun s => bindS (g s) fun rv s1 => match rv with
  | .im d => if flat d = true then .nx ⟨s.σ.set i (.im d), s1.g⟩ else .nx ⟨s1.σ.set i (.im d), s1.g⟩
  | .ow ds => .nx ⟨s1.σ.set i (.ow ds), s1.g⟩

section
variable {X : Cx} {B : Bas} {W : WX} {st : Stmt} {rest : List Stmt} {e : Expr} {pos : Pos} {g h : DM} {gx : DX}
theorem ds_nil : DPB X B W [] mNil := pss_nil.con fun D σ H ⟨γ, F, s, G, A⟩ => A γ F σ H .rfl G
theorem ds_cons (h1 : DPS X B W st g) (h2 : DPB X B W rest h) : DPB X B W (st :: rest) (mSeq g h) := (pss_cons h1 h2).con fun D σ H ⟨γ, F, s, G, A⟩ => by
  refine ⟨γ, F, s, G, ?_⟩
  unfold mSeq at A
  cases e : g s with
  | nx s1 =>
    rw [e] at A
    exact fun γ' F' σ' H' a G' => ⟨γ', F', s1, G', A.on a⟩
  | bk s1 => rw [e] at A; exact A
  | ct s1 => rw [e] at A; exact A
  | rt v s1 => rw [e] at A; exact A
  | err C d s1 => rw [e] at A; exact A
  | bad => rw [e] at A; exact A
theorem ds_one (h1 : DPS X B W st g) : DPB X B W [st] g := pss_one h1
theorem ds_pass : DPS X B W (.Pass pos) mNil := ps_pass.con fun D σ H ⟨γ, F, s, G, A⟩ => A γ F σ H .rfl G
theorem ds_break : DPS X B W (.Break pos) (fun s => .bk s) := ps_break.con fun D σ H ⟨γ, F, s, G, A⟩ => A γ F σ H .rfl G
theorem ds_continue : DPS X B W (.Continue pos) (fun s => .ct s) := ps_continue.con fun D σ H ⟨γ, F, s, G, A⟩ => A γ F σ H .rfl G
theorem ds_never : DPS X B W st (fun _ => .bad) := ps_never.con fun D σ H ⟨γ, F, s, G, A⟩ => A
theorem dsb_never : DPB X B W rest (fun _ => .bad) := pss_never.con fun D σ H ⟨γ, F, s, G, A⟩ => A
theorem ds_expr (he : DPE X B W e gx) (hs : swapsWith e none pos.line X.env = pure false := by rfl) : DPS X B W (.Expr e pos) (mDrop gx) := (ps_expr he hs).con fun D σ H ⟨γ, F, s, G, A⟩ =>
  (tD_bindS G A).mono fun x H1 ⟨F1, s1, rv, a1, p1, G1, r1, A1⟩ => A1 γ F σ H1 .rfl (G.thaw a1 p1 G1)
theorem ds_ret (he : DPE X B W e gx) : DPS X B W (.Return (some e) pos) (mRet gx) := (ps_ret he).con fun D σ H ⟨γ, F, s, G, A⟩ =>
  (tD_bindS G A).mono fun x H1 ⟨F1, s1, rv, a1, p1, G1, r1, A1⟩ => A1 γ F1 σ H1 x a1 G1 r1
theorem ds_retN : DPS X B W (.Return none pos) mRetN := ps_retN.con fun D σ H ⟨γ, F, s, G, A⟩ => A γ F σ H .non .rfl G .non
theorem ds_retV {i : Nat} (he : PE X e (tVar i)) : DPS X B W (.Return (some e) pos) (mRetV i) := (ps_ret he).con fun D σ H ⟨γ, F, s, G, A⟩ => by
  unfold mRetV at A
  split at A
  · rename_i ds h
    obtain ⟨a, xs, h1, _⟩ := G.ow i ds h
    obtain ⟨O, G1⟩ := G.own h h1
    exact ⟨.ref a, h1, A γ F σ H (.ref a) .rfl G1 ⟨a, rfl, O⟩⟩
  · rename_i d h
    obtain ⟨v, h1, r⟩ := G.im i d h
    exact ⟨v, h1, A γ F σ H v .rfl G r⟩
  · exact A.elim
theorem ds_if {c : Expr} {a b : List Stmt} {gc : DX} {ga gb : DM} (hc : DPT X B W c gc) (ha : DPB X B W a ga) (hb : DPB X B W b gb) : DPS X B W (.If c a b pos) (mIf gc ga gb) :=
  (ps_if hc ha hb).con fun D σ H ⟨γ, F, s, G, A⟩ => (tD_bindS G A).mono fun x H1 ⟨F1, s1, rv, a1, p1, G1, r1, A1⟩ => by
    have G2 := G.thaw a1 p1 G1
    cases rv with
    | ow ds => exact A1.elim
    | im d =>
      cases d with
      | bool b =>
        cases (show Rp X.K F1 (.bool b) x from r1)
        cases b with
        | true => exact ⟨true, rfl, iteT ⟨γ, F, _, G2, A1⟩⟩
        | false => exact ⟨false, rfl, iteF ⟨γ, F, _, G2, A1⟩⟩
      | _ => exact A1.elim
theorem set_con {i : Nat} {D : Ends} {σ : L2.St} {H : Hp} (q : tS X.K B W (mSet i gx) D σ H) : tAsg (tD X.K B W gx) (gName i) D σ H := by
  obtain ⟨γ, F, s, G, A⟩ := q
  refine (tD_bindS G A).mono fun x H1 ⟨F1, s1, rv, a1, p1, G1, r1, A1⟩ => ?_
  cases rv with
  | im d =>
    dsimp only at A1
    by_cases f : flat d = true
    · rw [if_pos f] at A1
      have G2 := G.thaw a1 p1 G1
      exact A1 γ F _ H1 .rfl (G2.setIm (RvR.flat (rv := .im d) (γ' := γ) (s' := s) (σ' := σ) (H' := H) r1 f))
    · rw [if_neg f] at A1
      exact A1 γ F1 _ H1 a1 (G1.setIm r1)
  | ow ds =>
    obtain ⟨a, rfl, O⟩ := r1
    exact A1 γ F1 _ H1 a1 (G1.setOw O)
theorem ds_set {i : Nat} {x : Str} {pos' : Pos} (hN : X.N.Nodup) (hi : X.N[i]? = some x) (hx : Loc X.env.scope x) (he : DPE X B W e gx) (hs : swapsWith e (some (.Name x pos')) pos.line X.env = pure false := by rfl)
    (hf : X.fn x = true ∨ X.env.scope.names.lookup x = some .local := by first | exact .inl rfl | exact .inr rfl | assumption) : DPS X B W (.Assign [.Name x pos'] e pos) (mSet i gx) :=
  (ps_set hN hi hx he hs hf).con fun D σ H q => set_con q

/-! ### several names -/
def setsV : L2.St → List Nat → List V → L2.St
  | σ, i :: is, v :: vs => setsV (σ.set i (some v)) is vs
  | σ, _, _ => σ
@[simp] def setsD : List Sl → List Nat → List PyData → List Sl
  | l, i :: is, d :: ds => setsD (l.set i (.im d)) is ds
  | l, _, _ => l
def gSets (is : List Nat) : TGs := fun vs σ H Q => vs.length = is.length ∧ Q (setsV σ is vs) H
theorem dg_nil : PGs X [] (gSets []) := ⟨fun pins s σ H vs us Q I r ⟨h1, h2⟩ => pgs_nil.run pins s σ H vs us Q I r ⟨List.length_eq_zero_iff.mp h1, by cases List.length_eq_zero_iff.mp h1; exact h2⟩⟩
theorem dg_cons {es : List Expr} {i : Nat} {is : List Nat} (h1 : PG X e (gName i)) (h2 : PGs X es (gSets is))
    (hs : (assignEach (e :: es) X.env).map (·.2) = assign e X.env :: (assignEach es X.env).map (·.2) := by rfl) : PGs X (e :: es) (gSets (i :: is)) :=
  ⟨fun pins s σ H vs us Q I r ⟨h3, h4⟩ => by
    cases vs with
    | nil => cases h3
    | cons v vs =>
      exact (pgs_cons h1 h2 hs).run pins s σ H (v :: vs) us Q I r ⟨v, vs, rfl, by simpa using h3, h4⟩⟩
theorem Good.sets {K : PySem.W.Frag} {γ : Addr} {F H : Hp} : ∀ {is : List Nat} {ds : List PyData} {vs : List V} {s : Sd} {σ : L2.St}, Good K B γ F s σ H → RpL K F ds vs → Good K B γ F ⟨setsD s.σ is ds, s.g⟩ (setsV σ is vs) H
  | [], _, _, s, σ, G, r => by unfold setsD setsV; exact G
  | i :: is, [], _, s, σ, G, .nil => by unfold setsD setsV; exact G
  | i :: is, d :: ds, v :: vs, s, σ, G, .cons r q => by
    unfold setsD setsV
    exact Good.sets (s := ⟨s.σ.set i (.im d), s.g⟩) (G.setIm r) q
/-- a, b, .. = a tuple -/
@[simp] def mUnp (is : List Nat) (g : DX) : DM := fun s => bindS (g s) fun rv s1 => match rv with
  | .im (.tuple ds) => if ds.length = is.length then (if ds.all flat = true then .nx ⟨setsD s.σ is ds, s1.g⟩ else .nx ⟨setsD s1.σ is ds, s1.g⟩) else .bad
  | _ => .bad
theorem RpL.flat {K : PySem.W.Frag} {F F' : Hp} : ∀ {ds : List PyData} {vs : List V}, RpL K F ds vs → ds.all DL.flat = true → RpL K F' ds vs
  | _, _, .nil, _ => .nil
  | _, _, .cons r q, h => by
    rw [List.all_cons, Bool.and_eq_true] at h
    exact .cons (r.flat h.1) (RpL.flat q h.2)
theorem unp_con {is : List Nat} {n : Nat} {D : Ends} {σ : L2.St} {H : Hp} (hn : n = is.length) (q : tS X.K B W (mUnp is gx) D σ H) : tAsg (tD X.K B W gx) (gTup X.K n (gSets is)) D σ H := by
  obtain ⟨γ, F, s, G, A⟩ := q
  refine (tD_bindS G A).mono fun x H1 ⟨F1, s1, rv, a1, p1, G1, r1, A1⟩ => ?_
  cases rv with
  | ow ds => exact A1.elim
  | im d =>
    cases d with
    | tuple ds =>
      dsimp only at A1
      obtain ⟨a, xs, rfl, hs, r⟩ := Rp.tup_inv (show Rp X.K F1 (.tuple ds) x from r1)
      by_cases hl : ds.length = is.length
      · rw [if_pos hl] at A1
        have e : xs.length = is.length := by rw [r.len]; exact hl
        refine ⟨a, xs, rfl, sqT_mono G1.sub hs, by rw [hn]; exact e, e, ?_⟩
        by_cases f : ds.all flat = true
        · rw [if_pos f] at A1
          exact A1 γ F _ H1 .rfl ((G.thaw a1 p1 G1).sets (r.flat f))
        · rw [if_neg f] at A1
          exact A1 γ F1 _ H1 a1 (G1.sets r)
      · rw [if_neg hl] at A1
        exact A1.elim
    | _ => exact A1.elim
theorem ds_unp {es : List Expr} {k n : Nat} {is : List Nat} {pt : Pos} (hc : X.calm = true) (he : DPE X B W e gx) (hg : PGs X es (gSets is)) (hn : n = is.length) (hl : (assignEach es X.env).length = n := by rfl) (hst : (assignEach es X.env).findIdx? (·.1) = none := by rfl)
    (hs : swapsWithSole [.Tuple es k pt] e pos.line X.env = pure false := by rfl) (hw : swappedStores [.Tuple es k pt] e X.env = pure none := by rfl)
    (h1 : (assignEach [.Tuple es k pt] X.env).map (·.2) = [assign (.Tuple es k pt) X.env] := by rfl) : DPS X B W (.Assign [.Tuple es k pt] e pos) (mUnp is gx) :=
  (ps_asg he (pg_tup hc hg hl hst) hs hw h1).con fun D σ H q => unp_con hn q
/-- a, b = e, f: no tuple is made -/
@[simp] def mPar (i j : Nat) (t : DA) : DM := fun s => match t s with
  | .ok [d, e] s1 => if (flat d && flat e) = true then .nx ⟨(s.σ.set i (.im d)).set j (.im e), s1.g⟩ else .nx ⟨(s1.σ.set i (.im d)).set j (.im e), s1.g⟩
  | .err C d s1 => .err C d s1
  | _ => .bad
theorem ds_par {i j : Nat} {x y : Str} {a b : Expr} {t : DA} {px py pt : Pos} {kt k2 : Nat} {pt2 : Pos} (hc : X.calm = true) (hN : X.N.Nodup) (hi : X.N[i]? = some x) (hj : X.N[j]? = some y) (hij : i ≠ j)
    (hx : X.env.scope.names.lookup x = some .local) (hy : X.env.scope.names.lookup y = some .local) (ha : DPA X B W [a, b] t)
    (hw : swappedStores [.Tuple [.Name x px, .Name y py] kt pt] (.Tuple [a, b] k2 pt2) X.env = pure (some [x, y]) := by rfl)
    (hs : swapsWithSole [.Tuple [.Name x px, .Name y py] kt pt] (.Tuple [a, b] k2 pt2) pos.line X.env = pure false := by rfl) :
    DPS X B W (.Assign [.Tuple [.Name x px, .Name y py] kt pt] (.Tuple [a, b] k2 pt2) pos) (mPar i j t) :=
  (ps_par hc hN hi hj hij hx hy ha hw hs).con fun D σ H ⟨γ, F, s, G, A⟩ => by
    refine ⟨γ, F, s, G, ?_⟩
    unfold mPar at A
    cases e : t s with
    | bad => rw [e] at A; exact A.elim
    | err C d s1 =>
      rw [e] at A
      exact fun F' H' dx a p G1 q => A γ F' σ H' dx a G1 q
    | ok ds s1 =>
      rw [e] at A
      intro F' H' xs a p G1 r
      match ds, r, A with
      | [d, d'], .cons (v := v) r1 (.cons (v := w) r2 .nil), A =>
        refine ⟨v, w, rfl, ?_⟩
        dsimp only at A
        by_cases f : (flat d && flat d') = true
        · rw [if_pos f] at A
          rw [Bool.and_eq_true] at f
          have G2 := G.thaw a p G1
          have G3 := G2.setIm (i := i) (r1.flat f.1)
          exact A γ F _ H' .rfl (G3.setIm (i := j) (r2.flat f.2))
        · rw [if_neg f] at A
          have G3 := G1.setIm (i := i) r1
          exact A γ F' _ H' a (G3.setIm (i := j) r2)
      | [], _, A => exact A.elim
      | [_], _, A => exact A.elim
      | _ :: _ :: _ :: _, _, A => exact A.elim
end
end DL

set_option Elab.async false
set_option linter.all false
set_option autoImplicit false
set_option maxRecDepth 100000
namespace L2
open PySem
theorem PI.con {X : Cx} {tg e : Expr} {t t' : TI} (h : PI X tg e t) (c : ∀ σ H Q, t' σ H Q → t σ H Q) : PI X tg e t' := ⟨fun pins s σ H Q I q => h.run pins s σ H Q I (c σ H Q q)⟩
end L2
/-! DL4: loops. -/
namespace DL
open PySem L2

/-! ### what a for walks: the data one behind another -/
/-- the iterator J walks the data ds, that lie in F -/
def ItD (K : PySem.W.Frag) (J : It) (F : Hp) (ds : List PyData) : Prop := ∀ (i : Nat) (H : Hp), Sub F H →
  (∀ d, ds[i]? = some d → J.go i H ∧ ∀ x H', J.yld i H x H' → (H' = H ∧ Rp K F d x) ∨ ∃ p es xs, H p = none ∧ H' = upd H p (.tup xs) ∧ x = .ref p ∧ d = .tuple es ∧ RpL K F es xs) ∧
  (ds.length ≤ i → J.stop i H)
/-- a source of data: gi gives the list of them -/
def AfterI (K : PySem.W.Frag) (B : Bas) (W : WX) (γ : Addr) (F : Hp) (s : Sd) (σ : L2.St) (H : Hp) (r : R) (Rq : It → Hp → Prop) : Prop :=
  match r with
  | .ok (.im (.list ds)) s' => ∀ F' H' J, Sub F F' → Pr γ s s' H H' → Good K B γ F' s' σ H' → ItD K J F' ds → Rq J H'
  | .err C d s' => ∀ F' H' dx, Sub F F' → Pr γ s s' H H' → Good K B γ F' s' σ H' → ErrAt K F' H' d dx → W (.ref C) (some dx) σ H'
  | _ => False
def tI (K : PySem.W.Frag) (B : Bas) (W : WX) (gi : DX) : TI := fun σ H Rq => ∃ γ F s, Good K B γ F s σ H ∧ AfterI K B W γ F s σ H (gi s) Rq
abbrev DPI (X : Cx) (B : Bas) (W : WX) (tg iter : Expr) (gi : DX) : Prop := PI X tg iter (tI X.K B W gi)

/-- a list or a tuple -/
def toSeq : PyData → Option (List PyData)
  | .list ds => some ds
  | .tuple ds => some ds
  | _ => none
def xSeq (g : DX) : DX := fun s => bindD (g s) fun d s1 => match toSeq d with | some ds => .ok (.im (.list ds)) s1 | none => .bad
def rngD (i : Int) (n : Nat) : List PyData := (List.range n).map fun (k : Nat) => .int (i + (k : Int))
def int1 : List PyData → Option Int
  | [.int j] => some j
  | _ => none
def int2 : List PyData → Option (Int × Int)
  | [.int i, .int j] => some (i, j)
  | _ => none
theorem int1_of {ds : List PyData} {j : Int} (h : int1 ds = some j) : ds = [.int j] := by
  unfold int1 at h
  split at h
  · cases h; rfl
  · cases h
theorem int2_of {ds : List PyData} {p : Int × Int} (h : int2 ds = some p) : ds = [.int p.1, .int p.2] := by
  unfold int2 at h
  split at h
  · cases h; rfl
  · cases h
def xRng1 (t : DA) : DX := fun s => bindA (t s) fun ds s1 => match int1 ds with
  | some j => if -1000000 < j ∧ j < 1000000 then .ok (.im (.list (rngD 0 j.toNat))) s1 else .bad
  | none => .bad
def xRng2 (t : DA) : DX := fun s => bindA (t s) fun ds s1 => match int2 ds with
  | some (i, j) => if -1000000 < i ∧ i < 1000000 ∧ -1000000 < j ∧ j < 1000000 then .ok (.im (.list (rngD i (j - i).toNat))) s1 else .bad
  | none => .bad
section
variable {X : Cx} {B : Bas} {W : WX} {tg e : Expr} {es : List Expr} {pos : Pos} {g : DX}
theorem itD_list {K : PySem.W.Frag} {F : Hp} {a : Addr} {xs : List V} {ds : List PyData} (h : SqL K F a xs) (r : RpL K F ds xs) : ItD K (Itl K a) F ds := fun i H sH => by
  refine ⟨fun d hd => ?_, fun hl => ⟨xs, sqL_mono sH h, by rw [r.len]; exact hl⟩⟩
  obtain ⟨v, h1, h2⟩ := r.get hd
  refine ⟨⟨xs, v, sqL_mono sH h, h1⟩, fun x H' ⟨e, y⟩ => .inl ⟨e, ?_⟩⟩
  have := y xs (sqL_mono sH h)
  rw [h1] at this
  cases this
  exact h2
theorem itD_tup {K : PySem.W.Frag} {F : Hp} {a : Addr} {xs : List V} {ds : List PyData} (h : SqT K F a xs) (r : RpL K F ds xs) : ItD K (Itt K a) F ds := fun i H sH => by
  refine ⟨fun d hd => ?_, fun hl => ⟨xs, sqT_mono sH h, by rw [r.len]; exact hl⟩⟩
  obtain ⟨v, h1, h2⟩ := r.get hd
  refine ⟨⟨xs, v, sqT_mono sH h, h1⟩, fun x H' ⟨e, y⟩ => .inl ⟨e, ?_⟩⟩
  have := y xs (sqT_mono sH h)
  rw [h1] at this
  cases this
  exact h2
theorem itD_rng {K : PySem.W.Frag} {F : Hp} (lo : Int) (n : Nat) : ItD K (Itr lo n) F (rngD lo n) := fun i H sH => by
  refine ⟨fun d hd => ?_, fun hl => show n ≤ i by simpa [rngD] using hl⟩
  unfold rngD at hd
  rw [List.getElem?_map] at hd
  cases e : (List.range n)[i]? with
  | none => rw [e] at hd; cases hd
  | some k =>
    rw [e] at hd
    obtain ⟨hi, e2⟩ := List.getElem?_eq_some_iff.mp e
    simp at e2 hi
    subst e2
    cases hd
    exact ⟨hi, fun x H' ⟨e, y⟩ => .inl ⟨e, by rw [y]; exact .int _⟩⟩
/-- a list or a tuple, walked -/
theorem pi_seq {l : Expr} {tl : TE} (hl : PE X l tl) : PI X tg l (fun σ H Rq => tl σ H fun x H1 => ∃ a, x = .ref a ∧ (((∃ xs, SqL X.K H1 a xs) ∧ Rq (Itl X.K a) H1) ∨ ((∃ xs, SqT X.K H1 a xs) ∧ Rq (Itt X.K a) H1))) := by
  refine ⟨fun pins s σ H Rq I h => ?_⟩
  refine thn (hl.run pins s σ H _ I h) fun v s1 ⟨x, H1, I1, r1, a, e, q⟩ => ?_
  subst e
  obtain rfl : v = Value.ref a := r1
  have fresh : FpOk X pins H1 s1.heap.objs.size := I1.fpOk (Nat.le_refl _) (I1.hok.fresh (Nat.le_refl _))
  rcases q with ⟨⟨xs, hq⟩, q⟩ | ⟨⟨xs, hq⟩, q⟩
  · obtain ⟨its, rv, p, _⟩ := I1.list hq
    refine PySem.wpAny_pyIter_list p.isList ⟨_, [_], _, _, H1, rfl, I1.kept (t' := s1.toks) fun b o e => Heap.get?_push_of_some _ e, turn_list a _, ⟨_, Heap.get?_push_size _ rfl, rfl, rfl⟩, fun b hb => ?_, q⟩
    cases List.mem_singleton.mp hb
    exact fresh
  · obtain ⟨its, rv, p, _⟩ := I1.tuple hq
    refine wpAny_pyIter_tuple (show s1.heap.IsTuple a its.toArray from p) ⟨_, [_], _, _, H1, rfl, I1.kept (t' := s1.toks) fun b o e => Heap.get?_push_of_some _ e, turn_tuple a _, ⟨_, Heap.get?_push_size _ rfl, rfl, rfl⟩, fun b hb => ?_, q⟩
    cases List.mem_singleton.mp hb
    exact fresh
theorem di_seq (he : DPE X B W e g) : DPI X B W tg e (xSeq g) := (pi_seq he).con fun σ H Rq ⟨γ, F, s, G, A⟩ => by
  refine ⟨γ, F, s, G, ?_⟩
  unfold xSeq bindD at A
  cases e1 : g s with
  | bad => rw [e1] at A; exact A.elim
  | err C d s1 => rw [e1] at A; exact A
  | ok rv s1 =>
    rw [e1] at A
    intro F' H' v a p G1 r
    obtain ⟨F2, a2, G2, r2⟩ := G1.frzV r
    dsimp only at A
    generalize rv.d = d at r2 A
    cases r2 with
    | lst h1 h2 => exact ⟨_, rfl, .inl ⟨⟨_, sqL_mono G2.sub (.inl h1)⟩, A F2 H' _ (a.tr a2) p G2 (itD_list (.inl h1) h2)⟩⟩
    | tup h1 h2 => exact ⟨_, rfl, .inr ⟨⟨_, sqT_mono G2.sub h1⟩, A F2 H' _ (a.tr a2) p G2 (itD_tup h1 h2)⟩⟩
    | _ => exact A.elim
theorem AfterI.on {K : PySem.W.Frag} {γ : Addr} {F F1 : Hp} {s s1 : Sd} {σ : L2.St} {H H1 : Hp} {r : R} {Rq : It → Hp → Prop} (h : AfterI K B W γ F s σ H r Rq) (sF : Sub F F1) (p : Pr γ s s1 H H1) : AfterI K B W γ F1 s1 σ H1 r Rq := by
  cases r with
  | ok rv s' =>
    cases rv with
    | ow _ => exact h
    | im d => cases d <;> first | exact h | exact fun F' H' J a b c d => h F' H' J (sF.tr a) (p.tr b) c d
  | err C d s' => exact fun F' H' dx a b c e => h F' H' dx (sF.tr a) (p.tr b) c e
  | bad => exact h
theorem di_args {t : DA} {k : List PyData → Sd → R} {wi : TI} {ta : (It → Hp → Prop) → List V → Hp → Prop} (hp : PI X tg e wi) (hw : ∀ σ H Rq, tA X.K B W t σ H (ta Rq) → wi σ H Rq)
    (hk : ∀ γ F s σ H ds xs Rq, Good X.K B γ F s σ H → RpL X.K F ds xs → AfterI X.K B W γ F s σ H (k ds s) Rq → ta Rq xs H) : DPI X B W tg e (fun s => bindA (t s) k) := hp.con fun σ H Rq ⟨γ, F, s, G, A⟩ => hw σ H Rq ⟨γ, F, s, G, by
  dsimp only [bindA] at A
  cases e1 : t s with
  | bad => rw [e1] at A; exact A.elim
  | err C d s1 => rw [e1] at A; exact A
  | ok ds s1 =>
    rw [e1] at A
    exact fun F' H' xs a p G1 r => hk γ F' s1 σ H' ds xs Rq G1 r (A.on a p)⟩
theorem di_rng1 {a : Expr} {t : DA} {p : Pos} (hg : Gl X "range") (hm : X.mg "range" = none) (ha : DPA X B W [a] t) (hs : starEach [a] X.env = [(false, eval a X.env)] := by rfl) : DPI X B W tg (.Call (.Name "range" p) [a] [] pos) (xRng1 t) :=
  di_args (pi_range1 hg hm ha hs) (fun σ H Rq h => h) fun γ F s σ H ds xs Rq G r A => by
    cases e : int1 ds with
    | none => rw [e] at A; exact A.elim
    | some j =>
      rw [e] at A
      rw [int1_of e] at r
      cases r with
      | cons r1 r2 =>
        cases r2
        cases r1
        dsimp only at A
        by_cases hj : -1000000 < j ∧ j < 1000000
        · rw [if_pos hj] at A
          exact ⟨j, rfl, by omega, by omega, A F H _ .rfl .rfl G (itD_rng 0 j.toNat)⟩
        · rw [if_neg hj] at A
          exact A.elim
theorem di_rng2 {a b : Expr} {t : DA} {p : Pos} (hg : Gl X "range") (hm : X.mg "range" = none) (ha : DPA X B W [a, b] t) (hs : starEach [a, b] X.env = [(false, eval a X.env), (false, eval b X.env)] := by rfl) (hs2 : starEach [b] X.env = [(false, eval b X.env)] := by rfl) :
    DPI X B W tg (.Call (.Name "range" p) [a, b] [] pos) (xRng2 t) :=
  di_args (pi_range2 hg hm ha hs hs2) (fun σ H Rq h => h) fun γ F s σ H ds xs Rq G r A => by
    cases e : int2 ds with
    | none => rw [e] at A; exact A.elim
    | some p =>
      obtain ⟨i, j⟩ := p
      rw [e] at A
      rw [int2_of e] at r
      cases r with
      | cons r1 r2 =>
        cases r2 with
        | cons r2 r3 =>
          cases r3
          cases r1
          cases r2
          dsimp only at A
          by_cases hj : -1000000 < i ∧ i < 1000000 ∧ -1000000 < j ∧ j < 1000000
          · rw [if_pos hj] at A
            exact ⟨i, j, rfl, ⟨by omega, by omega, by omega, by omega⟩, A F H _ .rfl .rfl G (itD_rng i (j - i).toNat)⟩
          · rw [if_neg hj] at A
            exact A.elim

/-! ### for -/
/-- the target of a for: a name, or a tuple of names -/
inductive Tg where
  | nm (i : Nat) | tp (is : List Nat)
def Tg.put : Tg → Sd → PyData → Option Sd
  | .nm i, s, d => some ⟨s.σ.set i (.im d), s.g⟩
  | .tp is, s, .tuple ds => if ds.length = is.length then some ⟨setsD s.σ is ds, s.g⟩ else none
  | _, _, _ => none
def forM (t : Tg) (b : DM) : List PyData → DM
  | [], s => .nx s
  | d :: ds, s => match t.put s d with
    | none => .bad
    | some s1 => match b s1 with
      | .nx s2 => forM t b ds s2
      | .ct s2 => forM t b ds s2
      | .bk s2 => .nx s2
      | r => r
def mFor (t : Tg) (gi : DX) (b : DM) : DM := fun s => bindS (gi s) fun rv s1 => match rv with | .im (.list ds) => forM t b ds s1 | _ => .bad
/-- the target's rule puts what put says -/
def TgOk (K : PySem.W.Frag) (t : Tg) (g : TG) : Prop := ∀ (B : Bas) (γ : Addr) (F : Hp) (s s' : Sd) (σ : L2.St) (H : Hp) (d : PyData) (v : V) (Q : L2.St → Hp → Prop),
  Good K B γ F s σ H → Rp K F d v → t.put s d = some s' → (∀ σ', Good K B γ F s' σ' H → Q σ' H) → g v σ H Q
theorem tg_nm {K : PySem.W.Frag} (i : Nat) : TgOk K (.nm i) (gName i) := fun B γ F s s' σ H d v Q G r e k => by
  cases e
  exact k _ (G.setIm r)
theorem tg_tp {K : PySem.W.Frag} {n : Nat} (is : List Nat) (hn : n = is.length) : TgOk K (.tp is) (gTup K n (gSets is)) := fun B γ F s s' σ H d v Q G r e k => by
  cases r with
  | tup h1 h2 =>
    rename_i a xs ds
    replace e : (if ds.length = is.length then some (⟨setsD s.σ is ds, s.g⟩ : Sd) else none) = some s' := e
    by_cases hl : ds.length = is.length
    · rw [if_pos hl] at e
      cases e
      have q : xs.length = is.length := by rw [h2.len]; exact hl
      exact ⟨a, xs, rfl, sqT_mono G.sub h1, by rw [hn]; exact q, q, k _ (G.sets h2)⟩
    · rw [if_neg hl] at e
      cases e
  | _ => cases e
theorem ds_for {iter : Expr} {body : List Stmt} {t : Tg} {gt : TG} {gi : DX} {b : DM} (hp : PassesOwn (model X.prog X.w) X.A X.env X.xe) (hc : X.calm = true) (hi : DPI X B W tg iter gi) (ht : TgOk X.K t gt) (hg : PG X tg gt) (hb : DPB X B W body b)
    (hs : ∀ x, foldedSetIterable iter X.env x = pure x := by intro _; rfl) : DPS X B W (.For tg iter body [] pos) (mFor t gi b) := (ps_for hp hc hi hg hb hs).con fun D σ H ⟨γ, F, s, G, A⟩ => by
  refine ⟨γ, F, s, G, ?_⟩
  unfold mFor bindS at A
  cases e : gi s with
  | bad => rw [e] at A; exact A.elim
  | err C d s1 =>
    rw [e] at A
    exact fun F' H' dx a p G1 q => A γ F' σ H' dx a G1 q
  | ok rv s1 =>
    rw [e] at A
    cases rv with
    | ow _ => exact A.elim
    | im d =>
      cases d with
      | list ds =>
        intro F1 H1 J a1 p1 G1 it
        dsimp only at A
        refine ⟨fun i m σ H => m = ds.length - i ∧ i ≤ ds.length ∧ ∃ γ F s, Sub F1 F ∧ Good X.K B γ F s σ H ∧ AfterS X.K B W F D (forM t b (ds.drop i) s), ⟨_, rfl, Nat.zero_le _, γ, F1, s1, .rfl, G1, A.on a1⟩, ?_⟩
        rintro i m σ H ⟨rfl, hi, γ, F, s, a, G, A⟩
        obtain ⟨go, stop⟩ := it i H (a.tr G.sub)
        cases hd : ds[i]? with
        | none =>
          have hl : ds.length ≤ i := List.getElem?_eq_none_iff.mp hd
          rw [List.drop_eq_nil_of_le hl] at A
          exact .inl ⟨stop hl, A γ F σ H .rfl G⟩
        | some d =>
          obtain ⟨hlt, hd'⟩ := List.getElem?_eq_some_iff.mp hd
          have ed : ds.drop i = d :: ds.drop (i + 1) := by rw [List.drop_eq_getElem_cons hlt, hd']
          rw [ed] at A
          unfold forM at A
          obtain ⟨g1, yl⟩ := go d hd
          refine .inr ⟨g1, fun σ H => ∃ γ F s, Sub F1 F ∧ Good X.K B γ F s σ H ∧ AfterS X.K B W F D (forM t b (ds.drop (i + 1)) s), fun σ' H' q => ⟨ds.length - (i + 1), by omega, rfl, hlt, q⟩, fun x H' y => ?_⟩
          cases hput : t.put s d with
          | none => rw [hput] at A; exact A.elim
          | some s2 =>
            rw [hput] at A
            dsimp only at A
            have body : ∀ {F' : Hp} {σ' : L2.St} {H' : Hp}, Sub F F' → Good X.K B γ F' s2 σ' H' → tS X.K B W b { D with nx := fun σ H => ∃ γ F s, Sub F1 F ∧ Good X.K B γ F s σ H ∧ AfterS X.K B W F D (forM t b (ds.drop (i + 1)) s), ct := fun σ H => ∃ γ F s, Sub F1 F ∧ Good X.K B γ F s σ H ∧ AfterS X.K B W F D (forM t b (ds.drop (i + 1)) s), bk := D.nx } σ' H' := fun {F' σ' H'} a' G' => by
              refine ⟨γ, F', s2, G', ?_⟩
              cases eb : b s2 with
              | nx s3 =>
                rw [eb] at A
                exact fun γ3 F3 σ3 H3 a3 G3 => ⟨γ3, F3, s3, (a.tr a').tr a3, G3, A.on (a'.tr a3)⟩
              | ct s3 =>
                rw [eb] at A
                exact fun γ3 F3 σ3 H3 a3 G3 => ⟨γ3, F3, s3, (a.tr a').tr a3, G3, A.on (a'.tr a3)⟩
              | bk s3 => rw [eb] at A; exact A.on a'
              | rt v s3 => rw [eb] at A; exact A.on a'
              | err C d s3 => rw [eb] at A; exact A.on a'
              | bad => rw [eb] at A; exact A.elim
            rcases yl x H' y with ⟨eH, r⟩ | ⟨p, es, xs, hp, eH, ex, ed', r⟩
            · subst eH
              exact ht B γ F s s2 σ _ d x _ G (r.mono a) hput fun σ' G' => body .rfl G'
            · subst eH; subst ex; subst ed'
              obtain ⟨sF, G2⟩ := G.laid (o := .tup xs) hp
              exact ht B γ _ s s2 σ _ _ _ _ G2 (.tup (SqT.of upd_same) ((r.mono a).mono sF)) hput fun σ' G' => body sF G'
      | _ => exact A.elim

/-! ### while -/
def whN (c : DX) (b : DM) : Nat → DM
  | 0, _ => .bad
  | n + 1, s => bindS (c s) fun rv s1 => match rv with
    | .im (.bool true) => (match b ⟨s.σ, s1.g⟩ with
      | .nx s2 => whN c b n s2
      | .ct s2 => whN c b n s2
      | .bk s2 => .nx s2
      | r => r)
    | .im (.bool false) => .nx ⟨s.σ, s1.g⟩
    | _ => .bad
open Classical in
noncomputable def mWh (c : DX) (b : DM) : DM := fun s => if h : ∃ n, whN c b n s ≠ .bad then whN c b (choose h) s else .bad
theorem whN_up (c : DX) (b : DM) : ∀ (n k : Nat) (s : Sd), whN c b n s ≠ .bad → whN c b (n + k) s = whN c b n s
  | 0, k, s, h => absurd rfl h
  | n + 1, k, s, h => by
    rw [show n + 1 + k = (n + k) + 1 by omega]
    unfold whN at h ⊢
    unfold bindS at h ⊢
    cases e : c s with
    | bad => rfl
    | err C d s1 => rfl
    | ok rv s1 =>
      rw [e] at h
      dsimp only at h ⊢
      split
      · rename_i d
        dsimp only at h
        cases eb : b ⟨s.σ, s1.g⟩ with
        | nx s2 => rw [eb] at h; exact whN_up c b n k s2 h
        | ct s2 => rw [eb] at h; exact whN_up c b n k s2 h
        | bk s2 => rfl
        | rt v s2 => rfl
        | err C d s2 => rfl
        | bad => rfl
      · rfl
      · rfl
theorem mWh_eq {c : DX} {b : DM} {n : Nat} {s : Sd} {r : RS} (h : whN c b n s = r) (hr : r ≠ .bad) : mWh c b s = r := by
  subst h
  unfold mWh
  have ex : ∃ n, whN c b n s ≠ .bad := ⟨n, hr⟩
  rw [dif_pos ex]
  have h1 := whN_up c b n (Classical.choose ex) s hr
  have h2 := whN_up c b (Classical.choose ex) n s (Classical.choose_spec ex)
  rw [← h1, ← h2, Nat.add_comm]
theorem mWh_get {c : DX} {b : DM} {s : Sd} (hr : mWh c b s ≠ .bad) : ∃ n, mWh c b s = whN c b n s := by
  unfold mWh at hr ⊢
  by_cases h : ∃ n, whN c b n s ≠ .bad
  · exact ⟨Classical.choose h, by rw [dif_pos h]⟩
  · rw [dif_neg h] at hr
    exact absurd rfl hr
theorem ds_while {c : Expr} {body : List Stmt} {gc : DX} {b : DM} (hp : PassesOwn (model X.prog X.w) X.A X.env X.xe) (hc : DPT X B W c gc) (hb : DPB X B W body b) : DPS X B W (.While c body [] pos) (mWh gc b) := (ps_while hp hc hb).con fun D σ H ⟨γ, F, s, G, A⟩ => by
  have nb : mWh gc b s ≠ .bad := fun z => by rw [z] at A; exact A
  obtain ⟨n, en⟩ := mWh_get nb
  rw [en] at A
  refine ⟨fun m σ H => ∃ γ F s, Good X.K B γ F s σ H ∧ AfterS X.K B W F D (whN gc b m s), ⟨n, γ, F, s, G, A⟩, ?_⟩
  rintro m σ H ⟨γ, F, s, G, A⟩
  cases m with
  | zero => exact A.elim
  | succ m =>
    unfold whN at A
    refine (tD_bindS G A).mono fun x H1 ⟨F1, s1, rv, a1, p1, G1, r1, A1⟩ => ?_
    have G2 := G.thaw a1 p1 G1
    cases rv with
    | ow ds => exact A1.elim
    | im d =>
      cases d with
      | bool k =>
        cases (show Rp X.K F1 (.bool k) x from r1)
        cases k with
        | false => exact ⟨false, rfl, iteF (A1 γ F σ H1 .rfl G2)⟩
        | true =>
          refine ⟨true, rfl, iteT ⟨fun σ H => ∃ γ F s, Good X.K B γ F s σ H ∧ AfterS X.K B W F D (whN gc b m s), fun σ' H' q => ⟨m, Nat.lt_succ_self _, q⟩, γ, F, _, G2, ?_⟩⟩
          dsimp only at A1
          cases eb : b ⟨s.σ, s1.g⟩ with
          | nx s3 => rw [eb] at A1; exact fun γ3 F3 σ3 H3 a3 G3 => ⟨γ3, F3, s3, G3, A1.on a3⟩
          | ct s3 => rw [eb] at A1; exact fun γ3 F3 σ3 H3 a3 G3 => ⟨γ3, F3, s3, G3, A1.on a3⟩
          | bk s3 => rw [eb] at A1; exact A1
          | rt v s3 => rw [eb] at A1; exact A1
          | err C d s3 => rw [eb] at A1; exact A1
          | bad => rw [eb] at A1; exact A1.elim
      | _ => exact A1.elim
/-- with a written fuel -/
def mWhF (c : DX) (b : DM) : DM := whN c b 1000000
theorem ds_whileF {c : Expr} {body : List Stmt} {gc : DX} {b : DM} (hp : PassesOwn (model X.prog X.w) X.A X.env X.xe) (hc : DPT X B W c gc) (hb : DPB X B W body b) : DPS X B W (.While c body [] pos) (mWhF gc b) := (ds_while hp hc hb).con fun D σ H ⟨γ, F, s, G, A⟩ => by
  refine ⟨γ, F, s, G, ?_⟩
  have nb : whN gc b 1000000 s ≠ .bad := fun z => by
    have A' : AfterS X.K B W F D (whN gc b 1000000 s) := A
    rw [z] at A'
    exact A'
  rw [mWh_eq rfl nb]
  exact A
end
end DL

set_option Elab.async false
set_option linter.all false
set_option autoImplicit false
set_option maxRecDepth 100000
/-! DL5: defs and their calls; lists that grow, stores. -/
namespace DL
open PySem PyProof.Rows L2

/-- an argument: data, or the generator -/
inductive Ar where
  | im (d : PyData) | gn
inductive FR where
  | ok (v : Rv) (g : Option (List Int)) | err (C : Addr) (d : PyData) (g : Option (List Int)) | bad
/-- what a def does, at the level of data -/
abbrev Fn := List Ar → Option (List Int) → FR
@[simp] def Ar.isGn : Ar → Bool
  | .gn => true
  | _ => false
@[simp] def hasGn (as : List Ar) : Bool := as.any Ar.isGn
@[simp] def Ar.sl : Ar → Sl
  | .im d => .im d
  | .gn => .gn
def RpAr (K : PySem.W.Frag) (F : Hp) (γ : Addr) : Ar → V → Prop
  | .im d, v => Rp K F d v
  | .gn, v => v = .ref γ
inductive RpAs (K : PySem.W.Frag) (F : Hp) (γ : Addr) : List Ar → List V → Prop
  | nil : RpAs K F γ [] []
  | cons {a : Ar} {as : List Ar} {v : V} {vs : List V} : RpAr K F γ a v → RpAs K F γ as vs → RpAs K F γ (a :: as) (v :: vs)
theorem RpAr.mono {K : PySem.W.Frag} {F F' : Hp} {γ : Addr} (s : Sub F F') {a : Ar} {v : V} (h : RpAr K F γ a v) : RpAr K F' γ a v := by
  cases a with
  | im d => exact Rp.mono s h
  | gn => exact h
theorem RpAs.len {K : PySem.W.Frag} {F : Hp} {γ : Addr} : ∀ {as : List Ar} {vs : List V}, RpAs K F γ as vs → vs.length = as.length
  | _, _, .nil => rfl
  | _, _, .cons _ q => congrArg (· + 1) (RpAs.len q)
theorem RpAs.get {K : PySem.W.Frag} {F : Hp} {γ : Addr} : ∀ {as : List Ar} {vs : List V} {i : Nat} {a : Ar}, RpAs K F γ as vs → as[i]? = some a → ∃ v, vs[i]? = some v ∧ RpAr K F γ a v
  | _, _, _, _, .nil, e => by simp at e
  | _, _, 0, _, .cons r _, e => by simp at e; subst e; exact ⟨_, rfl, r⟩
  | _, _, i + 1, _, .cons _ q, e => by
    obtain ⟨v, h1, h2⟩ := RpAs.get (i := i) q (by simpa using e)
    exact ⟨v, by simpa using h1, h2⟩
theorem RpAs.ng {K : PySem.W.Frag} {F : Hp} {γ γ' : Addr} : ∀ {as : List Ar} {vs : List V}, RpAs K F γ as vs → hasGn as = false → RpAs K F γ' as vs
  | _, _, .nil, _ => .nil
  | a :: as, _, .cons r q, h => by
    have h' : (Ar.isGn a || hasGn as) = false := h
    rw [Bool.or_eq_false_iff] at h'
    refine .cons ?_ (RpAs.ng q h'.2)
    cases a with
    | im d => exact r
    | gn => exact absurd h'.1 (by decide)

/-- nothing that data lies in stands at a (a table may) -/
def Nu (H : Hp) (a : Addr) : Prop := ∀ o, H a = some o → ∃ ps, o = .tbl ps
theorem Nu.ne {H : Hp} {a b : Addr} {o : HO} (h : Nu H a) (e : H b = some o) (t : ∀ ps, o ≠ .tbl ps) : b ≠ a := fun z => by
  rw [z] at e
  obtain ⟨ps, q⟩ := h o e
  exact t ps q
def RvF (K : PySem.W.Frag) (F' H H' : Hp) (rv : Rv) (v : V) : Prop :=
  match rv with
  | .im d => Rp K F' d v
  | .ow ds => ∃ a xs, v = .ref a ∧ H' a = some (.lst xs) ∧ RpL K F' ds xs ∧ F' a = none ∧ Nu H a
/-- what a call leaves: F is what the caller's data lie in, H the heap at the call -/
structure Lv (T : List (Addr × Str)) (γ : Addr) (g g' : Option (List Int)) (F H F' H' : Hp) : Prop where
  f : Sub F F'
  h : Sub F' H'
  kp : ∀ a o, H a = some o → (∀ ps, o ≠ .tbl ps) → (g.isSome = true → a ≠ γ) → H' a = some o
  tb : LamX.Tabs T H'
  nf : ∀ a ps, F' a ≠ some (.tbl ps)
  nw : ∀ a o, F' a = some o → F a = some o ∨ Nu H a
  gs : g'.isSome = g.isSome
  gg : ∀ l, g' = some l → H' γ = some (.lst (l.map V.int)) ∧ F' γ = none
def AftF (K : PySem.W.Frag) (T : List (Addr × Str)) (F : Hp) (γ : Addr) (g : Option (List Int)) (H : Hp) (r : FR) (Q : VK) (E : XK) : Prop :=
  match r with
  | .ok rv g' => ∀ v F' H', Lv T γ g g' F H F' H' → RvF K F' H H' rv v → Q v H'
  | .err C d g' => ∀ dx F' H', Lv T γ g g' F H F' H' → ErrAt K F' H' d dx → E (.ref C) (some dx) H'
  | .bad => False
/-- the promise of a def that does m -/
def spD (K : PySem.W.Frag) (T : List (Addr × Str)) (m : Fn) (n : Nat) : Sp := fun vs H Q E => ∃ (F : Hp) (γ : Addr) (as : List Ar) (g : Option (List Int)),
  LamX.Tabs T H ∧ (∀ a ps, F a ≠ some (.tbl ps)) ∧ Sub F H ∧ RpAs K F γ as vs ∧ as.length = n ∧ g.isSome = hasGn as ∧ (∀ l, g = some l → H γ = some (.lst (l.map V.int)) ∧ F γ = none) ∧ AftF K T F γ g H (m as g) Q E

section
variable {K : PySem.W.Frag} {B : Bas} {γ : Addr} {F F' : Hp} {s : Sd} {σ : L2.St} {H H' : Hp} {g' : Option (List Int)}
/-- the caller's state behind a call that got its generator -/
theorem Good.afterG (G : Good K B γ F s σ H) (L : Lv B.t γ s.g g' F H F' H') : Good K B γ F' ⟨s.σ, g'⟩ σ H' ∧ Pr γ s ⟨s.σ, g'⟩ H H' := by
  have nb : ∀ a o, B.b a = some o → s.g.isSome = true → a ≠ γ := fun a o e hg z => by
    obtain ⟨l, el⟩ := Option.isSome_iff_exists.mp hg
    rw [z, (G.gg l el).2.2] at e
    cases e
  refine ⟨⟨L.h, fun a o e => L.kp a o (G.bs a o e) (fun ps z => G.nt a ps (by rw [e, z])) (nb a o e), G.f0.tr L.f, fun a o e => ?_, G.len, fun i d e => ?_, fun i ds e => ?_, G.ap, G.gn, fun l e => ?_, G.gx, L.tb, G.nt, L.nf⟩, ⟨L.kp, L.gs⟩⟩
  · rcases L.nw a o e with h | h
    · exact G.fr a o h
    · cases q : B.b a with
      | none => exact .inr rfl
      | some u =>
        obtain ⟨ps, z⟩ := h u (G.bs a u q)
        exact absurd (by rw [q, z]) (G.nt a ps)
  · obtain ⟨v, h1, h2⟩ := G.im i d e
    exact ⟨v, h1, h2.mono L.f⟩
  · obtain ⟨a, xs, h1, h2, h3, h4, h5, h6⟩ := G.ow i ds e
    refine ⟨a, xs, h1, L.kp a _ h2 (fun ps z => by cases z) h6, h3.mono L.f, ?_, h5, fun z => h6 (by rw [← L.gs]; exact z)⟩
    cases q : F' a with
    | none => rfl
    | some u =>
      rcases L.nw a u q with h | h
      · rw [h4] at h; cases h
      · exact absurd rfl (h.ne h2 (fun ps z => by cases z))
  · obtain ⟨h1, h2⟩ := L.gg l e
    have hg : s.g.isSome = true := by rw [← L.gs, show g' = some l from e]; rfl
    obtain ⟨l0, e0⟩ := Option.isSome_iff_exists.mp hg
    exact ⟨h1, h2, (G.gg l0 e0).2.2⟩
/-- .. that didn't -/
theorem Good.afterN {γ' : Addr} (G : Good K B γ F s σ H) (L : Lv B.t γ' none g' F H F' H') : Good K B γ F' s σ H' ∧ Pr γ s s H H' := by
  have kp : ∀ a o, H a = some o → (∀ ps, o ≠ .tbl ps) → H' a = some o := fun a o e t => L.kp a o e t (fun z => by cases z)
  have L2 : Lv B.t γ s.g s.g F H F' H' := ⟨L.f, L.h, fun a o e t _ => kp a o e t, L.tb, L.nf, L.nw, rfl, fun l e => by
    obtain ⟨h1, h2, _⟩ := G.gg l e
    refine ⟨kp _ _ h1 (fun ps z => by cases z), ?_⟩
    cases q : F' γ with
    | none => rfl
    | some u =>
      rcases L.nw γ u q with h | h
      · rw [h2] at h; cases h
      · exact absurd rfl (h.ne h1 (fun ps z => by cases z))⟩
  exact G.afterG (g' := s.g) L2
theorem RvF.own {rv : Rv} {v : V} {s' : Sd} (h : RvF K F' H H' rv v) (G : Good K B γ F s σ H) (e : s'.σ = s.σ) (eg : s'.g.isSome = s.g.isSome) : RvR K B γ F' s' σ H' rv v := by
  cases rv with
  | im d => exact h
  | ow ds =>
    obtain ⟨a, xs, rfl, h1, h2, h3, h4⟩ := h
    refine ⟨a, rfl, ⟨xs, h1, h2⟩, h3, ?_, fun z => ?_, fun i es q w => ?_⟩
    · cases q : B.b a with
      | none => rfl
      | some u =>
        obtain ⟨ps, z⟩ := h4 u (G.bs a u q)
        exact absurd (by rw [q, z]) (G.nt a ps)
    · rw [eg] at z
      obtain ⟨l, el⟩ := Option.isSome_iff_exists.mp z
      exact (h4.ne (G.gg l el).1 (fun ps z => by cases z)).symm
    · rw [e] at q
      obtain ⟨b, ys, q1, q2, _⟩ := G.ow i es q
      rw [w] at q1
      cases q1
      exact absurd rfl (h4.ne q2 (fun ps z => by cases z))
end

/-! ### a call -/
inductive RU where
  | ok (as : List Ar) (s : Sd) | err (C : Addr) (d : PyData) (s : Sd) | bad
abbrev DU := Sd → RU
@[simp] def uNil : DU := fun s => .ok [] s
@[simp] def uCons (g : DX) (t : DU) : DU := fun s => match g s with
  | .ok rv s1 => (match t s1 with | .ok as s2 => .ok (.im rv.d :: as) s2 | r => r)
  | .err C d s1 => .err C d s1
  | .bad => .bad
@[simp] def uGen (i : Nat) (t : DU) : DU := fun s => match s.σ[i]? with
  | some .gn => (match t s with | .ok as s2 => .ok (.gn :: as) s2 | r => r)
  | _ => .bad
def AftU (K : PySem.W.Frag) (B : Bas) (W : WX) (γ : Addr) (F : Hp) (s : Sd) (σ : L2.St) (H : Hp) (r : RU) (P : List V → Hp → Prop) : Prop :=
  match r with
  | .ok as s' => ∀ F' H' xs, Sub F F' → Pr γ s s' H H' → Good K B γ F' s' σ H' → RpAs K F' γ as xs → P xs H'
  | .err C d s' => ∀ F' H' dx, Sub F F' → Pr γ s s' H H' → Good K B γ F' s' σ H' → ErrAt K F' H' d dx → W (.ref C) (some dx) σ H'
  | .bad => False
def tU (K : PySem.W.Frag) (B : Bas) (W : WX) (t : DU) : TA := fun σ H P => ∃ γ F s, Good K B γ F s σ H ∧ AftU K B W γ F s σ H (t s) P
abbrev DPU (X : Cx) (B : Bas) (W : WX) (es : List Expr) (t : DU) : Prop := PA X es (tU X.K B W t)
/-- what the call of m comes to -/
@[simp] def xUser (m : Fn) (n : Nat) (t : DU) : DX := fun s => match t s with
  | .ok as s1 => if as.length = n then (if hasGn as = true then (if s1.g.isSome = true then (match m as s1.g with
      | .ok rv g' => .ok rv ⟨s1.σ, g'⟩
      | .err C d g' => .err C d ⟨s1.σ, g'⟩
      | .bad => .bad) else .bad)
    else (match m as none with
      | .ok rv _ => .ok rv s1
      | .err C d _ => .err C d s1
      | .bad => .bad)) else .bad
  | .err C d s1 => .err C d s1
  | .bad => .bad
/-- a def keeps its promise wherever no text is being made of a container -/
structure FnG (P : Program) (w : World) (K : PySem.W.Frag) (mg : Str → Option Value) (base : Heap) (k : Nat) (f : Addr) (fd : FuncData) (ps : List Str) (sp : Sp) : Prop where
  len : ∀ vs H Q E, sp vs H Q E → vs.length = ps.length
  run : ∀ (A : Around) (outer : List Env) (s : Shared) (H : Hp) (args : Args) (us : List Value) (vs : List V) (Q : VK) (E : XK), Room k A → A.guards = some [] → Env0 P w K mg base A outer s H → BindsTo s fd args (ps.zip us) → Vals vs us → sp vs H Q E →
    codeAny (model P w) A (.call (.ref f) args) (CR (L2.CX P w) outer P w H s Q E) s
theorem pe_callG {X : Cx} {k : Nat} {f : Addr} {fd : FuncData} {ps : List Str} {sp : Sp} {W : WX} {x : Str} {p pos : Pos} {e : Expr} {es : List Expr} {t : TA} (F : FnG X.prog X.w X.K X.mg X.base k f fd ps sp) (hr : Room k X.A) (gd : X.A.guards = some []) (hg : Gl X x) (hm : X.mg x = some (.ref f)) (hk : PySem.W.keepIn X.K (.ref f) = true) (hb : Binds X.K fd ps []) (tk : Takes X W)
    (ha : PA X (e :: es) t) (hdb : (x == ("__debug__" : Str)) = false := by decide) (he : starEach (e :: es) X.env = (false, eval e X.env) :: starEach es X.env := by rfl) (hpl : (backTo pos (starEach es X.env)).any (·.1) = false := by rfl) :
    PE X (.Call (.Name x p) (e :: es) [] pos) (tCallS sp (fun σ => WE W σ) t) := ⟨fun pins s σ H Q I h => by
  refine wpAny_Call_Name_kw (ld_glob I hg hm ?_ hdb)
  refine PySem.W.callWith_K (h₀ := X.base) I.ok.mod.kin hk (thn (ha.run pos pins s σ H _ I h) fun us s1 ⟨vs, H1, I1, r, q⟩ => ⟨I1.kIn, ?_⟩) he hpl
  have bl := hb s1 us I1.kIn (by rw [List.append_nil, ← r.length]; exact F.len _ _ _ _ q)
  rw [List.append_nil] at bl
  refine wpAny_call (codeAny_mono (F.run X.A X.stack s1 H1 ⟨us, []⟩ us vs Q (WE W σ) hr gd I1.env0 bl r q) fun res s2 hq => ?_)
  match res, hq with
  | .error e, hq => exact passAt tk σ pins H1 s1 e s2 I1 hq
  | .ok (.ret u), hq => exact I1.after hq⟩
/-- the def x stands there and does m -/
structure Fd (P : Program) (w : World) (K : PySem.W.Frag) (mg : Str → Option Value) (base : Heap) (T : List (Addr × Str)) (x : Str) (st : Stmt) (ps : List Str) (k : Nat) (m : Fn) : Prop where
  ex : ∃ f fd, mg x = some (.ref f) ∧ Fun K x x st f fd ∧ Binds K fd ps [] ∧ FnG P w K mg base k f fd ps (spD K T m ps.length)
section
variable {X : Cx} {B : Bas} {W : WX} {e : Expr} {es : List Expr} {pos : Pos}
theorem du_nil : DPU X B W [] uNil := pa_nil.con fun σ H P ⟨γ, F, s, G, A⟩ => A F H [] .rfl .rfl G .nil
theorem du_cons {g : DX} {t : DU} (h : DPE X B W e g) (q : DPU X B W es t) (hs : starEach (e :: es) X.env = (false, eval e X.env) :: starEach es X.env := by rfl) : DPU X B W (e :: es) (uCons g t) :=
  (pa_cons h q hs).con fun σ H P ⟨γ, F, s, G, A⟩ => by
    refine ⟨γ, F, s, G, ?_⟩
    unfold uCons at A
    cases e1 : g s with
    | ok rv s1 =>
      rw [e1] at A
      intro F' H' v a p G1 r
      obtain ⟨F2, a2, G2, r2⟩ := G1.frzV r
      refine ⟨γ, F2, s1, G2, ?_⟩
      dsimp only at A
      cases e2 : t s1 with
      | ok ds s2 =>
        rw [e2] at A
        exact fun F3 H3 xs a3 p3 G3 r3 => A F3 H3 (v :: xs) ((a.tr a2).tr a3) (p.tr p3) G3 (.cons (r2.mono a3) r3)
      | err C d s2 =>
        rw [e2] at A
        exact fun F3 H3 dx a3 p3 G3 r3 => A F3 H3 dx ((a.tr a2).tr a3) (p.tr p3) G3 r3
      | bad =>
        rw [e2] at A
        exact A
    | err C d s1 =>
      rw [e1] at A
      exact A
    | bad =>
      rw [e1] at A
      exact A
theorem du_gen {i : Nat} {t : DU} (h : PE X e (tVar i)) (q : DPU X B W es t) (hs : starEach (e :: es) X.env = (false, eval e X.env) :: starEach es X.env := by rfl) : DPU X B W (e :: es) (uGen i t) :=
  (pa_cons h q hs).con fun σ H P ⟨γ, F, s, G, A⟩ => by
    unfold uGen at A
    cases e1 : s.σ[i]? with
    | none => rw [e1] at A; exact A.elim
    | some sl =>
      rw [e1] at A
      cases sl with
      | gn =>
        refine ⟨.ref γ, G.gn i e1, γ, F, s, G, ?_⟩
        dsimp only at A
        cases e2 : t s with
        | ok ds s2 =>
          rw [e2] at A
          exact fun F3 H3 xs a3 p3 G3 r3 => A F3 H3 (.ref γ :: xs) a3 p3 G3 (.cons (a := .gn) rfl r3)
        | err C d s2 => rw [e2] at A; exact A
        | bad => rw [e2] at A; exact A
      | _ => exact A.elim
theorem de_user {n : Nat} {x : Str} {st : Stmt} {ps : List Str} {k : Nat} {m : Fn} {t : DU} {p : Pos} {T : List (Addr × Str)} (D : Fd X.prog X.w X.K X.mg X.base T x st ps k m) (hT : B.t = T) (tk : Takes X W) (hr : Room k X.A) (gd : X.A.guards = some []) (hg : Gl X x) (ha : DPU X B W (e :: es) t)
    (hdb : (x == ("__debug__" : Str)) = false := by decide) (he : starEach (e :: es) X.env = (false, eval e X.env) :: starEach es X.env := by rfl) (hpl : (backTo pos (starEach es X.env)).any (·.1) = false := by rfl) (hn : ps.length = n := by rfl) :
    DPE X B W (.Call (.Name x p) (e :: es) [] pos) (xUser m n t) := by
  subst hn
  subst hT
  obtain ⟨f, fd, hm, FF, hb, ok⟩ := D.ex
  have hk := FF.kp
  refine (pe_callG ok hr gd hg hm hk hb tk ha hdb he hpl).con fun σ H Q ⟨γ, F, s, G, A⟩ => ⟨γ, F, s, G, ?_⟩
  unfold xUser at A
  cases e1 : t s with
  | bad => rw [e1] at A; exact A.elim
  | err C d s1 => rw [e1] at A; exact A
  | ok as s1 =>
    rw [e1] at A
    intro F1 H1 xs a1 p1 G1 r1
    dsimp only at A
    by_cases hl : as.length = ps.length
    · rw [if_pos hl] at A
      by_cases hgn : hasGn as = true
      · rw [if_pos hgn] at A
        by_cases hsg : s1.g.isSome = true
        · rw [if_pos hsg] at A
          refine ⟨F1, γ, as, s1.g, G1.tb, G1.nf, G1.sub, r1, hl, hsg.trans hgn.symm, fun l el => ⟨(G1.gg l el).1, (G1.gg l el).2.1⟩, ?_⟩
          cases em : m as s1.g with
          | bad => rw [em] at A; exact A.elim
          | ok rv g' =>
            rw [em] at A
            intro v F2 H2 L rv2
            obtain ⟨G2, p2⟩ := G1.afterG L
            exact A F2 H2 v (a1.tr L.f) (p1.tr p2) G2 (rv2.own G1 rfl L.gs)
          | err C d g' =>
            rw [em] at A
            intro dx F2 H2 L er
            obtain ⟨G2, p2⟩ := G1.afterG L
            exact A F2 H2 dx (a1.tr L.f) (p1.tr p2) G2 er
        · rw [if_neg hsg] at A
          exact A.elim
      · rw [if_neg hgn] at A
        have hgn' : hasGn as = false := by simpa using hgn
        refine ⟨F1, γ, as, none, G1.tb, G1.nf, G1.sub, r1, hl, hgn'.symm, (fun l el => nomatch el), ?_⟩
        cases em : m as none with
        | bad => rw [em] at A; exact A.elim
        | ok rv g' =>
          rw [em] at A
          intro v F2 H2 L rv2
          obtain ⟨G2, p2⟩ := G1.afterN L
          exact A F2 H2 v (a1.tr L.f) (p1.tr p2) G2 (rv2.own G1 rfl rfl)
        | err C d g' =>
          rw [em] at A
          intro dx F2 H2 L er
          obtain ⟨G2, p2⟩ := G1.afterN L
          exact A F2 H2 dx (a1.tr L.f) (p1.tr p2) G2 er
    · rw [if_neg hl] at A
      exact A.elim
end

/-! ### a def by its body -/
@[simp] def outF (g : Option (List Int)) (rv : Rv) (s : Sd) : FR := if g.isSome = true then (if s.g.isSome = true then .ok rv s.g else .bad) else .ok rv none
@[simp] def errF (g : Option (List Int)) (C : Addr) (d : PyData) (s : Sd) : FR := if g.isSome = true then (if s.g.isSome = true then .err C d s.g else .bad) else .err C d none
/-- n names, np of them parameters, the body b -/
@[simp] def mkFn (n np : Nat) (b : DM) : Fn := fun as g => if as.length = np then (match b ⟨as.map Ar.sl ++ List.replicate (n - np) .un, g⟩ with
  | .rt rv s => outF g rv s
  | .nx s => outF g (.im .none) s
  | .err C d s => errF g C d s
  | _ => .bad) else .bad
section
variable {P : Program} {w : World} {K : PySem.W.Frag} {mg : Str → Option Value} {base : Heap}
def notTbl : Option HO → Option HO
  | some (.tbl _) => none
  | o => o
theorem notTbl_some {o : Option HO} {u : HO} (h : notTbl o = some u) : o = some u ∧ ∀ ps, u ≠ .tbl ps := by
  unfold notTbl at h
  split at h
  · cases h
  · rename_i hn
    exact ⟨h, fun ps z => hn ps (by rw [h, z])⟩
theorem notTbl_none {o : Option HO} (h : notTbl o = none) : o = none ∨ ∃ ps, o = some (.tbl ps) := by
  unfold notTbl at h
  split at h
  · rename_i ps
    exact .inr ⟨ps, rfl⟩
  · exact .inl h
/-- what stood ahead of a def -/
abbrev stB (T : List (Addr × Str)) (g : Option (List Int)) (γ : Addr) (F H : Hp) : Bas := ⟨fun a => if g.isSome = true ∧ a = γ then none else notTbl (H a), F, if g.isSome = true then some γ else none, T⟩
theorem start_good {T : List (Addr × Str)} {N ps : List Str} {F : Hp} {γ : Addr} {as : List Ar} {vs : List V} {g : Option (List Int)} {H : Hp} (hT : LamX.Tabs T H) (hnf : ∀ a ps, F a ≠ some (.tbl ps)) (sF : Sub F H) (r : RpAs K F γ as vs) (hl : as.length = ps.length) (hp : ps.length ≤ N.length)
    (hg : g.isSome = hasGn as) (gg : ∀ l, g = some l → H γ = some (.lst (l.map V.int)) ∧ F γ = none) :
    Good K (stB T g γ F H) γ F ⟨as.map Ar.sl ++ List.replicate (N.length - ps.length) .un, g⟩ (L2.start N vs) H := by
  have hv : vs.length = ps.length := by rw [r.len]; exact hl
  have at_ : ∀ (i : Nat) (sl : Sl), (as.map Ar.sl ++ List.replicate (N.length - ps.length) Sl.un)[i]? = some sl → sl ≠ .un → ∃ a v, as[i]? = some a ∧ sl = a.sl ∧ (L2.start N vs)[i]? = some (some v) ∧ RpAr K F γ a v := fun i sl h n => by
    by_cases hi : i < as.length
    · rw [List.getElem?_append_left (by simpa using hi), List.getElem?_map] at h
      cases ea : as[i]? with
      | none => rw [ea] at h; cases h
      | some a =>
        rw [ea] at h
        obtain ⟨v, h1, h2⟩ := r.get ea
        refine ⟨a, v, rfl, (Option.some.inj h).symm, ?_, h2⟩
        unfold L2.start
        rw [List.getElem?_append_left (by rw [List.length_map, hv, ← hl]; exact hi), List.getElem?_map, h1]
        rfl
    · rw [List.getElem?_append_right (by simpa using hi), List.getElem?_replicate] at h
      split at h
      · cases h; exact absurd rfl n
      · cases h
  refine ⟨sF, fun a o e => ?_, .rfl, fun a o e => .inl e, ?_, fun i d h => ?_, fun i ds h => ?_, fun i j ds es a h => ?_, fun i h => ?_, fun l e => ?_, fun a e => ?_, hT, fun a ps e => ?_, hnf⟩
  · dsimp only at e
    split at e
    · cases e
    · exact (notTbl_some e).1
  · unfold L2.start
    simp only [List.length_append, List.length_map, List.length_replicate]
    omega
  · obtain ⟨a, v, _, h2, h3, h4⟩ := at_ i _ h (fun z => by cases z)
    cases a with
    | im d' =>
      cases h2
      exact ⟨v, h3, h4⟩
    | gn => cases h2
  · obtain ⟨a, v, _, h2, _⟩ := at_ i _ h (fun z => by cases z)
    cases a <;> cases h2
  · obtain ⟨a, v, _, h2, _⟩ := at_ i _ h (fun z => by cases z)
    cases a <;> cases h2
  · obtain ⟨a, v, _, h2, h3, h4⟩ := at_ i _ h (fun z => by cases z)
    cases a with
    | im d' => cases h2
    | gn =>
      have e : v = .ref γ := h4
      rw [← e]
      exact h3
  · obtain ⟨h1, h2⟩ := gg l e
    refine ⟨h1, h2, ?_⟩
    dsimp only
    rw [if_pos ⟨by dsimp only at e; rw [e]; rfl, rfl⟩]
  · dsimp only at e
    split at e
    · exact Option.some.inj e
    · cases e
  · dsimp only at e
    split at e
    · cases e
    · exact (notTbl_some e).2 ps rfl
/-- the end of a body -/
theorem end_lv {T : List (Addr × Str)} {F : Hp} {γ γ' : Addr} {g : Option (List Int)} {H F' H' : Hp} {s : Sd} {σ : L2.St} (sF : Sub F F') (gg : ∀ l, g = some l → H γ = some (.lst (l.map V.int)) ∧ F γ = none)
    (G : Good K (stB T g γ F H) γ' F' s σ H') (hs : g.isSome = true → s.g.isSome = true) :
    Lv T γ g (if g.isSome = true then s.g else none) F H F' H' ∧ ∀ rv v, RvR K (stB T g γ F H) γ' F' s σ H' rv v → RvF K F' H H' rv v := by
  have eγ : g.isSome = true → γ' = γ := fun z => G.gx γ (by dsimp only; rw [if_pos z])
  have gγ : g.isSome = true → F' γ = none := fun z => by
    obtain ⟨l, e⟩ := Option.isSome_iff_exists.mp (hs z)
    rw [← eγ z]
    exact (G.gg l e).2.1
  refine ⟨⟨sF, G.sub, fun a o e t n => G.bs a o ?_, G.tb, G.nf, fun a o e => ?_, ?_, fun l e => ?_⟩, fun rv v r => ?_⟩
  · dsimp only
    rw [if_neg (fun z => n z.1 z.2), e]
    cases o <;> first | rfl | exact absurd rfl (t _)
  · rcases G.fr a o e with h | h
    · exact .inl h
    · dsimp only at h
      split at h
      · rename_i z
        rw [z.2, gγ z.1] at e
        cases e
      · refine .inr fun u q => ?_
        rcases notTbl_none h with z | ⟨ps, z⟩
        · rw [z] at q; cases q
        · rw [z] at q; cases q; exact ⟨ps, rfl⟩
  · split
    · rename_i z
      rw [hs z, z]
    · rename_i z
      cases g with
      | none => rfl
      | some l => exact absurd rfl z
  · split at e
    · rename_i z
      obtain ⟨h1, h2, _⟩ := G.gg l e
      rw [← eγ z]
      exact ⟨h1, h2⟩
    · cases e
  · cases rv with
    | im d => exact r
    | ow ds =>
      obtain ⟨a, rfl, O⟩ := r
      obtain ⟨xs, h1, h2⟩ := O.at_
      refine ⟨a, xs, rfl, h1, h2, O.nf, ?_⟩
      have nb := O.nb
      dsimp only at nb
      split at nb
      · rename_i z
        exact absurd (z.2.trans (eγ z.1).symm) (O.ng (hs z.1))
      · intro u q
        rcases notTbl_none nb with z | ⟨ps, z⟩
        · rw [z] at q; cases q
        · rw [z] at q; cases q; exact ⟨ps, rfl⟩
/-- a def called, by what its body does from this very state -/
theorem def_run {T : List (Addr × Str)} {x qual : Str} {st : Stmt} {f : Addr} {fd : FuncData} {N ps : List Str} {k : Nat} {b : DM} (F : Fun K x qual st f fd) (S : FnScope N ps (defScope st))
    {A : Around} {outer : List Env} {s : Shared} {H : Hp} {args : Args} {us : List Value} {vs : List V} {Q : VK} {E : XK} {F0 : Hp} {γ : Addr} {as : List Ar} {g : Option (List Int)}
    (hb : ∀ (cdv : Value), fd.code = cdv → Room k (A.deeper (envOfC qual (defScope st) s.heap.objs.size f cdv)) → DPB (cxOf (L2.CX P w) P w K mg base N qual (defScope st) f cdv A outer s H E) (stB T g γ F0 H) (fun cls d _ H => E cls d H) (defBody st) b)
    (hr : Room (k + 1) A) (e0 : Env0 P w K mg base A outer s H) (hbd : BindsTo s fd args (ps.zip us)) (rv : Vals vs us)
    (hT : LamX.Tabs T H) (hnf : ∀ a ps, F0 a ≠ some (.tbl ps)) (sF : Sub F0 H) (r : RpAs K F0 γ as vs) (hl : as.length = ps.length) (hg : g.isSome = hasGn as) (gg : ∀ l, g = some l → H γ = some (.lst (l.map V.int)) ∧ F0 γ = none) (A0 : AftF K T F0 γ g H (mkFn N.length ps.length b as g) Q E) :
    codeAny (model P w) A (.call (.ref f) args) (CR (L2.CX P w) outer P w H s Q E) s := by
  have hp : ps.length ≤ N.length := by have := congrArg List.length S.pre; rw [List.length_take] at this; omega
  obtain ⟨oc, od, kV, doc, pm, an, cdv, ct, osl, rfl, lk, hcd⟩ := F.ex
  refine LamX.run_ofS lk hcd S hr e0 hbd rv (by rw [r.len]; exact hl) fun hr2 => ?_
  refine ⟨_, hb cdv rfl hr2, ⟨γ, F0, _, start_good (K := K) hT hnf sF r hl hp hg gg, ?_⟩⟩
  unfold mkFn at A0
  rw [if_pos hl] at A0
  revert A0
  generalize b ⟨as.map Ar.sl ++ List.replicate (N.length - ps.length) .un, g⟩ = r0
  have fin : ∀ {rv : Rv} {s1 : Sd}, AftF K T F0 γ g H (outF g rv s1) Q E → ∀ γ' F' σ' H' v, Sub F0 F' → Good K (stB T g γ F0 H) γ' F' s1 σ' H' →
      RvR K (stB T g γ F0 H) γ' F' s1 σ' H' rv v → Q v H' := fun {rv s1} A0 γ' F' σ' H' v sF' G rr => by
    unfold outF at A0
    by_cases z : g.isSome = true
    · rw [if_pos z] at A0
      by_cases y : s1.g.isSome = true
      · rw [if_pos y] at A0
        obtain ⟨L, c⟩ := end_lv sF' gg G (fun _ => y)
        rw [if_pos z] at L
        exact A0 v F' H' L (c rv v rr)
      · rw [if_neg y] at A0
        exact A0.elim
    · rw [if_neg z] at A0
      obtain ⟨L, c⟩ := end_lv sF' gg G (fun q => absurd q z)
      rw [if_neg z] at L
      exact A0 v F' H' L (c rv v rr)
  cases r0 with
  | nx s1 => exact fun A0 γ' F' σ' H' a G => fin A0 γ' F' σ' H' .non a G .non
  | rt rv s1 => exact fun A0 γ' F' σ' H' v a G q => fin A0 γ' F' σ' H' v a G q
  | bk s1 => exact fun A0 => A0.elim
  | ct s1 => exact fun A0 => A0.elim
  | bad => exact fun A0 => A0.elim
  | err C d s1 =>
    intro A0 γ' F' σ' H' dx sF' G q
    dsimp only at A0
    unfold errF at A0
    by_cases z : g.isSome = true
    · rw [if_pos z] at A0
      by_cases y : s1.g.isSome = true
      · rw [if_pos y] at A0
        obtain ⟨L, c⟩ := end_lv sF' gg G (fun _ => y)
        rw [if_pos z] at L
        exact A0 dx F' H' L q
      · rw [if_neg y] at A0
        exact A0.elim
    · rw [if_neg z] at A0
      obtain ⟨L, c⟩ := end_lv sF' gg G (fun q => absurd q z)
      rw [if_neg z] at L
      exact A0 dx F' H' L q
theorem def_ok {T : List (Addr × Str)} {x qual : Str} {st : Stmt} {f : Addr} {fd : FuncData} {N ps : List Str} {k : Nat} {b : DM} (F : Fun K x qual st f fd) (S : FnScope N ps (defScope st))
    (hb : ∀ (cdv : Value) (A : Around) (outer : List Env) (s : Shared) (H : Hp) (E : XK) (B : Bas), fd.code = cdv → B.t = T → Room k (A.deeper (envOfC qual (defScope st) s.heap.objs.size f cdv)) → A.guards = some [] →
      DPB (cxOf (L2.CX P w) P w K mg base N qual (defScope st) f cdv A outer s H E) B (fun cls d _ H => E cls d H) (defBody st) b) :
    FnG P w K mg base (k + 1) f fd ps (spD K T (mkFn N.length ps.length b) ps.length) := by
  refine ⟨fun vs H Q E h => ?_, fun A outer s H args us vs Q E hr gd e0 hbd rv h => ?_⟩
  · obtain ⟨F, γ, as, g, _, _, _, r, hl, _⟩ := h
    rw [r.len]; exact hl
  · obtain ⟨F0, γ, as, g, hT, hnf, sF, r, hl, hg, gg, A0⟩ := h
    exact def_run F S (fun cdv hc hr2 => hb cdv A outer s H E _ hc rfl hr2 gd) hr e0 hbd rv hT hnf sF r hl hg gg A0
/-- .. of a def that is never handed the generator -/
def mkFn0 (n np : Nat) (b : DM) : Fn := fun as g => if hasGn as = true then .bad else mkFn n np b as g
theorem def_ok0 {T : List (Addr × Str)} {x qual : Str} {st : Stmt} {f : Addr} {fd : FuncData} {N ps : List Str} {k : Nat} {b : DM} (F : Fun K x qual st f fd) (S : FnScope N ps (defScope st))
    (hb : ∀ (cdv : Value) (A : Around) (outer : List Env) (s : Shared) (H : Hp) (E : XK) (B : Bas), fd.code = cdv → B.t = T → B.g = none → Room k (A.deeper (envOfC qual (defScope st) s.heap.objs.size f cdv)) → A.guards = some [] →
      DPB (cxOf (L2.CX P w) P w K mg base N qual (defScope st) f cdv A outer s H E) B (fun cls d _ H => E cls d H) (defBody st) b) :
    FnG P w K mg base (k + 1) f fd ps (spD K T (mkFn0 N.length ps.length b) ps.length) := by
  refine ⟨fun vs H Q E h => ?_, fun A outer s H args us vs Q E hr gd e0 hbd rv h => ?_⟩
  · obtain ⟨F, γ, as, g, _, _, _, r, hl, _⟩ := h
    rw [r.len]; exact hl
  · obtain ⟨F0, γ, as, g, hT, hnf, sF, r, hl, hg, gg, A0⟩ := h
    unfold mkFn0 at A0
    by_cases z : hasGn as = true
    · rw [if_pos z] at A0
      exact A0.elim
    · rw [if_neg z] at A0
      have gn : g = none := by
        cases g with
        | none => rfl
        | some l => exact absurd hg.symm z
      subst gn
      exact def_run F S (fun cdv hc hr2 => hb cdv A outer s H E _ hc rfl rfl hr2 gd) hr e0 hbd rv hT hnf sF r hl hg gg A0
end
end DL

set_option Elab.async false
set_option linter.all false
set_option autoImplicit false
set_option maxRecDepth 100000
/-! DL6: the operations by values. -/
namespace DL
open PySem PyProof.Rows L2

/-! ### arithmetic -/
def hAdd : PyData → PyData → Option Rv
  | .int i, .int j => some (.im (.int (i + j)))
  | .str a, .str b => if a.length + b.length ≤ 1000000 then some (.im (.str (a ++ b))) else none
  | .list a, .list b => if a.length + b.length ≤ 1000000 then some (.ow (a ++ b)) else none
  | .tuple a, .tuple b => if a.length + b.length ≤ 1000000 then some (.im (.tuple (a ++ b))) else none
  | _, _ => none
theorem line_of {n : Nat} (h : n ≤ 1000000) : n ≤ sizeLine := Nat.le_trans h (by decide)
section
variable {X : Cx} {pins : List (Addr × Obj)} {σ : L2.St} {H : Hp} {s : Shared}
/-- a list that is read, in the heap itself -/
theorem Inv_rdl (I : Inv X pins σ H s) {l : Addr} {xs : List V} (h : L2.Rd H l (.lst xs)) : ∃ (its : List Value) (n : Nat), Vals xs its ∧ xs.length ≤ sizeLine ∧ s.heap.get? l = some { cls := .type "list", data := .seq its.toArray n } := by
  obtain ⟨z, its, n, r, e⟩ := h.ok I.hok
  exact ⟨its, n, r, z, e⟩
def rCatR : R2 := fun x y H Q => ∃ l b xs zs, x = .ref l ∧ y = .ref b ∧ L2.Rd H l (.lst xs) ∧ L2.Rd H b (.lst zs) ∧ xs.length + zs.length ≤ sizeLine ∧ ∀ p, H p = none → Q (.ref p) (upd H p (.lst (xs ++ zs)))
theorem op_catR : OpR X (binaryOp .Add) rCatR := by
  rintro pins s σ H x y v u Q I rx ry ⟨l, b, xs, zs, rfl, rfl, hl, hb, hz, q⟩
  cases rx
  cases ry
  obtain ⟨its, n, r, z, e⟩ := Inv_rdl I hl
  obtain ⟨its2, n2, r2, z2, e2⟩ := Inv_rdl I hb
  have l1 := r.length
  have l2 := r2.length
  refine PySem.P.add_list e e2 ?_ (by simp only [List.size_toArray]; omega)
  rw [show its.toArray ++ its2.toArray = (its ++ its2).toArray by simp]
  exact ⟨.ref _, _, I.lnew (t' := s.toks) (r.append r2) (by simp only [List.length_append]; omega), rfl, q _ I.fresh⟩
end
theorem o_add {K : PySem.W.Frag} : Op2 K hAdd (fun x y H Q => (∃ i j, x = .int i ∧ y = .int j ∧ Q (.int (i + j)) H) ∨ (∃ a b, x = .str a ∧ y = .str b ∧ a.length + b.length ≤ sizeLine ∧ Q (.str (a ++ b)) H) ∨ rCatR x y H Q ∨ rCatA K x y H Q) := by
  intro B W γ F s σ H x y d e rv Q G r1 r2 he A
  cases r1 with
  | int i =>
    cases r2 with
    | int j => cases he; exact .inl ⟨i, j, rfl, rfl, A.same G (.int _)⟩
    | _ => cases he
  | str a =>
    cases r2 with
    | str b =>
      replace he : (if a.length + b.length ≤ 1000000 then some (Rv.im (.str (a ++ b))) else none) = some rv := he
      split at he
      · rename_i hl
        cases he
        exact .inr (.inl ⟨a, b, rfl, rfl, line_of hl, A.same G (.str _)⟩)
      · cases he
    | _ => cases he
  | lst h1 q1 =>
    rename_i l xs ds
    cases r2 with
    | lst h2 q2 =>
      rename_i l2 ys es
      replace he : (if ds.length + es.length ≤ 1000000 then some (Rv.ow (ds ++ es)) else none) = some rv := he
      split at he
      · rename_i hl
        cases he
        exact .inr (.inr (.inl ⟨l, l2, xs, ys, rfl, rfl, rd_mono G.sub h1, rd_mono G.sub h2, by rw [q1.len, q2.len]; exact line_of hl, fun p hp => A.newL G (q1.app q2) hp⟩))
      · cases he
    | _ => cases he
  | tup h1 q1 =>
    rename_i l xs ds
    cases r2 with
    | tup h2 q2 =>
      rename_i l2 ys es
      replace he : (if ds.length + es.length ≤ 1000000 then some (Rv.im (.tuple (ds ++ es))) else none) = some rv := he
      split at he
      · rename_i hl
        cases he
        refine .inr (.inr (.inr ⟨l, l2, xs, ys, rfl, rfl, sqT_mono G.sub h1, sqT_mono G.sub h2, by rw [q1.len, q2.len]; exact line_of hl, fun z => ?_, fun _ z => ?_, fun _ _ p hp => A.newT G (q1.app q2) hp⟩))
        · subst z
          cases q1
          exact A.same G (.tup h2 q2)
        · subst z
          cases q2
          rw [List.append_nil] at A
          exact A.same G (.tup h1 q1)
      · cases he
    | _ => cases he
  | _ => cases he
theorem op_addU {X : Cx} : OpR X (binaryOp .Add) (fun x y H Q => (∃ i j, x = .int i ∧ y = .int j ∧ Q (.int (i + j)) H) ∨ (∃ a b, x = .str a ∧ y = .str b ∧ a.length + b.length ≤ sizeLine ∧ Q (.str (a ++ b)) H) ∨ rCatR x y H Q ∨ rCatA X.K x y H Q) :=
  op_add.or (op_add_str.or (op_catR.or op_catA))

/-- ints alone -/
@[simp] def hI2 (f : Int → Int → Option PyData) : PyData → PyData → Option Rv
  | .int i, .int j => (f i j).map .im
  | _, _ => none
theorem o_int {K : PySem.W.Frag} {C : Int → Int → Prop} {f : Int → Int → Option PyData} {g : Int → Int → V} (h : ∀ i j d, f i j = some d → C i j ∧ ∀ F, Rp K F d (g i j)) : Op2 K (hI2 f) (rI C g) := by
  intro B W γ F s σ H x y d e rv Q G r1 r2 he A
  cases r1 with
  | int i =>
    cases r2 with
    | int j =>
      replace he : (f i j).map Rv.im = some rv := he
      cases q : f i j with
      | none => rw [q] at he; cases he
      | some d =>
        rw [q] at he
        cases he
        obtain ⟨c, r⟩ := h i j d q
        exact ⟨i, j, rfl, rfl, c, A.same G (r F)⟩
    | _ => cases he
  | _ => cases he
theorem o_int0 {K : PySem.W.Frag} {f : Int → Int → PyData} {g : Int → Int → V} (h : ∀ i j F, Rp K F (f i j) (g i j)) : Op2 K (hI2 fun i j => some (f i j)) (rI0 g) := by
  intro B W γ F s σ H x y d e rv Q G r1 r2 he A
  cases r1 with
  | int i =>
    cases r2 with
    | int j =>
      cases he
      exact ⟨i, j, rfl, rfl, A.same G (h i j F)⟩
    | _ => cases he
  | _ => cases he
abbrev hSub := hI2 fun i j => some (.int (i - j))
abbrev hMul := hI2 fun i j => if i.natAbs.log2 + j.natAbs.log2 < 1000000 then some (.int (i * j)) else none
abbrev hFdiv := hI2 fun i j => if j ≠ 0 ∧ j.natAbs.log2 < 9000 then some (.int (i.fdiv j)) else none
abbrev hMod := hI2 fun i j => if j ≠ 0 then some (.int (i.fmod j)) else none
abbrev hPow := hI2 fun i j => if 1 < i ∧ 0 < j ∧ (i.natAbs.log2 + 1) * j.toNat < 1000000 then some (.int (i ^ j.toNat)) else none
abbrev hLt := hI2 fun i j => some (.bool (decide (i < j)))
abbrev hLe := hI2 fun i j => some (.bool (decide (i ≤ j)))
abbrev hGt := hI2 fun i j => some (.bool (decide (j < i)))
abbrev hGe := hI2 fun i j => some (.bool (decide (j ≤ i)))
theorem o_sub {K : PySem.W.Frag} : Op2 K hSub (rI0 fun i j => .int (i - j)) := o_int0 fun _ _ _ => .int _
theorem o_lt {K : PySem.W.Frag} : Op2 K hLt (rI0 fun i j => .bl (decide (i < j))) := o_int0 fun _ _ _ => .bl _
theorem o_le {K : PySem.W.Frag} : Op2 K hLe (rI0 fun i j => .bl (decide (i ≤ j))) := o_int0 fun _ _ _ => .bl _
theorem o_gt {K : PySem.W.Frag} : Op2 K hGt (rI0 fun i j => .bl (decide (j < i))) := o_int0 fun _ _ _ => .bl _
theorem o_ge {K : PySem.W.Frag} : Op2 K hGe (rI0 fun i j => .bl (decide (j ≤ i))) := o_int0 fun _ _ _ => .bl _
theorem o_mul {K : PySem.W.Frag} : Op2 K hMul (rI CMulW fun i j => .int (i * j)) := o_int fun i j d h => by
  split at h
  · rename_i c; cases h; exact ⟨c, fun _ => .int _⟩
  · cases h
def CDivX (_ j : Int) : Prop := j ≠ 0 ∧ j.natAbs.log2 < 9000
theorem op_fdivX {X : Cx} : OpR X (binaryOp .FloorDiv) (rI CDivX fun i j => .int (i.fdiv j)) := opI fun i j _ _ _ _ _ hc q => floordiv_int hc.1 q (.inl (PyProof.noPylong_of_log2 hc.2))
theorem o_fdiv {K : PySem.W.Frag} : Op2 K hFdiv (rI CDivX fun i j => .int (i.fdiv j)) := o_int fun i j d h => by
  split at h
  · rename_i c; cases h; exact ⟨c, fun _ => .int _⟩
  · cases h
theorem o_mod {K : PySem.W.Frag} : Op2 K hMod (rI (fun _ j => j ≠ 0) fun i j => .int (i.fmod j)) := o_int fun i j d h => by
  split at h
  · rename_i c; cases h; exact ⟨c, fun _ => .int _⟩
  · cases h
def CPowX (i j : Int) : Prop := 1 < i ∧ 0 < j ∧ (i.natAbs.log2 + 1) * j.toNat < 1000000
theorem op_powX {X : Cx} : OpR X (binaryOp .Pow) (rI CPowX fun i j => .int (i ^ j.toNat)) := by
  rintro pins s σ H x y v u Q I rx ry ⟨i, j, rfl, rfl, ⟨h1, h2, h3⟩, q⟩
  obtain ⟨t, rfl⟩ := rx
  obtain ⟨t', rfl⟩ := ry
  have hb : Builtin.Int.intBits i = i.natAbs.log2 + 1 := by
    unfold Builtin.Int.intBits
    rw [if_neg (by simp; omega)]
  have e0 : (j == 0) = false := by simp; omega
  have e1 : (i == 0 || i == 1) = false := by simp; omega
  have e2 : (i == -1) = false := by simp; omega
  refine PySem.AutoIntOps.pow_4 (by omega) (by rw [e0]; decide) (by rw [e1]; decide) (by rw [e2]; decide) ?_ ⟨.int _, H, I.tok _, ⟨_, rfl⟩, q⟩
  intro z
  unfold Builtin.Int.intTooBig at z
  have z2 := of_decide_eq_true z
  have e : bitsLine = 134217728 := by decide
  rw [hb, e] at z2
  have ej : (j.toNat : Int) = j := by omega
  have : ((i.natAbs.log2 + 1 : Nat) : Int) * j < 1000000 := by
    rw [← ej, ← Int.natCast_mul]
    exact Int.ofNat_lt.mpr h3
  omega
theorem o_pow {K : PySem.W.Frag} : Op2 K hPow (rI CPowX fun i j => .int (i ^ j.toNat)) := o_int fun i j d h => by
  split at h
  · rename_i c; cases h; exact ⟨c, fun _ => .int _⟩
  · cases h
@[simp] def hNeg : PyData → Option Rv
  | .int i => some (.im (.int (-i)))
  | _ => none
theorem o_neg {K : PySem.W.Frag} : Op1 K hNeg (rU fun i => .int (-i)) := by
  intro B W γ F s σ H x d rv Q G r he A
  cases r with
  | int i => cases he; exact ⟨i, rfl, A.same G (.int _)⟩
  | _ => cases he

/-! ### == and != of data -/
mutual
theorem Rp.dp {K : PySem.W.Frag} {H : Hp} : ∀ {d : PyData} {v : V}, Rp K H d v → d.canLay0 = true → Dp K H v d
  | _, _, .non, _ => .non
  | _, _, .bl b, _ => .bl b
  | _, _, .int i, _ => .int i
  | _, _, .str x, _ => .str x
  | _, _, .lst h r, c => .lst (.inl h) (RpL.dp r (by simpa [PyData.canLay0] using c))
  | _, _, .tup h r, c => .tup h (RpL.dp r (by simpa [PyData.canLay0] using c))
  | _, _, .dic h, c => by simp [PyData.canLay0] at c
  | _, _, .exc _ _ _, c => by simp [PyData.canLay0] at c
  | _, _, .fn, c => by simp [PyData.canLay0] at c
theorem RpL.dp {K : PySem.W.Frag} {H : Hp} : ∀ {ds : List PyData} {vs : List V}, RpL K H ds vs → PyData.canLayAll0 ds = true → DpAll K H vs ds
  | _, _, .nil, _ => .nil
  | d :: ds, _, .cons r q, c => by
    have c' : PyData.canLay0 d = true ∧ PyData.canLayAll0 ds = true := by simpa [PyData.canLayAll0] using c
    exact .cons (Rp.dp r c'.1) (RpL.dp q c'.2)
end
theorem Rp.dpS {K : PySem.W.Frag} {H : Hp} {d : PyData} {v : V} (h : Rp K H d v) (c : SeqAt.shaped d = true) : Dp K H v d := h.dp (SeqAt.canLay_of_shaped c)
def hEq (d e : PyData) : Option Rv := if SeqAt.shaped d = true ∧ SeqAt.shaped e = true then some (.im (.bool (PyData.eqv d e))) else none
def hNe (d e : PyData) : Option Rv := if SeqAt.shaped d = true ∧ SeqAt.shaped e = true then some (.im (.bool (!PyData.eqv d e))) else none
theorem o_eq {K : PySem.W.Frag} : Op2 K hEq (rEqD K) := by
  intro B W γ F s σ H x y d e rv Q G r1 r2 he A
  unfold hEq at he
  split at he
  · rename_i c
    cases he
    exact ⟨d, e, (r1.mono G.sub).dpS c.1, (r2.mono G.sub).dpS c.2, c.1, c.2, A.same G (.bl _)⟩
  · cases he
theorem o_ne {K : PySem.W.Frag} : Op2 K hNe (rNeD K) := by
  intro B W γ F s σ H x y d e rv Q G r1 r2 he A
  unfold hNe at he
  split at he
  · rename_i c
    cases he
    exact ⟨d, e, (r1.mono G.sub).dpS c.1, (r2.mono G.sub).dpS c.2, c.1, c.2, A.same G (.bl _)⟩
  · cases he

/-! ### in, not in -/
def eqvF (a b : PyData) : Bool := PyData.eqv a b
theorem eqV_eqv {K : PySem.W.Frag} {F F' : Hp} {d e : PyData} {x y : V} (r1 : Rp K F d x) (r2 : Rp K F' e y) (f1 : flat d = true) (f2 : flat e = true) : eqV x y = PyData.eqv d e := by
  cases r1 <;> first | (cases f1; done) | (cases r2 <;> first | (cases f2; done) | (simp [eqV, PyData.eqv]))
theorem flatV_of {K : PySem.W.Frag} {F : Hp} {d : PyData} {x : V} (r : Rp K F d x) (f : flat d = true) : flatV x = true := by
  cases r <;> first | rfl | cases f
theorem flatV_all {K : PySem.W.Frag} {F : Hp} : ∀ {ds : List PyData} {xs : List V}, RpL K F ds xs → ds.all flat = true → xs.all flatV = true
  | _, _, .nil, _ => rfl
  | _, _, .cons r q, h => by
    rw [List.all_cons, Bool.and_eq_true] at h
    rw [List.all_cons, flatV_of r h.1, flatV_all q h.2]
    rfl
theorem inV_any {K : PySem.W.Frag} {F F' : Hp} {d : PyData} {x : V} (r : Rp K F' d x) (f : flat d = true) : ∀ {ds : List PyData} {xs : List V}, RpL K F ds xs → ds.all flat = true → inV x xs = ds.any fun z => PyData.eqv z d
  | _, _, .nil, _ => rfl
  | _, _, .cons r1 q, h => by
    rw [List.all_cons, Bool.and_eq_true] at h
    show (eqV _ x || inV x _) = _
    rw [inV_any r f q h.2, eqV_eqv r1 r h.1 f]
    rfl
/-- in: a list or a tuple of flat things; a list of data -/
def hIn (neg : Bool) (d e : PyData) : Option Rv := match e with
  | .list es => if flat d = true ∧ es.all flat = true then some (.im (.bool (neg ^^ es.any fun z => PyData.eqv z d)))
    else if SeqAt.shaped d = true ∧ SeqAt.shaped (.list es) = true then some (.im (.bool (neg ^^ es.any fun z => PyData.eqv z d))) else none
  | .tuple es => if flat d = true ∧ es.all flat = true then some (.im (.bool (neg ^^ es.any fun z => PyData.eqv z d))) else none
  | _ => none
theorem o_in {K : PySem.W.Frag} : Op2 K (hIn false) (fun x y H Q => rIn K false x y H Q ∨ rInD K x y H Q) := by
  intro B W γ F s σ H x y d e rv Q G r1 r2 he A
  cases r2 with
  | lst h q =>
    rename_i l xs es
    replace he : (if flat d = true ∧ es.all flat = true then some (Rv.im (.bool (false ^^ es.any fun z => PyData.eqv z d))) else if SeqAt.shaped d = true ∧ SeqAt.shaped (.list es) = true then some (.im (.bool (false ^^ es.any fun z => PyData.eqv z d))) else none) = some rv := he
    split at he
    · rename_i c
      cases he
      refine .inl ⟨l, xs, rfl, .inl (.inl (rd_mono G.sub h)), flatV_of r1 c.1, flatV_all q c.2, ?_⟩
      rw [if_neg Bool.false_ne_true, inV_any r1 c.1 q c.2]
      rw [Bool.false_xor] at A
      exact A.same G (.bl _)
    · split at he
      · rename_i c
        cases he
        refine .inr ⟨d, es, (r1.mono G.sub).dpS c.1, ((Rp.lst h q).mono G.sub).dpS c.2, c.1, c.2, ?_⟩
        rw [Bool.false_xor] at A
        exact A.same G (.bl _)
      · cases he
  | tup h q =>
    rename_i l xs es
    replace he : (if flat d = true ∧ es.all flat = true then some (Rv.im (.bool (false ^^ es.any fun z => PyData.eqv z d))) else none) = some rv := he
    split at he
    · rename_i c
      cases he
      refine .inl ⟨l, xs, rfl, .inr (sqT_mono G.sub h), flatV_of r1 c.1, flatV_all q c.2, ?_⟩
      rw [if_neg Bool.false_ne_true, inV_any r1 c.1 q c.2]
      rw [Bool.false_xor] at A
      exact A.same G (.bl _)
    · cases he
  | _ => cases he
theorem o_nin {K : PySem.W.Frag} : Op2 K (hIn true) (fun x y H Q => rIn K true x y H Q ∨ rNotInD K x y H Q) := by
  intro B W γ F s σ H x y d e rv Q G r1 r2 he A
  cases r2 with
  | lst h q =>
    rename_i l xs es
    replace he : (if flat d = true ∧ es.all flat = true then some (Rv.im (.bool (true ^^ es.any fun z => PyData.eqv z d))) else if SeqAt.shaped d = true ∧ SeqAt.shaped (.list es) = true then some (.im (.bool (true ^^ es.any fun z => PyData.eqv z d))) else none) = some rv := he
    split at he
    · rename_i c
      cases he
      refine .inl ⟨l, xs, rfl, .inl (.inl (rd_mono G.sub h)), flatV_of r1 c.1, flatV_all q c.2, ?_⟩
      rw [if_pos rfl, inV_any r1 c.1 q c.2]
      rw [Bool.true_xor] at A
      exact A.same G (.bl _)
    · split at he
      · rename_i c
        cases he
        refine .inr ⟨d, es, (r1.mono G.sub).dpS c.1, ((Rp.lst h q).mono G.sub).dpS c.2, c.1, c.2, ?_⟩
        rw [Bool.true_xor] at A
        exact A.same G (.bl _)
      · cases he
  | tup h q =>
    rename_i l xs es
    replace he : (if flat d = true ∧ es.all flat = true then some (Rv.im (.bool (true ^^ es.any fun z => PyData.eqv z d))) else none) = some rv := he
    split at he
    · rename_i c
      cases he
      refine .inl ⟨l, xs, rfl, .inr (sqT_mono G.sub h), flatV_of r1 c.1, flatV_all q c.2, ?_⟩
      rw [if_pos rfl, inV_any r1 c.1 q c.2]
      rw [Bool.true_xor] at A
      exact A.same G (.bl _)
    · cases he
  | _ => cases he
theorem op_inU {X : Cx} (hu : X.A.units + 66 < cLine) : OpR X (compareOp .In) (fun x y H Q => rIn X.K false x y H Q ∨ rInD X.K x y H Q) := op_in_seq.or (op_inD (by omega))
theorem op_ninU {X : Cx} (hu : X.A.units + 66 < cLine) : OpR X (compareOp .NotIn) (fun x y H Q => rIn X.K true x y H Q ∨ rNotInD X.K x y H Q) := op_notIn_seq.or (op_notInD (by omega))

/-! ### items, slices -/
@[simp] def hIx : PyData → PyData → Option Rv
  | .list ds, .int i => (atI ds i).map .im
  | .tuple ds, .int i => (atI ds i).map .im
  | .str z, .int i => if z.length ≤ 1000000 then (atI z.cps.toList i).map fun c => .im (.str ⟨#[c]⟩) else none
  | _, _ => none
theorem atI_rp {K : PySem.W.Frag} {F : Hp} {ds : List PyData} {xs : List V} {i : Int} {d : PyData} (r : RpL K F ds xs) (h : atI ds i = some d) : ∃ v, atI xs i = some v ∧ Rp K F d v := by
  unfold atI at h ⊢
  rw [r.len]
  cases e : ixN ds.length i with
  | none => rw [e] at h; cases h
  | some j =>
    rw [e] at h
    obtain ⟨v, h1, h2⟩ := r.get (show ds[j]? = some d from h)
    exact ⟨v, h1, h2⟩
theorem o_ix {K : PySem.W.Frag} : Op2 K hIx (rIx K) := by
  intro B W γ F s σ H x y d e rv Q G r1 r2 he A
  cases r1 with
  | lst h q =>
    cases r2 with
    | int i =>
      rename_i l xs ds
      replace he : (atI ds i).map Rv.im = some rv := he
      cases e1 : atI ds i with
      | none => rw [e1] at he; cases he
      | some d =>
        rw [e1] at he
        cases he
        obtain ⟨v, h1, h2⟩ := atI_rp q e1
        exact .inl ⟨l, xs, i, v, rfl, rfl, .inl (rd_mono G.sub h), h1, A.same G h2⟩
    | _ => cases he
  | tup h q =>
    cases r2 with
    | int i =>
      rename_i l xs ds
      replace he : (atI ds i).map Rv.im = some rv := he
      cases e1 : atI ds i with
      | none => rw [e1] at he; cases he
      | some d =>
        rw [e1] at he
        cases he
        obtain ⟨v, h1, h2⟩ := atI_rp q e1
        exact .inr (.inl ⟨l, xs, i, v, rfl, rfl, sqT_mono G.sub h, h1, A.same G h2⟩)
    | _ => cases he
  | str z =>
    cases r2 with
    | int i =>
      replace he : (if z.length ≤ 1000000 then (atI z.cps.toList i).map fun c => Rv.im (.str ⟨#[c]⟩) else none) = some rv := he
      split at he
      · rename_i hz
        cases e1 : atI z.cps.toList i with
        | none => rw [e1] at he; cases he
        | some c =>
          rw [e1] at he
          cases he
          exact .inr (.inr ⟨z, i, c, rfl, rfl, line_of hz, e1, A.same G (.str _)⟩)
      · cases he
    | _ => cases he
  | _ => cases he
end DL

set_option Elab.async false
set_option linter.all false
set_option autoImplicit false
set_option maxRecDepth 100000
/-! DL7: chains, is, slices, subscripts of names, lists that grow. -/
namespace DL
open PySem PyProof.Rows L2

section
variable {X : Cx} {B : Bas} {W : WX} {e a b c : Expr} {es : List Expr} {pos : Pos} {ga gb gc g : DX}
/-! ### a op b op c -/
@[simp] def xChain (h h' : PyData → PyData → Option Rv) (ga gb gc : DX) : DX := fun s => bindD (ga s) fun d s1 => bindD (gb s1) fun e s2 => match h d e with
  | some (.im (.bool true)) => bindD (gc s2) fun f s3 => (match h' e f with | some rv => .ok rv s3 | none => .bad)
  | some (.im (.bool false)) => .ok (.im (.bool false)) s2
  | _ => .bad
theorem chain_con {h h' : PyData → PyData → Option Rv} {r r' : R2} (o : Op2 X.K h r) (o' : Op2 X.K h' r') {σ : L2.St} {H : Hp} {Q : VK} (q : tD X.K B W (xChain h h' ga gb gc) σ H Q) : tChain r r' (tD X.K B W ga) (tD X.K B W gb) (tD X.K B W gc) σ H Q := by
  obtain ⟨γ, F, s, G, A⟩ := q
  refine (tD_bind G A).mono fun x H1 ⟨F1, s1, d, a1, p1, G1, r1, A1⟩ => ?_
  refine (tD_bind G1 A1).mono fun y H2 ⟨F2, s2, e, a2, p2, G2, r2, A2⟩ => ?_
  dsimp only at A2
  cases he : h d e with
  | none => rw [he] at A2; exact A2.elim
  | some rv =>
    rw [he] at A2
    refine o B W γ F2 s2 σ H2 x y d e rv _ G2 (r1.mono a2) r2 he fun F3 H3 v a3 p3 G3 r3 => ?_
    cases rv with
    | ow ds => exact A2.elim
    | im z =>
      cases z with
      | bool k =>
        cases (show Rp X.K F3 (.bool k) v from r3)
        refine ⟨k, rfl, ?_⟩
        cases k with
        | false => exact iteF ((A2.on a3 p3) F3 H3 (.bl false) .rfl .rfl G3 (.bl false))
        | true =>
          refine iteT ((tD_bind G3 (A2.on a3 p3)).mono fun w' H4 ⟨F4, s4, f, a4, p4, G4, r4, A4⟩ => ?_)
          dsimp only at A4
          cases hf : h' e f with
          | none => rw [hf] at A4; exact A4.elim
          | some rv => rw [hf] at A4; exact o' B W γ F4 s4 σ H4 y w' e f rv Q G4 (r2.mono (a3.tr a4)) r4 hf A4
      | _ => exact A2.elim
theorem de_chain {op op' : CmpOp} {h h' : PyData → PyData → Option Rv} {r r' : R2} (ho : OpR X (compareOp op) r) (ho' : OpR X (compareOp op') r') (o : Op2 X.K h r) (o' : Op2 X.K h' r') (ha : DPE X B W a ga) (hb : DPE X B W b gb) (hc : DPE X B W c gc)
    (hm : lastMarks [op, op'] [b, c] = false := by with_unfolding_all rfl) : DPE X B W (.Compare a [op, op'] [b, c] pos) (xChain h h' ga gb gc) :=
  (pe_chain ho ho' ha hb hc hm).con fun σ H Q q => chain_con o o' q
theorem dt_chain {op op' : CmpOp} {h h' : PyData → PyData → Option Rv} {r r' : R2} (ho : OpR X (compareOp op) r) (ho' : OpR X (compareOp op') r') (o : Op2 X.K h r) (o' : Op2 X.K h' r') (ha : DPE X B W a ga) (hb : DPE X B W b gb) (hc : DPE X B W c gc)
    (hm : lastMarks [op, op'] [b, c] = false := by with_unfolding_all rfl) : DPT X B W (.Compare a [op, op'] [b, c] pos) (xChain h h' ga gb gc) :=
  (pt_chain ho ho' ha hb hc hm).con fun σ H Q q => chain_con o o' q

/-! ### is, is not: None, True, False on the right -/
@[simp] def isLit (d e : PyData) : Option Bool := match e with
  | .none => some (match d with | .none => true | _ => false)
  | .bool k => some (match d with | .bool j => decide (j = k) | _ => false)
  | _ => none
@[simp] def hIs (d e : PyData) : Option Rv := (isLit d e).map fun b => .im (.bool b)
@[simp] def hIsNot (d e : PyData) : Option Rv := (isLit d e).map fun b => .im (.bool !b)
def datV : V → Bool
  | .non => true | .bl _ => true | .int _ => true | .str _ => true | .ref _ => true | _ => false
def litV (x : V) : V → Option Bool
  | .non => some (match x with | .non => true | _ => false)
  | .bl k => some (match x with | .bl j => decide (j = k) | _ => false)
  | _ => none
def rIsL (neg : Bool) : R2 := fun x y H Q => datV x = true ∧ ∃ b, litV x y = some b ∧ Q (.bl (neg ^^ b)) H
theorem lit_same {x y : V} {v u : Value} {b : Bool} (rx : L2.RelV x v) (ry : L2.RelV y u) (hx : datV x = true) (h : litV x y = some b) : plainIs v u = true ∧ (v == u) = b := by
  cases y with
  | non =>
    cases (show u = .none from ry)
    cases h
    cases x with
    | non => cases (show v = .none from rx); exact ⟨rfl, rfl⟩
    | bl j => cases (show v = .bool j from rx); exact ⟨rfl, rfl⟩
    | int i => obtain ⟨t, rfl⟩ := (show ∃ t, v = .int i t from rx); exact ⟨rfl, rfl⟩
    | str i => obtain ⟨t, rfl⟩ := (show ∃ t, v = .str i t from rx); exact ⟨rfl, rfl⟩
    | ref a => cases (show v = .ref a from rx); exact ⟨rfl, rfl⟩
    | _ => cases hx
  | bl k =>
    cases (show u = .bool k from ry)
    cases h
    cases x with
    | non => cases (show v = .none from rx); exact ⟨rfl, rfl⟩
    | bl j => cases (show v = .bool j from rx); exact ⟨rfl, by cases j <;> cases k <;> rfl⟩
    | int i => obtain ⟨t, rfl⟩ := (show ∃ t, v = .int i t from rx); exact ⟨rfl, rfl⟩
    | str i => obtain ⟨t, rfl⟩ := (show ∃ t, v = .str i t from rx); exact ⟨rfl, rfl⟩
    | ref a => cases (show v = .ref a from rx); exact ⟨rfl, rfl⟩
    | _ => cases hx
  | _ => cases h
theorem op_isL : OpR X (compareOp .Is) (rIsL false) := by
  intro pins s σ H x y v u Q I rx ry ⟨hx, b, hb, q⟩
  obtain ⟨h1, h2⟩ := lit_same rx ry hx hb
  refine wpAny_is_plain h1 ⟨.bl b, H, I, by rw [h2]; rfl, ?_⟩
  rw [Bool.false_xor] at q
  exact q
theorem op_isnotL : OpR X (compareOp .IsNot) (rIsL true) := by
  intro pins s σ H x y v u Q I rx ry ⟨hx, b, hb, q⟩
  obtain ⟨h1, h2⟩ := lit_same rx ry hx hb
  refine wpAny_isNot_plain h1 ⟨.bl (!b), H, I, by rw [h2]; rfl, ?_⟩
  rw [Bool.true_xor] at q
  exact q
theorem isLit_V {K : PySem.W.Frag} {F F' : Hp} {d e : PyData} {x y : V} {b : Bool} (r1 : Rp K F d x) (r2 : Rp K F' e y) (h : isLit d e = some b) : datV x = true ∧ litV x y = some b := by
  cases r2 <;> first | (cases h; done) | (cases r1 <;> (cases h; exact ⟨rfl, rfl⟩))
theorem o_is {K : PySem.W.Frag} : Op2 K hIs (rIsL false) := by
  intro B W γ F s σ H x y d e rv Q G r1 r2 he A
  unfold hIs at he
  cases h : isLit d e with
  | none => rw [h] at he; cases he
  | some b =>
    rw [h] at he
    cases he
    obtain ⟨h1, h2⟩ := isLit_V r1 r2 h
    exact ⟨h1, b, h2, by rw [Bool.false_xor]; exact A.same G (.bl _)⟩
theorem o_isnot {K : PySem.W.Frag} : Op2 K hIsNot (rIsL true) := by
  intro B W γ F s σ H x y d e rv Q G r1 r2 he A
  unfold hIsNot at he
  cases h : isLit d e with
  | none => rw [h] at he; cases he
  | some b =>
    rw [h] at he
    cases he
    obtain ⟨h1, h2⟩ := isLit_V r1 r2 h
    exact ⟨h1, b, h2, by rw [Bool.true_xor]; exact A.same G (.bl _)⟩

/-! ### subscripts -/
theorem de_ix (ha : DPE X B W a ga) (hb : DPE X B W b gb) (hs : PlainIx b) : DPE X B W (.Subscript a b pos) (xBin hIx ga gb) :=
  (pe_ix ix_seq ha hb hs).con fun σ H Q q => bin_con o_ix q
/-- of a name: an own list stays one -/
@[simp] def hasV (s : Sd) (i : Nat) : Bool := match s.σ[i]? with
  | some .un => false
  | none => false
  | _ => true
theorem hasV_of {K : PySem.W.Frag} {B : Bas} {γ : Addr} {F H : Hp} {s : Sd} {σ : L2.St} {i : Nat} (G : Good K B γ F s σ H) (h : hasV s i = true) : ∃ v, σ[i]? = some (some v) := by
  unfold hasV at h
  cases e : s.σ[i]? with
  | none => rw [e] at h; cases h
  | some sl =>
    rw [e] at h
    cases sl with
    | un => cases h
    | im d => obtain ⟨v, h1, _⟩ := G.im i d e; exact ⟨v, h1⟩
    | ow ds => obtain ⟨a, _, h1, _⟩ := G.ow i ds e; exact ⟨_, h1⟩
    | gn => exact ⟨_, G.gn i e⟩
@[simp] def xIxV (i : Nat) (gb : DX) : DX := fun s => if hasV s i = true then bindD (gb s) fun e s1 => match s1.σ[i]? with
  | some (.im d) => (match hIx d e with | some rv => .ok rv s1 | none => .bad)
  | some (.ow ds) => (match hIx (.list ds) e with | some rv => .ok rv s1 | none => .bad)
  | some .gn => (match s1.g with | some l => (match hIx (.list (l.map PyData.int)) e with | some rv => .ok rv s1 | none => .bad) | none => .bad)
  | _ => .bad
  else .bad
theorem ix_read {K : PySem.W.Frag} {γ : Addr} {F H : Hp} {s : Sd} {σ : L2.St} {Q : VK} {a : Addr} {xs : List V} {ds : List PyData} {e : PyData} {y : V} {rv : Rv} (G : Good K B γ F s σ H) (h : H a = some (.lst xs)) (r : RpL K F ds xs) (r2 : Rp K F e y) (he : hIx (.list ds) e = some rv) (A : After K B W γ F s σ H (.ok rv s) Q) : rIx K (.ref a) y H Q := by
  cases r2 with
  | int i =>
    replace he : (atI ds i).map Rv.im = some rv := he
    cases e1 : atI ds i with
    | none => rw [e1] at he; cases he
    | some d =>
      rw [e1] at he
      cases he
      obtain ⟨v, h1, h2⟩ := atI_rp r e1
      exact .inl ⟨a, xs, i, v, rfl, rfl, .inl (.inl h), h1, A.same G h2⟩
  | _ => cases he
theorem de_ixV {i : Nat} (ha : PE X a (tVar i)) (hb : DPE X B W b gb) (hs : PlainIx b) : DPE X B W (.Subscript a b pos) (xIxV i gb) :=
  (pe_ix ix_seq ha hb hs).con fun σ H Q ⟨γ, F, s, G, A⟩ => by
    unfold xIxV at A
    by_cases hv : hasV s i = true
    · rw [if_pos hv] at A
      obtain ⟨v0, hv0⟩ := hasV_of G hv
      have key2 : tD X.K B W gb σ H fun y H1 => ∃ v, σ[i]? = some (some v) ∧ rIx X.K v y H1 Q := by
        refine (tD_bind G A).mono fun y H1 ⟨F1, s1, e, a1, p1, G1, r1, A1⟩ => ?_
        dsimp only at A1
        cases es : s1.σ[i]? with
        | none => rw [es] at A1; exact A1.elim
        | some sl =>
          rw [es] at A1
          cases sl with
          | un => exact A1.elim
          | im d =>
            dsimp only at A1
            cases he : hIx d e with
            | none => rw [he] at A1; exact A1.elim
            | some rv =>
              rw [he] at A1
              obtain ⟨v, h1, h2⟩ := G1.im i d es
              exact ⟨v, h1, o_ix B W γ F1 s1 σ H1 v y d e rv Q G1 h2 r1 he A1⟩
          | ow ds =>
            dsimp only at A1
            cases he : hIx (.list ds) e with
            | none => rw [he] at A1; exact A1.elim
            | some rv =>
              rw [he] at A1
              obtain ⟨b, xs, h1, h2, h3, _⟩ := G1.ow i ds es
              exact ⟨_, h1, ix_read G1 h2 h3 r1 he A1⟩
          | gn =>
            dsimp only at A1
            cases eg : s1.g with
            | none => rw [eg] at A1; exact A1.elim
            | some l =>
              rw [eg] at A1
              dsimp only at A1
              cases he : hIx (.list (l.map PyData.int)) e with
              | none => rw [he] at A1; exact A1.elim
              | some rv =>
                rw [he] at A1
                obtain ⟨h1, _, _⟩ := G1.gg l eg
                exact ⟨_, G1.gn i es, ix_read G1 h1 RpL.ints r1 he A1⟩
      refine ⟨v0, hv0, key2.mono fun y H1 ⟨v, h1, h2⟩ => ?_⟩
      rw [hv0] at h1
      cases h1
      exact h2
    · rw [if_neg hv] at A
      exact A.elim

/-! ### slices -/
inductive SlP where
  | no | ex (g : DX)
def SlP.t (K : PySem.W.Frag) (B : Bas) (W : WX) : SlP → TO
  | .no => tNoPart
  | .ex g => tPart (tD K B W g)
abbrev DPO (X : Cx) (B : Bas) (W : WX) (e : Option Expr) (p : SlP) : Prop := PO X e (p.t X.K B W)
theorem do_none : DPO X B W none .no := po_none
theorem do_some (h : DPE X B W e g) : DPO X B W (some e) (.ex g) := po_some h
def cutD {α : Type} (xs : List α) (lo hi : Option Int) : List α := (xs.drop (HT.sIx xs.length 0 lo)).take (HT.sIx xs.length xs.length hi - HT.sIx xs.length 0 lo)
def hSl : PyData → Option Int → Option Int → Option Rv
  | .list ds, lo, hi => some (.ow (cutD ds lo hi))
  | .tuple ds, lo, hi => some (.im (.tuple (cutD ds lo hi)))
  | .str z, lo, hi => if z.length ≤ 1000000 then some (.im (.str (cutS z lo hi))) else none
  | _, _, _ => none
def SlP.k (p : SlP) (s : Sd) (k : Option Int → Sd → R) : R := match p with
  | .no => k none s
  | .ex g => bindD (g s) fun d s1 => match d with | .int i => k (some i) s1 | _ => .bad
def xSlice (g : DX) (pl ph : SlP) : DX := fun s => bindD (g s) fun d s1 => pl.k s1 fun lo s2 => ph.k s2 fun hi s3 => match hSl d lo hi with | some rv => .ok rv s3 | none => .bad
theorem slp_k {p : SlP} {γ : Addr} {F : Hp} {s : Sd} {σ : L2.St} {H : Hp} {Q : VK} {k : Option Int → Sd → R} {P : Option Int → Hp → Prop} (G : Good X.K B γ F s σ H) (A : After X.K B W γ F s σ H (p.k s k) Q)
    (c : ∀ o F1 s1 H1, Sub F F1 → Good X.K B γ F1 s1 σ H1 → After X.K B W γ F1 s1 σ H1 (k o s1) Q → P o H1) : p.t X.K B W σ H P := by
  cases p with
  | no => exact c none F s H .rfl G A
  | ex g =>
    have A : After X.K B W γ F s σ H (bindD (g s) fun d s1 => match d with | .int i => k (some i) s1 | _ => .bad) Q := A
    refine (tD_bind G A).mono fun x H1 ⟨F1, s1, d, a1, p1, G1, r1, A1⟩ => ?_
    cases r1 with
    | int i => exact ⟨i, rfl, c (some i) F1 s1 H1 a1 G1 A1⟩
    | _ => exact A1.elim
theorem o_sl {K : PySem.W.Frag} {γ : Addr} {F H : Hp} {s : Sd} {σ : L2.St} {Q : VK} {d : PyData} {x : V} {lo hi : Option Int} {rv : Rv} (G : Good K B γ F s σ H) (r : Rp K F d x) (he : hSl d lo hi = some rv) (A : After K B W γ F s σ H (.ok rv s) Q) :
    rSlL K x lo hi H Q ∨ rSlA K x lo hi H Q ∨ rSlS x lo hi H Q := by
  cases r with
  | lst h1 q1 =>
    rename_i l xs ds
    cases he
    refine .inl ⟨l, xs, rfl, .inl (rd_mono G.sub h1), fun p hp => ?_⟩
    refine After.newL A G ?_ hp
    unfold cutD cutV
    rw [q1.len]
    exact (q1.drop _).take _
  | tup h1 q1 =>
    rename_i l xs ds
    cases he
    have rr : RpL K F (cutD ds lo hi) (cutV xs lo hi) := by
      unfold cutD cutV
      rw [q1.len]
      exact (q1.drop _).take _
    refine .inr (.inl ⟨l, xs, rfl, sqT_mono G.sub h1, fun z => ?_, fun _ p hp => After.newT A G rr hp⟩)
    rw [q1.len] at z
    have e : cutD ds lo hi = ds := by
      unfold cutD
      rw [z.1, z.2, List.drop_zero, Nat.sub_zero, List.take_length]
    rw [e] at A
    exact A.same G (.tup h1 q1)
  | str z =>
    replace he : (if z.length ≤ 1000000 then some (Rv.im (.str (cutS z lo hi))) else none) = some rv := he
    split at he
    · rename_i hz
      cases he
      exact .inr (.inr ⟨z, rfl, line_of hz, A.same G (.str _)⟩)
    · cases he
  | _ => cases he
theorem de_slice {lo hi : Option Expr} {pl ph : SlP} {p2 : Pos} (ha : DPE X B W a ga) (hl : DPO X B W lo pl) (hh : DPO X B W hi ph) : DPE X B W (.Subscript a (.Slice lo hi none p2) pos) (xSlice ga pl ph) :=
  (pe_slice (sl_list.or (sl_tupA.or sl_str)) ha hl hh).con fun σ H Q ⟨γ, F, s, G, A⟩ => (tD_bind G A).mono fun x H1 ⟨F1, s1, d, a1, p1, G1, r1, A1⟩ => by
    refine slp_k G1 A1 fun l F2 s2 H2 a2 G2 A2 => slp_k G2 A2 fun u F3 s3 H3 a3 G3 A3 => ?_
    cases he : hSl d l u with
    | none => rw [he] at A3; exact A3.elim
    | some rv =>
      rw [he] at A3
      exact o_sl G3 (r1.mono (a2.tr a3)) he A3

/-! ### a list that is just made, times an int -/
def xRep (ga gb : DX) : DX := fun s => match ga s with
  | .ok (.ow ds) s1 => (match gb s1 with
    | .ok (.im (.int k)) s2 => if 0 ≤ k ∧ k ≤ 10000 ∧ ds.length ≤ 10 then .ok (.ow (List.replicate k.toNat ds).flatten) s2 else .bad
    | .err C d s2 => .err C d s2
    | _ => .bad)
  | .err C d s1 => .err C d s1
  | _ => .bad
/-! ### what stands aside is kept -/
def Bas.keep (B : Bas) (a : Addr) (o : HO) : Bas := ⟨fun x => if x = a then some o else B.b x, B.f, B.g, B.t⟩
theorem Good.keep {K : PySem.W.Frag} {γ a : Addr} {F H : Hp} {s : Sd} {σ : L2.St} {ds : List PyData} {o : HO} (G : Good K B γ F s σ H) (O : Own K B γ F s σ H a ds) (h : H a = some o) (ho : ∀ ps, o ≠ .tbl ps := by intro ps z; cases z) : Good K (B.keep a o) γ F s σ H := by
  refine ⟨G.sub, fun c u e => ?_, G.f0, fun c u e => ?_, G.len, G.im, fun i es e => ?_, G.ap, G.gn, fun l e => ?_, G.gx, G.tb, fun c ps e => ?_, G.nf⟩
  · by_cases hc : c = a
    · subst hc
      have e' : (if c = c then some o else B.b c) = some u := e
      rw [if_pos rfl] at e'
      cases e'
      exact h
    · have e' : (if c = a then some o else B.b c) = some u := e
      rw [if_neg hc] at e'
      exact G.bs c u e'
  · have hc : c ≠ a := fun z => by rw [z, O.nf] at e; cases e
    rcases G.fr c u e with q | q
    · exact .inl q
    · refine .inr ?_
      show (if c = a then some o else B.b c) = none
      rw [if_neg hc]
      exact q
  · obtain ⟨b, xs, h1, h2, h3, h4, h5, h6⟩ := G.ow i es e
    refine ⟨b, xs, h1, h2, h3, h4, ?_, h6⟩
    have hb : b ≠ a := fun z => O.ns i es e (by rw [h1, z])
    show (if b = a then some o else B.b b) = none
    rw [if_neg hb]
    exact h5
  · obtain ⟨h1, h2, h3⟩ := G.gg l e
    refine ⟨h1, h2, ?_⟩
    have hg : γ ≠ a := (O.ng (by rw [e]; rfl)).symm
    show (if γ = a then some o else B.b γ) = none
    rw [if_neg hg]
    exact h3
  · by_cases hc : c = a
    · subst hc
      have e' : (if c = c then some o else B.b c) = some (.tbl ps) := e
      rw [if_pos rfl] at e'
      exact ho ps (Option.some.inj e')
    · have e' : (if c = a then some o else B.b c) = some (.tbl ps) := e
      rw [if_neg hc] at e'
      exact G.nt c ps e'
theorem Good.unkeep {K : PySem.W.Frag} {γ a : Addr} {F H : Hp} {s : Sd} {σ : L2.St} {o : HO} (G : Good K (B.keep a o) γ F s σ H) (hb : B.b a = none) (hf : B.f a = none) :
    Good K B γ F s σ H ∧ H a = some o ∧ F a = none ∧ (s.g.isSome = true → a ≠ γ) ∧ ∀ (i : Nat) (es : List PyData), s.σ[i]? = some (.ow es) → σ[i]? ≠ some (some (.ref a)) := by
  have ka : (B.keep a o).b a = some o := by show (if a = a then some o else B.b a) = _; rw [if_pos rfl]
  have kn : ∀ c, (B.keep a o).b c = none → c ≠ a ∧ B.b c = none := fun c e => by
    have hc : c ≠ a := fun z => by rw [z, ka] at e; cases e
    have e' : (if c = a then some o else B.b c) = none := e
    rw [if_neg hc] at e'
    exact ⟨hc, e'⟩
  have nf : F a = none := by
    cases q : F a with
    | none => rfl
    | some u =>
      rcases G.fr a u q with z | z
      · rw [show (B.keep a o).f a = B.f a from rfl, hf] at z; cases z
      · rw [ka] at z; cases z
  refine ⟨⟨G.sub, fun c u e => G.bs c u ?_, G.f0, fun c u e => ?_, G.len, G.im, fun i es e => ?_, G.ap, G.gn, fun l e => ?_, G.gx, G.tb, fun c ps e => ?_, G.nf⟩, G.bs a o ka, nf, fun z => ?_, fun i es e z => ?_⟩
  · have hc : c ≠ a := fun z => by rw [z, hb] at e; cases e
    show (if c = a then some o else B.b c) = some u
    rw [if_neg hc]
    exact e
  · rcases G.fr c u e with q | q
    · exact .inl q
    · exact .inr (kn c q).2
  · obtain ⟨b, xs, h1, h2, h3, h4, h5, h6⟩ := G.ow i es e
    exact ⟨b, xs, h1, h2, h3, h4, (kn b h5).2, h6⟩
  · obtain ⟨h1, h2, h3⟩ := G.gg l e
    exact ⟨h1, h2, (kn γ h3).2⟩
  · refine G.nt c ps ?_
    have hc : c ≠ a := fun z => by rw [z, hb] at e; cases e
    show (if c = a then some o else B.b c) = _
    rw [if_neg hc]
    exact e
  · obtain ⟨l, e⟩ := Option.isSome_iff_exists.mp z
    exact (kn γ (G.gg l e).2.2).1.symm
  · obtain ⟨b, xs, h1, h2, h3, h4, h5, h6⟩ := G.ow i es e
    rw [z] at h1
    cases h1
    exact (kn a h5).1 rfl
theorem Own.f0 {K : PySem.W.Frag} {γ a : Addr} {F H : Hp} {s : Sd} {σ : L2.St} {ds : List PyData} (O : Own K B γ F s σ H a ds) (G : Good K B γ F s σ H) : B.f a = none := by
  cases q : B.f a with
  | none => rfl
  | some u => have := G.f0 a u q; rw [O.nf] at this; cases this
theorem de_rep (ha : DPE X B W a ga) (hb : ∀ B', B'.t = B.t → DPE X B' W b gb) : DPE X B W (.BinOp a .Mult b pos) (xRep ga gb) :=
  (pe_op op_rep ha (⟨fun pins s σ H Q I h => let ⟨B', e, q⟩ := h; (hb B' e).run pins s σ H Q I q⟩ : PE X b (fun σ H Q => ∃ B', B'.t = B.t ∧ tD X.K B' W gb σ H Q))).con fun σ H Q ⟨γ, F, s, G, A⟩ => by
    refine ⟨γ, F, s, G, ?_⟩
    unfold xRep at A
    cases e1 : ga s with
    | bad => rw [e1] at A; exact A.elim
    | err C d s1 => rw [e1] at A; exact A
    | ok rv s1 =>
      rw [e1] at A
      cases rv with
      | im d => exact A.elim
      | ow ds =>
        intro F1 H1 v a1 p1 G1 ⟨l, ev, O⟩
        subst ev
        obtain ⟨xs, hx, rx⟩ := O.at_
        refine ⟨B.keep l (.lst xs), rfl, γ, F1, s1, G1.keep O hx, ?_⟩
        dsimp only at A
        cases e2 : gb s1 with
        | bad => rw [e2] at A; exact A.elim
        | err C d s2 =>
          rw [e2] at A
          intro F2 H2 dx a2 p2 G2 er
          exact A F2 H2 dx (a1.tr a2) (p1.tr p2) (G2.unkeep O.nb (O.f0 G1)).1 er
        | ok rv s2 =>
          rw [e2] at A
          cases rv with
          | ow es => exact A.elim
          | im d =>
            cases d with
            | int k =>
              intro F2 H2 y a2 p2 G2 ry
              dsimp only at A
              cases (show Rp X.K F2 (.int k) y from ry)
              split at A
              · rename_i hk
                obtain ⟨G3, h3, _⟩ := G2.unkeep O.nb (O.f0 G1)
                have hl : xs.length * k.toNat ≤ 100000 := by
                  rw [rx.len]
                  exact Nat.le_trans (Nat.mul_le_mul hk.2.2 (show k.toNat ≤ 10000 by omega)) (by decide)
                refine ⟨l, k, xs, rfl, rfl, h3, by omega, by omega, Nat.le_trans hl (by decide), fun p hp => ?_⟩
                have rr : ∀ n, RpL X.K F2 (List.replicate n ds).flatten (List.replicate n xs).flatten := fun n => by
                  induction n with
                  | zero => exact .nil
                  | succ n ih =>
                    rw [List.replicate_succ, List.replicate_succ, List.flatten_cons, List.flatten_cons]
                    exact (rx.mono a2).app ih
                obtain ⟨G4, O4⟩ := G3.laidOwn hp (rr k.toNat)
                exact A F2 _ _ (a1.tr a2) ((p1.tr p2).tr (.of (sub_upd hp) rfl)) G4 ⟨p, rfl, O4⟩
              · exact A.elim
            | _ => exact A.elim
end
end DL

set_option Elab.async false
set_option linter.all false
set_option autoImplicit false
set_option maxRecDepth 100000
/-! DL8: stores into lists, append; the generator is made; list comprehensions. -/
namespace DL
open PySem PyProof.Rows L2

section
variable {K : PySem.W.Frag} {B : Bas} {γ : Addr} {F : Hp} {s : Sd} {σ : L2.St} {H : Hp}
/-- an own list is rewritten -/
theorem _root_.LamX.Tabs.lst {T : List (Addr × Str)} {H : Hp} {a : Addr} {xs ys : List V} (t : LamX.Tabs T H) (h : H a = some (.lst xs)) : LamX.Tabs T (upd H a (.lst ys)) := fun p hp => by
  obtain ⟨ps, h1, h2, h3⟩ := t p hp
  have ne : ∀ {c : Addr} {o : HO}, H c = some o → (∀ zs, o ≠ .lst zs) → c ≠ a := fun {c o} e n z => by
    rw [z, h] at e
    exact n xs (Option.some.inj e).symm
  refine ⟨ps, by rw [upd_ne (ne h1 (fun zs z => by cases z))]; exact h1, h2, fun pos cv e => ?_⟩
  obtain ⟨c, e1, e2⟩ := h3 pos cv e
  exact ⟨c, e1, by rw [upd_ne (ne e2 (fun zs z => by unfold LamX.CodeO at z; cases z))]; exact e2⟩
theorem Good.owSet (G : Good K B γ F s σ H) {i : Nat} {ds ds' : List PyData} {a : Addr} {xs' : List V} (e : s.σ[i]? = some (.ow ds)) (h : σ[i]? = some (some (.ref a))) (r : RpL K F ds' xs') :
    Good K B γ F ⟨s.σ.set i (.ow ds'), s.g⟩ σ (upd H a (.lst xs')) := by
  obtain ⟨b, xs, h1, h2, h3, h4, h5, h6⟩ := G.ow i ds e
  rw [h] at h1
  cases h1
  have nF : ∀ c u, F c = some u → c ≠ a := fun c u q => ne_of_none q h4
  refine ⟨fun c u q => ?_, fun c u q => ?_, G.f0, G.fr, by simpa using G.len, fun j d q => ?_, fun j es q => ?_, fun j k es fs b q1 q2 q3 q4 => ?_, fun j q => ?_, fun l q => ?_, G.gx, G.tb.lst h2, G.nt, G.nf⟩
  · rw [upd_ne (nF c u q)]; exact G.sub c u q
  · rw [upd_ne (ne_of_none q h5)]; exact G.bs c u q
  · rcases getset q with ⟨_, e2⟩ | ⟨_, q'⟩
    · cases e2
    · exact G.im j d q'
  · rcases getset q with ⟨z, e2⟩ | ⟨z, q'⟩
    · cases e2
      subst z
      exact ⟨a, xs', h, upd_same, r, h4, h5, h6⟩
    · obtain ⟨c, ys, k1, k2, k3, k4, k5, k6⟩ := G.ow j es q'
      have hc : c ≠ a := fun y => z (G.ap j i es ds a q' e (by rw [k1, y]) h)
      exact ⟨c, ys, k1, by rw [upd_ne hc]; exact k2, k3, k4, k5, k6⟩
  · have back : ∀ {j : Nat} {es : List PyData}, (s.σ.set i (Sl.ow ds'))[j]? = some (.ow es) → ∃ es', s.σ[j]? = some (.ow es') := fun {j es} q => by
      rcases getset q with ⟨z, _⟩ | ⟨_, q'⟩
      · exact ⟨ds, by rw [z]; exact e⟩
      · exact ⟨es, q'⟩
    obtain ⟨e1, q1'⟩ := back q1
    obtain ⟨e2, q2'⟩ := back q2
    exact G.ap j k e1 e2 b q1' q2' q3 q4
  · rcases getset q with ⟨_, e2⟩ | ⟨_, q'⟩
    · cases e2
    · exact G.gn j q'
  · obtain ⟨k1, k2, k3⟩ := G.gg l q
    have hg : γ ≠ a := (h6 (by rw [show s.g = some l from q]; rfl)).symm
    exact ⟨by rw [upd_ne hg]; exact k1, k2, k3⟩
/-- the generator is rewritten -/
theorem Good.gSet (G : Good K B γ F s σ H) {l l' : List Int} (e : s.g = some l) : Good K B γ F ⟨s.σ, some l'⟩ σ (upd H γ (.lst (l'.map V.int))) := by
  obtain ⟨h1, h2, h3⟩ := G.gg l e
  refine ⟨fun c u q => ?_, fun c u q => ?_, G.f0, G.fr, G.len, G.im, fun j es q => ?_, G.ap, G.gn, fun m q => ?_, G.gx, G.tb.lst h1, G.nt, G.nf⟩
  · rw [upd_ne (ne_of_none q h2)]; exact G.sub c u q
  · rw [upd_ne (ne_of_none q h3)]; exact G.bs c u q
  · obtain ⟨c, ys, k1, k2, k3, k4, k5, k6⟩ := G.ow j es q
    have hc : c ≠ γ := k6 (by rw [e]; rfl)
    exact ⟨c, ys, k1, by rw [upd_ne hc]; exact k2, k3, k4, k5, fun _ => hc⟩
  · cases q
    exact ⟨upd_same, h2, h3⟩
/-- behind the value of a statement: data, and the own lists own again if the data is flat -/
@[simp] def afterV (s : Sd) (rv : Rv) (s1 : Sd) : Sd := if flat rv.d = true then ⟨s.σ, s1.g⟩ else s1
theorem Good.val {W : WX} {F1 : Hp} {s1 : Sd} {H1 : Hp} {rv : Rv} {x : V} (G : Good K B γ F s σ H) (a : Sub F F1) (p : Pr γ s s1 H H1) (G1 : Good K B γ F1 s1 σ H1) (r : RvR K B γ F1 s1 σ H1 rv x) :
    ∃ F2, Sub F F2 ∧ Good K B γ F2 (afterV s rv s1) σ H1 ∧ Rp K F2 rv.d x := by
  unfold afterV
  by_cases f : flat rv.d = true
  · rw [if_pos f]
    refine ⟨F, .rfl, G.thaw a p G1, ?_⟩
    cases rv with
    | im d => exact Rp.flat (show Rp K F1 d x from r) f
    | ow ds => cases f
  · rw [if_neg f]
    obtain ⟨F2, a2, G2, r2⟩ := G1.frzV r
    exact ⟨F2, a.tr a2, G2, r2⟩
end

section
variable {X : Cx} {B : Bas} {W : WX} {e a b c : Expr} {es : List Expr} {pos : Pos} {ga gb gc g : DX}
/-! ### x[k] = e: an own list, or the generator -/
@[simp] def putAt (s : Sd) (i : Nat) (k : Int) (d : PyData) : RS := match s.σ[i]? with
  | some (.ow ds) => (match ixN ds.length k with | some j => .nx ⟨s.σ.set i (.ow (ds.set j d)), s.g⟩ | none => .bad)
  | some .gn => (match s.g with
    | some l => (match ixN l.length k, d with | some j, .int n => .nx ⟨s.σ, some (l.set j n)⟩ | _, _ => .bad)
    | none => .bad)
  | _ => .bad
@[simp] def mPut (i : Nat) (gk ge : DX) : DM := fun s => bindS (ge s) fun rv s1 => if hasV s i = true then bindS (gk (afterV s rv s1)) fun rk s2 => match rk with
    | .im (.int k) => putAt ⟨(afterV s rv s1).σ, s2.g⟩ i k rv.d
    | _ => .bad
  else .bad
theorem map_set {α β : Type} (f : α → β) : ∀ (l : List α) (i : Nat) (x : α), (l.set i x).map f = (l.map f).set i (f x)
  | [], _, _ => rfl
  | _ :: _, 0, _ => rfl
  | y :: l, i + 1, x => by
    show f y :: (l.set i x).map f = f y :: (l.map f).set i (f x)
    rw [map_set f l i x]
theorem hasV_after {s s1 : Sd} {i : Nat} {σ : L2.St} {v : V} (h : σ[i]? = some (some v)) : σ[i]? = some (some v) := h
theorem ds_put {i : Nat} {k e : Expr} {gk ge : DX} {tp : Pos} (ha : PE X a (tVar i)) (hk : DPE X B W k gk) (he : DPE X B W e ge)
    (hA : ∀ v, assign (.Subscript a k tp) X.env v = (do
      let ov ← holding [v] (eval a X.env)
      let iv ← holding [v, ov] (eval k X.env)
      standAt tp
      holding [v, ov, iv] (setItem ov iv v)
      release [v, ov, iv] []) := by intro _; rfl)
    (hs : swapsWithSole [.Subscript a k tp] e pos.line X.env = pure false := by rfl) (hw : swappedStores [.Subscript a k tp] e X.env = pure none := by rfl)
    (h1 : (assignEach [.Subscript a k tp] X.env).map (·.2) = [assign (.Subscript a k tp) X.env] := by rfl) : DPS X B W (.Assign [.Subscript a k tp] e pos) (mPut i gk ge) :=
  (ps_asg he (pg_sub ha hk set_list hA) hs hw h1).con fun D σ H ⟨γ, F, s, G, A⟩ => by
    refine (tD_bindS G A).mono fun x H1 ⟨F1, s1, rv, a1, p1, G1, r1, A1⟩ => ?_
    obtain ⟨F2, a2, G2, r2⟩ := G.val (W := W) a1 p1 G1 r1
    dsimp only at A1
    by_cases hv : hasV s i = true
    · rw [if_pos hv] at A1
      obtain ⟨v0, hv0⟩ := hasV_of G hv
      refine ⟨v0, hv0, (tD_bindS G2 (A1.on a2)).mono fun y H2 ⟨F3, s3, rk, a3, p3, G3, r3, A3⟩ => ?_⟩
      have G4 := G2.thaw a3 p3 G3
      cases rk with
      | ow _ => exact A3.elim
      | im dk =>
        cases dk with
        | int k =>
          cases (show Rp X.K F3 (.int k) y from r3)
          dsimp only at A3
          unfold putAt at A3
          cases es : (afterV s rv s1).σ[i]? with
          | none => rw [es] at A3; exact A3.elim
          | some sl =>
            rw [es] at A3
            cases sl with
            | un => exact A3.elim
            | im _ => exact A3.elim
            | ow ds =>
              dsimp only at A3
              cases ek : ixN ds.length k with
              | none => rw [ek] at A3; exact A3.elim
              | some j =>
                rw [ek] at A3
                obtain ⟨b, xs, h1, h2, h3, _⟩ := G4.ow i ds es
                rw [hv0] at h1
                cases h1
                exact ⟨b, xs, k, j, rfl, rfl, h2, by rw [h3.len]; exact ek, A3 γ F2 σ _ .rfl (G4.owSet es hv0 (h3.set r2 j))⟩
            | gn =>
              dsimp only at A3
              cases eg : s3.g with
              | none => rw [eg] at A3; exact A3.elim
              | some l =>
                rw [eg] at A3
                dsimp only at A3
                split at A3
                · rename_i j n ek ed
                  have hgn := G4.gn i es
                  rw [hv0] at hgn
                  cases hgn
                  obtain ⟨h1, _, _⟩ := G4.gg l eg
                  rw [ed] at r2
                  cases r2
                  refine ⟨γ, l.map V.int, k, j, rfl, rfl, h1, by rw [List.length_map]; exact ek, ?_⟩
                  rw [← map_set V.int]
                  exact A3 γ F2 σ _ .rfl (G4.gSet (l' := l.set j n) eg)
                · exact A3.elim
        | _ => exact A3.elim
    · rw [if_neg hv] at A1
      exact A1.elim

/-! ### x.append(e) -/
@[simp] def mApp (i : Nat) (ge : DX) : DM := fun s => match s.σ[i]? with
  | some (.ow _) => bindS (ge s) fun rv s1 => (match (afterV s rv s1).σ[i]? with
    | some (.ow ds) => if ds.length ≤ 1000000 then .nx ⟨(afterV s rv s1).σ.set i (.ow (ds ++ [rv.d])), s1.g⟩ else .bad
    | _ => .bad)
  | _ => .bad
theorem afterV_g {s s1 : Sd} {rv : Rv} : (afterV s rv s1).g = s1.g := by
  unfold afterV
  split <;> rfl
theorem ds_app {i : Nat} {e : Expr} {ge : DX} {apos cpos : Pos} (ha : PE X a (tVar i)) (he : DPE X B W e ge)
    (hst : starEach [e] X.env = (false, eval e X.env) :: starEach [] X.env := by rfl) (hbase : attributeBase a "append" X.env (eval a X.env) = eval a X.env := by rfl)
    (hfew : ((backTo cpos (starEach [e] X.env)).all (fun x => !x.1) && (backToKw cpos (keywordEach [] X.env)).all (fun x => x.1.isSome)
      && decide ([e].length + ([] : List Keyword).length + (if ([] : List Keyword).isEmpty then 0 else 1) < 30)) = true := by rfl)
    (hline : (apos.endLine == cpos.line) = true := by rfl) (hs : swapsWith (.Call (.Attribute a "append" apos) [e] [] cpos) none pos.line X.env = pure false := by rfl) :
    DPS X B W (.Expr (.Call (.Attribute a "append" apos) [e] [] cpos) pos) (mApp i ge) :=
  (ps_expr (pe_bm PySem.F.plainAttrs_list PySem.F.slot_list_append PySem.F.type_list_append mt_append ha (pa_cons he pa_nil hst) hbase hfew hline hst) hs).con fun D σ H ⟨γ, F, s, G, A⟩ => by
    unfold mApp at A
    cases es0 : s.σ[i]? with
    | none => rw [es0] at A; exact A.elim
    | some sl =>
      rw [es0] at A
      cases sl with
      | ow ds0 =>
        obtain ⟨b, xs0, h1, h2, _⟩ := G.ow i ds0 es0
        refine ⟨.ref b, h1, .inl ⟨rfl, xs0, .inl (.inl h2)⟩, ?_⟩
        refine (tD_bindS G A).mono fun x H1 ⟨F1, s1, rv, a1, p1, G1, r1, A1⟩ => ?_
        obtain ⟨F2, a2, G2, r2⟩ := G.val (W := W) a1 p1 G1 r1
        dsimp only at A1
        cases es : (afterV s rv s1).σ[i]? with
        | none => rw [es] at A1; exact A1.elim
        | some sl =>
          rw [es] at A1
          cases sl with
          | ow ds =>
            dsimp only at A1
            split at A1
            · rename_i hl
              obtain ⟨c, xs, k1, k2, k3, _⟩ := G2.ow i ds es
              rw [h1] at k1
              cases k1
              have G5 := G2.owSet es h1 (k3.app (.cons r2 .nil))
              rw [afterV_g] at G5
              exact ⟨b, xs, x, rfl, rfl, k2, by rw [k3.len]; exact Nat.lt_of_le_of_lt hl (by decide), A1 γ F2 σ _ a2 G5⟩
            · exact A1.elim
          | _ => exact A1.elim
      | _ => exact A.elim

/-! ### the generator is made -/
@[simp] def intsOf : List PyData → Option (List Int)
  | [] => some []
  | .int n :: ds => (intsOf ds).map (n :: ·)
  | _ => none
theorem intsOf_eq : ∀ {ds : List PyData} {l : List Int}, intsOf ds = some l → ds = l.map PyData.int
  | [], _, h => by cases h; rfl
  | .int n :: ds, l, h => by
    unfold intsOf at h
    cases e : intsOf ds with
    | none => rw [e] at h; cases h
    | some l' =>
      rw [e] at h
      cases h
      rw [intsOf_eq e]
      rfl
  | .none :: _, _, h => by cases h
  | .bool _ :: _, _, h => by cases h
  | .str _ :: _, _, h => by cases h
  | .list _ :: _, _, h => by cases h
  | .tuple _ :: _, _, h => by cases h
  | .dict _ :: _, _, h => by cases h
def dropGn : Sl → Sl
  | .gn => .un
  | x => x
theorem dropGn_ow {l : List Sl} {j : Nat} {es : List PyData} (h : (l.map dropGn)[j]? = some (.ow es)) : l[j]? = some (.ow es) := by
  rw [List.getElem?_map] at h
  cases e : l[j]? with
  | none => rw [e] at h; cases h
  | some x => rw [e] at h; cases x <;> cases h; rfl
theorem dropGn_im {l : List Sl} {j : Nat} {d : PyData} (h : (l.map dropGn)[j]? = some (.im d)) : l[j]? = some (.im d) := by
  rw [List.getElem?_map] at h
  cases e : l[j]? with
  | none => rw [e] at h; cases h
  | some x => rw [e] at h; cases x <;> cases h; rfl
theorem dropGn_gn {l : List Sl} {j : Nat} (h : (l.map dropGn)[j]? = some .gn) : False := by
  rw [List.getElem?_map] at h
  cases e : l[j]? with
  | none => rw [e] at h; cases h
  | some x => rw [e] at h; cases x <;> cases h
theorem Good.setGen {K : PySem.W.Frag} {γ : Addr} {F : Hp} {s : Sd} {σ : L2.St} {H : Hp} (hB : B.g = none) (G : Good K B γ F s σ H) {i : Nat} {l : List Int} {p : Addr} (O : Own K B γ F s σ H p (l.map PyData.int)) :
    Good K B p F ⟨(s.σ.map dropGn).set i .gn, some l⟩ (σ.set i (some (.ref p))) H := by
  obtain ⟨xs, hx, r⟩ := O.at_
  have ex := r.ofInts
  subst ex
  refine ⟨G.sub, G.bs, G.f0, G.fr, by simpa using G.len, fun j d q => ?_, fun j es q => ?_, fun j k es fs b q1 q2 q3 q4 => ?_, fun j q => ?_, fun m q => ?_, (fun b q => by rw [hB] at q; cases q), G.tb, G.nt, G.nf⟩
  · rcases getset q with ⟨_, e2⟩ | ⟨z, q'⟩
    · cases e2
    · obtain ⟨v, h1, h2⟩ := G.im j d (dropGn_im q')
      exact ⟨v, by rw [List.getElem?_set_ne (Ne.symm z)]; exact h1, h2⟩
  · rcases getset q with ⟨_, e2⟩ | ⟨z, q'⟩
    · cases e2
    · have q2 := dropGn_ow q'
      obtain ⟨c, ys, h1, h2, h3, h4, h5, h6⟩ := G.ow j es q2
      exact ⟨c, ys, by rw [List.getElem?_set_ne (Ne.symm z)]; exact h1, h2, h3, h4, h5, fun _ y => O.ns j es q2 (by rw [h1, y])⟩
  · rcases getset q1 with ⟨_, e2⟩ | ⟨z, q1'⟩
    · cases e2
    rcases getset q2 with ⟨_, e2⟩ | ⟨y, q2'⟩
    · cases e2
    rw [List.getElem?_set_ne (Ne.symm z)] at q3
    rw [List.getElem?_set_ne (Ne.symm y)] at q4
    exact G.ap j k es fs b (dropGn_ow q1') (dropGn_ow q2') q3 q4
  · rcases getset q with ⟨z, _⟩ | ⟨_, q'⟩
    · subst z
      have hl : j < s.σ.length := by
        have := (List.getElem?_eq_some_iff.mp q).1
        simpa using this
      exact List.getElem?_set_self (by rw [← G.len]; exact hl)
    · exact (dropGn_gn q').elim
  · cases q
    exact ⟨hx, O.nf, O.nb⟩
@[simp] def mGen (i : Nat) (ge : DX) : DM := fun s => bindS (ge s) fun rv s1 => match rv with
  | .ow ds => (match intsOf ds with | some l => .nx ⟨(s1.σ.map dropGn).set i .gn, some l⟩ | none => .bad)
  | _ => .bad
theorem ds_gen {i : Nat} {x : Str} {e : Expr} {ge : DX} {pos' : Pos} (hB : B.g = none) (hN : X.N.Nodup) (hi : X.N[i]? = some x) (hx : Loc X.env.scope x) (he : DPE X B W e ge) (hs : swapsWith e (some (.Name x pos')) pos.line X.env = pure false := by rfl)
    (hf : X.fn x = true ∨ X.env.scope.names.lookup x = some .local := by first | exact .inl rfl | exact .inr rfl | assumption) : DPS X B W (.Assign [.Name x pos'] e pos) (mGen i ge) :=
  (ps_set hN hi hx he hs hf).con fun D σ H ⟨γ, F, s, G, A⟩ => by
    refine (tD_bindS G A).mono fun x H1 ⟨F1, s1, rv, a1, p1, G1, r1, A1⟩ => ?_
    cases rv with
    | im d => exact A1.elim
    | ow ds =>
      obtain ⟨p, rfl, O⟩ := r1
      dsimp only at A1
      cases e1 : intsOf ds with
      | none => rw [e1] at A1; exact A1.elim
      | some l =>
        rw [e1] at A1
        rw [intsOf_eq e1] at O
        exact A1 p F1 _ H1 a1 (G1.setGen hB O)

/-! ### [e for x in xs if c] -/
def wipeD (l : List Sl) : List Nat → List Sl
  | [] => l
  | v :: vs => (wipeD l vs).set v .un
def unw (out : List Sl) (l : List Sl) : List Nat → List Sl
  | [] => l
  | v :: vs => (unw out l vs).set v (out[v]?.getD .un)
theorem wipe_get (σ : L2.St) : ∀ (vs : List Nat) (j : Nat), (wipe σ vs)[j]? = if j ∈ vs ∧ j < σ.length then some none else σ[j]?
  | [], j => by simp [wipe]
  | v :: vs, j => by
    unfold wipe
    by_cases hv : v = j
    · subst hv
      by_cases hl : v < σ.length
      · rw [List.getElem?_set_self (by rw [wipe_length]; exact hl), if_pos ⟨List.mem_cons_self, hl⟩]
      · rw [List.getElem?_eq_none (by rw [List.length_set, wipe_length]; omega), if_neg (fun z => hl z.2), List.getElem?_eq_none (by omega)]
    · rw [List.getElem?_set_ne hv, wipe_get σ vs j]
      have : (j ∈ v :: vs ∧ j < σ.length) ↔ (j ∈ vs ∧ j < σ.length) := by
        simp only [List.mem_cons]
        exact ⟨fun ⟨a, b⟩ => ⟨a.resolve_left (Ne.symm hv), b⟩, fun ⟨a, b⟩ => ⟨.inr a, b⟩⟩
      simp only [this]
theorem wipe_idem (σ : L2.St) (vs : List Nat) : wipe (wipe σ vs) vs = wipe σ vs := by
  apply List.ext_getElem?
  intro j
  rw [wipe_get (wipe σ vs) vs j, wipe_get σ vs j, wipe_length]
  split <;> rfl
theorem wipe_set (σ : L2.St) {i : Nat} {x : Option V} {vs : List Nat} (h : i ∈ vs) : wipe (σ.set i x) vs = wipe σ vs := by
  apply List.ext_getElem?
  intro j
  rw [wipe_get, wipe_get, List.length_set]
  by_cases hj : j ∈ vs ∧ j < σ.length
  · rw [if_pos hj, if_pos hj]
  · rw [if_neg hj, if_neg hj]
    by_cases e : i = j
    · subst e
      have hl : ¬ i < σ.length := fun z => hj ⟨h, z⟩
      rw [List.getElem?_eq_none (by rw [List.length_set]; omega), List.getElem?_eq_none (by omega)]
    · rw [List.getElem?_set_ne e]
theorem unw_len (out l : List Sl) : ∀ vs : List Nat, (unw out l vs).length = l.length
  | [] => rfl
  | v :: vs => by unfold unw; rw [List.length_set, unw_len out l vs]
theorem unw_get {out l : List Sl} {x : Sl} {j : Nat} : ∀ {vs : List Nat}, (unw out l vs)[j]? = some x → (j ∈ vs ∧ x = out[j]?.getD .un) ∨ (j ∉ vs ∧ l[j]? = some x)
  | [], h => .inr ⟨by simp, h⟩
  | v :: vs, h => by
    unfold unw at h
    rcases getset h with ⟨z, e⟩ | ⟨z, h'⟩
    · subst z
      exact .inl ⟨List.mem_cons_self, e⟩
    · rcases unw_get h' with ⟨h1, h2⟩ | ⟨h1, h2⟩
      · exact .inl ⟨List.mem_cons_of_mem _ h1, h2⟩
      · exact .inr ⟨by simp only [List.mem_cons, not_or]; exact ⟨z, h1⟩, h2⟩
section
variable {K : PySem.W.Frag} {γ : Addr} {F : Hp} {s : Sd} {σ : L2.St} {H : Hp}
theorem Good.un1 (G : Good K B γ F s σ H) (v : Nat) : Good K B γ F ⟨s.σ.set v .un, s.g⟩ (σ.set v none) H := by
  refine ⟨G.sub, G.bs, G.f0, G.fr, by simpa using G.len, fun j d q => ?_, fun j es q => ?_, fun j k es fs b q1 q2 q3 q4 => ?_, fun j q => ?_, G.gg, G.gx, G.tb, G.nt, G.nf⟩
  · rcases getset q with ⟨_, e2⟩ | ⟨z, q'⟩
    · cases e2
    · rw [List.getElem?_set_ne (Ne.symm z)]; exact G.im j d q'
  · rcases getset q with ⟨_, e2⟩ | ⟨z, q'⟩
    · cases e2
    · rw [List.getElem?_set_ne (Ne.symm z)]; exact G.ow j es q'
  · rcases getset q1 with ⟨_, e2⟩ | ⟨z, q1'⟩
    · cases e2
    rcases getset q2 with ⟨_, e2⟩ | ⟨y, q2'⟩
    · cases e2
    rw [List.getElem?_set_ne (Ne.symm z)] at q3
    rw [List.getElem?_set_ne (Ne.symm y)] at q4
    exact G.ap j k es fs b q1' q2' q3 q4
  · rcases getset q with ⟨_, e2⟩ | ⟨z, q'⟩
    · cases e2
    · rw [List.getElem?_set_ne (Ne.symm z)]; exact G.gn j q'
theorem Good.wipe (G : Good K B γ F s σ H) : ∀ vs : List Nat, Good K B γ F ⟨wipeD s.σ vs, s.g⟩ (L2.wipe σ vs) H
  | [] => G
  | v :: vs => by
    unfold wipeD L2.wipe
    exact (Good.wipe G vs).un1 v
def okOut (l : List Sl) (vs : List Nat) : Bool := vs.all fun v => match l[v]? with | some (.ow _) => false | some .gn => false | _ => true
theorem Good.unwipe {F3 : Hp} {s3 : Sd} {H3 : Hp} {vs : List Nat} (G : Good K B γ F s σ H) (a : Sub F F3) (ok : okOut s.σ vs = true) (G3 : Good K B γ F3 s3 (L2.wipe σ vs) H3) : Good K B γ F3 ⟨unw s.σ s3.σ vs, s3.g⟩ σ H3 := by
  have no : ∀ j, j ∈ vs → (s.σ[j]?.getD .un) ≠ .gn ∧ ∀ es, s.σ[j]?.getD .un ≠ .ow es := fun j hj => by
    have := List.all_eq_true.mp ok j hj
    cases e : s.σ[j]? with
    | none => exact ⟨(fun z => by cases z), (fun es z => by cases z)⟩
    | some x =>
      rw [e] at this
      cases x with
      | ow _ => cases this
      | gn => cases this
      | _ => exact ⟨(fun z => by cases z), (fun es z => by cases z)⟩
  have ow : ∀ {j : Nat} {es : List PyData}, (unw s.σ s3.σ vs)[j]? = some (.ow es) → s3.σ[j]? = some (.ow es) := fun {j es} q => by
    rcases unw_get q with ⟨h1, h2⟩ | ⟨_, h2⟩
    · exact absurd h2.symm ((no j h1).2 es)
    · exact h2
  refine ⟨G3.sub, G3.bs, G3.f0, G3.fr, ?_, fun j d q => ?_, fun j es q => ?_, fun j k es fs b q1 q2 q3 q4 => ?_, fun j q => ?_, G3.gg, G3.gx, G3.tb, G3.nt, G3.nf⟩
  · show (unw s.σ s3.σ vs).length = σ.length
    rw [unw_len, G3.len, wipe_length]
  · rcases unw_get q with ⟨h1, h2⟩ | ⟨_, h2⟩
    · have : s.σ[j]? = some (.im d) := by
        cases e : s.σ[j]? with
        | none => rw [e] at h2; cases h2
        | some x => rw [e] at h2; exact congrArg some h2.symm
      obtain ⟨v, h1, h2⟩ := G.im j d this
      exact ⟨v, h1, h2.mono a⟩
    · obtain ⟨v, h1, h2⟩ := G3.im j d h2
      exact ⟨v, (wipe_some h1).1, h2⟩
  · obtain ⟨b, xs, h1, h2⟩ := G3.ow j es (ow q)
    exact ⟨b, xs, (wipe_some h1).1, h2⟩
  · obtain ⟨b1, _, h1, _⟩ := G3.ow j es (ow q1)
    obtain ⟨b2, _, h2, _⟩ := G3.ow k fs (ow q2)
    have e1 := (wipe_some h1).1
    have e2 := (wipe_some h2).1
    rw [q3] at e1
    rw [q4] at e2
    cases e1
    cases e2
    exact G3.ap j k es fs b (ow q1) (ow q2) h1 h2
  · rcases unw_get q with ⟨h1, h2⟩ | ⟨_, h2⟩
    · exact absurd h2.symm (no j h1).1
    · exact (wipe_some (G3.gn j h2)).1
end
/-- the target's names are among vs -/
def Tg.ix : Tg → List Nat
  | .nm i => [i]
  | .tp is => is
def TgOkW (K : PySem.W.Frag) (t : Tg) (g : TG) (vs : List Nat) : Prop := ∀ (B : Bas) (γ : Addr) (F : Hp) (s s' : Sd) (σ : L2.St) (H : Hp) (d : PyData) (v : V) (Q : L2.St → Hp → Prop),
  Good K B γ F s σ H → Rp K F d v → t.put s d = some s' → (∀ σ', L2.wipe σ' vs = L2.wipe σ vs → Good K B γ F s' σ' H → Q σ' H) → g v σ H Q
theorem tw_nm {K : PySem.W.Frag} {i : Nat} {vs : List Nat} (h : i ∈ vs) : TgOkW K (.nm i) (gName i) vs := fun B γ F s s' σ H d v Q G r e k => by
  cases e
  exact k _ (wipe_set σ h) (G.setIm r)
theorem setsV_wipe {vs : List Nat} : ∀ {is : List Nat} {xs : List V} {σ : L2.St}, (∀ i ∈ is, i ∈ vs) → L2.wipe (setsV σ is xs) vs = L2.wipe σ vs
  | [], _, _, _ => by unfold setsV; rfl
  | _ :: _, [], _, _ => by unfold setsV; rfl
  | i :: is, v :: xs, σ, h => by
    unfold setsV
    rw [setsV_wipe (fun j hj => h j (List.mem_cons_of_mem _ hj)), wipe_set σ (h i List.mem_cons_self)]
theorem tw_tp {K : PySem.W.Frag} {n : Nat} {is vs : List Nat} (hn : n = is.length) (hv : ∀ i ∈ is, i ∈ vs) : TgOkW K (.tp is) (gTup K n (gSets is)) vs := fun B γ F s s' σ H d v Q G r e k => by
  cases r with
  | tup h1 h2 =>
    rename_i a xs ds
    replace e : (if ds.length = is.length then some (⟨setsD s.σ is ds, s.g⟩ : Sd) else none) = some s' := e
    by_cases hl : ds.length = is.length
    · rw [if_pos hl] at e
      cases e
      have q : xs.length = is.length := by rw [h2.len]; exact hl
      exact ⟨a, xs, rfl, sqT_mono G.sub h1, by rw [hn]; exact q, q, k _ (setsV_wipe hv) (G.sets h2)⟩
    · rw [if_neg hl] at e
      cases e
  | _ => cases e
/-- one turn's element, and the others -/
def lcE (e : DX) (vs : List Nat) (k : List PyData → Sd → R) (acc : List PyData) (s : Sd) : R := match e s with
  | .ok rv s1 => if acc.length ≤ 1000000 then k (acc ++ [rv.d]) ⟨wipeD (afterV s rv s1).σ vs, s1.g⟩ else .bad
  | _ => .bad
def lcT (c : Option DX) (vs : List Nat) (ke : Sd → R) (kn : Sd → R) (s : Sd) : R := match c with
  | none => ke s
  | some gc => match gc s with
    | .ok (.im (.bool true)) s1 => ke ⟨s.σ, s1.g⟩
    | .ok (.im (.bool false)) s1 => kn ⟨wipeD s.σ vs, s1.g⟩
    | _ => .bad
def lcM (t : Tg) (c : Option DX) (e : DX) (vs : List Nat) (out : List Sl) : List PyData → List PyData → Sd → R
  | [], acc, s => .ok (.ow acc) ⟨unw out s.σ vs, s.g⟩
  | d :: ds, acc, s => match t.put s d with
    | none => .bad
    | some s1 => lcT c vs (fun s2 => lcE e vs (lcM t c e vs out ds) acc s2) (fun s2 => lcM t c e vs out ds acc s2) s1
def xLc (t : Tg) (gi : DX) (c : Option DX) (e : DX) (vs : List Nat) : DX := fun s => match gi s with
  | .ok (.im (.list ds)) s1 => if okOut s1.σ vs = true then lcM t c e vs s1.σ ds [] ⟨wipeD s1.σ vs, s1.g⟩ else .bad
  | .err C d s1 => .err C d s1
  | _ => .bad
def W0 : WX := fun _ _ _ _ => False
abbrev TL := List (Addr × Str)
def tTs (K : PySem.W.Frag) (T : TL) : Option DX → TT
  | none => tYes
  | some gc => tB fun σ H Q => ∃ B : Bas, B.t = T ∧ tD K B W0 gc σ H Q
def tEs (K : PySem.W.Frag) (T : TL) (ge : DX) : TE := fun σ H Q => ∃ B : Bas, B.t = T ∧ tD K B W0 ge σ H Q
def DPTs (X : Cx) (T : TL) (cs : List Expr) (c : Option DX) : Prop := PTs X cs (tTs X.K T c)
theorem dts_nil {T : TL} : DPTs X T [] none := pts_nil
theorem dts_one {T : TL} {gc : DX} (h : ∀ B : Bas, B.t = T → DPT X B W0 c gc) : DPTs X T [c] (some gc) := pts_one ⟨fun pins s σ H Q I q => by
  obtain ⟨B, e, q⟩ := q
  exact (h B e).run pins s σ H Q I q⟩
theorem put_g {t : Tg} {s s2 : Sd} {d : PyData} (h : t.put s d = some s2) : s2.g = s.g := by
  cases t with
  | nm i => cases h; rfl
  | tp is =>
    cases d with
    | tuple ds =>
      have e : (if ds.length = is.length then some (⟨setsD s.σ is ds, s.g⟩ : Sd) else none) = some s2 := h
      split at e
      · cases e; rfl
      · cases e
    | _ => cases h
theorem Good.updOut {K : PySem.W.Frag} {γ a : Addr} {F : Hp} {s : Sd} {σ : L2.St} {H : Hp} {o : HO} (G : Good K B γ F s σ H) (hb : B.b a = none) (hF : F a = none) (hg : s.g.isSome = true → a ≠ γ) (hn : ∀ (i : Nat) (es : List PyData), s.σ[i]? = some (.ow es) → σ[i]? ≠ some (some (.ref a))) (hT : LamX.Tabs B.t (upd H a o)) :
    Good K B γ F s σ (upd H a o) := by
  refine ⟨fun c u q => ?_, fun c u q => ?_, G.f0, G.fr, G.len, G.im, fun j es q => ?_, G.ap, G.gn, fun l q => ?_, G.gx, hT, G.nt, G.nf⟩
  · rw [upd_ne (ne_of_none q hF)]; exact G.sub c u q
  · rw [upd_ne (ne_of_none q hb)]; exact G.bs c u q
  · obtain ⟨c, ys, h1, h2, h3⟩ := G.ow j es q
    have hc : c ≠ a := fun y => hn j es q (by rw [h1, y])
    exact ⟨c, ys, h1, by rw [upd_ne hc]; exact h2, h3⟩
  · obtain ⟨h1, h2, h3⟩ := G.gg l q
    have hc : γ ≠ a := (hg (by rw [q]; rfl)).symm
    exact ⟨by rw [upd_ne hc]; exact h1, h2, h3⟩
theorem lc_con {t : Tg} {wi : DX} {gt : TG} {gc : Option DX} {ge : DX} {vs : List Nat} {σ : L2.St} {H : Hp} {Q : VK} (ht : TgOkW X.K t gt vs) (q : tD X.K B W (xLc t wi gc ge vs) σ H Q) :
    tLc (tI X.K B W wi) gt (tTs X.K B.t gc) (tEs X.K B.t ge) vs σ H Q := by
  obtain ⟨γ, F, s, G, A⟩ := q
  refine ⟨γ, F, s, G, ?_⟩
  unfold xLc at A
  cases ei : wi s with
  | bad => rw [ei] at A; exact A.elim
  | err C d s1 => rw [ei] at A; exact A
  | ok rv s1 =>
    rw [ei] at A
    cases rv with
    | ow _ => exact A.elim
    | im dl =>
      cases dl with
      | list ds =>
        dsimp only at A
        by_cases ok : okOut s1.σ vs = true
        · rw [if_pos ok] at A
          intro F1 H1 J a1 p1 G1 it D hD
          have hFD : F1 D = none := by
            cases e : F1 D with
            | none => rfl
            | some u => rw [G1.sub D u e] at hD; cases hD
          obtain ⟨G1', O1⟩ := G1.laidOwn (ds := []) hD .nil
          have hbD : B.b D = none := O1.nb
          have hfD : B.f D = none := O1.f0 G1'
          refine ⟨fun i m H => m = ds.length - i ∧ i ≤ ds.length ∧ ∃ F s acc xs, Sub F1 F ∧ Good X.K (B.keep D (.lst xs)) γ F s (L2.wipe σ vs) H ∧ RpL X.K F acc xs ∧ Pr γ s1 s H1 H ∧ After X.K B W γ F1 s1 σ H1 (lcM t gc ge vs s1.σ (ds.drop i) acc s) Q,
            ⟨_, rfl, Nat.zero_le _, F1, ⟨wipeD s1.σ vs, s1.g⟩, [], [], .rfl, (G1'.keep O1 upd_same).wipe vs, .nil, .of (sub_upd hD) rfl, A.on a1 p1⟩, ?_⟩
          rintro i m H ⟨rfl, hi, F, s, acc, xs, a, G, ra, P, A⟩
          obtain ⟨go, stop⟩ := it i H (a.tr G.sub)
          cases hd : ds[i]? with
          | none =>
            have hl : ds.length ≤ i := List.getElem?_eq_none_iff.mp hd
            rw [List.drop_eq_nil_of_le hl] at A
            refine .inl ⟨stop hl, ?_⟩
            obtain ⟨G2, h2, h3, h4, h5⟩ := G.unkeep hbD hfD
            have G3 := Good.unwipe G1 a ok G2
            refine A F H (.ref D) a ⟨P.pr, P.gs⟩ G3 ⟨D, rfl, ⟨xs, h2, ra⟩, h3, hbD, h4, fun j es q z => ?_⟩
            obtain ⟨b, ys, k1, _⟩ := G3.ow j es q
            rw [z] at k1
            cases k1
            rcases unw_get q with ⟨e1, e2⟩ | ⟨e1, e2⟩
            · have := List.all_eq_true.mp ok j e1
              cases e : s1.σ[j]? with
              | none => rw [e] at e2; cases e2
              | some x =>
                rw [e] at e2 this
                rw [← show Sl.ow es = x from e2] at this
                cases this
            · refine h5 j es e2 ?_
              rw [wipe_get, if_neg (fun y => e1 y.1)]
              exact z
          | some d =>
            obtain ⟨hlt, hd'⟩ := List.getElem?_eq_some_iff.mp hd
            have ed : ds.drop i = d :: ds.drop (i + 1) := by rw [List.drop_eq_getElem_cons hlt, hd']
            rw [ed] at A
            unfold lcM at A
            obtain ⟨g1, yl⟩ := go d hd
            refine .inr ⟨g1, fun H => ∃ F s acc xs, Sub F1 F ∧ Good X.K (B.keep D (.lst xs)) γ F s (L2.wipe σ vs) H ∧ RpL X.K F acc xs ∧ Pr γ s1 s H1 H ∧ After X.K B W γ F1 s1 σ H1 (lcM t gc ge vs s1.σ (ds.drop (i + 1)) acc s) Q, fun H' q => ⟨ds.length - (i + 1), by omega, rfl, hlt, q⟩, fun x H' y => ?_⟩
            cases hput : t.put s d with
            | none => rw [hput] at A; exact A.elim
            | some s2 =>
              rw [hput] at A
              dsimp only at A
              have hg2 : s2.g = s.g := put_g hput
              have elt : ∀ {F3 : Hp} {s3 : Sd} {σ3 : L2.St} {H3 : Hp}, Sub F1 F3 → L2.wipe σ3 vs = L2.wipe σ vs → Good X.K (B.keep D (.lst xs)) γ F3 s3 σ3 H3 → RpL X.K F3 acc xs → Pr γ s1 s3 H1 H3 → After X.K B W γ F1 s1 σ H1 (lcE ge vs (lcM t gc ge vs s1.σ (ds.drop (i + 1))) acc s3) Q →
                  (∃ B2 : Bas, B2.t = B.t ∧ tD X.K B2 W0 ge σ3 H3 fun y H4 => ∃ acc, H4 D = some (.lst acc) ∧ acc.length < sizeLine ∧ ∃ F s acc2 xs, Sub F1 F ∧ Good X.K (B.keep D (.lst xs)) γ F s (L2.wipe σ vs) (upd H4 D (.lst (acc ++ [y]))) ∧ RpL X.K F acc2 xs ∧ Pr γ s1 s H1 (upd H4 D (.lst (acc ++ [y]))) ∧ After X.K B W γ F1 s1 σ H1 (lcM t gc ge vs s1.σ (ds.drop (i + 1)) acc2 s) Q) := fun {F3 s3 σ3 H3} a3 ew G3 r3 P3 A3 => by
                refine ⟨B.keep D (.lst xs), rfl, γ, F3, s3, G3, ?_⟩
                unfold lcE at A3
                cases ee : ge s3 with
                | bad => rw [ee] at A3; exact A3.elim
                | err C d s4 => rw [ee] at A3; exact A3.elim
                | ok rv s4 =>
                  rw [ee] at A3
                  intro F4 H4 y a4 p4 G4 r4
                  obtain ⟨F5, a5, G5, r5⟩ := G3.val (W := W) a4 p4 G4 r4
                  dsimp only at A3
                  split at A3
                  · rename_i hl
                    obtain ⟨G6, h6, h7, h8, h9⟩ := G5.unkeep hbD hfD
                    have rr := (r3.mono a5).app (.cons r5 .nil)
                    refine ⟨xs, h6, by rw [r3.len]; exact Nat.lt_of_le_of_lt hl (by decide), F5, ⟨wipeD (afterV s3 rv s4).σ vs, s4.g⟩, acc ++ [rv.d], xs ++ [y], a3.tr a5, ?_, rr, ?_, A3⟩
                    · have G7 := G6.updOut (o := .lst (xs ++ [y])) hbD h7 h8 h9 (G6.tb.lst h6)
                      have O : Own X.K B γ F5 (afterV s3 rv s4) σ3 (upd H4 D (.lst (xs ++ [y]))) D (acc ++ [rv.d]) := ⟨⟨_, upd_same, rr⟩, h7, hbD, h8, h9⟩
                      have G8 := (G7.keep O upd_same).wipe vs
                      rw [ew, afterV_g] at G8
                      exact G8
                    · exact ⟨fun c o q t n => by rw [upd_ne (ne_of_none q hD)]; exact (P3.tr p4).pr c o q t n, (P3.tr p4).gs⟩
                  · exact A3.elim
              have body : ∀ {F' : Hp} {σ' : L2.St} {H' : Hp}, Sub F F' → L2.wipe σ' vs = L2.wipe σ vs → Good X.K (B.keep D (.lst xs)) γ F' s2 σ' H' → Pr γ s1 s2 H1 H' → tTs X.K B.t gc σ' H' fun b H3 =>
                  if b = true then (∃ B2 : Bas, B2.t = B.t ∧ tD X.K B2 W0 ge σ' H3 fun y H4 => ∃ acc, H4 D = some (.lst acc) ∧ acc.length < sizeLine ∧ ∃ F s acc2 xs, Sub F1 F ∧ Good X.K (B.keep D (.lst xs)) γ F s (L2.wipe σ vs) (upd H4 D (.lst (acc ++ [y]))) ∧ RpL X.K F acc2 xs ∧ Pr γ s1 s H1 (upd H4 D (.lst (acc ++ [y]))) ∧ After X.K B W γ F1 s1 σ H1 (lcM t gc ge vs s1.σ (ds.drop (i + 1)) acc2 s) Q)
                  else ∃ F s acc xs, Sub F1 F ∧ Good X.K (B.keep D (.lst xs)) γ F s (L2.wipe σ vs) H3 ∧ RpL X.K F acc xs ∧ Pr γ s1 s H1 H3 ∧ After X.K B W γ F1 s1 σ H1 (lcM t gc ge vs s1.σ (ds.drop (i + 1)) acc s) Q := fun {F' σ' H'} a' ew G' P' => by
                cases gc with
                | none =>
                  dsimp only [tTs, tYes]
                  rw [if_pos rfl]
                  exact elt (a.tr a') ew G' (ra.mono a') P' A
                | some c =>
                  refine ⟨B.keep D (.lst xs), rfl, γ, F', s2, G', ?_⟩
                  unfold lcT at A
                  dsimp only at A
                  cases ec : c s2 with
                  | bad => rw [ec] at A; exact A.elim
                  | err C d s4 => rw [ec] at A; exact A.elim
                  | ok rv s4 =>
                    rw [ec] at A
                    intro F5 H5 v a5 p5 G5 r5
                    have G6 := G'.thaw a5 p5 G5
                    have P6 : Pr γ s1 ⟨s2.σ, s4.g⟩ H1 H5 := ⟨(P'.tr p5).pr, (P'.tr p5).gs⟩
                    cases rv with
                    | ow _ => exact A.elim
                    | im d =>
                      cases d with
                      | bool k =>
                        cases (show Rp X.K F5 (.bool k) v from r5)
                        cases k with
                        | true => exact ⟨true, rfl, iteT (elt (a.tr a') ew G6 (ra.mono a') P6 A)⟩
                        | false =>
                          refine ⟨false, rfl, iteF ⟨F', ⟨wipeD s2.σ vs, s4.g⟩, acc, xs, a.tr a', ?_, ra.mono a', ⟨P6.pr, P6.gs⟩, A⟩⟩
                          have G7 := G6.wipe vs
                          rw [ew] at G7
                          exact G7
                      | _ => exact A.elim
              rcases yl x H' y with ⟨eH, r⟩ | ⟨p, es, xs', hp, eH, ex, ed', r⟩
              · subst eH
                exact ht _ γ F s s2 (L2.wipe σ vs) _ d x _ G (r.mono a) hput fun σ' ew G' => ⟨ew.trans (wipe_idem σ vs), body .rfl (ew.trans (wipe_idem σ vs)) G' ⟨P.pr, by rw [hg2]; exact P.gs⟩⟩
              · subst eH; subst ex; subst ed'
                obtain ⟨sF, G2⟩ := G.laid (o := .tup xs') hp
                refine ht _ γ _ s s2 (L2.wipe σ vs) _ _ _ _ G2 (.tup (SqT.of upd_same) ((r.mono a).mono sF)) hput fun σ' ew G' => ⟨ew.trans (wipe_idem σ vs), body sF (ew.trans (wipe_idem σ vs)) G' ?_⟩
                exact ⟨fun c o q t n => sub_upd hp c o (P.pr c o q t n), by rw [hg2]; exact P.gs⟩
        · rw [if_neg ok] at A
          exact A.elim
      | _ => exact A.elim
/-- as a value -/
theorem de_lc {elt tg iter : Expr} {ifs : List Expr} {scope : Scope} {own : List (Str × Nat)} {t : Tg} {gi : DX} {gt : TG} {gc : Option DX} {ge : DX} (hc : X.calm = true) (hN : X.N.Nodup) (hi : DPI X B W tg iter gi) (ok : BlkOk X.N X.env.scope scope own) (ht : TgOkW X.K t gt (own.map (·.2)))
    (hg : ∀ (s : Shared) (H : Hp) (C : Addr) (cl : List (Str × Addr)) (fp : List Addr), PG (X.blk s H scope (compEnvC scope cl C X.env) fp) tg gt) (hts : ∀ (s : Shared) (H : Hp) (C : Addr) (cl : List (Str × Addr)) (fp : List Addr), DPTs (X.blk s H scope (compEnvC scope cl C X.env) fp) B.t ifs gc)
    (he : ∀ (s : Shared) (H : Hp) (C : Addr) (cl : List (Str × Addr)) (fp : List Addr) (B' : Bas), B'.t = B.t → DPE (X.blk s H scope (compEnvC scope cl C X.env) fp) B' W0 elt ge) (hs : ∀ x, foldedSetIterable iter X.env x = pure x := by intro _; rfl) :
    DPE X B W (.ListComp elt [⟨tg, iter, ifs, 0⟩] scope pos) (xLc t gi gc ge (own.map (·.2))) :=
  (pe_lc (tt := tTs X.K B.t gc) (te := tEs X.K B.t ge) hc hN hi ok hg hts (fun s H0 C cl fp => ⟨fun pins s' σ H Q I q => let ⟨B', e, q⟩ := q; (he s H0 C cl fp B' e).run pins s' σ H Q I q⟩) hs).con fun σ H Q q => lc_con ht q
theorem ds_setLc {i : Nat} {y : Str} {py : Pos} {elt tg iter : Expr} {ifs : List Expr} {scope : Scope} {own : List (Str × Nat)} {spos : Pos} {t : Tg} {gi : DX} {gt : TG} {gc : Option DX} {ge : DX} (hc : X.calm = true) (hN : X.N.Nodup) (hy : X.N[i]? = some y) (hyl : X.env.scope.names.lookup y = some .local)
    (hi : DPI X B W tg iter gi) (ok : BlkOk X.N X.env.scope scope own) (ht : TgOkW X.K t gt (own.map (·.2)))
    (hg : ∀ (s : Shared) (H : Hp) (C : Addr) (cl : List (Str × Addr)) (fp : List Addr), PG (X.blk s H scope (compEnvC scope cl C X.env) fp) tg gt) (hts : ∀ (s : Shared) (H : Hp) (C : Addr) (cl : List (Str × Addr)) (fp : List Addr), DPTs (X.blk s H scope (compEnvC scope cl C X.env) fp) B.t ifs gc)
    (he : ∀ (s : Shared) (H : Hp) (C : Addr) (cl : List (Str × Addr)) (fp : List Addr) (B' : Bas), B'.t = B.t → DPE (X.blk s H scope (compEnvC scope cl C X.env) fp) B' W0 elt ge)
    (hsw : swapsWith (.ListComp elt [⟨tg, iter, ifs, 0⟩] scope pos) (some (.Name y py)) spos.line X.env = pure true := by rfl) (hs : ∀ x, foldedSetIterable iter X.env x = pure x := by intro _; rfl) :
    DPS X B W (.Assign [.Name y py] (.ListComp elt [⟨tg, iter, ifs, 0⟩] scope pos) spos) (mSet i (xLc t gi gc ge (own.map (·.2)))) :=
  (ps_setLc (tt := tTs X.K B.t gc) (te := tEs X.K B.t ge) hc hN hy hyl hsw hi ok hg hts (fun s H0 C cl fp => ⟨fun pins s' σ H Q I q => let ⟨B', e, q⟩ := q; (he s H0 C cl fp B' e).run pins s' σ H Q I q⟩) hs).con fun D σ H q => lc_con ht (set_con q)
end
end DL

set_option Elab.async false
set_option linter.all false
set_option autoImplicit false
set_option maxRecDepth 100000
/-! DL9: built-in functions and methods. -/
namespace DL
open PySem PyProof.Rows L2

/-! ### types -/
inductive Ty where
  | none | bool | int | str | list | tuple | dict
  deriving DecidableEq
def Ty.nm : Ty → String
  | .none => "NoneType" | .bool => "bool" | .int => "int" | .str => "str" | .list => "list" | .tuple => "tuple" | .dict => "dict"
@[simp] def tyD : PyData → Ty
  | .none => .none | .bool _ => .bool | .int _ => .int | .str _ => .str | .list _ => .list | .tuple _ => .tuple | .dict _ => .dict
@[simp] def isTy (t T : Ty) : Bool := match t, T with
  | .bool, .int => true
  | .none, .none => true | .bool, .bool => true | .int, .int => true | .str, .str => true | .list, .list => true | .tuple, .tuple => true | .dict, .dict => true
  | _, _ => false
theorem kit_ty (K : PySem.W.Frag) (t T : Ty) : PySem.W.kitOne K (.type t.nm) (.type T.nm) = some (isTy t T) := by
  cases t <;> cases T <;> rfl
theorem kit_any2 (K : PySem.W.Frag) (t T U : Ty) : PySem.W.kitAny K (.type t.nm) [.type T.nm, .type U.nm] = some (isTy t T || isTy t U) := by
  unfold PySem.W.kitAny
  rw [kit_ty]
  cases h : isTy t T with
  | true => rfl
  | false =>
    unfold PySem.W.kitAny
    dsimp only
    rw [kit_ty]
    cases h2 : isTy t U <;> rfl
@[simp] def isExc : PyData → Bool
  | .dict (_ :: _) => true
  | _ => false
theorem Rp.ty {K : PySem.W.Frag} {H : Hp} {d : PyData} {v : V} (r : Rp K H d v) (ne : isExc d = false) : L2.TyX K H v (.type (tyD d).nm) := by
  cases r with
  | non => exact .base .non
  | bl b => exact .base (.bl b)
  | int i => exact .base (.int i)
  | str x => exact .base (.str x)
  | lst h q =>
    rcases h with h | ⟨o, h⟩
    · exact .base (.lst h)
    · exact .base (.frz h)
  | tup h q =>
    rcases h with (h | ⟨o, h⟩) | ⟨o, its, n, h, c, _⟩
    · exact .base (.tup h)
    · exact .fTuple h
    · exact .kTuple h c
  | dic h => exact .base (.dK h)
  | exc _ _ _ => cases ne
  | fn => cases ne
section
variable {X : Cx} {B : Bas} {W : WX} {e a b c : Expr} {es : List Expr} {pos : Pos} {ga gb gc g : DX}
@[simp] def xIsi (f : Ty → Bool) (g : DX) : DX := fun s => bindD (g s) fun d s1 => if isExc d = true then .bad else .ok (.im (.bool (f (tyD d)))) s1
theorem pe_ty {x : Str} {T : String} {p : Pos} (hg : Gl X x) (hm : X.mg x = none) (hv : bootBuiltins x = some (.type T)) (hn : x ≠ "__name__" := by decide) (hd : (x == ("__debug__" : Str)) = false := by decide) : PE X (.Name x p) (tC (.ty T)) :=
  pe_bltn (v := .ty T) hg hm hv rfl hn hd
/-- isinstance(a, T) -/
theorem de_isi {T : Ty} {x : Str} {p p2 : Pos} (ha : DPE X B W a ga) (hg : Gl X "isinstance") (hm : X.mg "isinstance" = none) (hT : PE X (.Name x p2) (tC (.ty T.nm)))
    (he : starEach [a, .Name x p2] X.env = (false, eval a X.env) :: starEach [.Name x p2] X.env := by rfl) (he2 : starEach [.Name x p2] X.env = (false, eval (.Name x p2) X.env) :: starEach [] X.env := by rfl)
    (hpl : (backTo pos (starEach [.Name x p2] X.env)).any (·.1) = false := by rfl) : DPE X B W (.Call (.Name "isinstance" p) [a, .Name x p2] [] pos) (xIsi (fun t => isTy t T) ga) :=
  (pe_callB call_isi hg hm rfl (pa_cons ha (pa_cons hT pa_nil he2) he) (by decide) (by decide) he hpl).con fun σ H Q ⟨γ, F, s, G, A⟩ =>
    (tD_bind G A).mono fun x H1 ⟨F1, s1, d, a1, p1, G1, r1, A1⟩ => by
      dsimp only at A1
      cases ne : isExc d with
      | true => rw [if_pos ne] at A1; exact A1.elim
      | false =>
        rw [if_neg (by rw [ne]; exact Bool.false_ne_true)] at A1
        exact ⟨x, .ty T.nm, _, _, _, rfl, .ty _, (r1.mono G1.sub).ty ne, kit_ty X.K _ _, A1.same G1 (.bl _)⟩
/-- isinstance(a, (T, U)) -/
theorem de_isi2 {T U : Ty} {x y : Str} {p p2 p3 p4 : Pos} {kt : Nat} (ha : DPE X B W a ga) (hg : Gl X "isinstance") (hm : X.mg "isinstance" = none) (hT : PE X (.Name x p2) (tC (.ty T.nm))) (hU : PE X (.Name y p3) (tC (.ty U.nm)))
    (he : starEach [a, .Tuple [.Name x p2, .Name y p3] kt p4] X.env = (false, eval a X.env) :: starEach [.Tuple [.Name x p2, .Name y p3] kt p4] X.env := by rfl)
    (he2 : starEach [.Tuple [.Name x p2, .Name y p3] kt p4] X.env = (false, eval (.Tuple [.Name x p2, .Name y p3] kt p4) X.env) :: starEach [] X.env := by rfl)
    (he3 : starEach [.Name x p2, .Name y p3] X.env = (false, eval (.Name x p2) X.env) :: starEach [.Name y p3] X.env := by rfl) (he4 : starEach [.Name y p3] X.env = (false, eval (.Name y p3) X.env) :: starEach [] X.env := by rfl)
    (hpl : (backTo pos (starEach [.Tuple [.Name x p2, .Name y p3] kt p4] X.env)).any (·.1) = false := by rfl) : DPE X B W (.Call (.Name "isinstance" p) [a, .Tuple [.Name x p2, .Name y p3] kt p4] [] pos) (xIsi (fun t => isTy t T || isTy t U) ga) :=
  (pe_callB call_isiT hg hm rfl (pa_cons ha (pa_cons (pe_tup (pa_cons hT (pa_cons hU pa_nil he4) he3)) pa_nil he2) he) (by decide) (by decide) he hpl).con fun σ H Q ⟨γ, F, s, G, A⟩ =>
    (tD_bind G A).mono fun x H1 ⟨F1, s1, d, a1, p1, G1, r1, A1⟩ => by
     dsimp only at A1
     cases ne : isExc d with
     | true => rw [if_pos ne] at A1; exact A1.elim
     | false =>
      rw [if_neg (by rw [ne]; exact Bool.false_ne_true)] at A1
      refine ⟨by show 2 ≤ sizeLine; decide, fun tp hp => ?_⟩
      obtain ⟨sF, G2⟩ := G1.laid (o := .tup [.ty T.nm, .ty U.nm]) hp
      exact ⟨x, tp, [.ty T.nm, .ty U.nm], _, _, _, rfl, upd_same, .cons (.ty _) (.cons (.ty _) .nil), (r1.mono (sF.tr G2.sub)).ty ne, kit_any2 X.K _ _ _, A1 _ _ _ sF (.of (sub_upd hp) rfl) G2 (.bl _)⟩

/-! ### functions of data -/
theorem OpN.or {K : PySem.W.Frag} {h h' : List PyData → Option Rv} {r r' : List V → Hp → VK → Prop} (o : OpN K h r) (o' : OpN K h' r') : OpN K (fun ds => (h ds).or (h' ds)) (fun xs H Q => r xs H Q ∨ r' xs H Q) :=
  fun B W γ F s σ H xs ds rv Q G r1 he A => by
    dsimp only at he
    cases q : h ds with
    | some rv' =>
      rw [q] at he
      cases he
      exact .inl (o B W γ F s σ H xs ds _ Q G r1 q A)
    | none =>
      rw [q] at he
      exact .inr (o' B W γ F s σ H xs ds rv Q G r1 he A)
@[simp] def hLen : List PyData → Option Rv
  | [.list ds] => some (.im (.int ds.length))
  | [.tuple ds] => some (.im (.int ds.length))
  | [.str z] => if z.length ≤ 1000000 then some (.im (.int z.length)) else none
  | _ => none
theorem o_len {K : PySem.W.Frag} : OpN K hLen (fun xs H Q => (∃ p ys, xs = [.ref p] ∧ (SqL K H p ys ∨ SqT K H p ys) ∧ Q (.int ys.length) H) ∨ (∃ z, xs = [.str z] ∧ z.length ≤ sizeLine ∧ Q (.int z.length) H)) :=
  fun B W γ F s σ H xs ds rv Q G r he A => by
    unfold hLen at he
    split at he
    · cases he
      match r with
      | .cons (.lst h q) .nil => exact .inl ⟨_, _, rfl, .inl (.inl (rd_mono G.sub h)), by rw [q.len]; exact A.same G (.int _)⟩
    · cases he
      match r with
      | .cons (.tup h q) .nil => exact .inl ⟨_, _, rfl, .inr (sqT_mono G.sub h), by rw [q.len]; exact A.same G (.int _)⟩
    · rename_i z
      split at he
      · rename_i hz
        cases he
        match r with
        | .cons (.str _) .nil => exact .inr ⟨z, rfl, line_of hz, A.same G (.int _)⟩
      · cases he
    · cases he
def hAbs : List PyData → Option Rv
  | [.int i] => some (.im (.int (if i < 0 then -i else i)))
  | _ => none
theorem o_abs {K : PySem.W.Frag} : OpN K hAbs (fun xs H Q => ∃ i, xs = [.int i] ∧ Q (.int (if i < 0 then -i else i)) H) :=
  fun B W γ F s σ H xs ds rv Q G r he A => by
    unfold hAbs at he
    split at he
    · cases he
      match r with
      | .cons (.int i) .nil => exact ⟨i, rfl, A.same G (.int _)⟩
    · cases he
def hInt : List PyData → Option Rv
  | [.int i] => some (.im (.int i))
  | [.bool k] => some (.im (.int (if k then 1 else 0)))
  | _ => none
theorem o_int1 {K : PySem.W.Frag} : OpN K hInt (fun xs H Q => (∃ i, xs = [.int i] ∧ Q (.int i) H) ∨ ∃ k, xs = [.bl k] ∧ Q (.int (if k then 1 else 0)) H) :=
  fun B W γ F s σ H xs ds rv Q G r he A => by
    unfold hInt at he
    split at he
    · cases he
      match r with
      | .cons (.int i) .nil => exact .inl ⟨i, rfl, A.same G (.int _)⟩
    · cases he
      match r with
      | .cons (.bl i) .nil => exact .inr ⟨i, rfl, A.same G (.int _)⟩
    · cases he
def hNum2 (f : Int → Int → Int) : List PyData → Option Rv
  | [.int i, .int j] => some (.im (.int (f i j)))
  | _ => none
theorem o_num2 {K : PySem.W.Frag} (f : Int → Int → Int) : OpN K (hNum2 f) (fun xs H Q => ∃ i j, xs = [.int i, .int j] ∧ Q (.int (f i j)) H) :=
  fun B W γ F s σ H xs ds rv Q G r he A => by
    unfold hNum2 at he
    split at he
    · cases he
      match r with
      | .cons (.int i) (.cons (.int j) .nil) => exact ⟨i, j, rfl, A.same G (.int _)⟩
    · cases he
abbrev hMax2 := hNum2 fun i j => if j > i then j else i
abbrev hMin2 := hNum2 fun i j => if j < i then j else i
abbrev hGcd := hNum2 fun a b => ((Nat.gcd a.natAbs b.natAbs : Nat) : Int)
def hSum : List PyData → Option Rv
  | [.list ds] => (intsOf ds).map fun l => .im (.int l.sum)
  | _ => none
theorem o_sum {K : PySem.W.Frag} : OpN K hSum (rSum K) := fun B W γ F s σ H xs ds rv Q G r he A => by
  unfold hSum at he
  split at he
  · rename_i ds
    cases e : intsOf ds with
    | none => rw [e] at he; cases he
    | some l =>
      rw [e] at he
      cases he
      match r with
      | .cons (.lst h q) .nil =>
        rw [intsOf_eq e] at q
        rw [q.ofInts] at h
        exact ⟨_, l, rfl, .inl (rd_mono G.sub h), A.same G (.int _)⟩
  · cases he
def maxI : Int → List Int → Int
  | m, [] => m
  | m, n :: l => maxI (if m < n then n else m) l
def minI : Int → List Int → Int
  | m, [] => m
  | m, n :: l => minI (if n < m then n else m) l
theorem maxI_mem : ∀ (l : List Int) (m : Int), (maxI m l = m ∨ maxI m l ∈ l) ∧ m ≤ maxI m l ∧ ∀ y ∈ l, y ≤ maxI m l
  | [], m => ⟨.inl rfl, Int.le_refl _, fun y h => by cases h⟩
  | n :: l, m => by
    obtain ⟨h1, h2, h3⟩ := maxI_mem l (if m < n then n else m)
    unfold maxI
    have key : (if m < n then n else m) = n ∨ (if m < n then n else m) = m := by split <;> simp
    have k1 : m ≤ (if m < n then n else m) := by split <;> omega
    have k2 : n ≤ (if m < n then n else m) := by split <;> omega
    refine ⟨?_, by omega, fun y hy => ?_⟩
    · rcases h1 with h1 | h1
      · rw [h1]
        rcases key with k | k
        · rw [k]; exact .inr List.mem_cons_self
        · rw [k]; exact .inl rfl
      · exact .inr (List.mem_cons_of_mem _ h1)
    · rcases List.mem_cons.mp hy with rfl | hy
      · omega
      · exact h3 y hy
theorem minI_mem : ∀ (l : List Int) (m : Int), (minI m l = m ∨ minI m l ∈ l) ∧ minI m l ≤ m ∧ ∀ y ∈ l, minI m l ≤ y
  | [], m => ⟨.inl rfl, Int.le_refl _, fun y h => by cases h⟩
  | n :: l, m => by
    obtain ⟨h1, h2, h3⟩ := minI_mem l (if n < m then n else m)
    unfold minI
    have key : (if n < m then n else m) = n ∨ (if n < m then n else m) = m := by split <;> simp
    have k1 : (if n < m then n else m) ≤ m := by split <;> omega
    have k2 : (if n < m then n else m) ≤ n := by split <;> omega
    refine ⟨?_, by omega, fun y hy => ?_⟩
    · rcases h1 with h1 | h1
      · rw [h1]
        rcases key with k | k
        · rw [k]; exact .inr List.mem_cons_self
        · rw [k]; exact .inl rfl
      · exact .inr (List.mem_cons_of_mem _ h1)
    · rcases List.mem_cons.mp hy with rfl | hy
      · omega
      · exact h3 y hy
def hMaxL : List PyData → Option Rv
  | [.list ds] => match intsOf ds with | some (n :: l) => some (.im (.int (maxI n l))) | _ => none
  | _ => none
def hMinL : List PyData → Option Rv
  | [.list ds] => match intsOf ds with | some (n :: l) => some (.im (.int (minI n l))) | _ => none
  | _ => none
theorem o_maxL {K : PySem.W.Frag} : OpN K hMaxL (rMax K) := fun B W γ F s σ H xs ds rv Q G r he A => by
  unfold hMaxL at he
  split at he
  · rename_i ds
    split at he
    · rename_i n l e
      cases he
      match r with
      | .cons (.lst h q) .nil =>
        rw [intsOf_eq e] at q
        rw [q.ofInts] at h
        refine ⟨_, n :: l, rfl, .inl (rd_mono G.sub h), Nat.succ_pos _, fun m hm hb => ?_⟩
        obtain ⟨h1, h2, h3⟩ := maxI_mem l n
        have em : m = maxI n l := by
          refine Int.le_antisymm ?_ (hb _ ?_)
          · rcases List.mem_cons.mp hm with rfl | hm
            · exact h2
            · exact h3 m hm
          · rcases h1 with h1 | h1
            · rw [h1]; exact List.mem_cons_self
            · exact List.mem_cons_of_mem _ h1
        rw [em]
        exact A.same G (.int _)
    · cases he
  · cases he
theorem o_minL {K : PySem.W.Frag} : OpN K hMinL (rMin K) := fun B W γ F s σ H xs ds rv Q G r he A => by
  unfold hMinL at he
  split at he
  · rename_i ds
    split at he
    · rename_i n l e
      cases he
      match r with
      | .cons (.lst h q) .nil =>
        rw [intsOf_eq e] at q
        rw [q.ofInts] at h
        refine ⟨_, n :: l, rfl, .inl (rd_mono G.sub h), Nat.succ_pos _, fun m hm hb => ?_⟩
        obtain ⟨h1, h2, h3⟩ := minI_mem l n
        have em : m = minI n l := by
          refine Int.le_antisymm (hb _ ?_) ?_
          · rcases h1 with h1 | h1
            · rw [h1]; exact List.mem_cons_self
            · exact List.mem_cons_of_mem _ h1
          · rcases List.mem_cons.mp hm with rfl | hm
            · exact h2
            · exact h3 m hm
        rw [em]
        exact A.same G (.int _)
    · cases he
  · cases he
def hTup1 : List PyData → Option Rv
  | [.list ds] => some (.im (.tuple ds))
  | [.tuple ds] => some (.im (.tuple ds))
  | _ => none
theorem o_tup1 {K : PySem.W.Frag} : OpN K hTup1 (fun xs H Q => ∃ p ys, xs = [.ref p] ∧ ((SqL K H p ys ∧ ∀ l, H l = none → Q (.ref l) (upd H l (.tup ys))) ∨ (SqT K H p ys ∧ Q (.ref p) H))) :=
  fun B W γ F s σ H xs ds rv Q G r he A => by
    unfold hTup1 at he
    split at he
    · cases he
      match r with
      | .cons (.lst h q) .nil => exact ⟨_, _, rfl, .inl ⟨.inl (rd_mono G.sub h), fun l hl => A.newT G q hl⟩⟩
    · cases he
      match r with
      | .cons (.tup h q) .nil => exact ⟨_, _, rfl, .inr ⟨sqT_mono G.sub h, A.same G (.tup h q)⟩⟩
    · cases he
def hLst1 : List PyData → Option Rv
  | [.list ds] => some (.ow ds)
  | [.tuple ds] => some (.ow ds)
  | _ => none
theorem o_lst1 {K : PySem.W.Frag} : OpN K hLst1 (fun xs H Q => ∃ p ys, xs = [.ref p] ∧ (SqL K H p ys ∨ SqT K H p ys) ∧ ∀ l, H l = none → Q (.ref l) (upd H l (.lst ys))) :=
  fun B W γ F s σ H xs ds rv Q G r he A => by
    unfold hLst1 at he
    split at he
    · cases he
      match r with
      | .cons (.lst h q) .nil => exact ⟨_, _, rfl, .inl (.inl (rd_mono G.sub h)), fun l hl => A.newL G q hl⟩
    · cases he
      match r with
      | .cons (.tup h q) .nil => exact ⟨_, _, rfl, .inr (sqT_mono G.sub h), fun l hl => A.newL G q hl⟩
    · cases he
end
end DL

set_option Elab.async false
set_option linter.all false
set_option autoImplicit false
set_option maxRecDepth 100000
/-! DL10: repr, zip, list(range), methods of lists. -/
namespace DL
open PySem PyProof.Rows L2 RZ
section
variable {X : Cx} {B : Bas} {W : WX} {e a b c : Expr} {es : List Expr} {pos : Pos} {ga gb gc g : DX}
variable {pins : List (Addr × Obj)} {σ : L2.St} {H : Hp} {s : Shared}
mutual
theorem Rp.reads (I : L2.Inv X pins σ H s) : ∀ {d : PyData} {v : V} {u : Value}, Rp X.K H d v → d.hasDict = false → L2.RelV v u → ∃ as, Reads s.heap u d as
  | _, _, _, .non, _, r => by cases (show _ = Value.none from r); exact ⟨_, .none⟩
  | _, _, _, .bl b, _, r => by cases (show _ = Value.bool b from r); exact ⟨_, .bool b⟩
  | _, _, _, .int i, _, r => by obtain ⟨t, rfl⟩ := (show ∃ t, _ = Value.int i t from r); exact ⟨_, .int i t⟩
  | _, _, _, .str x, _, r => by obtain ⟨t, rfl⟩ := (show ∃ t, _ = Value.str x t from r); exact ⟨_, .str x t⟩
  | _, _, _, .lst (a := l) (xs := xs) h q, hd, r => by
    cases (show _ = Value.ref l from r)
    obtain ⟨its, n, rv, hz, ho⟩ := Inv_rdl I h
    obtain ⟨as, ra⟩ := RpL.reads I q (by simpa [PyData.hasDict] using hd) rv
    exact ⟨_, .list ho rfl rfl (by simpa using ra)⟩
  | _, _, _, .tup (a := l) (xs := xs) h q, hd, r => by
    cases (show _ = Value.ref l from r)
    obtain ⟨its, rv, ⟨o, ho, hc, n, hdt⟩, hz⟩ := I.tuple h
    obtain ⟨as, ra⟩ := RpL.reads I q (by simpa [PyData.hasDict] using hd) rv
    exact ⟨_, .tuple ho hc hdt (by simpa using ra)⟩
  | _, _, _, .dic h, hd, _ => by simp [PyData.hasDict] at hd
  | _, _, _, .exc _ _ _, hd, _ => by simp [PyData.hasDict] at hd
  | _, _, _, .fn, hd, _ => by simp [PyData.hasDict] at hd
theorem RpL.reads (I : L2.Inv X pins σ H s) : ∀ {ds : List PyData} {vs : List V} {us : List Value}, RpL X.K H ds vs → PyData.hasDictAll ds = false → Vals vs us → ∃ as, ReadsAll s.heap us ds as
  | _, _, _, .nil, _, .nil => ⟨_, .nil⟩
  | d :: ds, _, _, .cons p q, hd, .cons r t => by
    have hd' : d.hasDict = false ∧ PyData.hasDictAll ds = false := by simpa [PyData.hasDictAll] using hd
    obtain ⟨as, h1⟩ := Rp.reads I p hd'.1 r
    obtain ⟨bs, h2⟩ := RpL.reads I q hd'.2 t
    exact ⟨_, .cons h1 h2⟩
end
def isNilDict : PyData → Bool
  | .dict [] => true
  | _ => false
def reprOk (d : PyData) : Bool := (isNilDict d || !d.hasDict) && d.showable && decide (d.depth ≤ 60) && decide (d.shown.length ≤ 1000000)
def hRepr : List PyData → Option Rv
  | [d] => if reprOk d = true then some (.im (.str d.shown)) else none
  | _ => none
def rRepr (K : PySem.W.Frag) : List V → Hp → VK → Prop := fun xs H Q => ∃ x d, xs = [x] ∧ Rp K H d x ∧ reprOk d = true ∧ Q (.str d.shown) H
theorem call_repr (hu : X.A.units + 66 < cLine) (hg : X.A.guards = some []) : CallR X (.builtin "repr") (rRepr X.K) := by
  intro pins s σ H xs us Q I r ⟨x, d, ex, hx, ok, q⟩
  subst ex
  obtain ⟨u, rfl, ru⟩ := r.one
  unfold reprOk at ok
  rw [Bool.and_eq_true, Bool.and_eq_true, Bool.and_eq_true, decide_eq_true_eq, decide_eq_true_eq] at ok
  obtain ⟨⟨⟨hd, hs⟩, hdep⟩, hsz⟩ := ok
  have hsz' := line_of hsz
  have fin : ∀ (h' : Heap) (t tk : Nat), (∀ b o, s.heap.get? b = some o → h'.get? b = some o) → ∃ x H', L2.Inv X pins σ H' { s with heap := h', toks := tk } ∧ L2.RelV x (Value.str d.shown t) ∧ Q x H' := fun h' t tk k => ⟨.str d.shown, H, I.kept k, ⟨t, rfl⟩, q⟩
  cases hx with
  | non => cases (show u = Value.none from ru); exact PySem.P.repr_of_none ⟨.str _, H, I.tok _, ⟨_, rfl⟩, q⟩
  | bl b =>
    cases (show u = Value.bool b from ru)
    exact PySem.P.repr_of_bool ⟨.str _, H, I.tok _, ⟨_, rfl⟩, q⟩
  | int i =>
    obtain ⟨t, rfl⟩ := (show ∃ t, u = Value.int i t from ru)
    exact PySem.P.repr_of_int (by simpa [PyData.showable] using hs) ⟨.str _, H, I.tok _, ⟨_, rfl⟩, q⟩
  | str x =>
    obtain ⟨t, rfl⟩ := (show ∃ t, u = Value.str x t from ru)
    exact PySem.P.repr_of_str ⟨.str _, H, I.tok _, ⟨_, rfl⟩, q⟩ hsz'
  | @lst l xs ds h p =>
    cases (show u = Value.ref l from ru)
    have nd : (PyData.list ds).hasDict = false := by
      rcases Bool.or_eq_true _ _ |>.mp hd with z | z
      · cases z
      · simpa using z
    obtain ⟨as, rr⟩ := Rp.reads I (.lst h p) nd rfl
    exact repr_of_reads' rr hs (PyData.noDict_hsm nd) hg (by omega) (fun _ _ e => e) (fun h' t tk k => fin h' t tk k) hsz'
  | @tup l xs ds h p =>
    cases (show u = Value.ref l from ru)
    have nd : (PyData.tuple ds).hasDict = false := by
      rcases Bool.or_eq_true _ _ |>.mp hd with z | z
      · cases z
      · simpa using z
    obtain ⟨as, rr⟩ := Rp.reads I (.tup h p) nd rfl
    exact repr_of_reads' rr hs (PyData.noDict_hsm nd) hg (by omega) (fun _ _ e => e) (fun h' t tk k => fin h' t tk k) hsz'
  | @dic l h =>
    cases (show u = Value.ref l from ru)
    obtain ⟨z1, z2, vs, rv, o, es, ep, h1, h2, h3, h4, h5, _⟩ := (show ObjOk X.prog X.w H s.heap l (.dK []) from I.hok l _ h)
    cases rv
    have e0 : es.toList = [] := by
      cases e : es.toList with
      | nil => rfl
      | cons x r => rw [e] at h5; cases h5
    have rr : Reads s.heap (.ref l) (.dict []) (l :: [] ++ []) := .dict h1 h2.1 h3 (by rw [e0]; exact .nil) (by rw [e0]; exact .nil)
    refine repr_of_reads' rr hs (fun _ hm => ?_) hg (by simp only [PyData.depth, PyData.depthKv]; omega) (fun _ _ e => e) (fun h' t tk k => fin h' t tk k) hsz'
    have : sysModules = l := by simpa using hm
    rw [this] at z2
    simp at z2
  | exc _ _ _ => simp [isNilDict, PyData.hasDict] at hd
  | fn => simp [isNilDict, PyData.hasDict] at hd
theorem o_repr {K : PySem.W.Frag} : OpN K hRepr (rRepr K) := fun B W γ F s σ H xs ds rv Q G r he A => by
  unfold hRepr at he
  split at he
  · split at he
    · rename_i d ok
      cases he
      match r with
      | .cons r1 .nil => exact ⟨_, d, rfl, r1.mono G.sub, ok, A.same G (.str _)⟩
    · cases he
  · cases he

/-! ### list(range(..)) -/
def xLRng1 (g : DX) : DX := fun s => bindD (g s) fun d s1 => match d with
  | .int j => if -1000000 < j ∧ j < 1000000 then .ok (.ow (rngD 0 j.toNat)) s1 else .bad
  | _ => .bad
def xLRng2 (ga gb : DX) : DX := fun s => bindD (ga s) fun d s1 => bindD (gb s1) fun e s2 => match d, e with
  | .int i, .int j => if -1000000 < i ∧ i < 1000000 ∧ -1000000 < j ∧ j < 1000000 then .ok (.ow (rngD i (j - i).toNat)) s2 else .bad
  | _, _ => .bad
theorem rgV_rng {K : PySem.W.Frag} {F : Hp} (i j : Int) : RpL K F (rngD i (j - i).toNat) (rgV i j) := by
  unfold rngD rgV
  generalize (j - i).toNat = n
  induction n with
  | zero => exact .nil
  | succ n ih =>
    rw [List.range_succ, List.map_append, List.map_append]
    exact ih.app (.cons (.int _) .nil)
theorem de_lrng1 {p p2 pos2 : Pos} (hc : X.calm = true) (hg : Gl X "list") (hm : X.mg "list" = none) (hg2 : Gl X "range") (hm2 : X.mg "range" = none) (ha : DPE X B W a ga)
    (na : starEach [a] X.env = (false, eval a X.env) :: starEach [] X.env := by rfl)
    (nb : starEach [.Call (.Name "range" p2) [a] [] pos2] X.env = (false, eval (.Call (.Name "range" p2) [a] [] pos2) X.env) :: starEach [] X.env := by rfl) : DPE X B W (.Call (.Name "list" p) [.Call (.Name "range" p2) [a] [] pos2] [] pos) (xLRng1 ga) :=
  (pe_listRg hc hg hm (prg_1 hg2 hm2 ha na) nb).con fun σ H Q ⟨γ, F, s, G, A⟩ => (tD_bind G A).mono fun x H1 ⟨F1, s1, d, a1, p1, G1, r1, A1⟩ => by
    cases r1 with
    | int j =>
      dsimp only at A1
      split at A1
      · rename_i hj
        have e := rgV_rng (K := X.K) (F := F1) 0 j
        rw [Int.sub_zero] at e
        exact ⟨j, rfl, ⟨by omega, by omega, by omega, by omega, by omega⟩, fun q hq => After.newL A1 G1 e hq⟩
      · exact A1.elim
    | _ => exact A1.elim
theorem de_lrng2 {p p2 pos2 : Pos} (hc : X.calm = true) (hg : Gl X "list") (hm : X.mg "list" = none) (hg2 : Gl X "range") (hm2 : X.mg "range" = none) (ha : DPE X B W a ga) (hb : DPE X B W b gb)
    (na : starEach [a, b] X.env = (false, eval a X.env) :: starEach [b] X.env := by rfl) (na2 : starEach [b] X.env = (false, eval b X.env) :: starEach [] X.env := by rfl) (hp : (backTo pos2 (starEach [b] X.env)).any (·.1) = false := by rfl)
    (nb : starEach [.Call (.Name "range" p2) [a, b] [] pos2] X.env = (false, eval (.Call (.Name "range" p2) [a, b] [] pos2) X.env) :: starEach [] X.env := by rfl) : DPE X B W (.Call (.Name "list" p) [.Call (.Name "range" p2) [a, b] [] pos2] [] pos) (xLRng2 ga gb) :=
  (pe_listRg hc hg hm (prg_2 hg2 hm2 ha hb na na2 hp) nb).con fun σ H Q ⟨γ, F, s, G, A⟩ => (tD_bind G A).mono fun x H1 ⟨F1, s1, d, a1, p1, G1, r1, A1⟩ => by
    refine (tD_bind G1 A1).mono fun y H2 ⟨F2, s2, e, a2, p2, G2, r2, A2⟩ => ?_
    cases r1 with
    | int i =>
      cases r2 with
      | int j =>
        dsimp only at A2
        split at A2
        · rename_i hj
          exact ⟨i, j, rfl, rfl, ⟨by omega, by omega, by omega, by omega, by omega⟩, fun q hq => After.newL A2 G2 (rgV_rng i j) hq⟩
        · exact A2.elim
      | _ => exact A2.elim
    | _ => exact A2.elim

/-! ### n.bit_length() -/
def hBits : PyData → Option Rv
  | .int i => some (.im (.int (Builtin.Int.intBits i : Nat)))
  | _ => none
theorem de_bits {apos : Pos} (ha : DPE X B W a ga) (hbase : attributeBase a "bit_length" X.env (eval a X.env) = eval a X.env := by rfl) (hline : (apos.endLine == pos.line) = true := by rfl) : DPE X B W (.Call (.Attribute a "bit_length" apos) [] [] pos) (xUn hBits ga) :=
  (pe_bits ha hbase hline).con fun σ H Q ⟨γ, F, s, G, A⟩ => (tD_bind G A).mono fun x H1 ⟨F1, s1, d, a1, p1, G1, r1, A1⟩ => by
    cases r1 with
    | int i => exact ⟨i, rfl, After.same A1 G1 (.int _)⟩
    | _ => exact A1.elim

/-! ### zip -/
def zipD : List PyData → List PyData → List PyData
  | d :: ds, e :: es => .tuple [d, e] :: zipD ds es
  | _, _ => []
def hZip : List PyData → Option (List PyData)
  | [.list ds, .list es] => some (zipD ds es)
  | [.tuple ds, .tuple es] => some (zipD ds es)
  | _ => none
def xZip (t : DA) : DX := fun s => bindA (t s) fun ds s1 => match hZip ds with | some l => .ok (.im (.list l)) s1 | none => .bad
theorem zipD_get : ∀ {ds es : List PyData} {i : Nat} {x : PyData}, (zipD ds es)[i]? = some x → ∃ d e, ds[i]? = some d ∧ es[i]? = some e ∧ x = .tuple [d, e]
  | [], _, i, x, h => by simp [zipD] at h
  | _ :: _, [], i, x, h => by simp [zipD] at h
  | d :: ds, e :: es, 0, x, h => by
    unfold zipD at h
    exact ⟨d, e, rfl, rfl, (Option.some.inj h).symm⟩
  | d :: ds, e :: es, i + 1, x, h => by
    unfold zipD at h
    obtain ⟨d', e', h1, h2, h3⟩ := zipD_get (i := i) (by simpa using h)
    exact ⟨d', e', by simpa using h1, by simpa using h2, h3⟩
theorem zipD_len : ∀ {ds es : List PyData} {i : Nat}, (zipD ds es).length ≤ i → ds.length ≤ i ∨ es.length ≤ i
  | [], _, i, h => .inl (Nat.zero_le _)
  | _ :: _, [], i, h => .inr (Nat.zero_le _)
  | d :: ds, e :: es, 0, h => by unfold zipD at h; simp at h
  | d :: ds, e :: es, i + 1, h => by
    unfold zipD at h
    rcases zipD_len (i := i) (by simpa using h) with z | z
    · exact .inl (by simpa using z)
    · exact .inr (by simpa using z)
theorem itD_zip {K : PySem.W.Frag} {F : Hp} {a b : Addr} {xs ys : List V} {ds es : List PyData} (h1 : SqL K F a xs) (r1 : RpL K F ds xs) (h2 : SqL K F b ys) (r2 : RpL K F es ys) : ItD K (Itz K a b) F (zipD ds es) := fun i H sH => by
  refine ⟨fun d hd => ?_, fun hl => ⟨xs, ys, sqL_mono sH h1, sqL_mono sH h2, by rw [r1.len, r2.len]; exact zipD_len hl⟩⟩
  obtain ⟨d1, d2, e1, e2, ed⟩ := zipD_get hd
  obtain ⟨v, k1, k2⟩ := r1.get e1
  obtain ⟨w, k3, k4⟩ := r2.get e2
  refine ⟨⟨xs, ys, v, w, sqL_mono sH h1, sqL_mono sH h2, k1, k3⟩, fun x H' ⟨T, x1, x2, ex, hT, eH, q1, q2⟩ => .inr ⟨T, [d1, d2], [x1, x2], hT, eH, ex, ed, ?_⟩⟩
  have f1 := q1 xs (sqL_mono sH h1)
  have f2 := q2 ys (sqL_mono sH h2)
  rw [k1] at f1
  rw [k3] at f2
  cases f1
  cases f2
  exact .cons k2 (.cons k4 .nil)
theorem itD_zipT {K : PySem.W.Frag} {F : Hp} {a b : Addr} {xs ys : List V} {ds es : List PyData} (h1 : SqT K F a xs) (r1 : RpL K F ds xs) (h2 : SqT K F b ys) (r2 : RpL K F es ys) : ItD K (ItzT K a b) F (zipD ds es) := fun i H sH => by
  refine ⟨fun d hd => ?_, fun hl => ⟨xs, ys, sqT_mono sH h1, sqT_mono sH h2, by rw [r1.len, r2.len]; exact zipD_len hl⟩⟩
  obtain ⟨d1, d2, e1, e2, ed⟩ := zipD_get hd
  obtain ⟨v, k1, k2⟩ := r1.get e1
  obtain ⟨w, k3, k4⟩ := r2.get e2
  refine ⟨⟨xs, ys, v, w, sqT_mono sH h1, sqT_mono sH h2, k1, k3⟩, fun x H' ⟨T, x1, x2, ex, hT, eH, q1, q2⟩ => .inr ⟨T, [d1, d2], [x1, x2], hT, eH, ex, ed, ?_⟩⟩
  have f1 := q1 xs (sqT_mono sH h1)
  have f2 := q2 ys (sqT_mono sH h2)
  rw [k1] at f1
  rw [k3] at f2
  cases f1
  cases f2
  exact .cons k2 (.cons k4 .nil)
theorem di_zip {elts : List Expr} {kk : Nat} {tpos p : Pos} {t : DA} (hg : Gl X "zip") (hm : X.mg "zip" = none) (ha : DPA X B W [a, b] t)
    (hs : starEach [a, b] X.env = (false, eval a X.env) :: starEach [b] X.env := by rfl) (hpl : (backTo pos (starEach [b] X.env)).any (·.1) = false := by rfl) : DPI X B W (.Tuple elts kk tpos) (.Call (.Name "zip" p) [a, b] [] pos) (xZip t) :=
  di_args (pi_zipA hg hm ha hs hpl) (fun σ H Rq h => h) fun γ F s σ H ds xs Rq G r A => by
    cases e : hZip ds with
    | none => rw [e] at A; exact A.elim
    | some l =>
      rw [e] at A
      unfold hZip at e
      split at e
      · cases e
        match r with
        | .cons (.lst h1 q1) (.cons (.lst h2 q2) .nil) =>
          exact ⟨_, _, _, _, rfl, .inl ⟨.inl (rd_mono G.sub h1), .inl (rd_mono G.sub h2), A F H _ .rfl .rfl G (itD_zip (.inl h1) q1 (.inl h2) q2)⟩⟩
      · cases e
        match r with
        | .cons (.tup h1 q1) (.cons (.tup h2 q2) .nil) =>
          exact ⟨_, _, _, _, rfl, .inr ⟨sqT_mono G.sub h1, sqT_mono G.sub h2, A F H _ .rfl .rfl G (itD_zipT h1 q1 h2 q2)⟩⟩
      · cases e

/-! ### xs.count(e), xs.index(e) -/
@[simp] def isLst : PyData → Bool
  | .list _ => true
  | _ => false
@[simp] def xMeth (h : PyData → PyData → Option Rv) (ga gb : DX) : DX := fun s => bindD (ga s) fun d s1 => if isLst d = true then bindD (gb s1) fun e s2 => match h d e with | some rv => .ok rv s2 | none => .bad else .bad
theorem meth_con {id : String} {h : PyData → PyData → Option Rv} {r : V → List V → Hp → VK → Prop} (o : Op2 X.K h (fun x y H Q => r x [y] H Q)) {σ : L2.St} {H : Hp} {Q : VK} (q : tD X.K B W (xMeth h ga gb) σ H Q) : tBM X.K "list" r (tD X.K B W ga) (tCons (tD X.K B W gb) tNil) σ H Q := by
  obtain ⟨γ, F, s, G, A⟩ := q
  refine (tD_bind G A).mono fun x H1 ⟨F1, s1, d, a1, p1, G1, r1, A1⟩ => ?_
  dsimp only at A1
  cases d with
  | list ds =>
    rw [if_pos (show isLst (.list ds) = true from rfl)] at A1
    obtain ⟨l, xs, ex, h1, h2⟩ := r1.lst_inv
    subst ex
    refine ⟨.inl ⟨rfl, xs, .inl (rd_mono G1.sub h1)⟩, ?_⟩
    refine (tD_bind G1 A1).mono fun y H2 ⟨F2, s2, e, a2, p2, G2, r2, A2⟩ => ?_
    dsimp only at A2
    cases he : h (.list ds) e with
    | none => rw [he] at A2; exact A2.elim
    | some rv =>
      rw [he] at A2
      exact o B W γ F2 s2 σ H2 _ y (.list ds) e rv Q G2 (r1.mono a2) r2 he A2
  | _ => exact A1.elim
def hIdx : PyData → PyData → Option Rv
  | .list ds, e => if SeqAt.shaped (.list ds) = true ∧ SeqAt.shaped e = true then (ds.findIdx? fun z => PyData.eqv z e).map fun j => .im (.int j) else none
  | _, _ => none
def hCnt : PyData → PyData → Option Rv
  | .list ds, e => if SeqAt.shaped (.list ds) = true ∧ SeqAt.shaped e = true then some (.im (.int (ds.countP fun z => PyData.eqv z e : Nat))) else none
  | _, _ => none
theorem o_idx {K : PySem.W.Frag} : Op2 K hIdx (fun x y H Q => rIndexD K x [y] H Q) := by
  intro B W γ F s σ H x y d e rv Q G r1 r2 he A
  cases r1 with
  | lst h q =>
    rename_i l xs ds
    unfold hIdx at he
    dsimp only at he
    split at he
    · rename_i c
      cases ej : ds.findIdx? fun z => PyData.eqv z e with
      | none => rw [ej] at he; cases he
      | some j =>
        rw [ej] at he
        cases he
        obtain ⟨h1, h2, h3⟩ := List.findIdx?_eq_some_iff_getElem.mp ej
        refine ⟨l, y, e, ds, j, ds[j], rfl, rfl, ((Rp.lst h q).mono G.sub).dpS c.1, (r2.mono G.sub).dpS c.2, c.1, c.2, List.getElem?_eq_getElem h1, h2, fun m z' hm hz => ?_, A.same G (.int _)⟩
        obtain ⟨hml, e2⟩ := List.getElem?_eq_some_iff.mp hz
        have := h3 m hm
        rw [e2] at this
        simpa using this
    · cases he
  | _ => cases he
def rCountD (K : PySem.W.Frag) : V → List V → Hp → VK → Prop := fun x xs H Q => ∃ (a : Addr) (y : V) (d : PyData) (ds : List PyData), x = V.ref a ∧ xs = [y] ∧ Dp K H (V.ref a) (.list ds) ∧ Dp K H y d ∧ SeqAt.shaped (.list ds) = true ∧ SeqAt.shaped d = true ∧ Q (.int (ds.countP fun z => PyData.eqv z d : Nat)) H
theorem mt_countD (hu : X.A.units + 65 < cLine) : MtR X "list.count" (rCountD X.K) := by
  intro pins s σ H x xs v us Q I rx rxs ⟨a, y, d, ds, e1, e2, hl, hy, sl, sd, q⟩
  subst e1
  subst e2
  cases rx
  obtain ⟨uy, rfl, ry⟩ := rxs.one
  obtain ⟨bs, r1⟩ := Dp.reads I d y uy hy ry
  cases hl with
  | lst hs ha =>
    obtain ⟨its, rv, hL, hlen⟩ := I.list hs
    obtain ⟨⟨cls, dd, data, sls⟩, n, ho, hc, hdn, hdt⟩ := id hL
    simp only at hc hdt
    subst hc hdt
    obtain ⟨as, h4⟩ := Dp.readsAll I ds _ its ha rv
    have hmap : its.map (SeqAt.readOf s.heap) = ds := SeqAt.readsAll_map ds its as (SeqAt.canLay_of_shaped sl) h4
    have hroom : X.A.units + 1 + min (PyData.depthAll ds) d.depth < cLine := room_in_shaped sd hu
    refine call_meets PySem.F.slot_list_count ⟨_, ho, rfl⟩ PySem.F.entry_list_count (PySem.F.args_list_count_2 _ _)
      (SeqAt.list_countAt a its.toArray n dd sls uy (fun u => PyData.eqv (SeqAt.readOf s.heap u) d)) ⟨ho, SeqAt.items_eqAt (vs := its.toArray) (show ReadsAll s.heap its.toArray.toList ds as from h4) r1 (SeqAt.canLay_of_shaped sl) (SeqAt.canLay_of_shaped sd) hroom, ?_⟩
    have ec : its.toArray.toList.countP (fun u => PyData.eqv (SeqAt.readOf s.heap u) d) = ds.countP fun z => PyData.eqv z d := by
      rw [← hmap, List.countP_map]
      rfl
    rw [ec]
    exact ⟨.int _, H, I.tok _, ⟨s.toks, rfl⟩, q⟩
theorem o_cnt {K : PySem.W.Frag} : Op2 K hCnt (fun x y H Q => rCountD K x [y] H Q) := by
  intro B W γ F s σ H x y d e rv Q G r1 r2 he A
  cases r1 with
  | lst h q =>
    rename_i l xs ds
    replace he : (if SeqAt.shaped (.list ds) = true ∧ SeqAt.shaped e = true then some (Rv.im (.int (ds.countP fun z => PyData.eqv z e : Nat))) else none) = some rv := he
    split at he
    · rename_i c
      cases he
      exact ⟨l, y, e, ds, rfl, rfl, ((Rp.lst h q).mono G.sub).dpS c.1, (r2.mono G.sub).dpS c.2, c.1, c.2, A.same G (.int _)⟩
    · cases he
  | _ => cases he
theorem de_idx {apos : Pos} (hu : X.A.units + 65 < cLine) (ha : DPE X B W a ga) (hb : DPE X B W b gb)
    (hst : starEach [b] X.env = (false, eval b X.env) :: starEach [] X.env := by rfl) (hbase : attributeBase a "index" X.env (eval a X.env) = eval a X.env := by rfl)
    (hfew : ((backTo pos (starEach [b] X.env)).all (fun x => !x.1) && (backToKw pos (keywordEach [] X.env)).all (fun x => x.1.isSome)
      && decide ([b].length + ([] : List Keyword).length + (if ([] : List Keyword).isEmpty then 0 else 1) < 30)) = true := by rfl)
    (hline : (apos.endLine == pos.line) = true := by rfl) : DPE X B W (.Call (.Attribute a "index" apos) [b] [] pos) (xMeth hIdx ga gb) :=
  (pe_bm PySem.F.plainAttrs_list PySem.F.slot_list_index PySem.F.type_list_index (mt_indexD hu) ha (pa_cons hb pa_nil hst) hbase hfew hline hst).con fun σ H Q q => meth_con (id := "") o_idx q
theorem de_cnt {apos : Pos} (hu : X.A.units + 65 < cLine) (ha : DPE X B W a ga) (hb : DPE X B W b gb)
    (hst : starEach [b] X.env = (false, eval b X.env) :: starEach [] X.env := by rfl) (hbase : attributeBase a "count" X.env (eval a X.env) = eval a X.env := by rfl)
    (hfew : ((backTo pos (starEach [b] X.env)).all (fun x => !x.1) && (backToKw pos (keywordEach [] X.env)).all (fun x => x.1.isSome)
      && decide ([b].length + ([] : List Keyword).length + (if ([] : List Keyword).isEmpty then 0 else 1) < 30)) = true := by rfl)
    (hline : (apos.endLine == pos.line) = true := by rfl) : DPE X B W (.Call (.Attribute a "count" apos) [b] [] pos) (xMeth hCnt ga gb) :=
  (pe_bm PySem.F.plainAttrs_list PySem.F.slot_list_count PySem.F.type_list_count (mt_countD hu) ha (pa_cons hb pa_nil hst) hbase hfew hline hst).con fun σ H Q q => meth_con (id := "") o_cnt q
end
end DL

set_option Elab.async false
set_option linter.all false
set_option autoImplicit false
set_option maxRecDepth 100000
set_option maxHeartbeats 1000000
/-! DL11: an error class of the program: class C(GridError): def __init__(self, value=None): super().__init__(value); self.value = value. -/
namespace DL
open PySem PySem.W PySem.Calls PyProof.Rows
def eArgs (p1 p2 p3 : Pos) (j : Nat) : Arguments := ⟨[], [⟨"self", none, p1⟩, ⟨"value", none, p2⟩], none, [], [], none, [.Constant .none j p3]⟩
def eBody (q1 q2 q3 q4 q5 q6 r1 r2 r3 r4 : Pos) : List Stmt :=
  [.Expr (.Call (.Attribute (.Call (.Name "super" q1) [] [] q2) "__init__" q3) [.Name "value" q4] [] q5) q6, .Assign [.Attribute (.Name "self" r1) "value" r2] (.Name "value" r3) r4]
abbrev eBinds (x v : Value) : List (Str × Value) := [("self", x), ("value", v)]
def eScope : Scope := { kind := .function, names := [("self", .local), ("value", .local), ("__class__", .free), ("super", .globalImplicit)], isGenerator := false, isCoroutine := false, more := [] }
/-- how the call of super's method is read, wherever it stands -/
def eSays (q1 q2 q3 q4 q5 : Pos) : Prop := ∀ env : Env, ∃ pl : Sem Bool, eval (.Call (.Attribute (.Call (.Name "super" q1) [] [] q2) "__init__" q3) [.Name "value" q4] [] q5) env = (do
  let ov ← attributeBase (.Call (.Name "super" q1) [] [] q2) "__init__" env (eval (.Call (.Name "super" q1) [] [] q2) env)
  standAt q3.atName
  let (f, first) ← holding [ov] (getMethod ov "__init__" pl)
  callWith q5 f first (backTo q5 (starEach [.Name "value" q4] env)) [])
def eStores (r1 r2 r3 r4 : Pos) : Prop := ∀ env : Env, swapsWith (.Name "value" r3) (some (.Attribute (.Name "self" r1) "value" r2)) r4.line env = pure false
/-- what the written part says of such a class, at C; its __init__ is at fI, its cell at cc, its code at cda -/
structure ETxt (prog : Program) (K : Frag) (mg : Str → Option Value) (C fI cc cda : Addr) (qn : Str) : Prop where
  cls : ∃ nm q N bs bm sn sub ab col dd k0 k1 k2 k3 k5, K.lookup C = some (excClassObj nm q C N bs bm true sn sub ab col dd k0 k1 k2 k3 k5 "ValueError.__new__") ∧ HandSPX.refsVE bm = true
  sa : findIn K (.ref C) "__setattr__" = some (some (.builtin "object.__setattr__"))
  nv : findIn K (.ref C) "value" = some none
  ini : findIn K (.ref C) "__init__" = some (some (.ref fI))
  tyI : typeIn K (.ref fI) = some (.type "function")
  kC : keepIn K (.ref C) = true
  exC : subIn K (.ref C) (.type "BaseException") = some true
  exV : subIn K (.ref C) (.type "ValueError") = some true
  tyC : typeIn K (.ref C) = some (.type "type")
  mr : mroIn K C (.ref C) = some true
  sup : ks_superIn K C C "__init__" = some (some (.builtin "ValueError.__init__"))
  tp : nsIn K cStatics "thirdparty.any" = some none
  fn : ∃ (oc : Value) (od : Option Addr) (doc pm dV kV : Value) (an : Option Addr) (ct : Value) (osl : Array (Option Value)) (p1 p2 p3 q1 q2 q3 q4 q5 q6 r1 r2 r3 r4 : Pos) (j : Nat),
    K.lookup fI = some ⟨oc, od, .func (ksFn "__init__" qn (eArgs p1 p2 p3 j) (eBody q1 q2 q3 q4 q5 q6 r1 r2 r3 r4) eScope dV kV doc pm an (.ref cda) ct cc), osl⟩ ∧
      ∃ (T : Addr) (o : Obj) (u : Value) (m : Nat), dV = .ref T ∧ K.lookup T = some o ∧ o.data = .seq #[u] m ∧ eSays q1 q2 q3 q4 q5 ∧ eStores r1 r2 r3 r4
  cd : codeIn K (.ref cda) qn = true
  code : ∃ (ccl : Value) (cdd : Option Addr) (vs : Array Value) (ccs : Array (Option Value)) (file : Str) (tf : Tok), K.lookup cda = some ⟨ccl, cdd, .fields vs, ccs⟩ ∧ vs[2]? = some (.str file tf) ∧ ((prog.main.file : Str) == file) = true
  cell : ∃ (cl : Value) (cld : Option Addr) (csl : Array (Option Value)), K.lookup cc = some ⟨cl, cld, .cell (some (.ref C)), csl⟩
  ns : mg "super" = none
  top : (prog.main.scope.names.lookup ("super" : Str)).isSome = false
structure EEnd (h h' : Heap) (x C dx t1 : Addr) (v : Value) : Prop where
  keep : ∀ b o, b ≠ x → h.get? b = some o → h'.get? b = some o
  obj : h'.get? x = some { cls := .ref C, dict := some dx, data := .fields #[.ref t1, .none, .none, .none, .bool false, .none] }
  dbig : h.objs.size ≤ dx
  dne : dx ≠ x
  ns : h'.Ns1 dx (fun y => if y = "value" then some v else none)
section
variable {prog : Program} {w : World} {A : Around} {E : Value → Shared → Prop} {R : Result → Shared → Prop} {s : Shared} {K : Frag} {mg : Str → Option Value} {base : Heap} {C fI cc cda : Addr} {qn : Str}
theorem e_init (T : ETxt prog K mg C fI cc cda qn) (Md : L2.Mod K mg base) (bk : ∀ b o, base.get? b = some o → s.heap.get? b = some o) {x t0 : Addr} {v : Value} (hx : s.heap.get? x = some (HandSPX.excO C t0)) (hnx : K.lookup x = none) (hroom : A.depth < recursionLimit)
    (hq : ∀ h' tk dx t1, EEnd s.heap h' x C dx t1 v → R (.ok (.ret .none)) { s with heap := h', toks := tk }) :
    codeAny (model prog w) A (.call (.ref fI) ⟨[.ref x, v], []⟩) R s := by
  obtain ⟨oc, od, doc, pm, dV, kV, an, ct, osl, p1, p2, p3, q1, q2, q3, q4, q5, q6, r1, r2, r3, r4, j, ho, TD, oT, u0, mT, rfl, lT, dT, hsay, hsto⟩ := T.fn
  obtain ⟨nm, q, N, bs, bm, sn, sub, ab, col, dd, k0, k1, k2, k3, k5, hC, hbm⟩ := T.cls
  obtain ⟨ccl, cdd, vs, ccs, file, tf, hcode, hvs, hfile⟩ := T.code
  obtain ⟨cl, cld, csl, hcell⟩ := T.cell
  have hcl : clsIn K C = some { name := nm, bases := bs, mro := .ref C :: bm, ns := N, qualname := q, hasDict := true, slotNames := sn, subclasses := sub, abstract := ab, collection := col, hasDel := false } := by unfold clsIn; rw [hC] <;> rfl
  have X : K.In s.heap := Md.kin.keeps bk
  have hb : ∃ k, bindArgs (ksFn "__init__" qn (eArgs p1 p2 p3 j) (eBody q1 q2 q3 q4 q5 q6 r1 r2 r3 r4) eScope (.ref TD) kV doc pm an (.ref cda) ct cc) ⟨[.ref x, v], []⟩ = seqItems? (.ref TD) >>= k ∧ k (some #[u0]) = pure (eBinds (.ref x) v) := ⟨_, rfl, by with_unfolding_all rfl⟩
  obtain ⟨kb, hb1, hb2⟩ := hb
  refine ks_codeAny_call_defAt (fd := ksFn "__init__" qn (eArgs p1 p2 p3 j) (eBody q1 q2 q3 q4 q5 q6 r1 r2 r3 r4) eScope (.ref TD) kV doc pm an (.ref cda) ct cc) (body := eBody q1 q2 q3 q4 q5 q6 r1 r2 r3 r4) (binds := eBinds (.ref x) v) hroom (X _ _ ho) rfl (Md.nolimit.keeps bk) (codeRec_of X T.cd) rfl
    (L2.BindsTo.of_looks fun M => by rw [hb1]; exact L2.looks_items X lT dT (.of_pure hb2)) (by show ∀ y ∈ eScope.names, y.2 ≠ .cell; decide)
    (fun y hy => by
      rcases List.mem_cons.mp hy with rfl | hy
      · rfl
      · rcases List.mem_cons.mp hy with rfl | hy
        · rfl
        · cases hy) (fun h₁ hns hk₁ => ?_)
  have X₁ : K.In h₁ := X.keeps hk₁
  have hx₁ := hk₁ _ _ hx
  obtain ⟨pl, hsay'⟩ := hsay (ksEnv qn eScope s.heap.objs.size fI (.ref cda) cc)
  refine (show PySem.wpAt (model prog w) (A.deeper (ksEnv qn eScope s.heap.objs.size fI (.ref cda) cc)) (.func (eBody q1 q2 q3 q4 q5 q6 r1 r2 r3 r4) (ksEnv qn eScope s.heap.objs.size fI (.ref cda) cc))
    (execs (eBody q1 q2 q3 q4 q5 q6 r1 r2 r3 r4) (ksEnv qn eScope s.heap.objs.size fI (.ref cda) cc)) _ _ _ from ?_)
  have hns₁ : h₁.Ns (ksEnv qn eScope s.heap.objs.size fI (.ref cda) cc).locals (fun y => (eBinds (.ref x) v).reverse.lookup y) := hns
  obtain ⟨mb, hmb, hmb2⟩ := Md.blt
  have kb₁ : ∀ b o, base.get? b = some o → h₁.get? b = some o := fun b o e => hk₁ b o (bk b o e)
  obtain ⟨oD, hD1, hD2⟩ : ∃ oD, h₁.get? C = some oD ∧ oD.data = .cls { name := nm, bases := bs, mro := .ref C :: bm, ns := N, qualname := q, hasDict := true, slotNames := sn, subclasses := sub, abstract := ab, collection := col, hasDel := false } := ⟨_, X₁ _ _ hC, rfl⟩
  have look1 : (fun y => (eBinds (.ref x) v).reverse.lookup y) "self" = some (.ref x) := by with_unfolding_all rfl
  have look2 : (fun y => (eBinds (.ref x) v).reverse.lookup y) "value" = some v := by with_unfolding_all rfl
  refine ks_wpAt_execs_cons (ks_wpAt_Expr_any (ks_wpAt_MethodCall (pl := pl) ?_ hsay'))
  refine ks_wpAt_super_base rfl rfl rfl rfl (X₁ _ _ ho) rfl rfl rfl (X₁ _ _ hcode) rfl hvs hfile T.top ?_
  refine ks_loadName_global rfl rfl (loadGlobal_builtin (Md.glob.keeps kb₁) T.ns (hmb.keeps kb₁) ((hmb2 "super" (by decide)).trans (by first | rfl | kernel_rfl)) ⟨rfl, ?_⟩)
  refine wpAny_loadName_free rfl rfl rfl ⟨_, X₁ _ _ hcell, rfl⟩ ?_
  refine wpAny_loadName_local rfl rfl hns₁ look1 ?_
  refine ks_wpAny_isType_cls hD1 hD2 ⟨rfl, ?_⟩
  have isI : Looks (model prog w) h₁ (isInstance (.ref x) (.type "ValueError")) true := (InstAt.type (ox := HandSPX.excO C t0) (od := none) ⟨hx₁, rfl, rfl, trivial⟩).andThen (looks_subIn X₁ T.exV)
  refine ks_wpAny_call_super hD1 hD2 hx₁ rfl (fun c e => by cases e) (looks_mroIn X₁ T.mr) (fun h₂ hso k₂ => ?_)
  have X₂ : K.In h₂ := X₁.keeps k₂
  have isI₂ : Looks (model prog w) h₂ (isInstance (.ref x) (.type "ValueError")) true := isI.keeps k₂
  have xC : x ≠ C := fun z => by
    rw [z] at hnx
    have : K.lookup C = none := hnx
    rw [hC] at this
    cases this
  have hsup : alongIn K "__init__" (((Value.ref C :: bm).dropWhile (· != .ref C)).drop 1) = some (some (.builtin "ValueError.__init__")) := by
    have := T.sup
    unfold ks_superIn at this
    rw [hcl] at this
    exact this
  refine kxs_getMethod kxs_ValueError hso (looks_opaque X₂ T.tp) (l₀ := .ref C :: bm) ?_ rfl X₂ hsup isI₂ xC rfl ?_
  · exact fun A Q E s k q => wpAny_bind ((looks_clsIn X₂ hcl) A _ E s k (wpAny_pure q))
  refine kxs_callWith (i := "ValueError.__init__") (x := x) rfl ?_
  have hns₂ : (h₂.push (kxs_mw "ValueError.__init__" x)).Ns (ksEnv qn eScope s.heap.objs.size fI (.ref cda) cc).locals (fun y => (eBinds (.ref x) v).reverse.lookup y) := hns₁.keeps fun b o e => Heap.get?_push_of_some _ (k₂ b o e)
  refine evalArgs_plain (spliced_cons (show wpAny _ _ (eval (.Name "value" q4) (ksEnv qn eScope s.heap.objs.size fI (.ref cda) cc)) _ _ _ from wpAny_Name (wpAny_loadName_local rfl rfl hns₂ look2 (spliced_nil ?_)) (by decide)))
  have hmw : (h₂.push (kxs_mw "ValueError.__init__" x)).get? h₂.objs.size = some (kxs_mw "ValueError.__init__" x) := Heap.get?_push_at rfl rfl
  have k₃ : ∀ b o, h₁.get? b = some o → (h₂.push (kxs_mw "ValueError.__init__" x)).get? b = some o := fun b o e => Heap.get?_push_of_some _ (k₂ b o e)
  refine ⟨hmw, ?_⟩
  refine wpAny_call (codeAny_of_tree ?_)
  show wpAny _ _ (callAny (.ref h₂.objs.size) ⟨[v], []⟩) _ _ _
  simp only [callAny]
  refine wpAny_bind (wpAny_load hmw ?_)
  simp only [kxs_mw, show (Value.type "method-wrapper" == Value.type "method" || Value.type "method-wrapper" == Value.type "builtin_function_or_method" || Value.type "method-wrapper" == Value.type "method-wrapper") = true by decide, if_true]
  refine KFB.if_so (by decide) ?_
  refine wpAny_bind (check_bound_init F.excBase_ValueError.toExcCallFacts (k₃ _ _ (X₁ _ _ hC)) (k₃ _ _ hx₁) rfl ?_)
  refine wpAny_bind (wpAny_pure (wpAny_pure ?_))
  refine ⟨plainId_quiet F.excBase_ValueError.init.plain _, codeAny_builtin F.excBase_ValueError.initEntry ?_⟩
  refine exc_init_tree (cls := .ref C) (t0 := t0) (dv := none) (c2 := .none) (c3 := .none) (b4 := .bool false) (k₃ _ _ hx₁) (by rw [sizeLine_eq]; exact (by decide : 1 ≤ 16777216)) (fun h₃ k₄ hx₃ _ => ?_)
  have nLx : s.heap.objs.size ≠ x := Nat.ne_of_gt (Heap.lt_size hx)
  have X₃ : K.In h₃ := fun b o e => k₄ b o (fun z => by rw [z] at e; exact absurd (hnx.symm.trans e) (by simp)) (k₃ b o (X₁ b o e))
  have hns₃ : h₃.Ns (ksEnv qn eScope s.heap.objs.size fI (.ref cda) cc).locals (fun y => (eBinds (.ref x) v).reverse.lookup y) := by
    obtain ⟨oL, es, ep, a1, a2⟩ := hns₂
    exact ⟨oL, es, ep, k₄ _ _ nLx a1, a2⟩
  have old : ∀ b o, b ≠ x → s.heap.get? b = some o → h₃.get? b = some o := fun b o n e => k₄ b o n (k₃ b o (hk₁ b o e))
  show PySem.wpAt _ _ _ (execs [.Assign [.Attribute (.Name "self" r1) "value" r2] (.Name "value" r3) r4] _) _ _ _
  refine ks_wpAt_execs_cons (ks_wpAt_Assign_Attr (wpAt_of_wpAny (wpAny_Name (wpAny_loadName_local rfl rfl hns₃ look2 (wpAny_Name (wpAny_loadName_local rfl rfl hns₃ look1 ?_) (by decide))) (by decide))) (hsto _))
  refine set_plain X₃ (ox := { cls := .ref C, dict := none, data := .fields #[.ref (h₂.push (kxs_mw "ValueError.__init__" x)).objs.size, .none, .none, .none, .bool false, .none] }) (od := none) ⟨hx₃, rfl, rfl, trivial⟩ T.sa ?_
  refine HandSPX.exc_osa X₃ hx₃ hcl (show HandSPX.refsVE (.ref C :: bm) = true from hbm) rfl T.nv (fun h₅ tk₅ dx k₅ dn dne hx₅ hn₅ => ?_)
  show PySem.wpAt _ _ _ (execs [] _) _ _ _
  refine wpAt_of_wpAny (wpAny_execs_nil (hq h₅ tk₅ dx _ ⟨fun b o n e => k₅ b o n (old b o n e), hx₅, ?_, dne, hn₅⟩))
  have z1 : s.heap.objs.size < h₁.objs.size := hns₁.lt
  have z2 : ∀ {a b : Heap}, (∀ c o, c ≠ x → a.get? c = some o → b.get? c = some o) → True := fun _ => trivial
  refine Nat.le_trans ?_ dn
  obtain ⟨oL, es, ep, a1, a2⟩ := hns₃
  exact Nat.le_of_lt (Heap.lt_size a1)
/-- such an error as it stands behind its making -/
structure EMade (h h' : Heap) (e C d : Addr) (v : Value) : Prop where
  keep : ∀ b o, h.get? b = some o → h'.get? b = some o
  new : h.objs.size ≤ e
  obj : ∃ t1, h'.get? e = some { cls := .ref C, dict := some d, data := .fields #[.ref t1, .none, .none, .none, .bool false, .none] }
  dbig : h.objs.size ≤ d
  dne : d ≠ e
  ns : h'.Ns1 d (fun y => if y = "value" then some v else none)
theorem e_made (T : ETxt prog K mg C fI cc cda qn) (Md : L2.Mod K mg base) (bk : ∀ b o, base.get? b = some o → s.heap.get? b = some o) {v : Value} (hroom : A.depth + 1 < recursionLimit)
    (hq : ∀ h' tk e d, EMade s.heap h' e C d v → R (.ok (.ret (.ref e))) { s with heap := h', toks := tk }) : codeAny (model prog w) A (.call (.ref C) ⟨[v], []⟩) R s := by
  obtain ⟨nm, q, N, bs, bm, sn, sub, ab, col, dd, k0, k1, k2, k3, k5, hC, hbm⟩ := T.cls
  have X : K.In s.heap := Md.kin.keeps bk
  obtain ⟨hp, g, dr, tk, os⟩ := s
  have up : ∀ b o, hp.get? b = some o → ((hp.push (kdv_tup [v])).push (HandSPX.excO C hp.objs.size)).get? b = some o := fun b o e => Heap.get?_push_of_some _ (Heap.get?_push_of_some _ e)
  have at1 : ((hp.push (kdv_tup [v])).push (HandSPX.excO C hp.objs.size)).get? (hp.objs.size + 1) = some (HandSPX.excO C hp.objs.size) := by heap_get
  have none1 : K.lookup (hp.objs.size + 1) = none := by
    cases e : K.lookup (hp.objs.size + 1) with
    | none => rfl
    | some o => exact absurd (Nat.lt_of_succ_lt (Heap.lt_size (show hp.get? (hp.objs.size + 1) = some o from X _ _ e))) (Nat.lt_irrefl _)
  refine HandSPX.call_own F.excBase_ValueError (fun Y => HandSPX.refsVE_contains Y bm hbm) (X _ _ hC) (looks_findIn X T.ini) (fun self => bind_fn X self T.tyI) (by rw [sizeLine_eq]; exact (by decide : 1 ≤ 16777216)) ?_
  refine e_init (s := ⟨(hp.push (kdv_tup [v])).push (HandSPX.excO C hp.objs.size), g, dr, tk, os⟩) T Md (fun b o e => up b o (bk b o e)) at1 none1 (by show A.depth + 1 < recursionLimit; exact hroom) fun h' tk' dx t1 M => ?_
  have old : ∀ b o, hp.get? b = some o → h'.get? b = some o := fun b o e => M.keep b o (Nat.ne_of_lt (Nat.lt_succ_of_lt (Heap.lt_size e))) (up b o e)
  have big : hp.objs.size + 1 + 1 ≤ dx := by
    have z := M.dbig
    rw [Heap.size_push, Heap.size_push] at z
    exact z
  exact ⟨rfl, hq h' tk' _ dx ⟨old, Nat.le_succ _, ⟨t1, M.obj⟩, Nat.le_trans (Nat.le_trans (Nat.le_succ _) (Nat.le_succ _)) big, M.dne, M.ns⟩⟩
end
end DL
namespace DL
open PySem PyProof.Rows L2
section
variable {X : Cx} {B : Bas} {W : WX} {a : Expr} {pos : Pos} {C fI cc cda : Addr} {qn x : Str} {ta : TA} {p : Pos}
theorem relO_value {v : V} {u : Value} (r : L2.RelV v u) (f : Str) : RelO (List.lookup f [(("value" : Str), v)]) (if f = "value" then some u else none) := by
  by_cases hf : f = "value"
  · rw [if_pos hf, hf, show List.lookup ("value" : Str) [(("value" : Str), v)] = some v by simp [List.lookup]]
    exact r
  · have e : (f == ("value" : Str)) = false := by simpa using hf
    rw [if_neg hf, show List.lookup f [(("value" : Str), v)] = none by simp [List.lookup, e]]
    trivial
def tMkE (C : Addr) (ta : TA) : L2.St → Hp → XK → Prop := fun σ H Q => ta σ H fun vs H1 => ∃ v, vs = [v] ∧ ∀ d, H1 d = none → Q (.ref C) (some d) (upd H1 d (.xd [(("value" : Str), v)]))
theorem pmk_e {k : Nat} (T : ETxt X.prog X.K X.mg C fI cc cda qn) (hr : Room k X.A) (hg : Gl X x) (hm : X.mg x = some (.ref C)) (ha : PA X [a] ta) (hdb : (x == ("__debug__" : Str)) = false := by decide)
    (he : starEach [a] X.env = (false, eval a X.env) :: starEach [] X.env := by rfl) (hpl : (backTo pos (starEach [] X.env)).any (·.1) = false := by rfl) : PMk X (.Call (.Name x p) [a] [] pos) (tMkE C ta) := by
  intro pins s σ H Q I h
  refine wpAny_Call_Name_kw (ld_glob I hg hm ?_ hdb)
  refine PySem.W.callWith_K (h₀ := X.base) I.ok.mod.kin T.kC (thn (ha.run pos pins s σ H _ I h) fun us s1 ⟨vs, H1, I1, r1, v, ev, q1⟩ => ⟨I1.kIn, ?_⟩) he hpl
  subst ev
  obtain ⟨u, rfl, ru⟩ := r1.one
  refine wpAny_call (e_made (s := s1) T I1.ok.mod I1.bk (by have := hr.dp; omega) fun h' tk' e d M => ?_)
  obtain ⟨hp, g, dr, tk, os⟩ := s1
  show MkP X pins σ Q (.ref e) ⟨h', g, dr, tk', os⟩
  obtain ⟨t1, ho⟩ := M.obj
  obtain ⟨G, g1, g2⟩ := restrict h' fun b => decide (b ≠ e)
  have gk : ∀ b, b ≠ e → G.get? b = h'.get? b := fun b hb => g1 b (decide_eq_true hb)
  have ge : G.get? e = none := g2 e (by simp)
  have kp : ∀ b o, hp.get? b = some o → G.get? b = some o := fun b o q => by
    rw [gk b (Nat.ne_of_lt (Nat.lt_of_lt_of_le (Heap.lt_size q) M.new))]
    exact M.keep b o q
  have J : L2.Inv X pins σ (upd H1 d (.xd [(("value" : Str), v)])) ⟨G, g, dr, tk', os⟩ := I1.laid (t' := tk') kp M.dbig (show ObjOk X.prog X.w _ G d (.xd [(("value" : Str), v)]) from ⟨_, M.ns.at (fun o q => (gk d M.dne).trans q), relO_value ru⟩)
  refine ⟨e, _, _, ⟨G, g, dr, tk', os⟩, _, .ref C, some d, rfl, J, fun b o q => ?_, ge, ho, ⟨rfl, rfl⟩, rfl, rfl, ?_, rfl, I1.bare, raises_own T.exC T.tyC, q1 d (I1.hok.fresh M.dbig)⟩
  · by_cases hb : b = e
    · have q' : G.get? b = some o := q
      rw [hb, ge] at q'
      cases q'
    · exact (gk b hb).symm.trans q
  · rw [upd_ne (Ne.symm M.dne)]
    exact I1.hok.fresh M.new
/-- raise C(a) -/
@[simp] def mRaise (C : Addr) (g : DX) : DM := fun s => bindS (g s) fun rv s1 => .err C rv.d s1
theorem ds_raise {k : Nat} {g : DX} {pos2 : Pos} (hc : X.calm = true) (tk : Takes X W) (T : ETxt X.prog X.K X.mg C fI cc cda qn) (hr : Room k X.A) (hg : Gl X x) (hm : X.mg x = some (.ref C)) (ha : DPE X B W a g) (hdb : (x == ("__debug__" : Str)) = false := by decide)
    (he : starEach [a] X.env = (false, eval a X.env) :: starEach [] X.env := by rfl) (hpl : (backTo pos (starEach [] X.env)).any (·.1) = false := by rfl) : DPS X B W (.Raise (some (.Call (.Name x p) [a] [] pos)) none pos2) (mRaise C g) :=
  (ps_raise hc tk (pmk_e T hr hg hm (pa_cons ha pa_nil he) hdb he hpl)).con fun D σ H ⟨γ, F, s, G, A⟩ => by
    refine (tD_bindS G A).mono fun v H1 ⟨F1, s1, rv, a1, p1, G1, r1, A1⟩ => ⟨v, rfl, fun d hd => ?_⟩
    obtain ⟨F2, a2, G2, r2⟩ := G1.frzV r1
    obtain ⟨sF, G3⟩ := G2.laid (o := .xd [(("value" : Str), v)]) hd
    exact A1 γ _ σ _ d ((a1.tr a2).tr sF) G3 ⟨v, upd_same, r2.mono sF⟩
end
end DL

set_option Elab.async false
set_option linter.all false
set_option autoImplicit false
set_option maxRecDepth 100000
/-! DL12: calls with keywords, without arguments; small rules. -/
namespace DL
open PySem PyProof.Rows L2
theorem hu_1 {k : Nat} {A : Around} (h : Room k A) : A.units + 64 < cLine := by have := h.un; omega
theorem hu_2 {k : Nat} {A : Around} (h : Room k A) : A.units + 65 < cLine := by have := h.un; omega
theorem hu_3 {k : Nat} {A : Around} (h : Room k A) : A.units + 66 < cLine := by have := h.un; omega
theorem tk0 {X : Cx} : Takes X W0 := LamX.takes0
section
variable {X : Cx} {B : Bas} {W : WX} {e a b c : Expr} {es : List Expr} {pos : Pos} {ga gb gc g : DX}
theorem de_globE {x : Str} {i : Int} (hg : Gl X x) (hm : ∃ t, X.mg x = some (.int i t)) (hd : (x == ("__debug__" : Str)) = false := by decide) : DPE X B W (.Name x pos) (xC (.int i)) := by
  obtain ⟨t, ht⟩ := hm
  exact de_globI hg ht hd
theorem de_dic0 : DPE X B W (.Dict [] [] pos) (xC (.dict [])) := de_dic pe_dnewK
theorem de_fun {x : Str} {id : String} {h : List PyData → Option Rv} {r : List V → Hp → VK → Prop} {p : Pos} {t : DA} (hc : CallR X (.builtin id) r) (o : OpN X.K h r) (hg : Gl X x) (hm : X.mg x = some (.builtin id)) (q : DPA X B W (e :: es) t) (hdb : (x == ("__debug__" : Str)) = false := by decide)
    (he : starEach (e :: es) X.env = (false, eval e X.env) :: starEach es X.env := by rfl) (hpl : (backTo pos (starEach es X.env)).any (·.1) = false := by rfl) : DPE X B W (.Call (.Name x p) (e :: es) [] pos) (xCall h t) :=
  (pe_callBfun hc hg hm q hdb he hpl).con fun σ H Q q => call_con o q

/-! ### a, b, c = d, e, f -/
@[simp] def mPar3 (i j l : Nat) (t : DA) : DM := fun s => match t s with
  | .ok [d, e, f] s1 => if (flat d && flat e && flat f) = true then .nx ⟨((s.σ.set i (.im d)).set j (.im e)).set l (.im f), s1.g⟩ else .nx ⟨((s1.σ.set i (.im d)).set j (.im e)).set l (.im f), s1.g⟩
  | .err C d s1 => .err C d s1
  | _ => .bad
theorem ds_par3 {i j l : Nat} {x y z : Str} {t : DA} {px py pz pt : Pos} {kt k2 : Nat} {pt2 : Pos} (hc : X.calm = true) (hN : X.N.Nodup) (hi : X.N[i]? = some x) (hj : X.N[j]? = some y) (hl : X.N[l]? = some z) (hij : i ≠ j) (hil : i ≠ l) (hjl : j ≠ l)
    (hx : X.env.scope.names.lookup x = some .local) (hy : X.env.scope.names.lookup y = some .local) (hz : X.env.scope.names.lookup z = some .local) (ha : DPA X B W [a, b, c] t)
    (hw : swappedStores [.Tuple [.Name x px, .Name y py, .Name z pz] kt pt] (.Tuple [a, b, c] k2 pt2) X.env = pure (some [x, y, z]) := by rfl)
    (hs : swapsWithSole [.Tuple [.Name x px, .Name y py, .Name z pz] kt pt] (.Tuple [a, b, c] k2 pt2) pos.line X.env = pure false := by rfl) :
    DPS X B W (.Assign [.Tuple [.Name x px, .Name y py, .Name z pz] kt pt] (.Tuple [a, b, c] k2 pt2) pos) (mPar3 i j l t) :=
  (ps_par3 hc hN hi hj hl hij hil hjl hx hy hz ha hw hs).con fun D σ H ⟨γ, F, s, G, A⟩ => by
    refine ⟨γ, F, s, G, ?_⟩
    unfold mPar3 at A
    cases e : t s with
    | bad => rw [e] at A; exact A.elim
    | err C d s1 =>
      rw [e] at A
      exact fun F' H' dx a p G1 q => A γ F' σ H' dx a G1 q
    | ok ds s1 =>
      rw [e] at A
      intro F' H' xs a p G1 r
      match ds, r, A with
      | [d1, d2, d3], .cons (v := v1) r1 (.cons (v := v2) r2 (.cons (v := v3) r3 .nil)), A =>
        refine ⟨v1, v2, v3, rfl, ?_⟩
        dsimp only at A
        by_cases f : (flat d1 && flat d2 && flat d3) = true
        · rw [if_pos f] at A
          rw [Bool.and_eq_true, Bool.and_eq_true] at f
          have G2 := G.thaw a p G1
          have G3 := G2.setIm (i := i) (r1.flat f.1.1)
          have G4 := G3.setIm (i := j) (r2.flat f.1.2)
          exact A γ F _ H' .rfl (G4.setIm (i := l) (r3.flat f.2))
        · rw [if_neg f] at A
          have G3 := G1.setIm (i := i) r1
          have G4 := G3.setIm (i := j) r2
          exact A γ F' _ H' a (G4.setIm (i := l) r3)
      | [], _, A => exact A.elim
      | [_], _, A => exact A.elim
      | [_, _], _, A => exact A.elim
      | _ :: _ :: _ :: _ :: _, _, A => exact A.elim

/-! ### calls with keywords only -/
abbrev DPK (X : Cx) (B : Bas) (W : WX) (kws : List Keyword) (t : DA) : Prop := PK X kws (tA X.K B W t)
end
end DL
namespace L2
open PySem
theorem PK.con {X : Cx} {e : List Keyword} {t t' : TA} (h : PK X e t) (c : ∀ σ H Q, t' σ H Q → t σ H Q) : PK X e t' := ⟨fun pos pins s σ H Q I q => h.run pos pins s σ H Q I (c σ H Q q)⟩
end L2
namespace DL
open PySem PyProof.Rows L2
section
variable {X : Cx} {B : Bas} {W : WX} {e a b c : Expr} {es : List Expr} {pos : Pos} {ga gb gc g : DX}
theorem dk_nil : DPK X B W [] aNil := pk_nil.con fun σ H P ⟨γ, F, s, G, A⟩ => A F H [] .rfl .rfl G .nil
theorem dk_cons {nm : Option Str} {kpos : Pos} {kws : List Keyword} {t : DA} (h : DPE X B W e g) (q : DPK X B W kws t) : DPK X B W (⟨nm, e, kpos⟩ :: kws) (aCons g t) :=
  (pk_cons h q).con fun σ H P ⟨γ, F, s, G, A⟩ => by
    refine ⟨γ, F, s, G, ?_⟩
    unfold aCons at A
    cases e1 : g s with
    | ok rv s1 =>
      rw [e1] at A
      intro F' H' v a p G1 r
      obtain ⟨F2, a2, G2, r2⟩ := G1.frzV r
      refine ⟨γ, F2, s1, G2, ?_⟩
      dsimp only at A
      cases e2 : t s1 with
      | ok ds s2 =>
        rw [e2] at A
        exact fun F3 H3 xs a3 p3 G3 r3 => A F3 H3 (v :: xs) ((a.tr a2).tr a3) (p.tr p3) G3 (.cons (r2.mono a3) r3)
      | err C d s2 =>
        rw [e2] at A
        exact fun F3 H3 dx a3 p3 G3 r3 => A F3 H3 dx ((a.tr a2).tr a3) (p.tr p3) G3 r3
      | bad => rw [e2] at A; exact A
    | err C d s1 => rw [e1] at A; exact A
    | bad => rw [e1] at A; exact A
/-- the values in the parameters' order -/
@[simp] def reord {α : Type} (pm : List Nat) (xs : List α) : List α := pm.filterMap fun i => xs[i]?
theorem reord_vals {vs : List V} {us : List Value} (r : Vals vs us) : ∀ pm : List Nat, Vals (reord pm vs) (reord pm us)
  | [] => .nil
  | i :: pm => by
    unfold reord
    rw [List.filterMap_cons, List.filterMap_cons]
    have ih := reord_vals r pm
    unfold reord at ih
    have hl := r.length
    cases e : vs[i]? with
    | none =>
      have : us[i]? = none := by rw [List.getElem?_eq_none_iff] at e ⊢; omega
      rw [this]
      exact ih
    | some v =>
      obtain ⟨u, hu, ru⟩ := Vals.get r e
      rw [hu]
      exact .cons ru ih
theorem reord_rp {K : PySem.W.Frag} {F : Hp} {γ : Addr} {ds : List PyData} {vs : List V} (r : RpL K F ds vs) : ∀ pm : List Nat, RpAs K F γ ((reord pm ds).map Ar.im) (reord pm vs)
  | [] => .nil
  | i :: pm => by
    unfold reord
    rw [List.filterMap_cons, List.filterMap_cons]
    have ih := reord_rp (γ := γ) r pm
    unfold reord at ih
    have hl := r.len
    cases e : ds[i]? with
    | none =>
      have : vs[i]? = none := by rw [List.getElem?_eq_none_iff] at e ⊢; omega
      rw [this]
      exact ih
    | some d =>
      obtain ⟨v, hv, rv⟩ := r.get e
      rw [hv]
      exact .cons (show RpAr K F γ (.im d) v from rv) ih
theorem noGn (ds : List PyData) : hasGn (ds.map Ar.im) = false := by
  induction ds with
  | nil => rfl
  | cons d ds ih => exact ih
/-- a call of m with data only -/
@[simp] def callN (m : Fn) (n : Nat) (ds : List PyData) (s1 : Sd) : R := if ds.length = n then (match m (ds.map Ar.im) none with
    | .ok rv _ => .ok rv s1
    | .err C d _ => .err C d s1
    | .bad => .bad) else .bad
theorem callN_sp {γ : Addr} {F : Hp} {s : Sd} {σ : L2.St} {H : Hp} {Q : VK} {m : Fn} {n : Nat} {ds : List PyData} {xs : List V} (G : Good X.K B γ F s σ H) (r : RpAs X.K F γ (ds.map Ar.im) xs) (A : After X.K B W γ F s σ H (callN m n ds s) Q) : spD X.K B.t m n xs H Q (WE W σ) := by
  unfold callN at A
  by_cases hl : ds.length = n
  · rw [if_pos hl] at A
    refine ⟨F, γ, ds.map Ar.im, none, G.tb, G.nf, G.sub, r, by rw [List.length_map]; exact hl, (noGn ds).symm, (fun l el => nomatch el), ?_⟩
    cases em : m (ds.map Ar.im) none with
    | bad => rw [em] at A; exact A.elim
    | ok rv g' =>
      rw [em] at A
      intro v F2 H2 L rv2
      obtain ⟨G2, p2⟩ := G.afterN L
      exact A F2 H2 v L.f p2 G2 (rv2.own G rfl rfl)
    | err C d g' =>
      rw [em] at A
      intro dx F2 H2 L er
      obtain ⟨G2, p2⟩ := G.afterN L
      exact A F2 H2 dx L.f p2 G2 er
  · rw [if_neg hl] at A
    exact A.elim
@[simp] def xUserK (m : Fn) (n : Nat) (pm : List Nat) (t : DA) : DX := fun s => bindA (t s) fun ds s1 => if ds.length = pm.length then callN m n (reord pm ds) s1 else .bad
theorem de_userK {n : Nat} {x : Str} {st : Stmt} {ps ks : List Str} {k : Nat} {m : Fn} {pm : List Nat} {t : DA} {p : Pos} {kws : List Keyword} {T : List (Addr × Str)} (D : Fd X.prog X.w X.K X.mg X.base T x st ps k m) (hT : B.t = T) (tk : Takes X W) (hr : Room k X.A) (gd : X.A.guards = some []) (hg : Gl X x) (ha : DPK X B W kws t)
    (hb : ∀ (kV doc pm' : Value) (an : Option Addr) (cdv ct : Value) (ws : List Value), ws.length = ks.length → bindArgs (PySem.W.fnOf x x (defArgs st) (defBody st) (defScope st) .none kV doc pm' an cdv ct) ⟨[], ks.zip ws⟩ = pure (ps.zip (reord pm ws)))
    (hn : ks.length = pm.length) (hl : ps.length = n := by rfl)
    (hdb : (x == ("__debug__" : Str)) = false := by decide) (hall : (backToKw pos (keywordEach kws X.env)).all (·.1.isSome) = true := by rfl) (hks : (backToKw pos (keywordEach kws X.env)).filterMap (·.1) = ks := by rfl)
    (hpl : ((backTo pos (starEach [] X.env)).any (·.1) || (backToKw pos (keywordEach kws X.env)).any (·.1.isNone)) = false := by rfl) :
    DPE X B W (.Call (.Name x p) [] kws pos) (xUserK m n pm t) := by
  subst hl
  subst hT
  obtain ⟨f, fd, hm, FF, _, ok⟩ := D.ex
  refine ⟨fun pins s σ H Q I ⟨γ, F, sd, G, A⟩ => ?_⟩
  refine wpAny_Call_Name_kw (ld_glob I hg hm ?_ hdb)
  have hq : tA X.K B W t σ H fun zs H1 => zs.length = ks.length ∧ spD X.K B.t m ps.length (reord pm zs) H1 Q (WE W σ) := by
    refine ⟨γ, F, sd, G, ?_⟩
    unfold xUserK at A
    cases e1 : t sd with
    | bad => rw [e1] at A; exact A.elim
    | err C d s1 => rw [e1] at A; exact A
    | ok ds s1 =>
      rw [e1] at A
      intro F' H' xs a p G1 r
      dsimp only [bindA] at A
      by_cases hl : ds.length = pm.length
      · rw [if_pos hl] at A
        exact ⟨by rw [r.len, hl, hn], callN_sp G1 (reord_rp r pm) (After.on A a p)⟩
      · rw [if_neg hl] at A
        exact A.elim
  refine PySem.W.callWith_KW0 (h₀ := X.base) I.ok.mod.kin FF.kp hall (thn (ha.run pos pins s σ H _ I hq) fun ws s2 ⟨zs, H2, I2, rz, hl, q2⟩ => ⟨I2.kIn, ?_⟩) hpl
  rw [hks]
  have rr := reord_vals rz pm
  have hw : ws.length = ks.length := by rw [← rz.length]; exact hl
  have bind : BindsTo s2 fd ⟨[], ks.zip ws⟩ (ps.zip (reord pm ws)) := by
    obtain ⟨oc, od, kV, doc, pm', an, cdv, ct, osl, rfl, lk, hcd⟩ := FF.ex
    exact .of_eq (hb kV doc pm' an cdv ct ws hw)
  refine wpAny_call (codeAny_mono (ok.run X.A X.stack s2 H2 ⟨[], ks.zip ws⟩ (reord pm ws) (reord pm zs) Q (WE W σ) hr gd I2.env0 bind rr q2) fun res s3 hq => ?_)
  match res, hq with
  | .error e, hq => exact passAt tk σ pins H2 s2 e s3 I2 hq
  | .ok (.ret u), hq => exact I2.after hq
/-! ### f() -/
@[simp] def xUser0 (m : Fn) : DX := fun s => callN m 0 [] s
theorem de_user0 {x : Str} {st : Stmt} {k : Nat} {m : Fn} {p : Pos} {T : List (Addr × Str)} (D : Fd X.prog X.w X.K X.mg X.base T x st [] k m) (hT : B.t = T) (tk : Takes X W) (hr : Room k X.A) (gd : X.A.guards = some []) (hg : Gl X x)
    (hdb : (x == ("__debug__" : Str)) = false := by decide) : DPE X B W (.Call (.Name x p) [] [] pos) (xUser0 m) := by
  subst hT
  obtain ⟨f, fd, hm, FF, hb, ok⟩ := D.ex
  refine ⟨fun pins s σ H Q I ⟨γ, F, sd, G, A⟩ => ?_⟩
  refine wpAny_Call_Name_kw (ld_glob I hg hm ?_ hdb)
  have q2 : spD X.K B.t m 0 [] H Q (WE W σ) := callN_sp (ds := []) G .nil A
  have bind := hb s [] I.kIn rfl
  refine PySem.W.callWith_K0 I.kIn FF.kp (wpAny_call (codeAny_mono (ok.run X.A X.stack s H ⟨[], []⟩ [] [] Q (WE W σ) hr gd I.env0 bind .nil q2) fun res s3 hq => ?_))
  match res, hq with
  | .error e, hq => exact passAt tk σ pins H s e s3 I hq
  | .ok (.ret u), hq => exact I.after hq
/-- raise C(a), the class known to stand there -/
theorem ds_raiseE {C : Addr} {x : Str} {k : Nat} {p pos2 : Pos} (hc : X.calm = true) (tk : Takes X W) (T : ∃ fI cc cda qn, ETxt X.prog X.K X.mg C fI cc cda qn) (hr : Room k X.A) (hg : Gl X x) (hm : X.mg x = some (.ref C)) (ha : DPE X B W a g) (hdb : (x == ("__debug__" : Str)) = false := by decide)
    (he : starEach [a] X.env = (false, eval a X.env) :: starEach [] X.env := by rfl) (hpl : (backTo pos (starEach [] X.env)).any (·.1) = false := by rfl) : DPS X B W (.Raise (some (.Call (.Name x p) [a] [] pos)) none pos2) (mRaise C g) := by
  obtain ⟨fI, cc, cda, qn, T⟩ := T
  exact ds_raise hc tk T hr hg hm ha hdb he hpl
end
end DL

set_option Elab.async false
set_option linter.all false
set_option autoImplicit false
set_option maxRecDepth 100000
set_option maxHeartbeats 1000000
/-! DL13: errors that are caught, kept and asked. -/
namespace DL
open PySem PyProof.Rows L2

/-! ### a caught error is tracked -/
theorem excH_ne {a C dx : Addr} : (∀ x, excH a C dx ≠ .own x) ∧ (∀ xs, excH a C dx ≠ .tup xs) ∧ (∀ o u, excH a C dx ≠ .frz o u) ∧ (∀ ps, excH a C dx ≠ .tbl ps) :=
  ⟨fun x z => (by unfold excH at z; cases z), fun x z => (by unfold excH at z; cases z), fun x y z => (by unfold excH at z; cases z), fun x z => (by unfold excH at z; cases z)⟩
theorem excH_ok {P : Program} {w : World} {H : Hp} {h : Heap} {a C dx : Addr} {oe : Obj} {vs : Array Value} (ho : h.get? a = some oe) (hc : oe.cls = .ref C) (hd : oe.dict = some dx) (hf : oe.data = .fields vs) : ObjOk P w H h a (excH a C dx) :=
  ⟨⟨oe, vs, ho, hc, hd, hf⟩, ⟨oe, ho⟩, fun h1 h2 z k => by
    obtain ⟨o, us, q1, q2⟩ := z
    exact ⟨o, us, k _ q1, q2⟩⟩
theorem excH_at {P : Program} {w : World} {H : Hp} {h : Heap} {a C dx : Addr} (hok : HOk P w H h) (e : H a = some (excH a C dx)) : ∃ (oe : Obj) (vs : Array Value), h.get? a = some oe ∧ oe.cls = .ref C ∧ oe.dict = some dx ∧ oe.data = .fields vs := by
  have x : ObjOk P w H h a (.ext fun h => ∃ (oe : Obj) (vs : Array Value), h.get? a = some oe ∧ oe.cls = .ref C ∧ oe.dict = some dx ∧ oe.data = .fields vs) := hok a _ e
  exact x.1
/-- what keeps an address apart from all that the context knows -/
structure Apart (X : Cx) (pins : List (Addr × Obj)) (a : Addr) : Prop where
  s0 : X.s_0.heap.get? a = none
  loc : a ≠ X.env.locals
  cel : ∀ y c, X.env.cells.lookup y = some c → c ≠ a
  pin : ∀ p ∈ X.pn ++ pins, p.1 ≠ a
theorem track {X : Cx} {pins : List (Addr × Obj)} {σ : L2.St} {H : Hp} {s : Shared} {a C dx : Addr} {oe : Obj} {vs : Array Value} (I : L2.Inv X pins σ H s) (ap : Apart X pins a) (na : H a = none) (ho : s.heap.get? a = some oe) (hc : oe.cls = .ref C) (hd : oe.dict = some dx) (hf : oe.data = .fields vs) :
    L2.Inv X pins σ (upd H a (excH a C dx)) s := by
  have ne : ∀ {b : Addr} {o : HO}, H b = some o → b ≠ a := fun {b o} e => ne_of_none e na
  refine ⟨I.ok, I.os, I.bare, ⟨I.base.keep, I.base.slot, fun b o e n hx => ?_, I.base.there, fun b xs e => ?_, fun b o u e => ?_, fun b ps e => ?_⟩, I.loc, I.cell, ?_, fun y c e => ?_, fun p hp => ?_, fun b o e => ?_, I.len⟩
  · have hb : b ≠ a := fun z => by rw [z, ap.s0] at e; cases e
    rw [upd_ne hb]
    exact I.base.free b o e n hx
  · have := I.base.tups b xs e
    rw [upd_ne (ne this)]; exact this
  · have := I.base.frzs b o u e
    rw [upd_ne (ne this)]; exact this
  · obtain ⟨more, this⟩ := I.base.tbls b ps e
    exact ⟨more, by rw [upd_ne (ne this)]; exact this⟩
  · rw [upd_ne (Ne.symm ap.loc)]; exact I.free
  · rw [upd_ne (ap.cel y c e)]; exact I.freeC y c e
  · obtain ⟨h1, h2, h3⟩ := I.pin p hp
    exact ⟨h1, by rw [upd_ne (ap.pin p hp)]; exact h2, h3⟩
  · by_cases hb : b = a
    · subst hb
      rw [upd_same] at e
      cases e
      exact excH_ok ho hc hd hf
    · rw [upd_ne hb] at e
      exact (I.hok b o e).stay (fun c u hcc q => q) (fun c q => by rw [upd_ne (ne q)]; exact q) (fun c xs q => by rw [upd_ne (ne q)]; exact q)

/-! ### try: .. except x as n: cn = n -/
/-- what is wished of an error of the body: slot i is cn's, slot j is n's -/
def wCat (K : PySem.W.Frag) (c : Value) (i j : Nat) (Wout : WX) (D : Ends) : WX := fun cls d σ H =>
  ∃ b, PySem.W.exmOne K cls c = some b ∧ (b = true → ∃ C dx, cls = .ref C ∧ d = some dx ∧ ∀ a, H a = none → D.nx ((σ.set i (some (.ref a))).set j none) (upd H a (excH a C dx))) ∧ (b = false → Wout cls d σ H)
section
variable {X : Cx} {x n cn : Str} {c : Value} {i j : Nat} {body : List Stmt} {np p1 p2 p3 pos pos' : Pos} {tb : WX → TS} {Wout : WX}
theorem ps_catch (hex : X.ex = []) (hs : X.stack = X.env :: X.outer) (hf : X.env.frame = some X.env.locals) (hN : X.N.Nodup) (hj : X.N[j]? = some n) (hi : X.N[i]? = some cn) (hij : i ≠ j) (hln : X.env.kindOf n = some .local) (hlc : X.env.kindOf cn = some .local) (hc : Names X x c) (tk : Takes X Wout)
    (hb : ∀ (W : WX) (pn : List (Addr × Obj)) (xe : Value → Shared → Prop), Takes (X.tr pn xe) W → PassesOwn (model X.prog X.w) X.A X.env xe → PSs (X.tr pn xe) body (tb W))
    (hsw : ∀ env : Env, swapsWith (.Name n p2) (some (.Name cn p1)) p3.line env = pure false := by intro _; rfl) (hdn : (n == ("__debug__" : Str)) = false := by decide) (hcd : (n == ("__classdict__" : Str)) = false := by decide) :
    PS X (.Try body [.ExceptHandler (some (.Name x np)) (some n) [.Assign [.Name cn p1] (.Name n p2) p3] pos'] [] [] pos) (fun D σ H => tb (wCat X.K c i j Wout D) D σ H) := by
  refine ⟨fun pins s σ H D I h => ?_⟩
  have ok := I.ok
  have hfr : X.A.frames = some (X.env :: X.outer) := by rw [ok.frames, hs]
  have hln' : Loc X.env.scope n := .inl hln
  have hlc' : Loc X.env.scope cn := .inl hlc
  refine wpAny_Try_except ?_
  refine wpAny_mono ((hb (wCat X.K c i j Wout D) (X.pn ++ pins) (fun e s₁ => wpAny (model X.prog X.w) X.A (noteFrame e X.env) (fun _ s₂ => wpAny (model X.prog X.w) X.A (setFlight e none) (fun _ s₃ =>
    wpAny (model X.prog X.w) X.A (handleBy e X.env [.ExceptHandler (some (.Name x np)) (some n) [.Assign [.Name cn p1] (.Name n p2) p3] pos']) (SP X pins D) X.xe s₃) X.xe s₂) X.xe s₁) (fun u s' xx => ?_) PassesOwn.looking).run [] s σ H D (I.toTry _) h) (fun f s1 hsp => ?_) (fun e s1 he => he)
  · obtain ⟨a, B, sI, pins', σ', H', cls, d, rfl, J', nb, up, sky, na, os, ag, b, hb1, hyes, hno⟩ := xx
    have J : L2.Inv X pins σ' H' sI := J'.ofTry ok
    have sky' : Sky B (X.env :: X.outer) a (Zc cls d) X.env.locals s'.heap := by rw [← hs]; exact sky
    show wpAny (model X.prog X.w) X.A (noteFrame (.ref a) X.env) _ _ _
    refine Sky.land Zc.steady hfr hf sky' fun h3 fl3 up3 => ?_
    have J3 : L2.Inv X pins σ' H' { s' with heap := h3 } := J.landed nb fl3.1 (up.trans up3) os ag
    obtain ⟨oe3, vs3, he3, hz3, hd3⟩ := fl3.there
    have nfr : a ∉ frs (X.env :: X.outer) := fun hm => by
      obtain ⟨_, o', e', hnf⟩ := (fl3.2.2.1).mem hm
      rw [he3] at e'; cases e'
      exact hnf _ hd3
    have nL : a ≠ X.env.locals := fun z => nfr (List.mem_filterMap.mpr ⟨X.env, List.mem_cons_self, by rw [hf, z]⟩)
    have nF : a ∉ X.fs := fun hm => by
      obtain ⟨e, he, q⟩ := List.mem_filterMap.mp hm
      exact nfr (List.mem_filterMap.mpr ⟨e, List.mem_cons_of_mem _ he, q⟩)
    -- the error is none of what the context knows: it isn't in the state without it
    have nI : sI.heap.get? a = none := by
      cases q : sI.heap.get? a with
      | none => rfl
      | some o =>
        have q2 := nb a o q (by rw [hs]; exact nfr)
        have q3 : B.get? a = none := fl3.2.1
        rw [q3] at q2
        cases q2
    have n0 : X.s_0.heap.get? a = none := by
      cases q : X.s_0.heap.get? a with
      | none => rfl
      | some o =>
        obtain ⟨o', q2⟩ := J.base.there a o q (by rw [hex]; simp)
        rw [nI] at q2
        cases q2
    have nC : ∀ y cc, X.env.cells.lookup y = some cc → cc ≠ a := fun y cc e z => by
      obtain ⟨v, o, q, _⟩ := J.cell y cc e
      rw [z, nI] at q
      cases q
    have nP : ∀ p ∈ X.pn ++ pins, p.1 ≠ a := fun p hp z => by
      have q := (J.pin p hp).1
      rw [z, nI] at q
      cases q
    have ap : Apart X pins a := ⟨n0, nL, nC, nP⟩
    have S3 := J3.suite he3 hd3 na nL nF
    refine wpAny_handleBy_cons (codeAny_handlers_test ?_) (by intro q; cases q)
    have LT : PySem.W.Looks (model X.prog X.w) h3 (typeOf (.ref a)) cls := fun A Q E s k q => wpAny_typeOf_ref (k _ _ he3) (by rw [hz3.1]; exact q)
    have LM := PySem.W.exm_one (M := model X.prog X.w) (J3.kIn) LT hb1
    have test : ∀ {Q : Value → Shared → Prop} {E : Value → Shared → Prop}, Q c { s' with heap := h3 } → wpAny (model X.prog X.w) (X.A.mark (some (.ref a))) (eval (.Name x np) X.env) Q E { s' with heap := h3 } := fun {Q E} q => by
      obtain ⟨hg, hdbg, hm | ⟨hm, hv, hnn⟩⟩ := hc
      · exact ld_glob (X := X.suite a ((a, oe3) :: (X.pn ++ pins))) S3 hg hm q hdbg
      · exact ld_blt (X := X.suite a ((a, oe3) :: (X.pn ++ pins))) S3 hg hm hv q hnn hdbg
    refine test (LM.here ?_)
    cases b with
    | true =>
      obtain ⟨C, dx, ec, ed, hnx⟩ := hyes rfl
      refine codeAny_handlers_suite_as ?_
      refine HandSPX.lands_againZ fl3 fun h4 fl4 up4 => ?_
      have J4 : L2.Inv X pins σ' H' { s' with heap := h4 } := J.landed nb fl4.1 ((up.trans up3).trans up4) os ag
      obtain ⟨oe4, vs4, he4, hz4, hd4⟩ := fl4.there
      have S4 := J4.suite he4 hd4 na nL nF
      refine store_ok (X := X.suite a ((a, oe4) :: (X.pn ++ pins))) (v := .ref a) S4 hN hj hln' rfl (fun s5 S5 => ?_) (.inr hln)
      have asg : PSs (X.suite a ((a, oe4) :: (X.pn ++ pins))) [.Assign [.Name cn p1] (.Name n p2) p3] (tAsg (tVar j) (gName i)) :=
        pss_one (ps_set hN hi hlc' (pe_var (X := X.suite a ((a, oe4) :: (X.pn ++ pins))) hj (.inl hln) hdn hcd) (hsw _) (.inr hlc))
      have hlen : j < σ'.length := by
        have e1 := J4.len
        have e2 := (List.getElem?_eq_some_iff.mp hj).1
        omega
      refine wpAny_mono (asg.run [] s5 _ H' { nx := fun σ6 H6 => H6 = H' ∧ σ6 = (σ'.set j (some (.ref a))).set i (some (.ref a)), rt := fun _ _ => False } S5 ⟨.ref a, List.getElem?_set_self hlen, rfl, rfl⟩) (fun f s6 hsp => ?_) (fun _ _ z => False.elim z)
      cases f with
      | next =>
        obtain ⟨σ6, H6, S6, eH, eσ⟩ := hsp
        obtain ⟨ha6, hn6, _⟩ := S6.pin (a, oe4) (List.mem_append.mpr (.inl List.mem_cons_self))
        have J6 : L2.Inv X pins σ6 H6 s6 := S6.unsuite ok
        rw [eH] at J6 hn6
        have K6 := track J6 ap hn6 ha6 (hz4.1.trans ec) (hz4.2.trans ed) hd4
        refine gone_ok K6 hN hj hln fun s7 J7 => ⟨_, _, J7, ?_⟩
        rw [eσ, List.set_comm _ _ (Ne.symm hij), List.set_set]
        exact hnx a na
      | brk =>
        obtain ⟨_, _, _, q6⟩ := hsp
        exact False.elim q6
      | cont =>
        obtain ⟨_, _, _, q6⟩ := hsp
        exact False.elim q6
      | ret u =>
        obtain ⟨_, _, _, _, _, q6⟩ := hsp
        exact False.elim q6
    | false =>
      show wpAny _ X.A (handleBy (.ref a) X.env []) _ _ _
      refine wpAny_handleBy_nil ?_
      obtain ⟨k1, k2, k3, oe, vs, T, oT, ts', he, hz, hd, h1, hr⟩ := id fl3
      unfold PySem.passOn
      refine wpAny_bind (wpAny_field he hd h1 ?_)
      rw [if_neg (show ¬ ((Value.ref T == Value.none) = true) from by simp)]
      have fin : wpAny (model X.prog X.w) X.A (setFlight (.ref a) X.env.frame) (fun _ s4 => wpAny (model X.prog X.w) X.A (throw (.ref a) : Sem Flow) (SP X pins D) X.xe s4) X.xe { s' with heap := h3 } := by
        rw [hf]
        refine HandSPX.setFlight_upZ fl3 fun h4 hh4 up4 => wpAny_throw (tk _ _ ?_)
        exact ⟨a, B, sI, pins, σ', H', cls, d, rfl, J, nb, (up.trans up3).trans up4, .inr (.inr (by rw [hs]; exact hh4)), na, os, ag, hno rfl⟩
      first
        | exact wpAny_bind (wpAny_pure (wpAny_bind fin))
        | exact wpAny_bind fin
  · cases f with
    | next =>
      obtain ⟨σ', H', J', q⟩ := hsp
      exact wpAny_execs_nil ⟨σ', H', J'.ofTry ok, q⟩
    | brk =>
      obtain ⟨σ', H', J', q⟩ := hsp
      exact ⟨σ', H', J'.ofTry ok, q⟩
    | cont =>
      obtain ⟨σ', H', J', q⟩ := hsp
      exact ⟨σ', H', J'.ofTry ok, q⟩
    | ret u =>
      obtain ⟨v, σ', H', J', r, q⟩ := hsp
      exact ⟨v, σ', H', J'.ofTry ok, r, q⟩
end
section
variable {X : Cx} {B : Bas} {W : WX} {e a b : Expr} {pos : Pos} {ga g : DX}
/-- try: body / except x as n: cn = n. cs: classes that x catches -/
@[simp] def mCatch (cs : List Addr) (i j : Nat) (b : DM) : DM := fun s => match b s with
  | .err C d s1 => if cs.contains C = true then .nx ⟨(s1.σ.set i (.im (.dict [(.int (C : Nat), d)]))).set j .un, s1.g⟩ else .bad
  | r => r
theorem ds_catch {x n cn : Str} {c : Value} {i j : Nat} {body : List Stmt} {bd : DM} {np p1 p2 p3 pos pos' : Pos} {cs : List Addr} (hex : X.ex = []) (hs : X.stack = X.env :: X.outer) (hf : X.env.frame = some X.env.locals) (hN : X.N.Nodup) (hj : X.N[j]? = some n) (hi : X.N[i]? = some cn) (hij : i ≠ j)
    (hln : X.env.kindOf n = some .local) (hlc : X.env.kindOf cn = some .local) (hc : Names X x c) (tk : Takes X W) (hcs : ∀ C, cs.contains C = true → PySem.W.exmOne X.K (.ref C) c = some true)
    (hb : ∀ (W : WX) (pn : List (Addr × Obj)) (xe : Value → Shared → Prop), Takes (X.tr pn xe) W → PassesOwn (model X.prog X.w) X.A X.env xe → DPB (X.tr pn xe) B W body bd)
    (hsw : ∀ env : Env, swapsWith (.Name n p2) (some (.Name cn p1)) p3.line env = pure false := by intro _; rfl) (hdn : (n == ("__debug__" : Str)) = false := by decide) (hcd : (n == ("__classdict__" : Str)) = false := by decide) :
    DPS X B W (.Try body [.ExceptHandler (some (.Name x np)) (some n) [.Assign [.Name cn p1] (.Name n p2) p3] pos'] [] [] pos) (mCatch cs i j bd) :=
  (ps_catch (tb := fun W => tS X.K B W bd) hex hs hf hN hj hi hij hln hlc hc tk hb hsw hdn hcd).con fun D σ H ⟨γ, F, s, G, A⟩ => by
    refine ⟨γ, F, s, G, ?_⟩
    unfold mCatch at A
    cases eb : bd s with
    | nx s1 => rw [eb] at A; exact A
    | bk s1 => rw [eb] at A; exact A
    | ct s1 => rw [eb] at A; exact A
    | rt v s1 => rw [eb] at A; exact A
    | bad => rw [eb] at A; exact A
    | err C d s1 =>
      rw [eb] at A
      intro γ' F' σ' H' dx a1 G1 er
      dsimp only at A
      by_cases hC : cs.contains C = true
      · rw [if_pos hC] at A
        refine ⟨true, hcs C hC, fun _ => ⟨C, dx, rfl, rfl, fun aa na => ?_⟩, fun z => by cases z⟩
        obtain ⟨v, h1, h2⟩ := er.at_
        obtain ⟨sF, G2⟩ := G1.laid (o := excH aa C dx) na excH_ne.2.2.2
        have r : Rp X.K (upd F' aa (excH aa C dx)) (.dict [(.int (C : Nat), d)]) (.ref aa) := .exc upd_same (sF _ _ h1) (h2.mono sF)
        exact A γ' _ _ _ (a1.tr sF) ((G2.setIm (i := i) r).un1 j)
      · rw [if_neg hC] at A
        exact A.elim

/-- what an error's class must say, so that its errors are asked rightly -/
structure ExcOk (K : PySem.W.Frag) (C : Addr) : Prop where
  cl : (PySem.W.clsIn K C).isSome = true
  ga : PySem.W.findIn K (.ref C) "__getattribute__" = some (some (.builtin "BaseException.__getattribute__"))
  gg : PySem.W.findIn K (.ref C) "__getattr__" = some none
  sb : PySem.W.subIn K (.ref C) (.type "BaseException") = some true
  ca : PySem.W.findIn K (.ref C) "__class__" = some (some (.builtin "object.__class__"))
  cg : PySem.W.specialIn K (.builtin "object.__class__") "__get__" = some (some (.builtin "getset_descriptor.__get__"))
  ct : PySem.W.takesIn K (.builtin "object.__class__") = some true
  mo : PySem.W.mroIn K C (.type "object") = some true
  hd : PySem.W.hasDictIn K C = true
  nv : PySem.W.findIn K (.ref C) "value" = some none
theorem exc_inst {pins : List (Addr × Obj)} {σ : L2.St} {H : Hp} {s : Shared} {a C dx : Addr} {fs : List (Str × V)} (I : L2.Inv X pins σ H s) (h1 : H a = some (excH a C dx)) (h2 : H dx = some (.xd fs)) :
    ∃ (oe od : Obj) (mA : Str → Option Value), PySem.W.InstAt s.heap a oe C (some od) ∧ (∀ f, RelO (fs.lookup f) (mA f)) ∧ ∀ f, PySem.W.lookIn f od = some (mA f) := by
  obtain ⟨oe, vs, q1, q2, q3, q4⟩ := excH_at I.hok h1
  obtain ⟨mA, hns, hr⟩ := (show ObjOk X.prog X.w H s.heap dx (.xd fs) from I.hok dx _ h2)
  obtain ⟨od, ho, hl⟩ := lookIn_ns hns
  exact ⟨oe, od, mA, ⟨q1, q2, by unfold PySem.W.notCls; rw [q4] <;> rfl, by rw [q3]; exact ho⟩, hr, hl⟩
def rIsX (K : PySem.W.Frag) : List V → Hp → VK → Prop := fun xs H Q => ∃ (a C dx : Addr) (fs : List (Str × V)) (c : V) (cv : Value) (b : Bool), xs = [.ref a, c] ∧ H a = some (excH a C dx) ∧ H dx = some (.xd fs) ∧ ExcOk K C ∧ ClsV c cv ∧ PySem.W.kitOne K (.ref C) cv = some b ∧ Q (.bl b) H
theorem call_isX : CallR X (.builtin "isinstance") (rIsX X.K) := by
  intro pins s σ H xs us Q I r ⟨a, C, dx, fs, c, cv, b, exs, h1, h2, T, k, e, q⟩
  subst exs
  obtain ⟨u1, u2, rfl, r1, r2⟩ := Vals.two r
  cases (show u1 = Value.ref a from r1)
  have ec := k.eq r2
  subst ec
  obtain ⟨oe, od, mA, J, _, _⟩ := exc_inst I h1 h2
  exact PySem.W.kia_one (PySem.W.kitx_exc T.cl T.ga T.gg T.sb T.ca T.cg T.ct T.mo) I.kIn J e (fun z => nomatch z) fun tk => ⟨.bl b, H, I.kept (t' := tk) fun _ _ z => z, rfl, q⟩
/-- isinstance(a, D), a an error, D a class of the program -/
@[simp] def xIsE (tab : List (Addr × Bool)) (g : DX) : DX := fun s => bindD (g s) fun d s1 => match d with
  | .dict [(.int c, _)] => (match tab.lookup c.toNat with | some b => .ok (.im (.bool b)) s1 | none => .bad)
  | _ => .bad
theorem isE_con {tab : List (Addr × Bool)} {c : V} {cv : Value} {te : TE} (hk : ClsV c cv) (htab : ∀ C b, tab.lookup C = some b → ExcOk X.K C ∧ PySem.W.kitOne X.K (.ref C) cv = some b) (hte : te = tC c) {σ : L2.St} {H : Hp} {Q : VK} (q : tD X.K B W (xIsE tab ga) σ H Q) :
    tCB (rIsX X.K) (tCons (tD X.K B W ga) (tCons te tNil)) σ H Q := by
  subst hte
  obtain ⟨γ, F, s, G, A⟩ := q
  refine (tD_bind G A).mono fun x H1 ⟨F1, s1, d, a1, p1, G1, r1, A1⟩ => ?_
  dsimp only at A1
  cases r1 with
  | @exc aa C dx dd v h1 h2 r =>
    dsimp only at A1
    have ec : ((C : Nat) : Int).toNat = C := Int.toNat_natCast C
    rw [ec] at A1
    cases el : tab.lookup C with
    | none => rw [el] at A1; exact A1.elim
    | some b =>
      rw [el] at A1
      obtain ⟨t1, t2⟩ := htab C b el
      exact ⟨aa, C, dx, _, c, cv, b, rfl, G1.sub _ _ h1, G1.sub _ _ h2, t1, hk, t2, A1.same G1 (.bl _)⟩
  | _ => exact A1.elim
theorem de_isE {tab : List (Addr × Bool)} {x : Str} {D : Addr} {p p2 : Pos} (ha : DPE X B W a ga) (hg : Gl X "isinstance") (hm : X.mg "isinstance" = none) (hgD : Gl X x) (hmD : X.mg x = some (.ref D)) (htab : ∀ C b, tab.lookup C = some b → ExcOk X.K C ∧ PySem.W.kitOne X.K (.ref C) (.ref D) = some b)
    (hdx : (x == ("__debug__" : Str)) = false := by decide)
    (he : starEach [a, .Name x p2] X.env = (false, eval a X.env) :: starEach [.Name x p2] X.env := by rfl) (he2 : starEach [.Name x p2] X.env = (false, eval (.Name x p2) X.env) :: starEach [] X.env := by rfl)
    (hpl : (backTo pos (starEach [.Name x p2] X.env)).any (·.1) = false := by rfl) : DPE X B W (.Call (.Name "isinstance" p) [a, .Name x p2] [] pos) (xIsE tab ga) :=
  (pe_callB call_isX hg hm rfl (pa_cons ha (pa_cons (pe_glob (v := .ref D) hgD hmD rfl hdx) pa_nil he2) he) (by decide) (by decide) he hpl).con fun σ H Q q => isE_con (.own D) htab rfl q
/-- a.value, a an error -/
@[simp] def xVal (cs : List Addr) (g : DX) : DX := fun s => bindD (g s) fun d s1 => match d with
  | .dict [(.int c, x)] => if cs.contains c.toNat = true then .ok (.im x) s1 else .bad
  | _ => .bad
theorem de_val {cs : List Addr} {p : Pos} (ha : DPE X B W a ga) (hcs : ∀ C, cs.contains C = true → ExcOk X.K C) (hb : attributeBase a "value" X.env (eval a X.env) = eval a X.env := by rfl) : DPE X B W (.Attribute a "value" p) (xVal cs ga) := by
  refine ⟨fun pins s σ H Q I ⟨γ, F, sd, G, A⟩ => ?_⟩
  refine attr_of hb (thn (ha.run pins s σ H _ I (tD_bind G A)) fun u s1 ⟨x, H1, I1, rx, F1, sd1, d, a1, p1, G1, r1, A1⟩ => ?_)
  dsimp only at A1
  cases r1 with
  | @exc aa C dx dd v h1 h2 r =>
    cases (show u = Value.ref aa from rx)
    dsimp only at A1
    have ec : ((C : Nat) : Int).toNat = C := Int.toNat_natCast C
    rw [ec] at A1
    by_cases hC : cs.contains C = true
    · rw [if_pos hC] at A1
      have T := hcs C hC
      obtain ⟨oe, od, mA, J, hr, hl⟩ := exc_inst I1 (G1.sub _ _ h1) (G1.sub _ _ h2)
      have hv := hr "value"
      rw [show List.lookup ("value" : Str) [(("value" : Str), v)] = some v by simp [List.lookup]] at hv
      obtain ⟨u, hu, ru⟩ := RelO.some_of (v := v) (o := mA "value") hv
      exact HandSPX.exc_get I1.kIn J T.ga T.gg T.sb (PySem.W.findObj_own T.hd T.nv rfl (by rw [hl, hu])) (handed_of ru) ⟨v, H1, I1.tok _, ru, A1.same G1 r⟩
    · rw [if_neg hC] at A1
      exact A1.elim
  | _ => exact A1.elim
end
end DL

set_option Elab.async false
set_option linter.all false
set_option autoImplicit false
set_option maxRecDepth 100000
set_option maxHeartbeats 1000000
/-! DL14: a lambda handed through two defs. -/
namespace DL
open PySem PyProof.Rows L2 LamX

/-- two calls, one in another: what the inner one left as it was, seen from ahead of the outer one -/
theorem un_two {fs : List Addr} {L : Addr} {H H1 H2 : Hp} {h h1 h2 : Heap} (a : Un fs [] H H1 h h1) (b : Un (L :: fs) [] H1 H2 h1 h2) (n : h.get? L = none) : Un fs [] H H2 h h2 := by
  have nL : ∀ {c : Addr} {o : Obj}, h.get? c = some o → c ≠ L := fun {c o} e z => by rw [z, n] at e; cases e
  have nx : ∀ c : Addr, c ∉ ([] : List Addr) := fun c z => by cases z
  refine ⟨fun c o e k hf _ => ?_, fun c o e k hf _ => ?_, fun c o e k _ => ?_, fun c o e _ => ?_, fun c xs e => b.tups c xs (a.tups c xs e), fun c o u e => b.frzs c o u (a.frzs c o u e), fun c ps e => ?_⟩
  · have e1 := a.keep c o e k hf (nx c)
    refine b.keep c o e1 (a.free c o e k (nx c)) (fun z => ?_) (nx c)
    rcases List.mem_cons.mp z with z | z
    · exact nL e z
    · exact hf z
  · obtain ⟨sl, e1⟩ := a.slot c o e k hf (nx c)
    obtain ⟨sl2, e2⟩ := b.slot c _ e1 (a.free c o e k (nx c)) (List.mem_cons_of_mem _ hf) (nx c)
    exact ⟨sl2, e2⟩
  · obtain ⟨sl, e1⟩ := a.any e k (nx c)
    exact b.free c _ e1 (a.free c o e k (nx c)) (nx c)
  · obtain ⟨o1, e1⟩ := a.there c o e (nx c)
    exact b.there c o1 e1 (nx c)
  · obtain ⟨m1, e1⟩ := a.tbls c ps e
    obtain ⟨m2, e2⟩ := b.tbls c _ e1
    exact ⟨m1 ++ m2, by rw [e2, Array.append_assoc]⟩
/-- the lambda, called from anywhere: X its maker's context at s -/
theorem lam_act {X : Cx} {pins : List (Addr × Obj)} {σ : L2.St} {H HZ : Hp} {s s1 : Shared} {A : Around} {outer : List Env} {f c' : Addr} {pm ctv : Value} {params : Arguments} {body : Expr} {scope : Scope} {k : Nat} {q : Str} {E : XK} {Q : VK} {tb : TE}
    (I : L2.Inv X pins σ H s) (L : LamS X.env.scope scope) (of1 : s1.heap.get? f = some (PySem.W.kla_obj "<lambda>" q params body scope (cloFrom X.env.cells scope.names []) pm c' ctv)) (hq : q = X.env.qual ++ "<lambda>")
    (un : Un (frs X.stack) [] H HZ s.heap s1.heap) (hc : HZ c' = some (CodeO c' q)) (e0 : Env0 X.prog X.w X.K X.mg X.base A outer s1 HZ) (hr : Room (k + 1) A)
    (hbind : bindArgs (PySem.W.kla_fn "<lambda>" q params body scope (cloFrom X.env.cells scope.names []) pm (.ref c') ctv) ⟨[], []⟩ = pure [])
    (hbody : PE (lamCx X A outer s1 HZ E scope f c') body tb) (ht : tb σ HZ Q) : codeAny (model X.prog X.w) A (.call (.ref f) ⟨[], []⟩) (CR (L2.CX X.prog X.w) outer X.prog X.w HZ s1 Q E) s1 := by
  subst hq
  obtain ⟨⟨oc, vs, t, hoc, hdc, hvc⟩, _, _⟩ := e0.hok c' _ hc
  have lim : s1.heap.NoLimit := e0.mod.nolimit.keeps fun b o e => (e0.bs b o e).1
  refine PySem.W.kla_callFunE hr.depth of1 rfl L.co L.gen rfl ⟨c', oc, vs, t, rfl, hoc, hdc, hvc⟩ ?_
  rw [hbind]
  refine wpAny_pure (wpAny_newFunctionEnv (fun y hy => (L.own y hy).2) (fun y hy => absurd hy (by simp)) (fun h₁ hns hsb => ⟨lim.fresh _ hsb, ?_⟩) L.kind)
  show codeAny _ _ (.expr body (lamEnv X scope s1.heap.objs.size f c')) _ _
  have kp : ∀ b o, s1.heap.get? b = some o → h₁.get? b = some o := fun b o e => hsb.extBut b o (Nat.ne_of_lt (Heap.lt_size e)) (Heap.get?_push_of_some _ e)
  have J : L2.Inv (lamCx X A outer s1 HZ E scope f c') [] σ HZ { s1 with heap := h₁, toks := s1.toks + ([] : List (Str × Value)).length } := lam_start2 I L e0 hr.hd un hns kp
  refine PySem.W.kla_codeExpr (wpAny_mono (hbody.run [] _ _ HZ Q J ht) (fun v s' hq => ?_) fun e s' hq => hq)
  obtain ⟨w', H', J', rv, q⟩ := hq
  exact ⟨w', H', J'.os, J'.bare, J'.base, J'.hok, rv, q⟩

/-! ### the state that a lambda sees -/
@[simp] def frz1 : Sl → Sl
  | .ow ds => .im (.list ds)
  | .gn => .un
  | x => x
@[simp] def frz2 : Sl → Sl
  | .ow ds => .im (.list ds)
  | x => x
/-- all own lists as data -/
@[simp] def frzS (s : Sd) : Sd := ⟨s.σ.map frz2, s.g⟩
@[simp] def lamS (s : Sd) : Sd := ⟨s.σ.map frz1, none⟩
section
variable {K : PySem.W.Frag} {B : Bas} {γ : Addr} {F : Hp} {s : Sd} {σ : L2.St} {H : Hp}
theorem frz_at {l : List Sl} {i : Nat} (h : ∀ j ds, l[j]? = some (.ow ds) → j < i) : l.map frz2 = (l.take i).map frz2 ++ l.drop i := by
  conv => lhs; rw [← List.take_append_drop i l, List.map_append]
  congr 1
  refine List.ext_getElem? fun j => ?_
  rw [List.getElem?_map, List.getElem?_drop]
  cases e : l[i + j]? with
  | none => rfl
  | some x =>
    cases x with
    | ow ds => exact absurd (h _ _ e) (by omega)
    | _ => rfl
theorem frz_step (G : Good K B γ F s σ H) : ∀ n : Nat, ∃ F', Sub F F' ∧ Good K B γ F' ⟨(s.σ.take n).map frz2 ++ s.σ.drop n, s.g⟩ σ H
  | 0 => ⟨F, .rfl, by simpa using G⟩
  | n + 1 => by
    obtain ⟨F1, a1, G1⟩ := frz_step G n
    cases e : s.σ[n]? with
    | none =>
      have hl : s.σ.length ≤ n := List.getElem?_eq_none_iff.mp e
      refine ⟨F1, a1, ?_⟩
      rw [List.take_of_length_le (by omega), List.drop_eq_nil_of_le (by omega)] at G1 ⊢
      exact G1
    | some x =>
      obtain ⟨hl, hx⟩ := List.getElem?_eq_some_iff.mp e
      have e1 : s.σ.take (n + 1) = s.σ.take n ++ [x] := by rw [List.take_add_one, e]; rfl
      have e2 : s.σ.drop n = x :: s.σ.drop (n + 1) := by rw [List.drop_eq_getElem_cons hl, hx]
      have hn : ((s.σ.take n).map frz2).length = n := by rw [List.length_map, List.length_take]; omega
      cases x with
      | ow ds =>
        have at_ : ((s.σ.take n).map frz2 ++ s.σ.drop n)[n]? = some (.ow ds) := by
          rw [List.getElem?_append_right (by omega), hn, Nat.sub_self, e2]
          rfl
        have er : rd ⟨(s.σ.take n).map frz2 ++ s.σ.drop n, s.g⟩ n = some (.list ds, ⟨((s.σ.take n).map frz2 ++ s.σ.drop n).set n (.im (.list ds)), s.g⟩) := by
          unfold DL.rd
          rw [at_]
        obtain ⟨F2, v, a2, G2, _⟩ := G1.rd er
        refine ⟨F2, a1.tr a2, ?_⟩
        have e3 : ((s.σ.take n).map frz2 ++ s.σ.drop n).set n (.im (.list ds)) = (s.σ.take (n + 1)).map frz2 ++ s.σ.drop (n + 1) := by
          rw [List.set_append_right _ _ (by omega), hn, Nat.sub_self, e2, e1, List.map_append, List.append_assoc]
          rfl
        rw [e3] at G2
        exact G2
      | _ =>
        refine ⟨F1, a1, ?_⟩
        rw [e1, List.map_append, List.append_assoc]
        rw [e2] at G1
        exact G1
theorem Good.frzAll (G : Good K B γ F s σ H) : ∃ F', Sub F F' ∧ Good K B γ F' (frzS s) σ H := by
  obtain ⟨F', a, G'⟩ := frz_step G s.σ.length
  refine ⟨F', a, ?_⟩
  rw [List.take_length, List.drop_length, List.append_nil] at G'
  exact G'
theorem frz1_im {l : List Sl} {i : Nat} {d : PyData} (h : (l.map frz1)[i]? = some (.im d)) : (l.map frz2)[i]? = some (.im d) := by
  rw [List.getElem?_map] at h ⊢
  cases e : l[i]? with
  | none => rw [e] at h; cases h
  | some x => rw [e] at h; cases x <;> first | exact h | cases h
theorem frz1_no {l : List Sl} {i : Nat} : (∀ ds, (l.map frz1)[i]? ≠ some (.ow ds)) ∧ (l.map frz1)[i]? ≠ some .gn := by
  rw [List.getElem?_map]
  cases e : l[i]? with
  | none => exact ⟨(fun ds z => by cases z), (fun z => by cases z)⟩
  | some x => cases x <;> exact ⟨(fun ds z => by cases z), (fun z => by cases z)⟩
/-- the lambda's own state, over what stands when it is called -/
theorem lam_good {T : TL} {FZ HZ : Hp} {γ' : Addr} (G : Good K B γ F (frzS s) σ H) (sF : Sub F FZ) (sZ : Sub FZ HZ) (tb : Tabs T HZ) (nf : ∀ a ps, FZ a ≠ some (.tbl ps)) : Good K (stB T none γ' FZ HZ) γ' FZ (lamS s) σ HZ := by
  refine ⟨sZ, fun a o e => ?_, .rfl, fun a o e => .inl e, ?_, fun i d e => ?_, fun i ds e => absurd e (frz1_no.1 ds), fun i j ds es a e => absurd e (frz1_no.1 ds), fun i e => absurd e frz1_no.2, (fun l e => nomatch e), (fun a e => nomatch e), tb, fun a ps e => ?_, nf⟩
  · dsimp only at e
    split at e
    · cases e
    · exact (notTbl_some e).1
  · have := G.len
    unfold frzS at this
    unfold lamS
    simpa using this
  · obtain ⟨v, h1, h2⟩ := G.im i d (frz1_im e)
    exact ⟨v, h1, h2.mono sF⟩
  · dsimp only at e
    split at e
    · cases e
    · exact (notTbl_some e).2 ps rfl
end
/-! ### f(lambda: e, ..) where f hands it to g, and g calls it -/
abbrev tok (f : Addr) : PyData := .dict [(.none, .int (f : Nat))]
@[simp] def isTok (f : Addr) : Option Sl → Bool
  | some (.im (.dict [(.none, .int j)])) => decide (j = ((f : Nat) : Int))
  | _ => false
/-- what the call of the lambda comes to, r its body's answer -/
@[simp] def xOut (f : Addr) (r : R) : DX := fun s => if isTok f s.σ[0]? = true then (match r with
  | .ok rv _ => .ok rv s
  | .err C d _ => .err C d s
  | .bad => .bad) else .bad
/-- g(f), f the lambda in slot 0 -/
@[simp] def xHand (f : Addr) (m : Fn) : DX := fun s => if isTok f s.σ[0]? = true then callN m 1 [tok f] s else .bad
theorem tok_at {K : PySem.W.Frag} {B : Bas} {γ : Addr} {F : Hp} {s : Sd} {σ : L2.St} {H : Hp} {f : Addr} (G : Good K B γ F s σ H) (h : isTok f s.σ[0]? = true) : σ[0]? = some (some (.ref f)) := by
  unfold isTok at h
  split at h
  · rename_i j e
    obtain ⟨v, h1, h2⟩ := G.im 0 _ e
    cases h2 with
    | @fn f' =>
      have e2 : f' = f := Int.ofNat.inj (of_decide_eq_true h)
      rw [h1, e2]
  · cases h
/-- what is asked of the two defs: their texts, and what their bodies do, gc standing for the handed call -/
structure Two (P : Program) (w : World) (K : PySem.W.Frag) (mg : Str → Option Value) (base : Heap) (T : TL) (x1 x2 a : Str) (N1 ps1 N2 : List Str) (st1 st2 : Stmt) (k : Nat) (bd1 bd2 : DX → DM) : Prop where
  fn1 : ∃ f fd, mg x1 = some (.ref f) ∧ Fun K x1 x1 st1 f fd ∧ Binds K fd ps1 []
  fn2 : ∃ f fd, mg x2 = some (.ref f) ∧ Fun K x2 x2 st2 f fd ∧ Binds K fd [a] []
  sc1 : FnScope N1 ps1 (defScope st1)
  sc2 : FnScope N2 [a] (defScope st2)
  h1 : ps1.head? = some a
  body1 : ∀ (f : Addr) (cdv : Value) (A : Around) (outer : List Env) (s : Shared) (H : Hp) (E : XK) (B : Bas) (gc : DX), B.t = T → Room (k + 2) (A.deeper (envOfC x1 (defScope st1) s.heap.objs.size f cdv)) → A.guards = some [] →
    (∀ p p' pos, DPE (cxOf (L2.CX P w) P w K mg base N1 x1 (defScope st1) f cdv A outer s H E) B (fun cls d _ H => E cls d H) (.Call (.Name x2 p) [.Name a p'] [] pos) gc) →
    DPB (cxOf (L2.CX P w) P w K mg base N1 x1 (defScope st1) f cdv A outer s H E) B (fun cls d _ H => E cls d H) (defBody st1) (bd1 gc)
  body2 : ∀ (f : Addr) (cdv : Value) (A : Around) (outer : List Env) (s : Shared) (H : Hp) (E : XK) (B : Bas) (gc : DX), B.t = T → Room (k + 1) (A.deeper (envOfC x2 (defScope st2) s.heap.objs.size f cdv)) → A.guards = some [] →
    (∀ (W : WX) (pn : List (Addr × Obj)) (xe : Value → Shared → Prop) (p pos : Pos), Takes ((cxOf (L2.CX P w) P w K mg base N2 x2 (defScope st2) f cdv A outer s H E).tr pn xe) W →
      DPE ((cxOf (L2.CX P w) P w K mg base N2 x2 (defScope st2) f cdv A outer s H E).tr pn xe) B W (.Call (.Name a p) [] [] pos) gc) →
    DPB (cxOf (L2.CX P w) P w K mg base N2 x2 (defScope st2) f cdv A outer s H E) B (fun cls d _ H => E cls d H) (defBody st2) (bd2 gc)
  gl : (defScope st1).names.lookup x2 = some .globalImplicit
  d2 : (x2 == ("__debug__" : Str)) = false
  va1 : Vis (defScope st1) a
  va2 : Vis (defScope st2) a
  da : (a == ("__debug__" : Str)) = false
  ca : (a == ("__classdict__" : Str)) = false
section
variable {X : Cx} {pins : List (Addr × Obj)} {σ : L2.St} {H HZ : Hp} {s s1 : Shared} {B : Bas} {W : WX}
/-- the inner def, handed the lambda -/
theorem hand_in {T : TL} {x1 x2 a : Str} {N1 ps1 N2 : List Str} {st1 st2 : Stmt} {k : Nat} {bd1 bd2 : DX → DM} (TW : Two X.prog X.w X.K X.mg X.base T x1 x2 a N1 ps1 N2 st1 st2 k bd1 bd2)
    {f c' f1 : Addr} {cdv1 pm ctv : Value} {params : Arguments} {body : Expr} {scope : Scope} {q : Str} {E1 : XK} {sd : Sd} {F γ : _} {gl : DX}
    (I : L2.Inv X pins σ H s) (L : LamS X.env.scope scope) (hf : s.heap.get? f = some (PySem.W.kla_obj "<lambda>" q params body scope (cloFrom X.env.cells scope.names []) pm c' ctv)) (hq : q = X.env.qual ++ "<lambda>") (hfn : H f = none) (hfr : f ∉ frs X.stack) (hco : H c' = some (CodeO c' q))
    (hbind : ∀ (q : Str) (cl : List (Str × Addr)) (pm cv ctv : Value), bindArgs (PySem.W.kla_fn "<lambda>" q params body scope cl pm cv ctv) ⟨[], []⟩ = pure [])
    (G : Good X.K B γ F (frzS sd) σ H) (hT : B.t = T) (gd : X.A.guards = some [])
    (hbody : ∀ (A : Around) (outer : List Env) (s : Shared) (H : Hp) (E : XK) (B' : Bas), B'.t = T → A.guards = some [] → Room k (A.deeper (lamEnv X scope s.heap.objs.size f c')) → DPE (lamCx X A outer s H E scope f c') B' (fun cls d _ H => E cls d H) body gl)
    (hr : Room (k + 2) (X.A.deeper (envOfC x1 (defScope st1) s.heap.objs.size f1 cdv1))) (p p' pos : Pos) :
    DPE (cxOf (L2.CX X.prog X.w) X.prog X.w X.K X.mg X.base N1 x1 (defScope st1) f1 cdv1 X.A X.stack s H E1) (stB T none γ F H) (fun cls d _ H => E1 cls d H) (.Call (.Name x2 p) [.Name a p'] [] pos) (xHand f (mkFn N2.length 1 (bd2 (xOut f (gl (lamS sd)))))) := by
  obtain ⟨f2, fd2, hm2, FF2, hb2⟩ := TW.fn2
  have hN1 : N1[0]? = some a := by
    have e1 := TW.sc1.pre
    have e2 := TW.h1
    cases hp : ps1 with
    | nil => rw [hp] at e2; cases e2
    | cons b r =>
      rw [hp] at e1 e2
      cases hN : N1 with
      | nil => rw [hN] at e1; simp at e1
      | cons c r' =>
        rw [hN] at e1
        have e3 : c :: r'.take r.length = b :: r := e1
        injection e3 with e3 _
        injection e2 with e2
        rw [e3, e2]
        rfl
  have hN2 : N2[0]? = some a := by
    have e1 := TW.sc2.pre
    cases hN : N2 with
    | nil => rw [hN] at e1; simp at e1
    | cons c r' =>
      rw [hN] at e1
      have e3 : c :: r'.take 0 = [a] := e1
      injection e3 with e3 _
      rw [e3]
      rfl
  refine ⟨fun pins1 s3 σ3 H3 Q I3 ⟨γ3, F3, sd3, G3, A3⟩ => ?_⟩
  unfold xHand at A3
  by_cases ht : isTok f sd3.σ[0]? = true
  case neg => rw [if_neg ht] at A3; exact A3.elim
  rw [if_pos ht] at A3
  have hs0 := tok_at G3 ht
  refine wpAny_Call_Name_kw (ld_glob (X := cxOf (L2.CX X.prog X.w) X.prog X.w X.K X.mg X.base N1 x1 (defScope st1) f1 cdv1 X.A X.stack s H E1) I3 TW.gl hm2 ?_ TW.d2)
  have hpa : PA (cxOf (L2.CX X.prog X.w) X.prog X.w X.K X.mg X.base N1 x1 (defScope st1) f1 cdv1 X.A X.stack s H E1) [.Name a p'] (tCons (tVar 0) tNil) := pa_cons (pe_var hN1 TW.va1 TW.da TW.ca) pa_nil
  refine PySem.W.callWith_K (h₀ := X.base) I3.ok.mod.kin FF2.kp (thn (hpa.run pos pins1 s3 σ3 H3 (fun vs H4 => vs = [.ref f] ∧ H4 = H3) I3 ⟨.ref f, hs0, rfl, rfl⟩) fun us s4 ⟨vs, H4, I4, r4, ev, eH⟩ => ⟨I4.kIn, ?_⟩) rfl rfl
  subst ev
  rw [eH] at I4
  obtain ⟨u4, rfl, r4'⟩ := r4.one
  cases (show u4 = Value.ref f from r4')
  have noL : s.heap.get? s.heap.objs.size = none := by
    cases e : s.heap.get? s.heap.objs.size with
    | none => rfl
    | some o => exact absurd (Heap.lt_size e) (Nat.lt_irrefl _)
  have un1 : Un (frs X.stack) [] H H3 s.heap s4.heap := I4.base
  have of4 := un1.keep f _ hf hfn hfr (by simp)
  have hf3 := un1.free f _ hf hfn (by simp)
  have nfL : f ∉ s.heap.objs.size :: frs X.stack := fun z => by
    rcases List.mem_cons.mp z with z | z
    · rw [← z, hf] at noL; cases noL
    · exact hfr z
  have nt : ∀ {o : HO}, (∀ ps, o ≠ .tbl ps) → notTbl (some o) = some o := fun {o} h => by
    cases o <;> first | rfl | exact absurd rfl (h _)
  have hc3 : H3 c' = some (CodeO c' q) := G3.bs c' _ (by
    show (if (none : Option (List Int)).isSome = true ∧ c' = γ then none else notTbl (H c')) = _
    rw [if_neg (fun z => by cases z.1), hco]
    exact nt codeO_ne)
  refine wpAny_call (codeAny_mono (def_run (b := bd2 (xOut f (gl (lamS sd)))) (T := T) (E := WE (fun cls d _ H => E1 cls d H) σ3) (Q := Q) (F0 := F3) (γ := γ3) (as := [.im (tok f)]) (g := none) FF2 TW.sc2 (fun cdv _ hr2 => ?_) hr I4.env0 (hb2 s4 [.ref f] I4.kIn rfl) (vs := [.ref f]) (.cons (show L2.RelV (.ref f) (.ref f) from rfl) .nil) G3.tb G3.nf G3.sub
    (.cons (show RpAr X.K F3 γ3 (.im (tok f)) (.ref f) from Rp.fn) .nil) rfl rfl (fun l e => nomatch e) ?_) fun res s5 hq => ?_)
  · refine TW.body2 f2 cdv _ _ s4 H3 _ (stB T none γ3 F3 H3) _ rfl hr2 gd fun W pn xe p2 pos2 tk => ?_
    refine ⟨fun pinsZ sZ σZ HZ QZ IZ ⟨γZ, FZ, sdZ, GZ, AZ⟩ => ?_⟩
    unfold xOut at AZ
    by_cases htZ : isTok f sdZ.σ[0]? = true
    case neg => rw [if_neg htZ] at AZ; exact AZ.elim
    rw [if_pos htZ] at AZ
    have hsZ := tok_at GZ htZ
    refine wpAny_Call_Name_kw (thn ((pe_var (pos := p2) (i := 0) hN2 TW.va2 TW.da TW.ca).run pinsZ sZ σZ HZ (fun v H1 => v = .ref f ∧ H1 = HZ) IZ ⟨.ref f, hsZ, rfl, rfl⟩) fun u s6 ⟨v, H6, I6, r6, e6, e7⟩ => ?_)
    subst e6
    rw [e7] at I6
    obtain rfl : u = Value.ref f := r6
    have un2 : Un (s.heap.objs.size :: frs X.stack) [] H3 HZ s4.heap s6.heap := I6.base
    have un := un_two un1 un2 noL
    have of6 := un2.keep f _ of4 hf3 nfL (by simp)
    have hc6 : HZ c' = some (CodeO c' q) := GZ.bs c' _ (by
      show (if (none : Option (List Int)).isSome = true ∧ c' = γ3 then none else notTbl (H3 c')) = _
      rw [if_neg (fun z => by cases z.1), hc3]
      exact nt codeO_ne)
    refine PySem.W.callWith_F0 ⟨_, _, _, _, of6⟩ ?_
    have e06 : Env0 X.prog X.w X.K X.mg X.base _ _ s6 HZ := I6.env0
    have aft : After X.K (stB T none γZ FZ HZ) (fun cls d _ H => WE W σZ cls d H) γZ FZ (lamS sd) σ HZ (gl (lamS sd)) QZ := by
      cases er : gl (lamS sd) with
        | bad => rw [er] at AZ; exact AZ.elim
        | ok rv s8 =>
          rw [er] at AZ
          intro F' H' v a8 p8 Gx rx
          obtain ⟨Lx, cx⟩ := end_lv (g := (none : Option (List Int))) a8 (fun l e => by cases e) Gx (fun z => by cases z)
          obtain ⟨G8, p9⟩ := GZ.afterN Lx
          exact AZ F' H' v a8 p9 G8 ((cx rv v rx).own GZ rfl rfl)
        | err C d s8 =>
          rw [er] at AZ
          intro F' H' dx a8 p8 Gx ex
          obtain ⟨Lx, cx⟩ := end_lv (g := (none : Option (List Int))) a8 (fun l e => by cases e) Gx (fun z => by cases z)
          obtain ⟨G8, p9⟩ := GZ.afterN Lx
          exact AZ F' H' dx a8 p9 G8 ex
    have rc := lam_act (X := X) (k := k) (E := WE W σZ) (Q := QZ) (tb := tD X.K (stB T none γZ FZ HZ) (fun cls d _ H => WE W σZ cls d H) gl) I L of6 hq un hc6 e06 hr2 (hbind _ _ _ _ _) (hbody _ _ s6 HZ (WE W σZ) (stB T none γZ FZ HZ) rfl gd (hr2.deeper _)) ⟨γZ, FZ, lamS sd, lam_good G (G3.f0.tr GZ.f0) GZ.sub GZ.tb GZ.nf, aft⟩
    refine wpAny_call (codeAny_mono rc fun res s7 hq => ?_)
    match res, hq with
    | .error e, hq => exact passAt tk σZ pinsZ HZ s6 e s7 I6 hq
    | .ok (.ret u), hq => exact I6.after hq
  · have A3' : After X.K (stB T none γ F H) (fun cls d _ H => E1 cls d H) γ3 F3 sd3 σ3 H3 (callN (mkFn N2.length 1 (bd2 (xOut f (gl (lamS sd))))) 1 [tok f] sd3) Q := A3
    unfold callN at A3'
    rw [if_pos (show [tok f].length = 1 from rfl)] at A3'
    have em : ∀ r, mkFn N2.length 1 (bd2 (xOut f (gl (lamS sd)))) ([tok f].map Ar.im) none = r → AftF X.K T F3 γ3 none H3 r Q (WE (fun cls d _ H => E1 cls d H) σ3) := fun r em => by
      rw [em] at A3'
      cases r with
      | bad => exact A3'.elim
      | ok rv g' =>
        intro v F5 H5 L5 rv5
        obtain ⟨G5, p5⟩ := G3.afterN L5
        exact A3' F5 H5 v L5.f p5 G5 (rv5.own G3 rfl rfl)
      | err C d g' =>
        intro dx F5 H5 L5 er
        obtain ⟨G5, p5⟩ := G3.afterN L5
        exact A3' F5 H5 dx L5.f p5 G5 er
    exact em _ rfl
  · match res, hq with
    | .error e, hq => exact passAt (takes_of rfl rfl rfl rfl) σ3 pins1 H3 s4 e s5 I4 hq
    | .ok (.ret u), hq => exact I4.after hq
end
end DL

set_option Elab.async false
set_option linter.all false
set_option autoImplicit false
set_option maxRecDepth 100000
set_option maxHeartbeats 1000000
/-! DL15: the def that makes the lambda. -/
namespace DL
open PySem PyProof.Rows L2 LamX

section
variable {K : PySem.W.Frag} {B : Bas} {γ : Addr} {F : Hp} {s : Sd} {σ : L2.St} {H H1 : Hp}
/-- tables grow, code objects come -/
theorem Good.ext (G : Good K B γ F s σ H) (x : ExtN H H1) (tb : Tabs B.t H1) : Good K B γ F s σ H1 ∧ Pr γ s s H H1 := by
  refine ⟨⟨fun a o e => x a o (G.sub a o e) (fun ps z => G.nf a ps (by rw [e, z])), fun a o e => x a o (G.bs a o e) (fun ps z => G.nt a ps (by rw [e, z])), G.f0, G.fr, G.len, G.im, fun i ds e => ?_, G.ap, G.gn, fun l e => ?_, G.gx, tb, G.nt, G.nf⟩, ⟨fun a o e t _ => x a o e t, rfl⟩⟩
  · obtain ⟨a, xs, h1, h2, h3⟩ := G.ow i ds e
    exact ⟨a, xs, h1, x _ _ h2 (fun ps z => by cases z), h3⟩
  · obtain ⟨h1, h2⟩ := G.gg l e
    exact ⟨x _ _ h1 (fun ps z => by cases z), h2⟩
theorem RpL.ars {K : PySem.W.Frag} {F : Hp} {γ : Addr} : ∀ {ds : List PyData} {vs : List V}, RpL K F ds vs → RpAs K F γ (ds.map Ar.im) vs
  | _, _, .nil => .nil
  | _, _, .cons r q => .cons (show RpAr K F γ (.im _) _ from r) (RpL.ars q)
end
/-- x1(lambda: e, ..): gl the lambda's body, res what x1 makes of its answer -/
@[simp] def xTwo (res : R → List PyData → Option PyData) (gl : DX) (t : DA) : DX := fun s => bindA (t s) fun ds s2 => match res (gl (lamS s2)) ds with
  | some d => .ok (.im d) (frzS s2)
  | none => .bad
theorem noGnD {ds : List PyData} : hasGn (ds.map Ar.im) = false := by
  induction ds with
  | nil => rfl
  | cons d ds ih => exact ih
section
variable {X : Cx} {B : Bas} {W : WX} {es : List Expr} {pos : Pos}
theorem de_two {T : TL} {x1 x2 a : Str} {N1 ps1 N2 : List Str} {st1 st2 : Stmt} {k n : Nat} {bd1 bd2 : DX → DM} {c P : Addr} {params : Arguments} {body : Expr} {scope : Scope} {gl : DX} {t : DA} {p lpos : Pos} {res : R → List PyData → Option PyData}
    (TW : Two X.prog X.w X.K X.mg X.base T x1 x2 a N1 ps1 N2 st1 st2 k bd1 bd2) (hT : B.t = T) (tk : Takes X W) (hr : Room (k + 3) X.A) (gd : X.A.guards = some []) (hg : Gl X x1)
    (TB : TabB X.base X.mg c P) (hcode : X.env.code = .ref c) (hmT : (P, X.env.qual ++ "<lambda>") ∈ T) (hu : ∀ p ∈ T, p.1 = P → p.2 = X.env.qual ++ "<lambda>") (hfs : frs X.stack = X.env.locals :: X.fs)
    (L : LamS X.env.scope scope) (hdef : defaultsOf params X.env = ([], []))
    (hbind : ∀ (q : Str) (cl : List (Str × Addr)) (pm cv ctv : Value), bindArgs (PySem.W.kla_fn "<lambda>" q params body scope cl pm cv ctv) ⟨[], []⟩ = pure [])
    (hbody : ∀ (f c' : Addr) (A : Around) (outer : List Env) (s : Shared) (H : Hp) (E : XK) (B' : Bas), B'.t = T → A.guards = some [] → Room k (A.deeper (lamEnv X scope s.heap.objs.size f c')) → DPE (lamCx X A outer s H E scope f c') B' (fun cls d _ H => E cls d H) body gl)
    (hes : DPA X B W es t) (hn : ps1.length = n + 1)
    (hres : ∀ (f : Addr) (r : R) (ds : List PyData) (d : PyData), res r ds = some d → ds.length = n ∧ ∃ g', mkFn N1.length ps1.length (bd1 (xHand f (mkFn N2.length 1 (bd2 (xOut f r))))) (.im (tok f) :: ds.map Ar.im) none = .ok (.im d) g')
    (hdb : (x1 == ("__debug__" : Str)) = false := by decide) (he : starEach (.Lambda params body scope lpos :: es) X.env = (false, eval (.Lambda params body scope lpos) X.env) :: starEach es X.env := by rfl) (hpl : (backTo pos (starEach es X.env)).any (·.1) = false := by rfl) :
    DPE X B W (.Call (.Name x1 p) (.Lambda params body scope lpos :: es) [] pos) (xTwo res gl t) := by
  subst hT
  obtain ⟨f1, fd1, hm1, FF1, hb1⟩ := TW.fn1
  refine ⟨fun pins s σ H Q I ⟨γ, F, sd, G, A⟩ => ?_⟩
  refine wpAny_Call_Name_kw (ld_glob I hg hm1 ?_ hdb)
  refine PySem.W.callWith_K (h₀ := X.base) I.ok.mod.kin FF1.kp ?_ he hpl
  show wpAny _ _ (spliced ((false, eval (.Lambda params body scope lpos) X.env) :: backTo pos (starEach es X.env))) _ _ s
  refine Calls.spliced_cons (lam_make2 I TB hcode hmT hu G.tb hdef (L.has I.ok) fun f c' pm ctv H1 s1 I1 eN T1 hf hfn hfr hco => ?_)
  obtain ⟨G1, p1⟩ := G.ext eN T1
  have A1 := After.on A (.rfl) p1
  rw [hfs] at hfr
  have I1' : L2.Inv X (pins ++ [(f, PySem.W.kla_obj "<lambda>" (X.env.qual ++ "<lambda>") params body scope (cloFrom X.env.cells scope.names []) pm c' ctv)]) σ H1 s1 := I1.pins_of fun q hq => by
    rcases List.mem_append.mp hq with z | z
    · exact I1.pin q (List.mem_append_right _ z)
    · rw [List.mem_singleton.mp z]
      exact ⟨hf, hfn, fun z => hfr (List.mem_cons.mpr (.inl z)), fun z => hfr (List.mem_cons_of_mem _ z), fun v z => by cases z⟩
  refine thn (hes.run pos _ s1 σ H1 _ I1' (tA_bind G1 A1)) fun us s2 ⟨vs, H2, I2, rv, F2, sd2, ds, a2, p2, G2, r2, A2⟩ => ⟨I2.kIn, ?_⟩
  obtain ⟨q1, q2, _⟩ := I2.pin _ (List.mem_append_right _ (List.mem_append_right _ (List.mem_singleton.mpr rfl)))
  have I3 : L2.Inv X pins σ H2 s2 := I2.unpinned
  have hco2 : H2 c' = some (CodeO c' (X.env.qual ++ "<lambda>")) := p2.pr _ _ hco codeO_ne (fun z e => by
    obtain ⟨l, el⟩ := Option.isSome_iff_exists.mp z
    have h1 := (G1.gg l el).1
    rw [← e, hco] at h1
    unfold CodeO at h1
    cases h1)
  cases er : res (gl (lamS sd2)) ds with
  | none => rw [er] at A2; exact A2.elim
  | some d =>
    rw [er] at A2
    obtain ⟨hl, g', hm⟩ := hres f _ ds d er
    obtain ⟨F3, a3, G3⟩ := G2.frzAll
    have bl := hb1 s2 (.ref f :: us) I3.kIn (by rw [List.append_nil, List.length_cons, hn, ← hl, ← r2.len, rv.length])
    rw [List.append_nil] at bl
    refine wpAny_call (codeAny_mono (def_run (b := bd1 (xHand f (mkFn N2.length 1 (bd2 (xOut f (gl (lamS sd2))))))) (T := B.t) (E := WE W σ) (Q := Q) (F0 := F3) (γ := γ) (as := .im (tok f) :: ds.map Ar.im) (g := none) (k := k + 2) (vs := .ref f :: vs) FF1 TW.sc1 (fun cdv _ hr2 => ?_) hr I3.env0 bl (.cons (show L2.RelV (.ref f) (.ref f) from rfl) rv) G3.tb G3.nf G3.sub
      (.cons (show RpAr X.K F3 γ (.im (tok f)) (.ref f) from Rp.fn) (RpL.ars (r2.mono a3))) (by rw [List.length_cons, List.length_map, hl, hn]) (noGnD (ds := tok f :: ds)).symm (fun l e => nomatch e) ?_) fun r s3 hq => ?_)
    · refine TW.body1 f1 cdv _ _ s2 H2 _ _ _ rfl hr2 gd fun p1' p2' pos' => ?_
      exact hand_in TW I3 L q1 rfl q2 (by rw [hfs]; exact hfr) hco2 hbind G3 rfl gd (fun A outer s H E B' => hbody f c' A outer s H E B') hr2 p1' p2' pos'
    · rw [hm]
      intro v F4 H4 L4 rv4
      obtain ⟨G4, p4⟩ := G3.afterN L4
      exact A2 F4 H4 v (a3.tr L4.f) (show Pr γ sd2 (frzS sd2) H2 H4 from ⟨p4.pr, p4.gs⟩) G4 (rv4.own G3 rfl rfl)
    · match r, hq with
      | .error e, hq => exact passAt tk σ pins H2 s2 e s3 I3 hq
      | .ok (.ret u), hq => exact I3.after hq
end
end DL

set_option Elab.async false
set_option linter.all false
set_option autoImplicit false
set_option maxRecDepth 100000
set_option maxHeartbeats 1000000
/-! DL16: the law's end. -/
namespace DL
open PySem PySem.Spec PyProof.Rows L2 LamX

/-- no list of the module's own -/
def noList (K : PySem.W.Frag) : Bool := K.all fun p => match p.2.cls with
  | .type "list" => false
  | _ => true
theorem noList_at : ∀ {K : PySem.W.Frag} {a : Addr} {o : Obj}, noList K = true → K.lookup a = some o → o.cls ≠ .type "list"
  | [], _, _, _, e, _ => by cases e
  | (b, u) :: K, a, o, h, e, z => by
    have h' : ((match u.cls with | .type "list" => false | _ => true) && noList K) = true := h
    rw [Bool.and_eq_true] at h'
    simp only [List.lookup] at e
    split at e
    · cases e
      rw [z] at h'
      exact absurd h'.1 (by decide)
    · exact noList_at h'.2 e z
theorem tq_of {T : TL} {P : Addr} {q : Str} (nd : (T.map (·.1)).Nodup) (hm : (P, q) ∈ T) : ∀ p ∈ T, p.1 = P → p.2 = q := by
  induction T with
  | nil => cases hm
  | cons t T ih =>
    rw [List.map_cons, List.nodup_cons] at nd
    intro p hp e
    rcases List.mem_cons.mp hm with z | z
    · rcases List.mem_cons.mp hp with y | y
      · rw [y, ← z]
      · exact absurd (List.mem_map.mpr ⟨p, y, by rw [e, ← z]⟩) nd.1
    · rcases List.mem_cons.mp hp with y | y
      · exact absurd (List.mem_map.mpr ⟨(P, q), z, by rw [← y]; exact e.symm⟩) nd.1
      · exact ih nd.2 z p y e
/-- what may be tracked at the law's call: the script, the tables -/
def topH (a : Addr) (o : Obj) (xs : List V) (ts : List Addr) : Hp := fun b => if b = a then some (.frz o (.lst xs)) else if b ∈ ts then some (.tbl #[]) else none
section
variable {a : Addr} {o : Obj} {xs : List V} {ts : List Addr}
theorem topH_a : topH a o xs ts a = some (.frz o (.lst xs)) := if_pos rfl
theorem topH_t {b : Addr} (hb : b ∈ ts) (na : a ∉ ts) : topH a o xs ts b = some (.tbl #[]) := (if_neg (fun z => na (by rw [← z]; exact hb))).trans (if_pos hb)
theorem topH_inv {b : Addr} {u : HO} (h : topH a o xs ts b = some u) : (b = a ∧ u = .frz o (.lst xs)) ∨ (b ≠ a ∧ b ∈ ts ∧ u = .tbl #[]) := by
  unfold topH at h
  split at h
  · rename_i e
    exact .inl ⟨e, (Option.some.inj h).symm⟩
  · rename_i e
    split at h
    · rename_i m
      exact .inr ⟨e, m, (Option.some.inj h).symm⟩
    · cases h
end
/-- the law's def is called with the script: m tells that it answers True -/
theorem dl_call {P : Program} {w : World} {K : PySem.W.Frag} {mg mb : Str → Option Value} {k : Nat} {fa a : Addr} {cs : List (Addr × Addr)} {T : TL} {fd : FuncData} {x : Str} {m : Fn} {s : Shared} {vs : List Value} {ns : List Int}
    (KX : K.In s.heap) (nl : noList K = true) (hg : s.heap.Ns mainGlobals mg) (hb : s.heap.Ns builtinsNs mb) (hbb : ∀ x : Str, x ≠ "__name__" → mb x = bootBuiltins x) (lim : s.heap.NoLimit) (gens : s.gens = #[])
    (tabs : ∀ p ∈ cs, s.heap.get? p.2 = some { cls := .none, data := .fields #[] }) (nT : ∀ p ∈ cs, K.lookup p.2 = none) (heads : ∀ p ∈ cs, PySem.W.CodeHd s.heap p.1 p.2)
    (main : ∃ (bm : Addr) (ob : Obj), mg "__builtins__" = some (.ref bm) ∧ bm ≠ builtinsNs ∧ s.heap.get? bm = some ob ∧ ob.cls = .type "module" ∧ ob.dict = some builtinsNs ∧ ob.data = .plain)
    (ha : s.heap.get? a = some { cls := .type "list", data := .seq vs.toArray }) (hi : IntsAre vs ns) (hl : ns.length ≤ sizeLine) (hr : Room k callerA) (hT : ∀ p ∈ T, p.1 ∈ cs.map (·.2))
    (fn : ∀ base : Heap, K.In base → base.Ns mainGlobals mg → (∀ p ∈ cs, TabB base mg p.1 p.2) → FnG P w K mg base k fa fd [x] (spD K T m 1)) (bind : ∀ (s : Shared) (u : Value), BindsTo s fd ⟨[u], []⟩ [(x, u)])
    (plain : ∃ g', m [.im (.list (ns.map PyData.int))] none = .ok (.im (.bool true)) g') :
    codeAny (model P w) callerA (.call (.ref fa) ⟨[.ref a], []⟩) (fun r s' => r = .ok (.ret (.bool true)) ∧ OldK s.heap s'.heap ∧ s'.os = s.os ∧ AllBare s'.gens) s := by
  have rv := vals_ints hi
  have ex : ∃ ts : List Addr, ts = cs.map (·.2) := ⟨_, rfl⟩
  obtain ⟨ts, ets⟩ := ex
  have isT : ∀ b ∈ ts, s.heap.get? b = some { cls := .none, data := .fields #[] } := fun b hb => by
    rw [ets] at hb
    obtain ⟨p, hp, rfl⟩ := List.mem_map.mp hb
    exact tabs p hp
  have inT : ∀ p ∈ cs, p.2 ∈ ts := fun p hp => by
    rw [ets]
    exact List.mem_map_of_mem hp
  have na : a ∉ ts := fun z => by
    have e := (isT a z).symm.trans ha
    injection e with e
    injection e with e
    cases e
  have nK : K.lookup a = none := by
    cases q : K.lookup a with
    | none => rfl
    | some o =>
      have e := (KX a o q).symm.trans ha
      injection e with e
      exact absurd (by rw [e]) (noList_at nl q)
  have eH : ∃ H, H = topH a { cls := .type "list", data := .seq vs.toArray } (ns.map V.int) ts := ⟨_, rfl⟩
  obtain ⟨H, eH⟩ := eH
  have HA : H a = some (.frz { cls := .type "list", data := .seq vs.toArray } (.lst (ns.map V.int))) := by
    rw [eH]
    exact topH_a
  have HT : ∀ b ∈ ts, H b = some (.tbl #[]) := fun b hb => by
    rw [eH]
    exact topH_t hb na
  have inv : ∀ {b : Addr} {u : HO}, H b = some u → (b = a ∧ u = .frz { cls := .type "list", data := .seq vs.toArray } (.lst (ns.map V.int))) ∨ (b ≠ a ∧ b ∈ ts ∧ u = .tbl #[]) := fun {b u} h => by
    rw [eH] at h
    exact topH_inv h
  have hok : HOk P w H s.heap := fun b u h => by
    rcases inv h with ⟨rfl, rfl⟩ | ⟨_, hb, rfl⟩
    · exact ⟨ha, by rw [List.length_map]; exact hl, vs, _, rv, ha⟩
    · exact isT b hb
  -- what is no list and no table is not tracked
  have clear : ∀ {b : Addr} {o : Obj}, s.heap.get? b = some o → (∀ vs n, o.data ≠ .seq vs n) → o.data ≠ .fields #[] → H b = none := fun {b o} e h1 h2 => by
    cases q : H b with
    | none => rfl
    | some u =>
      rcases inv q with ⟨rfl, _⟩ | ⟨_, hb, _⟩
      · rw [ha] at e
        cases e
        exact absurd rfl (h1 _ _)
      · rw [isT b hb] at e
        cases e
        exact absurd rfl h2
  have dicts : ∀ {b : Addr} {m : Str → Option Value}, s.heap.Ns b m → (hidT s.heap H).Ns b m := fun {b m} ⟨o, es, ep, e, d, r⟩ =>
    ⟨o, es, ep, hidT_get e (clear e (by rw [d]; exact fun _ _ z => by cases z) (by rw [d]; exact fun z => by cases z)), d, r⟩
  have hKb : K.In (hidT s.heap H) := fun b o e => hidT_get (KX b o e) (by
    cases q : H b with
    | none => rfl
    | some u =>
      rcases inv q with ⟨rfl, _⟩ | ⟨_, hb, _⟩
      · rw [nK] at e; cases e
      · rw [ets] at hb
        obtain ⟨p, hp, rfl⟩ := List.mem_map.mp hb
        rw [nT p hp] at e
        cases e)
  have tb : ∀ p ∈ cs, TabB (hidT s.heap H) mg p.1 p.2 := fun p hp => by
    have hp2 := tabs p hp
    refine ⟨?_, ?_, fun z => ?_⟩
    · obtain ⟨o, us, file, tf, flags, tg, inF, text, tt, e, e1, e2, e3, rest⟩ := heads p hp
      refine ⟨o, us, file, tf, flags, tg, inF, text, tt, hidT_get e (clear e ?_ ?_), e1, e2, e3, rest⟩
      · rw [e2]
        exact fun _ _ z => by cases z
      · rw [e2]
        intro z
        injection z with z
        rw [z] at e3
        simp at e3
    · obtain ⟨bm, ob, b1, b2, b3, b4, b5, b6⟩ := main
      have nG : bm ≠ mainGlobals := fun z => by
        obtain ⟨o, es, ep, e, hd, _⟩ := hg
        rw [← z, b3] at e
        cases e
        rw [hd] at b6
        cases b6
      have nP : bm ≠ p.2 := fun z => by
        rw [z, hp2] at b3
        cases b3
        cases b6
      exact ⟨bm, ob, b1, b2, nG, nP, hidT_get b3 (clear b3 (by rw [b6]; exact fun _ _ z => by cases z) (by rw [b6]; exact fun z => by cases z)), b4, b5, b6⟩
    · obtain ⟨o, es, ep, e, hd, _⟩ := hg
      rw [z, hp2] at e
      cases e
      cases hd
  have e0 : Env0 P w K mg (hidT s.heap H) callerA [] s H :=
    ⟨rfl, ⟨hKb, dicts hg, ⟨mb, dicts hb, hbb⟩, let ⟨mc, h1, h2⟩ := lim; ⟨mc, dicts h1, h2⟩⟩, fun b o e => of_hidT e, Nat.le_of_eq (hidT_size _ _), trivial, (fun b hb => nomatch hb), hok, .of_eq gens⟩
  have pre : spD K T m 1 [.ref a] H (fun v _ => v = .bl true) fun _ _ _ => False := by
    obtain ⟨g', hm⟩ := plain
    refine ⟨fun b => if b = a then H b else none, a, [.im (.list (ns.map PyData.int))], none, fun p hp => ?_, fun b ps z => ?_, fun b u z => ?_, .cons (a := .im _) ?_ .nil, rfl, rfl, (fun l z => nomatch z), ?_⟩
    · have hb := hT p hp
      rw [← ets] at hb
      exact TabS.nil (HT p.1 hb)
    · dsimp only at z
      split at z
      · rename_i e
        rw [e, HA] at z
        cases z
      · cases z
    · dsimp only at z
      split at z
      · exact z
      · cases z
    · exact .lst (.inr ⟨{ cls := .type "list", data := .seq vs.toArray }, (if_pos rfl).trans HA⟩) RpL.ints
    · rw [hm]
      intro v F' H' L r
      cases (show Rp K F' (.bool true) v from r)
      rfl
  refine codeAny_mono ((fn _ hKb (dicts hg) tb).run callerA [] s H ⟨[.ref a], []⟩ [.ref a] [.ref a] _ _ hr rfl e0 (bind s (.ref a)) (.cons rfl .nil) pre) fun r s' h => ?_
  match r, h with
  | .error e, h =>
    obtain ⟨_, _, _, _, _, _, _, _, _, _, _, _, z⟩ := h
    exact z.elim
  | .ok .next, h => exact False.elim h
  | .ok .brk, h => exact False.elim h
  | .ok .cont, h => exact False.elim h
  | .ok (.ret u), h =>
    obtain ⟨v, H', os, bare, un, hok', r', q⟩ := h
    cases (show v = V.bl true from q)
    cases (show u = Value.bool true from r')
    have stay : ∀ b o, b ∉ ts → s.heap.get? b = some o → s'.heap.get? b = some o := fun b o nb e => by
      cases q : H b with
      | none => exact un.keep b o e q (fun z => nomatch (show b ∈ ([] : List Addr) from z)) (fun z => nomatch z)
      | some u =>
        rcases inv q with ⟨rfl, rfl⟩ | ⟨_, hb, _⟩
        · obtain ⟨e1, _⟩ := hok _ _ q
          obtain ⟨e2, _⟩ := hok' _ _ (un.frzs _ _ _ q)
          rw [e] at e1
          cases e1
          exact e2
        · exact absurd hb nb
    have more : ∀ b ∈ ts, ∃ ps : Array Value, s'.heap.get? b = some { cls := .none, data := .fields ps } := fun b hb => by
      obtain ⟨ps, z⟩ := un.tbls b #[] (HT b hb)
      exact ⟨_, hok' b _ z⟩
    refine ⟨rfl, ⟨fun b o e => ?_, fun b o e => ?_⟩, os, bare⟩
    · by_cases hb : b ∈ ts
      · obtain ⟨ps, z⟩ := more b hb
        have hb' := hb
        rw [ets] at hb'
        obtain ⟨p, hp, rfl⟩ := List.mem_map.mp hb'
        rw [tabs p hp] at e
        cases e
        exact .inr (.inl ⟨((heads p hp).tab (tabs p hp)).isCodeTable, rfl, #[], ps, rfl, by rw [Array.empty_append]; exact z⟩)
      · exact .inl (stay b o hb e)
    · by_cases hb : b ∈ ts
      · obtain ⟨ps, z⟩ := more b hb
        exact ⟨_, z⟩
      · exact ⟨o, stay b o hb e⟩
/-- the table of the code object at c -/
def codeTab (K : PySem.W.Frag) (c : Addr) : Option Addr := match K.lookup c with
  | some ⟨_, _, .fields vs, _⟩ => (match (vs[11]? : Option Value) with
    | some (.ref P) => some P
    | _ => none)
  | _ => none
theorem tab_of {K : PySem.W.Frag} {D : Value} {tab : List (Addr × Bool)} (h : ∀ p ∈ tab, ExcOk K p.1 ∧ PySem.W.kitOne K (.ref p.1) D = some p.2) : ∀ C b, tab.lookup C = some b → ExcOk K C ∧ PySem.W.kitOne K (.ref C) D = some b :=
  fun C b e => by
    induction tab with
    | nil => cases e
    | cons t tab ih =>
      obtain ⟨D', c⟩ := t
      simp only [List.lookup] at e
      split at e
      · rename_i q
        cases e
        rw [beq_iff_eq.mp q]
        exact h _ List.mem_cons_self
      · exact ih (fun p hp => h p (List.mem_cons_of_mem _ hp)) e
theorem all_of {p : Addr → Prop} {l : List Addr} (h : ∀ C ∈ l, p C) : ∀ C, l.contains C = true → p C := fun C e => h C (List.contains_iff_mem.mp e)
/-- a def stands there -/
theorem at_ {K : PySem.W.Frag} {h : Heap} {mg : Str → Option Value} {x : Str} {st : Stmt} {f : Addr} {oc kV doc pm cdv ct : Value} {od an : Option Addr} {osl : Array (Option Value)} (KX : K.In h) (G : h.Ns mainGlobals mg)
    (a : PySem.W.nsIn K mainGlobals x = some (some (.ref f))) (l : K.lookup f = some ⟨oc, od, .func (PySem.W.fnOf x x (defArgs st) (defBody st) (defScope st) .none kV doc pm an cdv ct), osl⟩)
    (c : PySem.W.codeIn K cdv x = true) (k : PySem.W.keepIn K (.ref f) = true) : ∃ (f : Addr) (fd : FuncData), mg x = some (.ref f) ∧ Fun K x x st f fd :=
  ⟨f, _, PySem.W.mg_of KX G a, fun_mk (st := st) l c k⟩
theorem atC {K : PySem.W.Frag} {h : Heap} {mg : Str → Option Value} {x : Str} {st : Stmt} {f cc : Addr} {oc kV doc pm ct : Value} {od an : Option Addr} {osl : Array (Option Value)} (KX : K.In h) (G : h.Ns mainGlobals mg)
    (a : PySem.W.nsIn K mainGlobals x = some (some (.ref f))) (l : K.lookup f = some ⟨oc, od, .func (PySem.W.fnOf x x (defArgs st) (defBody st) (defScope st) .none kV doc pm an (.ref cc) ct), osl⟩)
    (c : PySem.W.codeIn K (.ref cc) x = true) (k : PySem.W.keepIn K (.ref f) = true) : ∃ (f : Addr) (fd : FuncData), mg x = some (.ref f) ∧ Fun K x x st f fd ∧ fd.code = .ref cc :=
  ⟨f, _, PySem.W.mg_of KX G a, fun_mk (st := st) l c k, rfl⟩
/-- what the end asks of a law's def -/
structure LawD (l : PySem.W.OpenLaw) (w : World) (K : PySem.W.Frag) (k n : Nat) (x : Str) (mg : Str → Option Value) (fa : Addr) (h : Heap) : Prop where
  ex : ∃ (fd : FuncData) (cs : List (Addr × Addr)) (T : TL) (m : Fn), (∀ p ∈ cs, h.get? p.2 = some { cls := .none, data := .fields #[] } ∧ K.lookup p.2 = none ∧ PySem.W.CodeHd h p.1 p.2) ∧ (∀ p ∈ T, p.1 ∈ cs.map (·.2)) ∧
    (∀ (s : Shared) (u : Value), BindsTo s fd ⟨[u], []⟩ [(x, u)]) ∧ (∀ ns : List Int, ns.length ≤ n → (∀ z ∈ ns, Builtin.Int.intBits z ≤ 1048576) → ∃ g', m [.im (.list (ns.map PyData.int))] none = .ok (.im (.bool true)) g') ∧
    ∀ base : Heap, K.In base → base.Ns mainGlobals mg → (∀ p ∈ cs, TabB base mg p.1 p.2) → FnG l.prog w K mg base k fa fd [x] (spD K T m 1)
theorem dl_walk {l : PySem.W.OpenLaw} {n k : Nat} {q : Program} {loose : List Str} {XP : (Str → Option Value) → Heap → Prop} {YP : World → Heap → Prop} {d : DefRec} {K : Params → PySem.W.Frag} {x : Str}
    (hn : l.most = some n) (hn2 : n ≤ sizeLine) (hdf : d.params.defaults = []) (hr : Room k callerA) (hY : ∀ (w : World) (h : Heap), YP w h → (K w.params).In h) (nl : ∀ w : World, noList (K w.params) = true)
    (F : ∀ (w : World) (mg : Str → Option Value) (fa : Addr) (h : Heap), YP w h → (K w.params).In h → h.Ns mainGlobals mg → mg d.name = some (.ref fa) → LawD l w (K w.params) k n x mg fa h) :
    PySem.W.WalkO q loose XP YP l.row.toRowW d [] (fun f vs => PySem.call f vs) :=
  Att.attach_callB hn hdf fun w s₀ s₁ mg mb fa o pm cd doc a vs ns G Y ho hd hcd hmg hobj hints hlen hbits hg => by
    have KX := hY w _ Y
    obtain ⟨fd, cs, T, m, c1, c2, c3, c4, c5⟩ := (F w mg fa _ Y KX G.T.g hmg).ex
    exact dl_call KX (nl w) G.T.g G.T.b G.T.builtins G.T.nolimit hg (fun p hp => (c1 p hp).1) (fun p hp => (c1 p hp).2.1) (fun p hp => (c1 p hp).2.2) G.T.bmain hobj hints (Nat.le_trans hlen hn2) hr c2 c5 c3 (c4 ns hlen hbits)
end DL

set_option Elab.async false
set_option linter.all false
set_option autoImplicit false
set_option maxRecDepth 100000
set_option maxHeartbeats 1000000
/-! DL17: computing with mirrors: texts of data, comparisons. -/
namespace DL
open PySem
def OkS (x : Str) : Prop := PyData.strOk x = true
theorem okS_app {a b : Str} (h : OkS a) (k : OkS b) : OkS (a ++ b) := by
  unfold OkS PyData.strOk at h k ⊢
  show Array.all (a.cps ++ b.cps) _ = true
  rw [Array.all_append, h, k]
  rfl
theorem okS_of (s : String) : OkS (Str.ofString s) := by
  unfold OkS PyData.strOk
  rw [Str.ofString_eq_toList]
  simp only [List.all_toArray, List.all_map, List.all_eq_true, Function.comp, decide_eq_true_eq]
  intro c _
  have := c.valid
  have e : c.toNat = c.val.toNat := rfl
  rcases this with h | ⟨_, h⟩
  · have h' : c.val.toNat < 0xd800 := h
    omega
  · have h' : c.val.toNat < 0x110000 := h
    omega
theorem okS_join {sep : Str} (hs : OkS sep) : ∀ {l : List Str}, (∀ x ∈ l, OkS x) → OkS (Str.join sep l)
  | [], _ => okS_of ""
  | [x], h => h x List.mem_cons_self
  | x :: y :: l, h => okS_app (okS_app (h x List.mem_cons_self) hs) (okS_join hs fun z hz => h z (List.mem_cons_of_mem _ hz))
theorem okS_from : ∀ {l : List Str} (k : Nat) {acc : Str}, OkS acc → (∀ x ∈ l, OkS x) → OkS (textFrom k acc l)
  | [], _, _, h, _ => h
  | x :: l, k, acc, h, q => okS_from (k + 1) (okS_app (okS_app h (okS_of _)) (q x List.mem_cons_self)) fun z hz => q z (List.mem_cons_of_mem _ hz)
mutual
/-- data whose text is fine -/
def shOk : PyData → Bool
  | .none => true | .bool _ => true | .int _ => true
  | .str x => PyData.strOk (reprText x)
  | .list ds => shOkL ds
  | .tuple ds => shOkL ds
  | .dict kvs => kvs.isEmpty
def shOkL : List PyData → Bool
  | [] => true
  | d :: ds => shOk d && shOkL ds
end
mutual
theorem okS_shown : ∀ {d : PyData}, shOk d = true → OkS d.shown
  | .none, _ => okS_of _
  | .bool b, _ => by cases b <;> exact okS_of _
  | .int i, _ => okS_of _
  | .str x, h => by
    unfold shOk at h
    unfold PyData.shown
    exact h
  | .list ds, h => by
    unfold shOk at h
    unfold PyData.shown
    exact okS_app (okS_from 0 (okS_of _) (okS_all h)) (okS_of _)
  | .tuple ds, h => by
    unfold shOk at h
    unfold PyData.shown
    exact okS_app (okS_app (okS_of _) (okS_join (okS_of _) (okS_all h))) (okS_of _)
  | .dict [], h => okS_app (okS_app (okS_of _) (okS_join (l := []) (okS_of _) (fun _ z => by cases z))) (okS_of _)
  | .dict (_ :: _), h => by unfold shOk at h; cases h
theorem okS_all : ∀ {ds : List PyData}, shOkL ds = true → ∀ x ∈ PyData.shownAll ds, OkS x
  | [], _, x, hx => by unfold PyData.shownAll at hx; cases hx
  | d :: ds, h, x, hx => by
    unfold shOkL at h
    rw [Bool.and_eq_true] at h
    unfold PyData.shownAll at hx
    rcases List.mem_cons.mp hx with z | z
    · rw [z]; exact okS_shown h.1
    · exact okS_all h.2 x z
end
mutual
/-- a bound of the text's length -/
def wt : PyData → Nat
  | .none => 4 | .bool _ => 5 | .int _ => 1921
  | .str x => (reprText x).length
  | .list ds => wtL ds + 2
  | .tuple ds => wtL ds + 3
  | .dict _ => 2
def wtL : List PyData → Nat
  | [] => 0
  | d :: ds => wt d + 2 + wtL ds
end
theorem len_app (a b : Str) : (a ++ b).length = a.length + b.length := by
  show (a.cps ++ b.cps).size = _
  rw [Array.size_append]
  rfl
theorem len_from : ∀ (l : List Str) (k : Nat) (acc : Str), (textFrom k acc l).length ≤ acc.length + (l.map fun x => x.length + 2).sum
  | [], _, acc => by simp [textFrom]
  | x :: l, k, acc => by
    unfold textFrom
    refine Nat.le_trans (len_from l (k + 1) _) ?_
    rw [len_app, len_app, List.map_cons, List.sum_cons]
    have : (Str.ofString (if k > 0 then ", " else "")).length ≤ 2 := by split <;> decide +kernel
    omega
theorem len_join : ∀ (l : List Str), (Str.join ", " l).length ≤ (l.map fun x => x.length + 2).sum
  | [] => Nat.zero_le _
  | [x] => by
    show x.length ≤ _
    simp
  | x :: y :: l => by
    show (x ++ ", " ++ Str.join ", " (y :: l)).length ≤ _
    rw [len_app, len_app, List.map_cons, List.sum_cons]
    have h1 : (Str.ofString ", ").length = 2 := by decide +kernel
    have h2 := len_join (y :: l)
    omega
mutual
theorem len_shown : ∀ {d : PyData}, shOk d = true → d.showable = true → d.shown.length ≤ wt d
  | .none, _, _ => by decide +kernel
  | .bool b, _, _ => by cases b <;> decide +kernel
  | .int i, _, h => PyProof.Rows.int_text_len_1921 (by simpa [PyData.showable] using h)
  | .str x, _, _ => by unfold PyData.shown wt; exact Nat.le_refl _
  | .list ds, h, k => by
    unfold shOk at h
    unfold PyData.showable at k
    unfold PyData.shown wt listText
    have h1 := len_from (PyData.shownAll ds) 0 "["
    have h2 := len_all h k
    have h3 : (Str.ofString "[").length = 1 := by decide +kernel
    have h4 : (Str.ofString "]").length = 1 := by decide +kernel
    rw [len_app]
    omega
  | .tuple ds, h, k => by
    unfold shOk at h
    unfold PyData.showable at k
    unfold PyData.shown wt tupleText
    have h1 := len_join (PyData.shownAll ds)
    have h2 := len_all h k
    have h3 : (Str.ofString "(").length = 1 := by decide +kernel
    have h4 : (Str.ofString (if (PyData.shownAll ds).length == 1 then ",)" else ")")).length ≤ 2 := by split <;> decide +kernel
    rw [len_app, len_app]
    omega
  | .dict [], _, _ => by decide +kernel
  | .dict (_ :: _), h, _ => by unfold shOk at h; cases h
theorem len_all : ∀ {ds : List PyData}, shOkL ds = true → PyData.showableAll ds = true → ((PyData.shownAll ds).map fun x => x.length + 2).sum ≤ wtL ds
  | [], _, _ => by simp [PyData.shownAll, wtL]
  | d :: ds, h, k => by
    unfold shOkL at h
    unfold PyData.showableAll at k
    rw [Bool.and_eq_true] at h k
    unfold PyData.shownAll wtL
    rw [List.map_cons, List.sum_cons]
    have h1 := len_shown h.1 k.1
    have h2 := len_all h.2 k.2
    omega
end
end DL

set_option Elab.async false
set_option linter.all false
set_option autoImplicit false
set_option maxRecDepth 100000
set_option maxHeartbeats 1000000
/-! DL18: computing with mirrors: comparisons, arithmetic. -/
namespace DL
open PySem
theorem depth_int (i : Int) : (PyData.int i).depth = 0 := by first | rfl | simp [PyData.depth]
@[simp] theorem shaped_int (i : Int) : SeqAt.shaped (.int i) = true := by simp [SeqAt.shaped, PyData.canLay0, PyData.depth]
@[simp] theorem shaped_bool (b : Bool) : SeqAt.shaped (.bool b) = true := by simp [SeqAt.shaped, PyData.canLay0, PyData.depth]
@[simp] theorem shaped_none : SeqAt.shaped .none = true := by simp [SeqAt.shaped, PyData.canLay0, PyData.depth]
theorem shaped_str {x : Str} (h : PyData.strOk x = true) : SeqAt.shaped (.str x) = true := by simp [SeqAt.shaped, PyData.canLay0, PyData.depth, h]
@[simp] theorem hEq_int (i j : Int) : hEq (.int i) (.int j) = some (.im (.bool (decide (i = j)))) := by
  unfold hEq
  rw [if_pos ⟨shaped_int i, shaped_int j⟩]
  unfold PyData.eqv
  simp [BEq.beq]
@[simp] theorem hNe_int (i j : Int) : hNe (.int i) (.int j) = some (.im (.bool (!decide (i = j)))) := by
  unfold hNe
  rw [if_pos ⟨shaped_int i, shaped_int j⟩]
  unfold PyData.eqv
  simp [BEq.beq]
theorem hEq_str {x y : Str} (hx : PyData.strOk x = true) (hy : PyData.strOk y = true) : hEq (.str x) (.str y) = some (.im (.bool (x == y))) := by
  unfold hEq
  rw [if_pos ⟨shaped_str hx, shaped_str hy⟩]
  unfold PyData.eqv
  rfl
theorem hNe_str {x y : Str} (hx : PyData.strOk x = true) (hy : PyData.strOk y = true) : hNe (.str x) (.str y) = some (.im (.bool (!(x == y)))) := by
  unfold hNe
  rw [if_pos ⟨shaped_str hx, shaped_str hy⟩]
  unfold PyData.eqv
  rfl
mutual
theorem eqv_refl : ∀ {d : PyData}, PyData.canLay0 d = true → PyData.eqv d d = true
  | .none, _ => rfl
  | .bool b, _ => by unfold PyData.eqv; simp
  | .int i, _ => by unfold PyData.eqv; simp
  | .str x, _ => by unfold PyData.eqv; simp
  | .list ds, h => by
    unfold PyData.canLay0 at h
    unfold PyData.eqv
    exact eqvA_refl h
  | .tuple ds, h => by
    unfold PyData.canLay0 at h
    unfold PyData.eqv
    exact eqvA_refl h
  | .dict _, h => by unfold PyData.canLay0 at h; cases h
theorem eqvA_refl : ∀ {ds : List PyData}, PyData.canLayAll0 ds = true → PyData.eqvAll ds ds = true
  | [], _ => by unfold PyData.eqvAll; rfl
  | d :: ds, h => by
    unfold PyData.canLayAll0 at h
    rw [Bool.and_eq_true] at h
    unfold PyData.eqvAll
    rw [eqv_refl h.1, eqvA_refl h.2]
    rfl
end
theorem hEq_self {d : PyData} (h : SeqAt.shaped d = true) : hEq d d = some (.im (.bool true)) := by
  unfold hEq
  rw [if_pos ⟨h, h⟩, eqv_refl (SeqAt.canLay_of_shaped h)]
theorem hNe_self {d : PyData} (h : SeqAt.shaped d = true) : hNe d d = some (.im (.bool false)) := by
  unfold hNe
  rw [if_pos ⟨h, h⟩, eqv_refl (SeqAt.canLay_of_shaped h)]
  rfl
/-- texts of data: fine, and short -/
structure Shw (d : PyData) : Prop where
  r : reprOk d = true
  s : shOk d = true
theorem Shw.mk' {d : PyData} (h1 : (isNilDict d || !d.hasDict) = true) (h2 : d.showable = true) (h3 : d.depth ≤ 60) (h4 : shOk d = true) (h5 : wt d ≤ 1000000) : Shw d := ⟨by
  unfold reprOk
  rw [h1, h2]
  simp only [Bool.true_and, Bool.and_eq_true, decide_eq_true_eq]
  exact ⟨h3, Nat.le_trans (len_shown h4 h2) h5⟩, h4⟩
theorem Shw.repr {d : PyData} (h : Shw d) : hRepr [d] = some (.im (.str d.shown)) := by
  show (if reprOk d = true then some (Rv.im (.str d.shown)) else none) = _
  rw [if_pos h.r]
theorem Shw.eq {d e : PyData} (h : Shw d) (k : Shw e) : hEq (.str d.shown) (.str e.shown) = some (.im (.bool (d.shown == e.shown))) := hEq_str (okS_shown h.s) (okS_shown k.s)
theorem Shw.ne {d e : PyData} (h : Shw d) (k : Shw e) : hNe (.str d.shown) (.str e.shown) = some (.im (.bool (!(d.shown == e.shown)))) := hNe_str (okS_shown h.s) (okS_shown k.s)
/-- small numbers -/
def Sm (i : Int) : Prop := i.natAbs < 10 ^ 300
theorem log_sm {i : Int} (h : Sm i) : i.natAbs.log2 < 1000 := by
  unfold Sm at h
  by_cases z : i.natAbs = 0
  · rw [z]; decide
  · refine (Nat.log2_lt z).mpr (Nat.lt_trans h ?_)
    decide +kernel
theorem hMul_sm {i j : Int} (h : Sm i) (k : Sm j) : hMul (.int i) (.int j) = some (.im (.int (i * j))) := by
  have h1 := log_sm h
  have h2 := log_sm k
  show (if i.natAbs.log2 + j.natAbs.log2 < 1000000 then some (PyData.int (i * j)) else none).map Rv.im = _
  rw [if_pos (by omega)]
  rfl
theorem hFdiv_sm {i j : Int} (h : j ≠ 0) (k : Sm j) : hFdiv (.int i) (.int j) = some (.im (.int (i.fdiv j))) := by
  have h2 := log_sm k
  show (if j ≠ 0 ∧ j.natAbs.log2 < 9000 then some (PyData.int (i.fdiv j)) else none).map Rv.im = _
  rw [if_pos ⟨h, by omega⟩]
  rfl
theorem hMod_ne {i j : Int} (h : j ≠ 0) : hMod (.int i) (.int j) = some (.im (.int (i.fmod j))) := by
  show (if j ≠ 0 then some (PyData.int (i.fmod j)) else none).map Rv.im = _
  rw [if_pos h]
  rfl
theorem sm_of {i : Int} (h1 : -1000000000000 < i) (h2 : i < 1000000000000) : Sm i := by
  unfold Sm
  refine Nat.lt_trans (m := 1000000000000) (by omega) (by decide +kernel)
theorem show_int {i : Int} (h : Sm i) : (PyData.int i).showable = true := by
  unfold PyData.showable
  have := log_sm h
  exact decide_eq_true (by omega)
end DL

set_option Elab.async false
set_option linter.all false
set_option autoImplicit false
set_option maxRecDepth 100000
set_option maxHeartbeats 1000000
/-! DL19: what the laws' own helpers compute. -/
namespace DL
open PySem L2
/-- at most n digits -/
def Dg (n : Nat) (i : Int) : Prop := i.natAbs < 10 ^ n
theorem Dg.mono {m n : Nat} {i : Int} (h : Dg m i) (l : m ≤ n) : Dg n i := Nat.lt_of_lt_of_le h (Nat.pow_le_pow_right (by decide) l)
theorem Dg.sm {n : Nat} {i : Int} (h : Dg n i) (l : n ≤ 300 := by decide) : Sm i := Dg.mono h l
theorem Dg.mul {m n : Nat} {i j : Int} (h : Dg m i) (k : Dg n j) : Dg (m + n) (i * j) := by
  unfold Dg at *
  rw [Int.natAbs_mul, Nat.pow_add]
  have p : 0 < 10 ^ n := Nat.pow_pos (by decide : 0 < 10)
  exact Nat.mul_lt_mul_of_lt_of_le h (Nat.le_of_lt k) p
theorem Dg.add {m n : Nat} {i j : Int} (h : Dg m i) (k : Dg n j) (l : m ≤ n := by decide) : Dg (n + 1) (i + j) := by
  have h' := h.mono l
  unfold Dg at *
  have : (i + j).natAbs ≤ i.natAbs + j.natAbs := Int.natAbs_add_le i j
  rw [Nat.pow_succ]
  omega
theorem dg_lit {n : Nat} {i : Int} (h : i.natAbs < 10 ^ n := by decide +kernel) : Dg n i := h
theorem dg_lt {n : Nat} {i : Int} {b : Nat} (h0 : 0 ≤ i) (h1 : i < (b : Int)) (h2 : b ≤ 10 ^ n := by decide +kernel) : Dg n i := by
  unfold Dg
  omega
/-- text of the laws: _law_hash -/
def fHash : Fn := mkFn 3 2 (mSeq (mSet 2 (xBin hMod (xCall hInt (aCons (xBin hAdd (xBin hAdd (xBin hAdd (xBin hMul (xVar 0) (xC (.int 1140671))) (xBin hMul (xBin hMul (xC (.int 27644437)) (xVar 1)) (xVar 1))) (xBin hMul (xC (.int 131)) (xVar 1))) (xC (.int 19))) (aNil))) (xC (.int 2147483629)))) (mSeq (mSet 2 (xBin hMod (xCall hInt (aCons (xBin hAdd (xBin hAdd (xBin hMul (xVar 2) (xVar 2)) (xBin hMul (xC (.int 62089)) (xVar 1))) (xC (.int 32416187))) (aNil))) (xC (.int 2147483587)))) (mRet (xBin hMod (xCall hInt (aCons (xBin hMul (xVar 2) (xC (.int 48271))) (aNil))) (xC (.int 2147483647))))))
@[simp] theorem hInt_int (i : Int) : hInt [.int i] = some (.im (.int i)) := rfl
@[simp] theorem hAdd_int (i j : Int) : hAdd (.int i) (.int j) = some (.im (.int (i + j))) := rfl
theorem hash_ok {s i : Int} (hs : Dg 10 s) (hi : Dg 12 i) : ∃ r, fHash [.im (.int s), .im (.int i)] none = .ok (.im (.int r)) none ∧ 0 ≤ r ∧ r < 2147483647 := by
  have m1 := hMul_sm hs.sm (dg_lit (n := 7) (i := 1140671)).sm
  have d2 := (dg_lit (n := 8) (i := 27644437)).mul hi
  have m2 := hMul_sm (dg_lit (n := 8) (i := 27644437)).sm hi.sm
  have m3 := hMul_sm d2.sm hi.sm
  have m4 := hMul_sm (dg_lit (n := 3) (i := 131)).sm hi.sm
  obtain ⟨a, ha⟩ : ∃ a : Int, a = (s * 1140671 + 27644437 * i * i + 131 * i + 19).fmod 2147483629 := ⟨_, rfl⟩
  have a1 : Dg 10 a := dg_lt (b := 2147483629) (by rw [ha]; exact Int.fmod_nonneg_of_pos _ (by decide)) (by rw [ha]; exact Int.fmod_lt_of_pos _ (by decide))
  have m5 := hMul_sm a1.sm a1.sm
  have m6 := hMul_sm (dg_lit (n := 5) (i := 62089)).sm hi.sm
  obtain ⟨b, hb⟩ : ∃ b : Int, b = (a * a + 62089 * i + 32416187).fmod 2147483587 := ⟨_, rfl⟩
  have b1 : Dg 10 b := dg_lt (b := 2147483587) (by rw [hb]; exact Int.fmod_nonneg_of_pos _ (by decide)) (by rw [hb]; exact Int.fmod_lt_of_pos _ (by decide))
  have m7 := hMul_sm b1.sm (dg_lit (n := 5) (i := 48271)).sm
  refine ⟨(b * 48271).fmod 2147483647, ?_, Int.fmod_nonneg_of_pos _ (by decide), Int.fmod_lt_of_pos _ (by decide)⟩
  have n1 : ∀ x, hMod (.int x) (.int 2147483629) = some (.im (.int (x.fmod 2147483629))) := fun x => hMod_ne (by decide)
  have n2 : ∀ x, hMod (.int x) (.int 2147483587) = some (.im (.int (x.fmod 2147483587))) := fun x => hMod_ne (by decide)
  have n3 : ∀ x, hMod (.int x) (.int 2147483647) = some (.im (.int (x.fmod 2147483647))) := fun x => hMod_ne (by decide)
  simp [fHash, -hI2, m1, m2, m3, m4, n1, n2, n3, ← ha, m5, m6, ← hb, m7]
/-! the generator -/
def rndBody : DM := mSeq (mPut 0 (xC (.int 2)) (xBin hAdd (xIxV 0 (xC (.int 2))) (xC (.int 1)))) (mSet 2 (xBin hAdd (xBin hMul (xVar 2) (xC (.int 2147483587))) (xUser fHash 2 (uCons (xIxV 0 (xC (.int 1))) (uCons (xIxV 0 (xC (.int 2))) (uNil))))))
def fRandom : Fn := mkFn 4 2 (mSeq (mIf (xBin hGt (xIxV 0 (xC (.int 0))) (xC (.int 0))) (mSeq (mSet 2 (xBin hMod (xCall hInt (aCons (xIxV 0 (xC (.int 0))) (aNil))) (xVar 1))) (mSeq (mPut 0 (xC (.int 0)) (xBin hFdiv (xIxV 0 (xC (.int 0))) (xVar 1))) (mRetV 2))) (mNil)) (mSeq (mSet 2 (xC (.int 0))) (mSeq (mFor (.nm 3) (xRng1 (aCons (xBin hAdd (xC (.int 1)) (xBin hFdiv (xUn hBits (xVar 1)) (xC (.int 30)))) (aNil))) rndBody) (mRet (xBin hMod (xCall hInt (aCons (xVar 2) (aNil))) (xVar 1))))))
@[simp] theorem at3 (a b c : PyData) : atI [a, b, c] 0 = some a ∧ atI [a, b, c] 1 = some b ∧ atI [a, b, c] 2 = some c := ⟨rfl, rfl, rfl⟩
@[simp] theorem ix3 : ixN 3 0 = some 0 ∧ ixN 3 1 = some 1 ∧ ixN 3 2 = some 2 := ⟨rfl, rfl, rfl⟩
theorem rnd_turn {bound d a b c : Int} {sl : Sl} {n : Nat} (hd : Dg (10 * n) d) (hn : 10 * n + 10 ≤ 300) (hb : Dg 10 b) (hc : Dg 12 (c + 1)) : ∃ d', rndBody ⟨[.gn, .im (.int bound), .im (.int d), sl], some [a, b, c]⟩ = .nx ⟨[.gn, .im (.int bound), .im (.int d'), sl], some [a, b, c + 1]⟩ ∧ Dg (10 * (n + 1)) d' := by
  obtain ⟨r, h1, h2, h3⟩ := hash_ok hb hc
  have m1 := hMul_sm (hd.sm (by omega)) (dg_lit (n := 10) (i := 2147483587)).sm
  refine ⟨d * 2147483587 + r, ?_, ?_⟩
  · simp [rndBody, -hI2, m1, h1]
  · have k : 0 < 10 ^ (10 * n) := Nat.pow_pos (by decide : 0 < 10)
    unfold Dg at hd ⊢
    rw [show 10 * (n + 1) = 10 * n + 10 from by omega, Nat.pow_add]
    have : (d * 2147483587 + r).natAbs ≤ d.natAbs * 2147483587 + r.natAbs := by
      refine Nat.le_trans (Int.natAbs_add_le _ _) ?_
      rw [Int.natAbs_mul]
      exact Nat.le_refl _
    omega
theorem rnd_loop (bound a b : Int) : ∀ (l : List PyData) {d c : Int} {sl : Sl} {n : Nat}, Dg (10 * n) d → 10 * (n + l.length) + 10 ≤ 300 → Dg 10 b → 0 ≤ c → c + l.length < 10 ^ 12 →
    ∃ d' sl', forM (.nm 3) rndBody l ⟨[.gn, .im (.int bound), .im (.int d), sl], some [a, b, c]⟩ = .nx ⟨[.gn, .im (.int bound), .im (.int d'), sl'], some [a, b, c + l.length]⟩
  | [], d, c, sl, n, _, _, _, _, _ => ⟨d, sl, by simp [forM]⟩
  | x :: l, d, c, sl, n, hd, hn, hb, hc, hl => by
    rw [List.length_cons] at hn hl
    obtain ⟨d', h1, h2⟩ := rnd_turn (bound := bound) (a := a) (sl := .im x) hd (by omega) hb (c := c) (by unfold Dg; omega)
    obtain ⟨d2, sl', h3⟩ := rnd_loop bound a b l (sl := .im x) h2 (by omega) hb (by omega : 0 ≤ c + 1) (by omega)
    refine ⟨d2, sl', ?_⟩
    unfold forM
    simp only [Tg.put, List.set, h1, h3, List.length_cons]
    rw [show c + 1 + (l.length : Int) = c + ((l.length + 1 : Nat) : Int) from by omega]
/-- the generator's numbers behind n draws -/
structure Gen (n : Nat) (l : List Int) : Prop where
  ex : ∃ a b c : Int, l = [a, b, c] ∧ 0 ≤ a ∧ 0 ≤ b ∧ b < 2147483647 ∧ 0 ≤ c ∧ c ≤ 1000000 + 30 * n
theorem random_ok {bound : Int} {n : Nat} {l : List Int} (h0 : 0 < bound) (h1 : bound < 2 ^ 800) (hn : n ≤ 1000000000) (G : Gen n l) :
    ∃ r l', fRandom [.gn, .im (.int bound)] (some l) = .ok (.im (.int r)) (some l') ∧ 0 ≤ r ∧ r < bound ∧ Gen (n + 1) l' := by
  obtain ⟨a, b, c, rfl, ha, hb, hb2, hc, hc2⟩ := G.ex
  have nz : bound ≠ 0 := by omega
  have bs : Sm bound := by
    unfold Sm
    have : (2 : Nat) ^ 800 < 10 ^ 300 := by decide +kernel
    omega
  by_cases z : 0 < a
  · have f := hFdiv_sm (i := a) nz bs
    have m := hMod_ne (i := a) nz
    refine ⟨a.fmod bound, [a.fdiv bound, b, c], ?_, Int.fmod_nonneg_of_pos _ h0, Int.fmod_lt_of_pos _ h0, ⟨⟨_, _, _, rfl, Int.fdiv_nonneg ha (by omega), hb, hb2, hc, by omega⟩⟩⟩
    have g : hGt (.int a) (.int 0) = some (.im (.bool true)) := by
      show some (Rv.im (.bool (decide (0 < a)))) = _
      rw [decide_eq_true z]
    simp [fRandom, -hI2, f, m, g]
  · have g : hGt (.int a) (.int 0) = some (.im (.bool false)) := by
      show some (Rv.im (.bool (decide (0 < a)))) = _
      rw [decide_eq_false z]
    obtain ⟨k, hk⟩ : ∃ k : Nat, k = Builtin.Int.intBits bound := ⟨_, rfl⟩
    have hk2 : k ≤ 801 := by
      rw [hk]
      unfold Builtin.Int.intBits
      split
      · omega
      · have z' : bound.natAbs ≠ 0 := by omega
        have := (Nat.log2_lt z').mpr (show bound.natAbs < 2 ^ 800 from by omega)
        omega
    have f : hFdiv (.int (k : Int)) (.int 30) = some (.im (.int ((k : Int).fdiv 30))) := hFdiv_sm (by decide) (dg_lit (n := 2)).sm
    obtain ⟨t, ht⟩ : ∃ t : Nat, (t : Int) = 1 + (k : Int).fdiv 30 := ⟨(1 + (k : Int).fdiv 30).toNat, by have := Int.fdiv_nonneg (a := (k : Int)) (b := 30) (by omega) (by decide); omega⟩
    have ht2 : t ≤ 28 := by
      have : (k : Int).fdiv 30 ≤ 27 := by
        rw [Int.fdiv_eq_ediv_of_nonneg _ (by decide)]
        omega
      omega
    have hl : (rngD 0 t).length = t := by simp [rngD]
    obtain ⟨d', sl', h3⟩ := rnd_loop bound a b (rngD 0 t) (d := 0) (c := c) (sl := .un) (n := 0) (by unfold Dg; decide) (by omega) (by unfold Dg; omega) hc (by omega)
    rw [hl] at h3
    have m := hMod_ne (i := d') nz
    refine ⟨d'.fmod bound, [a, b, c + t], ?_, Int.fmod_nonneg_of_pos _ h0, Int.fmod_lt_of_pos _ h0, ⟨⟨_, _, _, rfl, ha, hb, hb2, by omega, by omega⟩⟩⟩
    have bt : hBits (.int bound) = some (.im (.int (k : Int))) := by rw [hk]; rfl
    have c1 : -1000000 < (t : Int) ∧ (t : Int) < 1000000 := by omega
    simp [fRandom, -hI2, g, mFor, xRng1, bt, f, int1, ← ht, c1, h3, m]
/-! cells of the script, the generator made -/
def fCell : Fn := mkFn 2 2 (mSeq (mIf (xBin hLt (xVar 1) (xCall hLen (aCons (xVar 0) (aNil)))) (mRet (xIxV 0 (xVar 1))) (mNil)) (mRet (xBin hMod (xCall hSum (aCons (xSlice (xVar 0) .no (.ex (xC (.int 1)))) (aNil))) (xC (.int 1000003)))))
theorem intsOf_map : ∀ l : List Int, intsOf (l.map PyData.int) = some l
  | [] => rfl
  | n :: l => by
    show (intsOf (l.map PyData.int)).map _ = _
    rw [intsOf_map l]
    rfl
theorem atI_nat {α : Type} {l : List α} {i : Nat} {x : α} (h : l[i]? = some x) : atI l (i : Int) = some x := by
  obtain ⟨hl, _⟩ := List.getElem?_eq_some_iff.mp h
  unfold atI
  have e : ixN l.length (i : Int) = some i := by
    unfold ixN
    simp
    omega
  rw [e]
  exact h
theorem cell_ok (ns : List Int) (i : Nat) : ∃ r, fCell [.im (.list (ns.map .int)), .im (.int (i : Int))] none = .ok (.im (.int r)) none := by
  by_cases h : i < ns.length
  · obtain ⟨x, hx⟩ : ∃ x, ns[i]? = some x := ⟨_, List.getElem?_eq_getElem h⟩
    have g : hLt (.int (i : Int)) (.int (ns.length : Int)) = some (.im (.bool true)) := by
      show some (Rv.im (.bool (decide ((i : Int) < ns.length)))) = _
      rw [decide_eq_true (by omega)]
    have q : atI (ns.map PyData.int) (i : Int) = some (.int x) := atI_nat (by rw [List.getElem?_map, hx]; rfl)
    exact ⟨x, by simp [fCell, -hI2, g, q]⟩
  · have g : hLt (.int (i : Int)) (.int (ns.length : Int)) = some (.im (.bool false)) := by
      show some (Rv.im (.bool (decide ((i : Int) < ns.length)))) = _
      rw [decide_eq_false (by omega)]
    have c : hSl (.list (ns.map PyData.int)) none (some 1) = some (.ow ((ns.map .int).take 1)) := by
      unfold hSl cutD
      cases ns with
      | nil => rfl
      | cons n ns => simp [HT.sIx]
    have hs : hSum [.list ((ns.map PyData.int).take 1)] = some (.im (.int (ns.take 1).sum)) := by
      show (intsOf ((ns.map PyData.int).take 1)).map _ = _
      rw [← List.map_take, intsOf_map]
      rfl
    have m : ∀ x, hMod (.int x) (.int 1000003) = some (.im (.int (x.fmod 1000003))) := fun x => hMod_ne (by decide)
    exact ⟨(ns.take 1).sum.fmod 1000003, by simp [fCell, -hI2, g, xSlice, SlP.k, c, hs, m]⟩
def fGenerator : Fn := mkFn 3 2 (mSeq (mSet 2 (xUser fCell 2 (uCons (xVar 0) (uCons (xVar 1) (uNil))))) (mRet (xLst (aCons (xBin hMod (xCall hInt (aCons (xCall hMax2 (aCons (xBin hSub (xVar 2) (xBin hPow (xC (.int 10)) (xC (.int 18)))) (aCons (xC (.int 0)) (aNil)))) (aNil))) (xBin hPow (xBin hPow (xC (.int 10)) (xC (.int 60))) (xC (.int 10)))) (aCons (xBin hMod (xCall hInt (aCons (xVar 2) (aNil))) (xC (.int 2147483647))) (aCons (xBin hMul (xC (.int 1000)) (xVar 1)) (aNil)))))))
@[simp] theorem hSub_int (i j : Int) : hSub (.int i) (.int j) = some (.im (.int (i - j))) := rfl
theorem generator_ok (ns : List Int) (i : Nat) (hi : i ≤ 1000) : ∃ l : List Int, fGenerator [.im (.list (ns.map .int)), .im (.int (i : Int))] none = .ok (.ow (l.map .int)) none ∧ Gen 0 l := by
  obtain ⟨r, h⟩ := cell_ok ns i
  have p1 : hPow (.int 10) (.int 18) = some (.im (.int (10 ^ 18))) := rfl
  have p2 : hPow (.int 10) (.int 60) = some (.im (.int (10 ^ 60))) := rfl
  have p3 : hPow (.int (10 ^ 60)) (.int 10) = some (.im (.int ((10 ^ 60) ^ 10))) := by
    show (if (1 : Int) < 10 ^ 60 ∧ (0 : Int) < 10 ∧ ((10 ^ 60 : Int).natAbs.log2 + 1) * (10 : Int).toNat < 1000000 then some (PyData.int ((10 ^ 60) ^ (10 : Int).toNat)) else none).map Rv.im = _
    rw [if_pos (by decide +kernel)]
    rfl
  obtain ⟨B, hB⟩ : ∃ B : Int, B = (10 ^ 60) ^ 10 := ⟨_, rfl⟩
  have bp : 0 < B := by rw [hB]; decide +kernel
  rw [← hB] at p3
  have m1 : ∀ x, hMod (.int x) (.int B) = some (.im (.int (x.fmod B))) := fun x => hMod_ne (by omega)
  have m2 : ∀ x, hMod (.int x) (.int 2147483647) = some (.im (.int (x.fmod 2147483647))) := fun x => hMod_ne (by decide)
  have m3 : hMul (.int 1000) (.int (i : Int)) = some (.im (.int (1000 * i))) := hMul_sm (dg_lit (n := 4)).sm (sm_of (by omega) (by omega))
  have mx : hMax2 [.int (r - 10 ^ 18), .int 0] = some (.im (.int (if (0 : Int) > r - 10 ^ 18 then 0 else r - 10 ^ 18))) := rfl
  obtain ⟨S, hS⟩ : ∃ S : Int, S = (if (0 : Int) > r - 10 ^ 18 then 0 else r - 10 ^ 18) := ⟨_, rfl⟩
  rw [← hS] at mx
  refine ⟨[S.fmod B, r.fmod 2147483647, 1000 * i], ?_, ⟨⟨_, _, _, rfl, Int.fmod_nonneg_of_pos _ bp, Int.fmod_nonneg_of_pos _ (by decide), Int.fmod_lt_of_pos _ (by decide), by omega, by omega⟩⟩⟩
  obtain ⟨E, hE⟩ : ∃ E : Int, E = 10 ^ 18 := ⟨_, rfl⟩
  obtain ⟨E2, hE2⟩ : ∃ E2 : Int, E2 = 10 ^ 60 := ⟨_, rfl⟩
  rw [← hE] at p1 mx
  rw [← hE2] at p2 p3
  simp [fGenerator, -hI2, h, p1, p2, p3, mx, m1, m2, m3]
def fPick : Fn := mkFn 2 2 (mRet (xIxV 1 (xUser fRandom 2 (uGen 0 (uCons (xCall hLen (aCons (xVar 1) (aNil))) (uNil))))))
theorem pick_ok {ds : List PyData} {n : Nat} {l : List Int} (h0 : ds ≠ []) (h1 : ds.length < 1000000) (hn : n ≤ 1000000000) (G : Gen n l) :
    ∃ d l', fPick [.gn, .im (.list ds)] (some l) = .ok (.im d) (some l') ∧ d ∈ ds ∧ Gen (n + 1) l' := by
  have hp : 0 < ds.length := List.length_pos_iff.mpr h0
  obtain ⟨r, l', h, r0, r1, G'⟩ := random_ok (bound := (ds.length : Int)) (by omega) (Int.lt_of_lt_of_le (b := 1000000) (by omega) (by decide +kernel)) hn G
  obtain ⟨k, rfl⟩ : ∃ k : Nat, r = (k : Int) := ⟨r.toNat, by omega⟩
  obtain ⟨d, hd⟩ : ∃ d, ds[k]? = some d := ⟨_, List.getElem?_eq_getElem (by omega)⟩
  have q := atI_nat hd
  exact ⟨d, l', by simp [fPick, -hI2, h, q], List.mem_of_getElem? hd, G'⟩
/-! greatest common divisors -/
theorem fmod_less (a : Int) {b : Int} (h : b ≠ 0) : (a.fmod b).natAbs < b.natAbs := by
  rcases Int.lt_or_gt_of_ne h with z | z
  · have h2 := Int.emod_nonneg a h
    have h3 := Int.emod_lt_of_neg a z
    rw [Int.fmod_eq_emod]
    split
    · omega
    · rename_i q
      have : a % b ≠ 0 := fun e => q (.inr (Int.dvd_of_emod_eq_zero e))
      omega
  · have h1 := Int.fmod_nonneg_of_pos a z
    have h2 := Int.fmod_lt_of_pos a z
    omega
theorem gcd_fmod (a b : Int) : Int.gcd b (a.fmod b) = Int.gcd a b := by
  rw [Int.fmod_def, Int.gcd_sub_mul_left_right, Int.gcd_comm]
theorem bezout : ∀ (n : Nat) (a b : Int), b.natAbs < n → ∃ u v : Int, u * a + v * b = (Int.gcd a b : Nat)
  | 0, _, _, h => absurd h (Nat.not_lt_zero _)
  | n + 1, a, b, h => by
    by_cases z : b = 0
    · subst z
      rw [Int.gcd_zero_right]
      rcases Int.natAbs_eq a with e | e
      · exact ⟨1, 0, by omega⟩
      · exact ⟨-1, 0, by omega⟩
    · obtain ⟨u, v, e⟩ := bezout n b (a.fmod b) (by have := fmod_less a z; omega)
      rw [gcd_fmod] at e
      refine ⟨v, u - v * a.fdiv b, ?_⟩
      rw [← e, Int.fmod_def, Int.mul_sub, Int.sub_mul]
      rw [show v * (b * a.fdiv b) = v * a.fdiv b * b from by rw [Int.mul_comm b, Int.mul_assoc]]
      omega
theorem bez (a b : Int) : ∃ u v : Int, u * a + v * b = (Int.gcd a b : Nat) := bezout _ a b (Nat.lt_succ_self _)
def cmC : DX := xBin hNe (xVar 1) (xC (.int 0))
def cmB : DM := mPar 0 1 (aCons (xVar 1) (aCons (xBin hMod (xVar 0) (xVar 1)) (aNil)))
def fCommon : Fn := mkFn 2 2 (mSeq (mWhF cmC cmB) (mRet (xCall hAbs (aCons (xVar 0) (aNil)))))
theorem common_loop {g : Option (List Int)} : ∀ (n : Nat) (a b : Int), b.natAbs < n → ∃ a' : Int, whN cmC cmB n ⟨[.im (.int a), .im (.int b)], g⟩ = .nx ⟨[.im (.int a'), .im (.int 0)], g⟩ ∧ a'.natAbs = Int.gcd a b
  | 0, _, _, h => absurd h (Nat.not_lt_zero _)
  | n + 1, a, b, h => by
    by_cases z : b = 0
    · subst z
      refine ⟨a, ?_, by rw [Int.gcd_zero_right]⟩
      simp [whN, cmC, -hI2]
    · obtain ⟨a', h1, h2⟩ := common_loop n b (a.fmod b) (by have := fmod_less a z; omega)
      rw [gcd_fmod] at h2
      refine ⟨a', ?_, h2⟩
      have m := hMod_ne (i := a) z
      simp [whN, cmC, cmB, z, -hI2, m]
      exact h1
theorem common_ok {a b : Int} (h : b.natAbs < 1000000) : fCommon [.im (.int a), .im (.int b)] none = .ok (.im (.int (Int.gcd a b : Nat))) none := by
  obtain ⟨a', h1, h2⟩ := common_loop (g := none) 1000000 a b h
  have q : hAbs [.int a'] = some (.im (.int (Int.gcd a b : Nat))) := by
    show some (Rv.im (.int (if a' < 0 then -a' else a'))) = _
    rw [← h2]
    congr 3
    split <;> omega
  simp [fCommon, mWhF, h1, q]
end DL

set_option Elab.async false
set_option linter.all false
set_option autoImplicit false
set_option maxRecDepth 100000
set_option maxHeartbeats 1000000
/-! DL20: loops over lists. -/
namespace DL
open PySem L2
/-- a loop whose turns all go on -/
theorem forM_inv {t : Tg} {b : DM} (I : Sd → Prop) : ∀ {l : List PyData} {s : Sd}, I s → (∀ x ∈ l, ∀ s, I s → ∃ s1 s2, t.put s x = some s1 ∧ b s1 = .nx s2 ∧ I s2) → ∃ s', forM t b l s = .nx s' ∧ I s'
  | [], s, h, _ => ⟨s, rfl, h⟩
  | x :: l, s, h, k => by
    obtain ⟨s1, s2, h1, h2, h3⟩ := k x List.mem_cons_self s h
    obtain ⟨s', h4, h5⟩ := forM_inv I h3 fun y hy => k y (List.mem_cons_of_mem _ hy)
    refine ⟨s', ?_, h5⟩
    unfold forM
    rw [h1]
    dsimp only
    rw [h2]
    exact h4
/-- a loop that looks for the first -/
theorem forM_find {t : Tg} {b : DM} {α : Type} (I : Sd → Prop) (D : α → PyData) (p : α → Bool) (r : α → Rv) : ∀ {l : List α} {s : Sd}, I s →
    (∀ x ∈ l, ∀ s, I s → ∃ s1 s2, t.put s (D x) = some s1 ∧ I s2 ∧ b s1 = if p x = true then .rt (r x) s2 else .nx s2) →
    ∃ s', I s' ∧ forM t b (l.map D) s = match l.find? p with | some x => .rt (r x) s' | none => .nx s'
  | [], s, h, _ => ⟨s, h, rfl⟩
  | x :: l, s, h, k => by
    obtain ⟨s1, s2, h1, h2, h3⟩ := k x List.mem_cons_self s h
    by_cases hp : p x = true
    · refine ⟨s2, h2, ?_⟩
      rw [if_pos hp] at h3
      rw [List.map_cons]
      unfold forM
      rw [h1]
      dsimp only
      rw [h3, List.find?_cons_of_pos hp]
    · obtain ⟨s', h4, h5⟩ := forM_find (b := b) (t := t) I D p r h2 fun y hy => k y (List.mem_cons_of_mem _ hy)
      refine ⟨s', h4, ?_⟩
      rw [if_neg hp] at h3
      rw [List.map_cons]
      unfold forM
      rw [h1]
      dsimp only
      rw [h3, List.find?_cons_of_neg hp]
      exact h5
/-- [e for x in l if c] -/
theorem lcM_filter {t : Tg} {c : DX} {e : DX} {vs : List Nat} {out : List Sl} {α : Type} (D : α → PyData) (p : α → Bool) (r : α → PyData) (s : Sd) : ∀ {l : List α} {acc : List PyData},
    acc.length + l.length ≤ 1000000 →
    (∀ x ∈ l, ∃ s1 s2 s3, t.put s (D x) = some s1 ∧ c s1 = .ok (.im (.bool (p x))) s2 ∧ (p x = false → (⟨wipeD s1.σ vs, s2.g⟩ : Sd) = s) ∧ (p x = true → e ⟨s1.σ, s2.g⟩ = .ok (.im (r x)) s3 ∧ (⟨wipeD (afterV ⟨s1.σ, s2.g⟩ (.im (r x)) s3).σ vs, s3.g⟩ : Sd) = s)) →
    lcM t (some c) e vs out (l.map D) acc s = .ok (.ow (acc ++ (l.filter p).map r)) ⟨unw out s.σ vs, s.g⟩
  | [], acc, _, _ => by simp [lcM]
  | x :: l, acc, hl, k => by
    obtain ⟨s1, s2, s3, h1, h2, h3, h4⟩ := k x List.mem_cons_self
    rw [List.length_cons] at hl
    rw [List.map_cons]
    unfold lcM
    rw [h1]
    dsimp only
    unfold lcT
    dsimp only
    rw [h2]
    cases hp : p x with
    | true =>
      obtain ⟨h5, h6⟩ := h4 hp
      dsimp only
      unfold lcE
      rw [h5]
      dsimp only
      rw [if_pos (by omega), h6, List.filter_cons_of_pos hp, List.map_cons]
      rw [lcM_filter D p r s (by rw [List.length_append, List.length_singleton]; omega) fun y hy => k y (List.mem_cons_of_mem _ hy)]
      rw [List.append_assoc]
      rfl
    | false =>
      dsimp only
      rw [h3 hp, List.filter_cons_of_neg (by rw [hp]; decide)]
      exact lcM_filter D p r s (by omega) fun y hy => k y (List.mem_cons_of_mem _ hy)
theorem filter_one {n q : Nat} {p : Nat → Bool} (hq : q < n) (hp : p q = true) (hu : ∀ k, k < n → p k = true → k = q) : (List.range n).filter p = [q] := by
  have nd : ((List.range n).filter p).Nodup := List.Nodup.sublist List.filter_sublist List.nodup_range
  have mem : ∀ x, x ∈ (List.range n).filter p ↔ x = q := fun x => by
    rw [List.mem_filter, List.mem_range]
    exact ⟨fun h => hu x h.1 h.2, fun h => by rw [h]; exact ⟨hq, hp⟩⟩
  revert nd mem
  generalize (List.range n).filter p = l
  intro nd mem
  match l with
  | [] => exact absurd ((mem q).mpr rfl) (by simp)
  | [x] => rw [(mem x).mp List.mem_cons_self]
  | x :: y :: l =>
    have h1 := (mem x).mp List.mem_cons_self
    have h2 := (mem y).mp (List.mem_cons_of_mem _ List.mem_cons_self)
    rw [h1, h2] at nd
    simp at nd
theorem find_one {n q : Nat} {p : Nat → Bool} (hq : q < n) (hp : p q = true) (hu : ∀ k, k < n → p k = true → k = q) : (List.range n).find? p = some q := by
  rw [← List.head?_filter, filter_one hq hp hu]
  rfl
end DL

set_option Elab.async false
set_option linter.all false
set_option autoImplicit false
set_option maxRecDepth 100000
set_option maxHeartbeats 1000000
set_option exponentiation.threshold 3000
/-! DL21: two factors, tables of four numbers: plain numbers, then what the program's defs do. -/
namespace DL
/-! the walk of two_factors, in plain numbers -/
structure TfI (x y r0 s0 t0 r1 s1 t1 : Int) : Prop where
  e0 : s0 * x + t0 * y = r0
  e1 : s1 * x + t1 * y = r1
  g : Int.gcd r0 r1 = Int.gcd x y
/-- behind the first step: signs and sizes -/
structure TfS (x y r0 s0 t0 r1 s1 t1 : Int) : Prop where
  i : TfI x y r0 s0 t0 r1 s1 t1
  n0 : r1.natAbs < r0.natAbs
  m0 : r0.natAbs ≤ y.natAbs
  sg : 0 ≤ r0 * r1
  op : s0 * s1 ≤ 0
  a0 : s0.natAbs ≤ y.natAbs
  a1 : s1.natAbs ≤ y.natAbs
  ar : s1.natAbs * r0.natAbs + s0.natAbs * r1.natAbs = y.natAbs
theorem gcd_fm (a b : Int) : Int.gcd b (a.fmod b) = Int.gcd a b := by
  rw [Int.fmod_def]
  have : a - b * a.fdiv b = a + b * (-(a.fdiv b)) := by rw [Int.mul_neg]; omega
  rw [this, Int.mul_comm]; simp [Int.gcd_comm]
theorem TfI.step {x y r0 s0 t0 r1 s1 t1 : Int} (h : TfI x y r0 s0 t0 r1 s1 t1) : TfI x y r1 s1 t1 (r0 - r0.fdiv r1 * r1) (s0 - r0.fdiv r1 * s1) (t0 - r0.fdiv r1 * t1) := by
  obtain ⟨e0, e1, g⟩ := h
  refine ⟨e1, ?_, ?_⟩
  · generalize r0.fdiv r1 = q
    grind
  · rw [← g, show r0 - r0.fdiv r1 * r1 = r0.fmod r1 from by rw [Int.fmod_def, Int.mul_comm], gcd_fm]
theorem fmod_lt' (a : Int) {b : Int} (h : b ≠ 0) : (a.fmod b).natAbs < b.natAbs := by
  rcases Int.lt_or_lt_of_ne h with z | z
  · have h1 := Int.fmod_nonneg_of_pos (-a) (show 0 < -b by omega)
    have h2 := Int.fmod_lt_of_pos (-a) (show 0 < -b by omega)
    rw [Int.neg_fmod_neg] at h1 h2
    omega
  · have h1 := Int.fmod_nonneg_of_pos a z
    have h2 := Int.fmod_lt_of_pos a z
    omega
theorem fmod_sg (a : Int) {b : Int} (h : b ≠ 0) : 0 ≤ b * a.fmod b := by
  rcases Int.lt_or_lt_of_ne h with z | z
  · have h1 := Int.fmod_nonneg_of_pos (-a) (show 0 < -b by omega)
    rw [Int.neg_fmod_neg] at h1
    have := Int.mul_nonneg (show 0 ≤ -b by omega) h1
    rw [Int.neg_mul_neg] at this
    exact this
  · exact Int.mul_nonneg (by omega) (Int.fmod_nonneg_of_pos a z)
theorem TfS.first {x y : Int} (h : y ≠ 0) : TfS x y y 0 1 (x - x.fdiv y * y) 1 (0 - x.fdiv y) := by
  have e : x - x.fdiv y * y = x.fmod y := by rw [Int.fmod_def, Int.mul_comm]
  have i : TfI x y x 1 0 y 0 1 := ⟨by omega, by omega, rfl⟩
  have i2 := i.step
  rw [show (1 : Int) - x.fdiv y * 0 = 1 from by omega, show (0 : Int) - x.fdiv y * 1 = 0 - x.fdiv y from by omega] at i2
  refine ⟨i2, ?_, Nat.le_refl _, ?_, by omega, by omega, by omega, by simp⟩
  · rw [e]; exact fmod_lt' x h
  · rw [e]; exact fmod_sg x h
theorem natAbs_mul_sub {s0 s1 q : Int} (hq : 0 ≤ q) (h : s0 * s1 ≤ 0) : (s0 - q * s1).natAbs = s0.natAbs + q.natAbs * s1.natAbs ∧ s1 * (s0 - q * s1) ≤ 0 := by
  rcases Int.lt_trichotomy s1 0 with z | z | z
  · have h0 : 0 ≤ s0 := by
      rcases Int.lt_or_le s0 0 with y | y
      · have := Int.mul_pos_of_neg_of_neg y z; omega
      · exact y
    have h1 : 0 ≤ -(q * s1) := by
      have := Int.mul_nonneg hq (show 0 ≤ -s1 by omega)
      rw [Int.mul_neg] at this; exact this
    refine ⟨?_, ?_⟩
    · rw [← Int.natAbs_mul]; omega
    · exact Int.mul_nonpos_of_nonpos_of_nonneg (by omega) (by omega)
  · subst z; simp
  · have h0 : s0 ≤ 0 := by
      rcases Int.lt_or_le 0 s0 with y | y
      · have := Int.mul_pos y z; omega
      · exact y
    have h1 : 0 ≤ q * s1 := Int.mul_nonneg hq (by omega)
    refine ⟨?_, ?_⟩
    · rw [← Int.natAbs_mul]; omega
    · exact Int.mul_nonpos_of_nonneg_of_nonpos (by omega) (by omega)
theorem fdiv_same {a b : Int} (h : 0 ≤ a * b) (hb : b ≠ 0) : 0 ≤ a.fdiv b := by
  rcases Int.lt_or_lt_of_ne hb with z | z
  · have ha : a ≤ 0 := by
      rcases Int.lt_or_le 0 a with y | y
      · have := Int.mul_neg_of_pos_of_neg y z; omega
      · exact y
    have := Int.fdiv_nonneg (a := -a) (b := -b) (by omega) (by omega)
    rwa [Int.neg_fdiv_neg] at this
  · have ha : 0 ≤ a := by
      rcases Int.lt_or_le a 0 with y | y
      · have := Int.mul_neg_of_neg_of_pos y z; omega
      · exact y
    exact Int.fdiv_nonneg ha (by omega)
theorem natAbs_fm {a b : Int} (h : 0 ≤ a * b) (hb : b ≠ 0) : a.natAbs = (a.fdiv b).natAbs * b.natAbs + (a - a.fdiv b * b).natAbs := by
  have q := fdiv_same h hb
  have e : a - a.fdiv b * b = a.fmod b := by rw [Int.fmod_def, Int.mul_comm]
  have e' : a = a.fdiv b * b + a.fmod b := by omega
  have s := fmod_sg a hb
  rw [e, ← Int.natAbs_mul]
  rcases Int.lt_or_lt_of_ne hb with z | z
  · have h1 : a.fmod b ≤ 0 := by
      rcases Int.lt_or_le 0 (a.fmod b) with y | y
      · have := Int.mul_neg_of_neg_of_pos z y; omega
      · exact y
    have h2 : a.fdiv b * b ≤ 0 := Int.mul_nonpos_of_nonneg_of_nonpos q (by omega)
    omega
  · have h1 := Int.fmod_nonneg_of_pos a z
    have h2 : 0 ≤ a.fdiv b * b := Int.mul_nonneg q (by omega)
    omega
theorem TfS.step {x y r0 s0 t0 r1 s1 t1 : Int} (h : TfS x y r0 s0 t0 r1 s1 t1) (z : r1 ≠ 0) : TfS x y r1 s1 t1 (r0 - r0.fdiv r1 * r1) (s0 - r0.fdiv r1 * s1) (t0 - r0.fdiv r1 * t1) ∧ 2 * (r1.natAbs * (r0 - r0.fdiv r1 * r1).natAbs) ≤ r0.natAbs * r1.natAbs := by
  obtain ⟨i, n0, m0, sg, op, a0, a1, ar⟩ := h
  have e : r0 - r0.fdiv r1 * r1 = r0.fmod r1 := by rw [Int.fmod_def, Int.mul_comm]
  have q := fdiv_same sg z
  obtain ⟨w1, w2⟩ := natAbs_mul_sub q op
  have w3 := natAbs_fm sg z
  have lt := fmod_lt' r0 z
  rw [← e] at lt
  have n2 : (s0 - r0.fdiv r1 * s1).natAbs * r1.natAbs + s1.natAbs * (r0 - r0.fdiv r1 * r1).natAbs = y.natAbs := by
    rw [w1, ← ar]
    conv => rhs; rw [w3]
    rw [Nat.add_mul, Nat.mul_add, Nat.mul_comm (r0.fdiv r1).natAbs s1.natAbs, Nat.mul_assoc]
    omega
  refine ⟨⟨i.step, lt, by omega, ?_, w2, a1, ?_, n2⟩, ?_⟩
  · rw [e]; exact fmod_sg r0 z
  · have : 1 ≤ r1.natAbs := by omega
    have h2 := Nat.mul_le_mul_left (s0 - r0.fdiv r1 * s1).natAbs this
    omega
  · have k1 : 1 ≤ (r0.fdiv r1).natAbs := by
      rcases Nat.eq_zero_or_pos (r0.fdiv r1).natAbs with y0 | y0
      · rw [y0] at w3; omega
      · exact y0
    have k2 := Nat.mul_le_mul_right r1.natAbs k1
    have k3 : 2 * (r0 - r0.fdiv r1 * r1).natAbs ≤ r0.natAbs := by omega
    have k4 := Nat.mul_le_mul_right r1.natAbs k3
    rw [Nat.mul_comm r1.natAbs, ← Nat.mul_assoc]
    exact k4
/-- where the walk ends -/
theorem TfS.done {x y r0 s0 t0 s1 t1 : Int} (h : TfS x y r0 s0 t0 0 s1 t1) : r0.natAbs = Int.gcd x y ∧ s0 * x + t0 * y = r0 ∧ s0.natAbs ≤ y.natAbs ∧ t0.natAbs ≤ x.natAbs + 1 := by
  obtain ⟨i, n0, m0, sg, op, a0, a1, ar⟩ := h
  refine ⟨?_, i.e0, a0, ?_⟩
  · rw [← i.g, Int.gcd_zero_right]
  · have e : t0 * y = r0 - s0 * x := by have := i.e0; omega
    have l : t0.natAbs * y.natAbs ≤ y.natAbs * (x.natAbs + 1) := by
      rw [← Int.natAbs_mul, e]
      have : (r0 - s0 * x).natAbs ≤ r0.natAbs + (s0 * x).natAbs := Int.natAbs_sub_le _ _
      rw [Int.natAbs_mul] at this
      have k := Nat.mul_le_mul_right x.natAbs a0
      rw [Nat.mul_add]
      omega
    have y0 : 0 < y.natAbs := by omega
    rw [Nat.mul_comm] at l
    exact Nat.le_of_mul_le_mul_left l y0
end DL
namespace DL
/-! tables of four numbers -/
@[ext] structure M4 where
  a : Int
  b : Int
  c : Int
  d : Int
deriving DecidableEq
namespace M4
def mul (x y : M4) : M4 := ⟨x.a * y.a + x.b * y.c, x.a * y.b + x.b * y.d, x.c * y.a + x.d * y.c, x.c * y.b + x.d * y.d⟩
def det (x : M4) : Int := x.a * x.d - x.b * x.c
def one : M4 := ⟨1, 0, 0, 1⟩
def tr (x : M4) : M4 := ⟨x.a, x.c, x.b, x.d⟩
def adj (x : M4) : M4 := ⟨x.d, -x.b, -x.c, x.a⟩
theorem assoc (x y z : M4) : (x.mul y).mul z = x.mul (y.mul z) := by ext <;> simp [mul] <;> grind
theorem one_mul (x : M4) : one.mul x = x := by ext <;> simp [mul, one]
theorem mul_one (x : M4) : x.mul one = x := by ext <;> simp [mul, one]
theorem det_mul (x y : M4) : (x.mul y).det = x.det * y.det := by simp [mul, det]; grind
theorem tr_tr (x : M4) : x.tr.tr = x := rfl
theorem tr_mul (x y : M4) : (x.mul y).tr = y.tr.mul x.tr := by ext <;> simp [mul, tr] <;> grind
theorem det_tr (x : M4) : x.tr.det = x.det := by simp [det, tr]; grind
/-- each number at most n -/
def Le (n : Nat) (x : M4) : Prop := x.a.natAbs ≤ n ∧ x.b.natAbs ≤ n ∧ x.c.natAbs ≤ n ∧ x.d.natAbs ≤ n
theorem dot_le {a b c d : Int} {n m : Nat} (ha : a.natAbs ≤ n) (hb : b.natAbs ≤ m) (hc : c.natAbs ≤ n) (hd : d.natAbs ≤ m) : (a * b + c * d).natAbs ≤ 2 * (n * m) := by
  refine Nat.le_trans (Int.natAbs_add_le _ _) ?_
  rw [Int.natAbs_mul, Int.natAbs_mul]
  have h1 := Nat.mul_le_mul ha hb
  have h2 := Nat.mul_le_mul hc hd
  omega
theorem Le.mul {x y : M4} {n m : Nat} (hx : Le n x) (hy : Le m y) : Le (2 * (n * m)) (x.mul y) := by
  obtain ⟨x1, x2, x3, x4⟩ := hx
  obtain ⟨y1, y2, y3, y4⟩ := hy
  exact ⟨dot_le x1 y1 x2 y3, dot_le x1 y2 x2 y4, dot_le x3 y1 x4 y3, dot_le x3 y2 x4 y4⟩
theorem Le.up {x : M4} {n m : Nat} (h : Le n x) (l : n ≤ m) : Le m x := ⟨Nat.le_trans h.1 l, Nat.le_trans h.2.1 l, Nat.le_trans h.2.2.1 l, Nat.le_trans h.2.2.2 l⟩
theorem Le.tr {x : M4} {n : Nat} (h : Le n x) : Le n x.tr := ⟨h.1, h.2.2.1, h.2.1, h.2.2.2⟩
/-- whole -/
def Uni (x : M4) : Prop := x.det = 1 ∨ x.det = -1
theorem Uni.mul {x y : M4} (hx : Uni x) (hy : Uni y) : Uni (x.mul y) := by
  unfold Uni at *
  rw [det_mul]
  rcases hx with h | h <;> rcases hy with k | k <;> rw [h, k] <;> decide
theorem Uni.tr {x : M4} (hx : Uni x) : Uni x.tr := by unfold Uni at *; rw [det_tr]; exact hx
end M4
/-- what cleared_by_rows tells -/
structure Clr (m s : M4) : Prop where
  dt : s.det = 1
  c0 : (s.mul m).c = 0
  a0 : (m.a ≠ 0 ∧ m.a ∣ m.c ∧ (s.mul m).a = m.a ∧ (s.mul m).b = m.b) ∨ ((s.mul m).a.natAbs = Int.gcd m.a m.c ∧ (m.a ≠ 0 → ¬ m.a ∣ m.c))
  le : s.Le (m.a.natAbs + m.c.natAbs + 1)
  lb : s.b.natAbs ≤ m.a.natAbs + 1
theorem gcd_lt {a b : Int} (ha : a ≠ 0) (h : ¬ a ∣ b) : Int.gcd a b < a.natAbs := by
  have h1 : Int.gcd a b ∣ a.natAbs := Int.gcd_dvd_natAbs_left a b
  have h2 : Int.gcd a b ≤ a.natAbs := Nat.le_of_dvd (by omega) h1
  rcases Nat.lt_or_eq_of_le h2 with z | z
  · exact z
  · refine absurd ?_ h
    have : ((Int.gcd a b : Nat) : Int) ∣ b := Int.gcd_dvd_right a b
    rw [z] at this
    exact Int.natAbs_dvd.mp this
theorem gcd_pos' {a b : Int} (h : ¬ (a = 0 ∧ b = 0)) : 0 < Int.gcd a b := by
  rcases Nat.eq_zero_or_pos (Int.gcd a b) with z | z
  · exact absurd (Int.gcd_eq_zero_iff.mp z) h
  · exact z
/-- first form: cleared by the ready divisor -/
theorem Clr.easy {m : M4} (ha : m.a ≠ 0) (h : m.a ∣ m.c) : Clr m ⟨1, 0, -(m.c.fdiv m.a), 1⟩ := by
  obtain ⟨t, ht⟩ := h
  have hq : m.c.fdiv m.a = t := by rw [ht]; exact Int.mul_fdiv_cancel_left t ha
  rw [hq]
  refine ⟨by simp [M4.det], by simp [M4.mul]; grind, .inl ⟨ha, ⟨t, ht⟩, by simp [M4.mul], by simp [M4.mul]⟩, ?_, Nat.zero_le _⟩
  have : m.c.natAbs = m.a.natAbs * t.natAbs := by rw [ht, Int.natAbs_mul]
  have h1 : 1 ≤ m.a.natAbs := by omega
  have h2 := Nat.mul_le_mul_right t.natAbs h1
  refine ⟨?_, ?_, ?_, ?_⟩ <;> simp <;> omega
theorem fdiv_gcd {x : Int} {g : Nat} (h : (g : Int) ∣ x) (hg : 0 < g) : x.fdiv g * g = x ∧ (x.fdiv g).natAbs ≤ x.natAbs := by
  obtain ⟨t, ht⟩ := h
  have e : x.fdiv g = t := by rw [ht]; exact Int.mul_fdiv_cancel_left t (by omega)
  rw [e, ht]
  refine ⟨Int.mul_comm _ _, ?_⟩
  rw [Int.natAbs_mul]
  have h2 := Nat.mul_le_mul_right t.natAbs (show 1 ≤ (g : Int).natAbs by omega)
  omega
theorem Clr.hard {m : M4} {p q : Int} (hc : m.c ≠ 0) (hn : m.a ≠ 0 → ¬ m.a ∣ m.c) (e : p * m.a + q * m.c = (Int.gcd m.a m.c : Nat)) (lp : p.natAbs ≤ m.c.natAbs + 1) (lq : q.natAbs ≤ m.a.natAbs + 1) :
    Clr m ⟨p, q, -(m.c.fdiv (Int.gcd m.a m.c : Nat)), m.a.fdiv (Int.gcd m.a m.c : Nat)⟩ := by
  have g0 := gcd_pos' (a := m.a) (b := m.c) (by omega)
  obtain ⟨c1, c2⟩ := fdiv_gcd (Int.gcd_dvd_right m.a m.c) g0
  obtain ⟨a1, a2⟩ := fdiv_gcd (Int.gcd_dvd_left m.a m.c) g0
  refine ⟨?_, ?_, .inr ⟨?_, hn⟩, ?_, lq⟩
  · show p * m.a.fdiv _ - q * -(m.c.fdiv _) = 1
    generalize hg : ((Int.gcd m.a m.c : Nat) : Int) = g at *
    have gp : g ≠ 0 := by omega
    refine Int.eq_of_mul_eq_mul_right gp ?_
    rw [Int.sub_mul, Int.mul_assoc, a1, Int.mul_assoc, Int.neg_mul, c1]
    rw [Int.mul_neg]
    omega
  · show -(m.c.fdiv _) * m.a + m.a.fdiv _ * m.c = 0
    generalize hg : ((Int.gcd m.a m.c : Nat) : Int) = g at *
    conv => lhs; arg 1; arg 2; rw [← a1]
    conv => lhs; arg 2; arg 2; rw [← c1]
    grind
  · show (p * m.a + q * m.c).natAbs = _
    rw [e]; rfl
  · refine ⟨?_, ?_, ?_, ?_⟩ <;> dsimp only <;> omega
theorem Clr.self {m : M4} (hc : m.c = 0) (ha : m.a ≠ 0) : Clr m M4.one := ⟨rfl, by rw [M4.one_mul, hc], .inl ⟨ha, by rw [hc]; exact Int.dvd_zero _, by rw [M4.one_mul], by rw [M4.one_mul]⟩, ⟨by simp [M4.one], by simp [M4.one], by simp [M4.one], by simp [M4.one]⟩, by simp [M4.one]⟩
theorem M4.det_clr {m s : M4} (h : s.det = 1) : (s.mul m).det = m.det := by rw [M4.det_mul, h, Int.one_mul]
/-- what a clearing does to the first number -/
theorem Clr.fst {m s : M4} (h : Clr m s) (nz : m.a ≠ 0 ∨ m.c ≠ 0) : (s.mul m).a ≠ 0 ∧ (m.a ≠ 0 → (s.mul m).a.natAbs ≤ m.a.natAbs) ∧ (m.a = 0 → (s.mul m).a.natAbs ≤ m.c.natAbs) := by
  rcases h.a0 with ⟨h1, h2, h3, h4⟩ | ⟨h1, h2⟩
  · rw [h3]; exact ⟨h1, fun _ => Nat.le_refl _, fun z => absurd z h1⟩
  · have g := gcd_pos' (a := m.a) (b := m.c) (by omega)
    refine ⟨by omega, fun z => ?_, fun z => ?_⟩
    · have := gcd_lt z (h2 z); omega
    · rw [h1, z, Int.gcd_zero_left]; exact Nat.le_refl _
theorem le_of_det {m : M4} {D : Nat} (h : m.det.natAbs ≤ D) (hc : m.b = 0 ∨ m.c = 0) (ha : m.a ≠ 0) : m.d.natAbs ≤ D := by
  have : m.det = m.a * m.d := by
    unfold M4.det
    rcases hc with z | z <;> rw [z] <;> simp
  rw [this, Int.natAbs_mul] at h
  have := Nat.mul_le_mul_right m.d.natAbs (show 1 ≤ m.a.natAbs by omega)
  omega
/-- a table at the loop's head -/
structure Hd (m : M4) : Prop where
  la : m.a.natAbs ≤ 1000
  dt : m.det.natAbs ≤ 2000000
  k : (m.a ≠ 0 ∧ m.b = 0 ∧ m.c.natAbs ≤ 10000000000 ∧ m.d.natAbs ≤ 2000000) ∨ (m.Le 1000 ∧ (m.a = 0 → m.c = 0 → m.b = 0 ∧ m.d = 0))
def dvs (a d : Int) : Bool := if a = 0 then decide (d = 0) else decide (d.fmod a = 0)
theorem dvs_iff {a d : Int} : dvs a d = true ↔ a ∣ d := by
  unfold dvs
  split
  · rename_i h; rw [h, Int.zero_dvd, decide_eq_true_eq]
  · rename_i h
    rw [decide_eq_true_eq]
    exact Iff.symm Int.dvd_iff_fmod_eq_zero
def mu (m : M4) : Nat := if m.a = 0 then 2003 else 2 * m.a.natAbs + if m.b = 0 ∧ m.c = 0 then 0 else 1
def addT : M4 := ⟨1, 0, 1, 1⟩
/-- the table behind the first turn of the loop's body -/
def it0 (m : M4) : M4 := if m.b = 0 ∧ m.c = 0 then m.mul addT else m
def go (m : M4) : Prop := m.b ≠ 0 ∨ m.c ≠ 0 ∨ dvs m.a m.d = false
theorem Hd.it0 {m : M4} (h : Hd m) (g : go m) : (it0 m).a = m.a ∧ ((it0 m).a ≠ 0 ∨ (it0 m).c ≠ 0) ∧ (it0 m).Le 10000000000 ∧ (it0 m).det = m.det ∧ (m.a = 0 → (it0 m).c.natAbs ≤ 1000) := by
  obtain ⟨la, dt, k⟩ := h
  by_cases z : m.b = 0 ∧ m.c = 0
  · have e : DL.it0 m = ⟨m.a, 0, m.d, m.d⟩ := by
      unfold DL.it0
      rw [if_pos z]
      simp [M4.mul, addT, z.1, z.2]
    have a0 : m.a ≠ 0 := fun y => by
      rcases k with k | ⟨_, k⟩
      · exact k.1 y
      · have hd := (k y z.2).2
        rcases g with g | g | g
        · exact g z.1
        · exact g z.2
        · rw [y, hd] at g; cases g
    have hd : m.d.natAbs ≤ 2000000 := le_of_det dt (.inl z.1) a0
    rw [e]
    refine ⟨rfl, .inl a0, ⟨?_, ?_, ?_, ?_⟩, ?_, fun y => absurd y a0⟩
    · show m.a.natAbs ≤ _; omega
    · exact Nat.zero_le _
    · show m.d.natAbs ≤ _; omega
    · show m.d.natAbs ≤ _; omega
    · simp [M4.det, z.1, z.2]
  · have e : DL.it0 m = m := if_neg z
    rw [e]
    refine ⟨rfl, ?_, ?_, rfl, ?_⟩
    · rcases k with k | ⟨_, k⟩
      · exact .inl k.1
      · by_cases y : m.a = 0
        · right
          intro y2
          exact z ⟨(k y y2).1, y2⟩
        · exact .inl y
    · rcases k with ⟨_, k1, k2, k3⟩ | ⟨k, _⟩
      · exact ⟨by omega, by omega, k2, by omega⟩
      · exact k.up (by decide)
    · intro y
      rcases k with k | ⟨k, _⟩
      · exact absurd y k.1
      · exact k.2.2.1
theorem mu_lt {a b : Nat} {p : Prop} [Decidable p] (h : a < b) : 2 * a + (if p then 0 else 1) < 2 * b + 0 := by split <;> omega
theorem mu_lt2 {a b : Nat} {p : Prop} [Decidable p] (h : a < b) : 2 * a + (if p then 0 else 1) < 2 * b + 1 := by split <;> omega
/-- one turn of the loop -/
theorem Hd.turn {m s u : M4} (h : Hd m) (g : go m) (hs : Clr (DL.it0 m) s) (hu : Clr (s.mul (DL.it0 m)).tr u) :
    (s.mul (DL.it0 m)).a ≠ 0 ∧ (s.mul (DL.it0 m)).Le (2 * (20000000000 * 10000000000)) ∧ s.Le 20000000000 ∧ u.Le (2 * (20000000000 * 10000000000) + 1002) ∧
    Hd ((s.mul (DL.it0 m)).mul u.tr) ∧ mu ((s.mul (DL.it0 m)).mul u.tr) < mu m ∧ ((s.mul (DL.it0 m)).mul u.tr).a ≠ 0 := by
  obtain ⟨i1, i2, i3, i4, i5⟩ := h.it0 g
  have hd0 := h.it0 g
  obtain ⟨la, dt, k⟩ := h
  generalize e0 : DL.it0 m = m0 at *
  have ls : s.Le 20000000000 := hs.le.up (by have := i3.1; have := i3.2.2.1; omega)
  have l1 : (s.mul m0).Le (2 * (20000000000 * 10000000000)) := ls.mul i3
  obtain ⟨f1, f2, f3⟩ := hs.fst i2
  have a1 : (s.mul m0).a.natAbs ≤ 1000 := by
    by_cases y : m0.a = 0
    · have := f3 y; have := i5 (by omega); omega
    · have := f2 y; rw [i1] at this; omega
  have c1 := hs.c0
  have d1 : (s.mul m0).det = m.det := by rw [M4.det_clr hs.dt, i4]
  generalize e1 : s.mul m0 = m1 at *
  have dd1 : m1.d.natAbs ≤ 2000000 := le_of_det (by rw [d1]; exact dt) (.inr c1) f1
  have lu : u.Le (2 * (20000000000 * 10000000000) + 1002) := hu.le.up (by
    have h1 := l1.2.1
    show m1.a.natAbs + m1.b.natAbs + 1 ≤ _
    omega)
  obtain ⟨w1, w2, _⟩ := hu.fst (.inl f1)
  have et : (m1.mul u.tr).tr = u.mul m1.tr := by rw [M4.tr_mul, M4.tr_tr]
  have e2a : (m1.mul u.tr).a = (u.mul m1.tr).a := by rw [← et]; rfl
  have e2b : (m1.mul u.tr).b = (u.mul m1.tr).c := by rw [← et]; rfl
  have e2c : (m1.mul u.tr).c = (u.mul m1.tr).b := by rw [← et]; rfl
  have b2 : (m1.mul u.tr).b = 0 := by rw [e2b]; exact hu.c0
  have dt2 : (m1.mul u.tr).det = m.det := by
    rw [M4.det_mul, M4.det_tr, hu.dt, Int.mul_one, d1]
  have a2n : (m1.mul u.tr).a ≠ 0 := by rw [e2a]; exact w1
  have a2l : (m1.mul u.tr).a.natAbs ≤ m1.a.natAbs := by rw [e2a]; exact w2 f1
  have d2 : (m1.mul u.tr).d.natAbs ≤ 2000000 := le_of_det (by rw [dt2]; exact dt) (.inl b2) a2n
  have c2 : (m1.mul u.tr).c.natAbs ≤ 10000000000 := by
    rw [e2c]
    show (u.a * m1.c + u.b * m1.d).natAbs ≤ _
    rw [c1, Int.mul_zero, Int.zero_add, Int.natAbs_mul]
    have h1 : u.b.natAbs ≤ m1.a.natAbs + 1 := hu.lb
    have h2 := Nat.mul_le_mul (show u.b.natAbs ≤ 1001 by omega) dd1
    omega
  have hb0 := hu.a0
  have tg : m1.tr.a = m1.a := rfl
  have tg2 : m1.tr.b = m1.c := rfl
  rw [← e2a, ← e2c, tg, tg2] at hb0
  generalize e2 : m1.mul u.tr = m2 at *
  refine ⟨f1, l1, ls, lu, ⟨Nat.le_trans a2l a1, by rw [dt2]; exact dt, .inl ⟨a2n, b2, c2, d2⟩⟩, ?_, a2n⟩
  clear lu ls l1 w1 w2 et e2a e2b e2c dt2 d2 c2 tg tg2 hd0 i3
  unfold mu
  rw [if_neg a2n]
  by_cases A : m.a = 0
  · rw [if_pos A]
    split <;> omega
  · rw [if_neg A]
    by_cases z : m.b = 0 ∧ m.c = 0
    · rw [if_pos z]
      have nd : ¬ m0.a ∣ m0.c := by
        have e : m0.c = m.d := by
          rw [← e0]
          unfold DL.it0
          rw [if_pos z]
          simp [M4.mul, addT, z.2]
        rw [i1, e, ← dvs_iff]
        rcases g with g | g | g
        · exact absurd z.1 g
        · exact absurd z.2 g
        · rw [g]; decide
      rcases hs.a0 with ⟨_, y, _⟩ | ⟨y, _⟩
      · exact absurd y nd
      · rw [e1] at y
        have w := gcd_lt (a := m0.a) (by rw [i1]; exact A) nd
        rw [← y, i1] at w
        exact mu_lt (Nat.lt_of_le_of_lt a2l w)
    · rw [if_neg z]
      have em : m0 = m := by rw [← e0]; exact if_neg z
      subst em
      rcases hs.a0 with ⟨_, _, y1, y2⟩ | ⟨y, y'⟩
      · rw [e1] at y1 y2
        rcases hb0 with ⟨_, _, x1, x2⟩ | ⟨x, x'⟩
        · rw [if_pos ⟨b2, by rw [x2]; exact c1⟩]
          omega
        · have w := gcd_lt (a := m1.a) (b := m1.tr.c) f1 (x' f1)
          exact mu_lt2 (by rw [x]; exact Nat.lt_of_lt_of_eq w (by rw [y1]))
      · rw [e1] at y
        have w := gcd_lt (a := m0.a) A (y' A)
        rw [← y] at w
        exact mu_lt2 (Nat.lt_of_le_of_lt a2l w)
/-! the one core of a table -/
/-- the greatest common divisor of four numbers -/
def g4 (m : M4) : Nat := Nat.gcd (Nat.gcd (Nat.gcd m.a.natAbs m.b.natAbs) m.c.natAbs) m.d.natAbs
theorem dvd_g4 {n : Nat} {m : M4} : n ∣ g4 m ↔ (n : Int) ∣ m.a ∧ (n : Int) ∣ m.b ∧ (n : Int) ∣ m.c ∧ (n : Int) ∣ m.d := by
  unfold g4
  rw [Nat.dvd_gcd_iff, Nat.dvd_gcd_iff, Nat.dvd_gcd_iff, ← Int.ofNat_dvd_left, ← Int.ofNat_dvd_left, ← Int.ofNat_dvd_left, ← Int.ofNat_dvd_left, and_assoc, and_assoc]
theorem g4_mul_left {x y : M4} : g4 y ∣ g4 (x.mul y) := by
  obtain ⟨h1, h2, h3, h4⟩ := dvd_g4.mp (Nat.dvd_refl (g4 y))
  exact dvd_g4.mpr ⟨Int.dvd_add (Int.dvd_mul_of_dvd_right h1) (Int.dvd_mul_of_dvd_right h3), Int.dvd_add (Int.dvd_mul_of_dvd_right h2) (Int.dvd_mul_of_dvd_right h4), Int.dvd_add (Int.dvd_mul_of_dvd_right h1) (Int.dvd_mul_of_dvd_right h3), Int.dvd_add (Int.dvd_mul_of_dvd_right h2) (Int.dvd_mul_of_dvd_right h4)⟩
theorem g4_mul_right {x y : M4} : g4 x ∣ g4 (x.mul y) := by
  obtain ⟨h1, h2, h3, h4⟩ := dvd_g4.mp (Nat.dvd_refl (g4 x))
  exact dvd_g4.mpr ⟨Int.dvd_add (Int.dvd_mul_of_dvd_left h1) (Int.dvd_mul_of_dvd_left h2), Int.dvd_add (Int.dvd_mul_of_dvd_left h1) (Int.dvd_mul_of_dvd_left h2), Int.dvd_add (Int.dvd_mul_of_dvd_left h3) (Int.dvd_mul_of_dvd_left h4), Int.dvd_add (Int.dvd_mul_of_dvd_left h3) (Int.dvd_mul_of_dvd_left h4)⟩
def M4.neg (x : M4) : M4 := ⟨-x.a, -x.b, -x.c, -x.d⟩
theorem M4.Uni.inv {x : M4} (h : x.Uni) : ∃ y : M4, y.mul x = M4.one ∧ x.mul y = M4.one := by
  rcases h with h | h
  · refine ⟨x.adj, ?_, ?_⟩ <;> (unfold M4.det at h; ext <;> simp [M4.mul, M4.adj, M4.one] <;> grind)
  · refine ⟨x.adj.neg, ?_, ?_⟩ <;> (unfold M4.det at h; ext <;> simp [M4.mul, M4.adj, M4.one, M4.neg] <;> grind)
theorem g4_uni {l r m : M4} (hl : l.Uni) (hr : r.Uni) : g4 ((l.mul m).mul r) = g4 m := by
  obtain ⟨l', l1, l2⟩ := hl.inv
  obtain ⟨r', r1, r2⟩ := hr.inv
  refine Nat.dvd_antisymm ?_ (Nat.dvd_trans (g4_mul_left (x := l)) g4_mul_right)
  have e : m = (l'.mul ((l.mul m).mul r)).mul r' := by
    rw [M4.assoc l m r, ← M4.assoc l', l1, M4.one_mul, M4.assoc m, r2, M4.mul_one]
  conv => rhs; rw [e]
  exact Nat.dvd_trans (g4_mul_left (x := l')) g4_mul_right
theorem det_uni {l r m : M4} (hl : l.Uni) (hr : r.Uni) : ((l.mul m).mul r).det.natAbs = m.det.natAbs := by
  rw [M4.det_mul, M4.det_mul]
  rcases hl with h | h <;> rcases hr with k | k <;> rw [h, k] <;> simp
/-- the core: what is due -/
def core (m : M4) : M4 := ⟨g4 m, 0, 0, if g4 m = 0 then 0 else (m.det.natAbs / g4 m : Nat)⟩
/-- a core is one alone -/
theorem core_one {l r m c : M4} (hl : l.Uni) (hr : r.Uni) (e : (l.mul m).mul r = c) (hb : c.b = 0) (hc : c.c = 0) (ha : 0 ≤ c.a) (hd : 0 ≤ c.d) (hv : c.a ∣ c.d) : c = core m := by
  have h1 : g4 c = g4 m := by rw [← e]; exact g4_uni hl hr
  have h2 : c.det.natAbs = m.det.natAbs := by rw [← e]; exact det_uni hl hr
  have h3 : (g4 c : Int) = c.a := by
    have d1 : g4 c ∣ c.a.natAbs := by
      have := (dvd_g4.mp (Nat.dvd_refl (g4 c))).1
      exact Int.ofNat_dvd_left.mp this
    have d2 : c.a.natAbs ∣ g4 c := dvd_g4.mpr ⟨Int.natAbs_dvd.mpr (Int.dvd_refl _), by rw [hb]; exact Int.dvd_zero _, by rw [hc]; exact Int.dvd_zero _, Int.natAbs_dvd.mpr hv⟩
    have := Nat.dvd_antisymm d1 d2
    omega
  have h4 : c.det = c.a * c.d := by unfold M4.det; rw [hb]; simp
  unfold core
  rw [← h1, ← h2]
  ext
  · exact h3.symm
  · exact hb
  · exact hc
  · show c.d = ((if g4 c = 0 then (0 : Int) else ((c.det.natAbs / g4 c : Nat) : Int)))
    split
    · rename_i z
      have : c.a = 0 := by omega
      rw [this] at hv
      exact Int.zero_dvd.mp hv
    · rename_i z
      rw [h4, Int.natAbs_mul]
      have : c.a.natAbs = g4 c := by omega
      rw [this, Nat.mul_div_cancel_left _ (by omega)]
      omega
theorem g4_sq (m : M4) (z : g4 m ≠ 0) : g4 m ∣ m.det.natAbs / g4 m := by
  obtain ⟨⟨a, ha⟩, ⟨b, hb⟩, ⟨c, hc⟩, ⟨d, hd⟩⟩ := dvd_g4.mp (Nat.dvd_refl (g4 m))
  refine ⟨(a * d - b * c).natAbs, ?_⟩
  have : m.det = (g4 m : Int) * (g4 m * (a * d - b * c)) := by
    unfold M4.det
    rw [ha, hb, hc, hd]
    generalize (g4 m : Int) = g
    grind
  rw [this, Int.natAbs_mul, Int.natAbs_mul]
  rw [show (g4 m : Int).natAbs = g4 m from rfl, Nat.mul_div_cancel_left _ (by omega)]
theorem core_fine (m : M4) : (core m).b = 0 ∧ (core m).c = 0 ∧ 0 ≤ (core m).a ∧ 0 ≤ (core m).d ∧ (core m).a ∣ (core m).d := by
  refine ⟨rfl, rfl, Int.natCast_nonneg _, ?_, ?_⟩
  · show 0 ≤ (if g4 m = 0 then (0 : Int) else ((m.det.natAbs / g4 m : Nat) : Int))
    split
    · exact Int.le_refl _
    · exact Int.natCast_nonneg _
  · show (g4 m : Int) ∣ (if g4 m = 0 then (0 : Int) else ((m.det.natAbs / g4 m : Nat) : Int))
    split
    · exact Int.dvd_zero _
    · rename_i z
      exact Int.ofNat_dvd.mpr (g4_sq m z)
/-- what a judge of factors looks at: the law's way and the program's way are one -/
theorem judge_one (l c r m : M4) : (l.Uni ∧ r.Uni ∧ c = core m ∧ (l.mul m).mul r = c) ↔ (l.Uni ∧ r.Uni ∧ 0 ≤ c.a ∧ 0 ≤ c.d ∧ c.a ∣ c.d ∧ c.b = 0 ∧ c.c = 0 ∧ (l.mul m).mul r = c) := by
  constructor
  · rintro ⟨h1, h2, rfl, h4⟩
    obtain ⟨k1, k2, k3, k4, k5⟩ := core_fine m
    exact ⟨h1, h2, k3, k4, k5, k1, k2, h4⟩
  · rintro ⟨h1, h2, h3, h4, h5, h6, h7, h8⟩
    exact ⟨h1, h2, core_one h1 h2 h8 h6 h7 h3 h4 h5, h8⟩
end DL
namespace DL
open PySem L2
/-- numbers by their bits -/
def Bt (n : Nat) (i : Int) : Prop := i.natAbs < 2 ^ n
theorem Bt.log {n : Nat} {i : Int} (h : Bt n i) : i.natAbs.log2 ≤ n := by
  unfold Bt at h
  by_cases z : i.natAbs = 0
  · rw [z]; exact Nat.zero_le _
  · exact Nat.le_of_lt ((Nat.log2_lt z).mpr h)
theorem Bt.up {m n : Nat} {i : Int} (h : Bt m i) (l : m ≤ n) : Bt n i := Nat.lt_of_lt_of_le h (Nat.pow_le_pow_right (by decide) l)
theorem hMul_bt {m n : Nat} {i j : Int} (h : Bt m i) (k : Bt n j) (l : m + n < 1000000) : hMul (.int i) (.int j) = some (.im (.int (i * j))) := by
  have h1 := h.log
  have h2 := k.log
  show (if i.natAbs.log2 + j.natAbs.log2 < 1000000 then some (PyData.int (i * j)) else none).map Rv.im = _
  rw [if_pos (by omega)]
  rfl
theorem hFdiv_bt {n : Nat} {i j : Int} (h : j ≠ 0) (k : Bt n j) (l : n < 9000 := by decide) : hFdiv (.int i) (.int j) = some (.im (.int (i.fdiv j))) := by
  have h2 := k.log
  show (if j ≠ 0 ∧ j.natAbs.log2 < 9000 then some (PyData.int (i.fdiv j)) else none).map Rv.im = _
  rw [if_pos ⟨h, by omega⟩]
  rfl
theorem bt_le {m n : Nat} {i : Int} (h : i.natAbs ≤ m) (l : m < 2 ^ n) : Bt n i := Nat.lt_of_le_of_lt h l
theorem bt_le1 {n : Nat} {i j : Int} (h : Bt n i) (k : j.natAbs ≤ i.natAbs + 1) : Bt (n + 1) j := by
  unfold Bt at *
  rw [Nat.pow_succ]
  omega
/-- three numbers -/
abbrev T3 (a b c : Int) : PyData := .tuple [.int a, .int b, .int c]
abbrev T2 (a b : Int) : PyData := .tuple [.int a, .int b]
def tfC : DX := xBin hNe (xIxV 3 (xC (.int 0))) (xC (.int 0))
def tfB : DM := mSeq (mSet 4 (xBin hFdiv (xIxV 2 (xC (.int 0))) (xIxV 3 (xC (.int 0))))) (mPar 2 3 (aCons (xVar 3) (aCons (xCall hTup1 (aCons (xLc (.tp [5, 6]) (xZip (aCons (xVar 2) (aCons (xVar 3) (aNil)))) none (xBin hSub (xVar 5) (xBin hMul (xVar 4) (xVar 6))) [5, 6]) (aNil))) (aNil))))
def fTwo : Fn := mkFn 7 2 (mSeq (mPar 2 3 (aCons (xTup (aCons (xVar 0) (aCons (xC (.int 1)) (aCons (xC (.int 0)) (aNil))))) (aCons (xTup (aCons (xVar 1) (aCons (xC (.int 0)) (aCons (xC (.int 1)) (aNil))))) (aNil)))) (mSeq (mWhF tfC tfB) (mRet (xIf (xBin hGe (xIxV 2 (xC (.int 0))) (xC (.int 0))) (xTup (aCons (xIxV 2 (xC (.int 1))) (aCons (xIxV 2 (xC (.int 2))) (aNil)))) (xTup (aCons (xUn hNeg (xIxV 2 (xC (.int 1)))) (aCons (xUn hNeg (xIxV 2 (xC (.int 2)))) (aNil))))))))
abbrev tfS (x y r0 s0 t0 r1 s1 t1 : Int) (p : Sl) : Sd := ⟨[.im (.int x), .im (.int y), .im (T3 r0 s0 t0), .im (T3 r1 s1 t1), p, .un, .un], none⟩
@[simp] theorem hTup1_l (ds : List PyData) : hTup1 [.list ds] = some (.im (.tuple ds)) := rfl
@[simp] theorem hTup1_t (ds : List PyData) : hTup1 [.tuple ds] = some (.im (.tuple ds)) := rfl
theorem fdiv_le {a b : Int} (hb : b ≠ 0) : (a.fdiv b).natAbs ≤ a.natAbs + 1 := by
  have e : a.fdiv b * b = a - a.fmod b := by have := Int.fmod_add_mul_fdiv a b; rw [Int.mul_comm] at this; omega
  have l := fmod_lt' a hb
  have h : (a.fdiv b).natAbs * b.natAbs ≤ a.natAbs + b.natAbs := by
    rw [← Int.natAbs_mul, e]
    omega
  have h2 : a.natAbs + b.natAbs ≤ (a.natAbs + 1) * b.natAbs := by
    rw [Nat.add_mul]
    have := Nat.le_mul_of_pos_right a.natAbs (show 0 < b.natAbs by omega)
    omega
  exact Nat.le_of_mul_le_mul_right (Nat.le_trans h h2) (by omega)
theorem tf_turn {x y r0 s0 t0 r1 s1 t1 : Int} {p : Sl} (z : r1 ≠ 0) (b0 : Bt 2000 r0) (b1 : Bt 2000 r1) (c1 : Bt 2000 s1) (d1 : Bt 2000 t1) :
    tfB (tfS x y r0 s0 t0 r1 s1 t1 p) = .nx (tfS x y r1 s1 t1 (r0 - r0.fdiv r1 * r1) (s0 - r0.fdiv r1 * s1) (t0 - r0.fdiv r1 * t1) (.im (.int (r0.fdiv r1)))) := by
  have f := hFdiv_bt (i := r0) z b1
  have q : Bt 2001 (r0.fdiv r1) := bt_le1 b0 (fdiv_le z)
  have m0 := hMul_bt q b1 (by decide)
  have m1 := hMul_bt q c1 (by decide)
  have m2 := hMul_bt q d1 (by decide)
  simp [tfB, -hI2, f, xLc, xZip, hZip, zipD, okOut, lcM, lcT, lcE, wipeD, unw, Tg.put, m0, m1, m2]
theorem tf_cond {x y r0 s0 t0 r1 s1 t1 : Int} {p : Sl} : tfC (tfS x y r0 s0 t0 r1 s1 t1 p) = .ok (.im (.bool (!decide (r1 = 0)))) (tfS x y r0 s0 t0 r1 s1 t1 p) := by
  simp [tfC, -hI2]
theorem TfS.t1 {x y r0 s0 t0 r1 s1 t1 : Int} (h : TfS x y r0 s0 t0 r1 s1 t1) : t1.natAbs ≤ x.natAbs + 1 := by
  obtain ⟨i, n0, m0, sg, op, a0, a1, ar⟩ := h
  have e : t1 * y = r1 - s1 * x := by have := i.e1; omega
  have l : t1.natAbs * y.natAbs ≤ y.natAbs * (x.natAbs + 1) := by
    rw [← Int.natAbs_mul, e]
    have : (r1 - s1 * x).natAbs ≤ r1.natAbs + (s1 * x).natAbs := Int.natAbs_sub_le _ _
    rw [Int.natAbs_mul] at this
    have k := Nat.mul_le_mul_right x.natAbs a1
    rw [Nat.mul_add]
    omega
  rw [Nat.mul_comm] at l
  exact Nat.le_of_mul_le_mul_left l (by omega)
theorem whN_go {c : DX} {b : DM} {n : Nat} {s s1 s2 : Sd} (hc : c s = .ok (.im (.bool true)) s1) (hb : b ⟨s.σ, s1.g⟩ = .nx s2) : whN c b (n + 1) s = whN c b n s2 := by
  conv => lhs; unfold whN
  rw [hc]
  simp [hb]
theorem whN_no {c : DX} {b : DM} {n : Nat} {s s1 : Sd} (hc : c s = .ok (.im (.bool false)) s1) : whN c b (n + 1) s = .nx ⟨s.σ, s1.g⟩ := by
  conv => lhs; unfold whN
  rw [hc]
  rfl
theorem tf_loop {x y : Int} (hx : Bt 1000 x) (hy : Bt 1000 y) : ∀ (n N : Nat) {r0 s0 t0 r1 s1 t1 : Int} {p : Sl}, TfS x y r0 s0 t0 r1 s1 t1 → r0.natAbs * r1.natAbs < 2 ^ n → n < N →
    ∃ (r0' s0' t0' s1' t1' : Int) (p' : Sl), whN tfC tfB N (tfS x y r0 s0 t0 r1 s1 t1 p) = .nx (tfS x y r0' s0' t0' 0 s1' t1' p') ∧ TfS x y r0' s0' t0' 0 s1' t1'
  | n, 0, _, _, _, _, _, _, _, _, _, h => absurd h (Nat.not_lt_zero _)
  | n, N + 1, r0, s0, t0, r1, s1, t1, p, S, h, l => by
    by_cases z : r1 = 0
    · subst z
      exact ⟨r0, s0, t0, s1, t1, p, whN_no (s := tfS x y r0 s0 t0 0 s1 t1 p) tf_cond, S⟩
    · have y1 : r1.natAbs ≤ y.natAbs := Nat.le_trans (Nat.le_of_lt S.n0) S.m0
      have b0 : Bt 2000 r0 := Bt.up (m := 1000) (Nat.lt_of_le_of_lt S.m0 hy) (by decide)
      have b1 : Bt 2000 r1 := Bt.up (m := 1000) (Nat.lt_of_le_of_lt y1 hy) (by decide)
      have c1 : Bt 2000 s1 := Bt.up (m := 1000) (Nat.lt_of_le_of_lt S.a1 hy) (by decide)
      have d1 : Bt 2000 t1 := (bt_le1 hx S.t1).up (by decide)
      have st := tf_turn (x := x) (y := y) (s0 := s0) (t0 := t0) (p := p) z b0 b1 c1 d1
      obtain ⟨S', hm⟩ := S.step z
      match n, h with
      | 0, h =>
        exfalso
        have : 1 ≤ r0.natAbs * r1.natAbs := Nat.mul_pos (by have := S.n0; omega) (by omega)
        omega
      | n + 1, h =>
        rw [Nat.pow_succ] at h
        obtain ⟨a1, a2, a3, a4, a5, a6, e, k⟩ := tf_loop hx hy n N (p := .im (.int (r0.fdiv r1))) S' (by omega) (by omega)
        refine ⟨a1, a2, a3, a4, a5, a6, ?_, k⟩
        rw [← e]
        exact whN_go (by rw [tf_cond, decide_eq_false z]; rfl) st
/-- two_factors -/
theorem two_ok {x y : Int} (hx : Bt 1000 x) (hy : Bt 1000 y) : ∃ p q : Int, fTwo [.im (.int x), .im (.int y)] none = .ok (.im (T2 p q)) none ∧ p * x + q * y = (Int.gcd x y : Nat) ∧ p.natAbs ≤ y.natAbs + 1 ∧ q.natAbs ≤ x.natAbs + 1 := by
  have key : ∃ (r0' s0' t0' s1' t1' : Int) (p' : Sl), whN tfC tfB 1000000 (tfS x y x 1 0 y 0 1 .un) = .nx (tfS x y r0' s0' t0' 0 s1' t1' p') ∧ r0'.natAbs = Int.gcd x y ∧ s0' * x + t0' * y = r0' ∧ s0'.natAbs ≤ y.natAbs + 1 ∧ t0'.natAbs ≤ x.natAbs + 1 := by
    by_cases z : y = 0
    · subst z
      exact ⟨x, 1, 0, 0, 1, .un, whN_no (n := 999999) (s := tfS x 0 x 1 0 0 0 1 .un) tf_cond, by rw [Int.gcd_zero_right], by omega, by decide, by omega⟩
    · have S := TfS.first (x := x) z
      have st := tf_turn (x := x) (y := y) (s0 := 1) (t0 := 0) (s1 := 0) (t1 := 1) (p := .un) z (hx.up (by decide)) (hy.up (by decide)) (bt_le (m := 0) (by decide) (Nat.pow_pos (by decide))) (bt_le (m := 1) (by decide) (Nat.one_lt_two_pow (by decide)))
      rw [show (1 : Int) - x.fdiv y * 0 = 1 from by omega, show (0 : Int) - x.fdiv y * 1 = 0 - x.fdiv y from by omega] at st
      obtain ⟨a1, a2, a3, a4, a5, a6, e, k⟩ := tf_loop hx hy 2000 999999 (p := .im (.int (x.fdiv y))) S (by
        have h1 : y.natAbs < 2 ^ 1000 := hy
        have h2 : (x - x.fdiv y * y).natAbs < 2 ^ 1000 := Nat.lt_trans S.n0 hy
        rw [show 2000 = 1000 + 1000 from rfl, Nat.pow_add]
        exact Nat.mul_lt_mul_of_lt_of_le h1 (Nat.le_of_lt h2) (Nat.pow_pos (by decide))) (by decide)
      obtain ⟨d1, d2, d3, d4⟩ := k.done
      refine ⟨a1, a2, a3, a4, a5, a6, ?_, d1, d2, by omega, d4⟩
      rw [← e]
      exact whN_go (n := 999999) (by rw [tf_cond, decide_eq_false z]; rfl) st
  obtain ⟨r, s, t, s', t', p', e, h1, h2, h3, h4⟩ := key
  have ge : hGe (.int r) (.int 0) = some (.im (.bool (decide (0 ≤ r)))) := rfl
  by_cases z : 0 ≤ r
  · refine ⟨s, t, ?_, by rw [h2]; omega, h3, h4⟩
    rw [decide_eq_true z] at ge
    simp [fTwo, mWhF, e, -hI2, ge]
  · refine ⟨-s, -t, ?_, by rw [Int.neg_mul, Int.neg_mul]; omega, by omega, by omega⟩
    rw [decide_eq_false z] at ge
    simp [fTwo, mWhF, e, -hI2, ge]
end DL

set_option Elab.async false
set_option linter.all false
set_option autoImplicit false
set_option maxRecDepth 100000
set_option maxHeartbeats 1000000
/-! DL22: plain data of a depth; lists picked out; comparisons of lists. -/
namespace DL
open PySem L2
/-- plain data, at most n deep -/
def Pl (n : Nat) (d : PyData) : Prop := d.canLay0 = true ∧ d.depth ≤ n
def PlA (n : Nat) (ds : List PyData) : Prop := ∀ d ∈ ds, Pl n d
theorem plA_iff {n : Nat} : ∀ {ds : List PyData}, PlA n ds ↔ PyData.canLayAll0 ds = true ∧ PyData.depthAll ds ≤ n
  | [] => by simp [PlA, PyData.canLayAll0, PyData.depthAll]
  | d :: ds => by
    have ih := plA_iff (n := n) (ds := ds)
    unfold PlA at *
    rw [List.forall_mem_cons, ih]
    rw [show PyData.canLayAll0 (d :: ds) = (d.canLay0 && PyData.canLayAll0 ds) from by conv => lhs; unfold PyData.canLayAll0, show PyData.depthAll (d :: ds) = max d.depth (PyData.depthAll ds) from by conv => lhs; unfold PyData.depthAll]
    unfold Pl
    rw [Bool.and_eq_true]
    constructor
    · rintro ⟨⟨h1, h2⟩, h3, h4⟩
      exact ⟨⟨h1, h3⟩, Nat.max_le.mpr ⟨h2, h4⟩⟩
    · rintro ⟨⟨h1, h3⟩, h⟩
      exact ⟨⟨h1, (Nat.max_le.mp h).1⟩, h3, (Nat.max_le.mp h).2⟩
theorem Pl.lst {n : Nat} {ds : List PyData} (h : PlA n ds) : Pl (n + 1) (.list ds) := by
  have := plA_iff.mp h
  unfold Pl PyData.canLay0 PyData.depth
  exact ⟨this.1, by omega⟩
theorem Pl.tup {n : Nat} {ds : List PyData} (h : PlA n ds) : Pl (n + 1) (.tuple ds) := by
  have := plA_iff.mp h
  unfold Pl PyData.canLay0 PyData.depth
  exact ⟨this.1, by omega⟩
theorem Pl.of_lst {n : Nat} {ds : List PyData} (h : Pl (n + 1) (.list ds)) : PlA n ds := by
  unfold Pl PyData.canLay0 PyData.depth at h
  exact plA_iff.mpr ⟨h.1, by omega⟩
theorem Pl.of_tup {n : Nat} {ds : List PyData} (h : Pl (n + 1) (.tuple ds)) : PlA n ds := by
  unfold Pl PyData.canLay0 PyData.depth at h
  exact plA_iff.mpr ⟨h.1, by omega⟩
theorem Pl.up {m n : Nat} {d : PyData} (h : Pl m d) (l : m ≤ n) : Pl n d := ⟨h.1, Nat.le_trans h.2 l⟩
theorem Pl.shaped {n : Nat} {d : PyData} (h : Pl n d) (l : n ≤ 64 := by decide) : SeqAt.shaped d = true := by
  unfold SeqAt.shaped
  rw [h.1, Bool.true_and]
  exact decide_eq_true (Nat.le_trans h.2 l)
theorem Pl.noexc {n : Nat} {d : PyData} (h : Pl n d) : isExc d = false := by
  cases d with
  | dict kvs => have := h.1; unfold PyData.canLay0 at this; cases this
  | _ => rfl
theorem Pl.int {n : Nat} (i : Int) : Pl n (.int i) := ⟨by unfold PyData.canLay0; rfl, by unfold PyData.depth; exact Nat.zero_le _⟩
theorem Pl.bool {n : Nat} (i : Bool) : Pl n (.bool i) := ⟨by unfold PyData.canLay0; rfl, by unfold PyData.depth; exact Nat.zero_le _⟩
theorem Pl.none {n : Nat} : Pl n .none := ⟨by unfold PyData.canLay0; rfl, by unfold PyData.depth; exact Nat.zero_le _⟩
theorem Pl.str {n : Nat} {x : Str} (h : PyData.strOk x = true) : Pl n (.str x) := ⟨by unfold PyData.canLay0; exact h, by unfold PyData.depth; exact Nat.zero_le _⟩
theorem PlA.nil {n : Nat} : PlA n [] := fun _ h => by cases h
theorem PlA.cons {n : Nat} {d : PyData} {ds : List PyData} (h : Pl n d) (k : PlA n ds) : PlA n (d :: ds) := fun x hx => by
  rcases List.mem_cons.mp hx with z | z
  · rw [z]; exact h
  · exact k x z
theorem PlA.filter {n : Nat} {ds : List PyData} (p : PyData → Bool) (h : PlA n ds) : PlA n (ds.filter p) := fun x hx => h x (List.mem_filter.mp hx).1
theorem hEq_nil {n : Nat} {ds : List PyData} (h : PlA n ds) (l : n ≤ 60 := by decide) : hEq (.list ds) (.list []) = some (.im (.bool ds.isEmpty)) := by
  unfold hEq
  rw [if_pos ⟨(Pl.lst h).shaped (by omega), (Pl.lst (n := 0) PlA.nil).shaped⟩]
  cases ds <;> (unfold PyData.eqv PyData.eqvAll; rfl)
theorem hNe_nil {n : Nat} {ds : List PyData} (h : PlA n ds) (l : n ≤ 60 := by decide) : hNe (.list ds) (.list []) = some (.im (.bool (!ds.isEmpty))) := by
  unfold hNe
  rw [if_pos ⟨(Pl.lst h).shaped (by omega), (Pl.lst (n := 0) PlA.nil).shaped⟩]
  cases ds <;> (unfold PyData.eqv PyData.eqvAll; rfl)
theorem filter_empty {ds : List PyData} {p : PyData → Bool} : (ds.filter fun d => !p d).isEmpty = ds.all p := by
  induction ds with
  | nil => rfl
  | cons d ds ih => cases h : p d <;> simp [h, ih] at * <;> assumption
/-- [x for x in V if c] -/
theorem xLc_flt {v : Nat} {gi c : DX} {s : Sd} {ds : List PyData} (p : PyData → Bool) (hg : gi s = .ok (.im (.list ds)) s) (ho : okOut s.σ [v] = true) (hv : v < s.σ.length) (hl : ds.length ≤ 1000000)
    (hc : ∀ d ∈ ds, c ⟨s.σ.set v (.im d), s.g⟩ = .ok (.im (.bool (p d))) ⟨s.σ.set v (.im d), s.g⟩) : xLc (.nm v) gi (some c) (xVar v) [v] s = .ok (.ow (ds.filter p)) s := by
  unfold xLc
  rw [hg]
  dsimp only
  rw [if_pos ho]
  have lc := lcM_filter (t := .nm v) (c := c) (e := xVar v) (vs := [v]) (out := s.σ) (fun d : PyData => d) p (fun d => d) ⟨s.σ.set v .un, s.g⟩ (l := ds) (acc := [])
    (by simpa using hl) (fun d hd => by
      refine ⟨⟨s.σ.set v (.im d), s.g⟩, ⟨s.σ.set v (.im d), s.g⟩, ⟨s.σ.set v (.im d), s.g⟩, by simp [Tg.put, List.set_set], hc d hd, fun _ => by simp [wipeD, List.set_set], fun _ => ⟨?_, ?_⟩⟩
      · simp [List.getElem?_set_self, hv]
      · unfold afterV
        split <;> simp [wipeD, List.set_set])
  rw [List.map_id', List.map_id', List.nil_append] at lc
  rw [show (⟨wipeD s.σ [v], s.g⟩ : Sd) = ⟨s.σ.set v .un, s.g⟩ from rfl, lc]
  have : unw s.σ (s.σ.set v .un) [v] = s.σ := by
    simp [unw, List.set_set, List.getElem?_eq_getElem hv]
  rw [this]
/-- a loop that goes on, its turns counted -/
theorem forM_cnt {t : Tg} {b : DM} (I : Nat → Sd → Prop) : ∀ {l : List PyData} {k : Nat} {s : Sd}, I k s → (∀ x ∈ l, ∀ j s, k ≤ j → j < k + l.length → I j s → ∃ s1 s2, t.put s x = some s1 ∧ b s1 = .nx s2 ∧ I (j + 1) s2) → ∃ s', forM t b l s = .nx s' ∧ I (k + l.length) s'
  | [], k, s, h, _ => ⟨s, rfl, h⟩
  | x :: l, k, s, h, q => by
    obtain ⟨s1, s2, h1, h2, h3⟩ := q x List.mem_cons_self k s (Nat.le_refl _) (by rw [List.length_cons]; omega) h
    obtain ⟨s', h4, h5⟩ := forM_cnt I h3 fun y hy j s a1 a2 => q y (List.mem_cons_of_mem _ hy) j s (by omega) (by rw [List.length_cons]; omega)
    refine ⟨s', ?_, by rw [List.length_cons]; rw [show k + (l.length + 1) = k + 1 + l.length from by omega]; exact h5⟩
    unfold forM
    rw [h1]
    dsimp only
    rw [h2]
    exact h4
end DL

set_option Elab.async false
set_option linter.all false
set_option autoImplicit false
set_option maxRecDepth 100000
set_option maxHeartbeats 1000000
set_option exponentiation.threshold 3000
/-! DL23: tables and pairs as data, whole numbers, points, fractions: what the small defs of several laws do. -/
namespace DL
open PySem L2
abbrev D4 (m : M4) : PyData := .tuple [.int m.a, .int m.b, .int m.c, .int m.d]
structure Bm (n : Nat) (m : M4) : Prop where
  a : Bt n m.a
  b : Bt n m.b
  c : Bt n m.c
  d : Bt n m.d
theorem Bm.of {k n : Nat} {m : M4} (h : m.Le k) (l : k < 2 ^ n) : Bm n m := ⟨bt_le h.1 l, bt_le h.2.1 l, bt_le h.2.2.1 l, bt_le h.2.2.2 l⟩
theorem Bm.up {k n : Nat} {m : M4} (h : Bm k m) (l : k ≤ n) : Bm n m := ⟨h.a.up l, h.b.up l, h.c.up l, h.d.up l⟩
@[simp] theorem at4 (a b c d : PyData) : atI [a, b, c, d] 0 = some a ∧ atI [a, b, c, d] 1 = some b ∧ atI [a, b, c, d] 2 = some c ∧ atI [a, b, c, d] 3 = some d := ⟨rfl, rfl, rfl, rfl⟩
@[simp] theorem at2 (a b : PyData) : atI [a, b] 0 = some a ∧ atI [a, b] 1 = some b := ⟨rfl, rfl⟩
theorem eqv_int (i j : Int) : PyData.eqv (.int i) (.int j) = decide (i = j) := by
  unfold PyData.eqv
  rw [Bool.eq_iff_iff, beq_iff_eq, decide_eq_true_eq]
theorem pl_D4 (m : M4) : Pl 1 (D4 m) := Pl.tup (.cons (.int _) (.cons (.int _) (.cons (.int _) (.cons (.int _) .nil))))
theorem pl_T2 (a b : Int) : Pl 1 (T2 a b) := Pl.tup (.cons (.int _) (.cons (.int _) .nil))
theorem eqv_D4 (x y : M4) : PyData.eqv (D4 x) (D4 y) = decide (x = y) := by
  obtain ⟨a, b, c, d⟩ := x
  obtain ⟨a', b', c', d'⟩ := y
  unfold PyData.eqv
  simp [PyData.eqvAll, eqv_int]
theorem hEq_D4 (x y : M4) : hEq (D4 x) (D4 y) = some (.im (.bool (decide (x = y)))) := by
  unfold hEq
  rw [if_pos ⟨(pl_D4 x).shaped, (pl_D4 y).shaped⟩, eqv_D4]
theorem hNe_D4 (x y : M4) : hNe (D4 x) (D4 y) = some (.im (.bool (!decide (x = y)))) := by
  unfold hNe
  rw [if_pos ⟨(pl_D4 x).shaped, (pl_D4 y).shaped⟩, eqv_D4]
theorem eqv_T2 (a b c d : Int) : PyData.eqv (T2 a b) (T2 c d) = decide (a = c ∧ b = d) := by
  unfold PyData.eqv
  simp [PyData.eqvAll, eqv_int]
theorem hEq_T2 (a b c d : Int) : hEq (T2 a b) (T2 c d) = some (.im (.bool (decide (a = c ∧ b = d)))) := by
  unfold hEq
  rw [if_pos ⟨(pl_T2 _ _).shaped, (pl_T2 _ _).shaped⟩, eqv_T2]
theorem hNe_T2 (a b c d : Int) : hNe (T2 a b) (T2 c d) = some (.im (.bool (!decide (a = c ∧ b = d)))) := by
  unfold hNe
  rw [if_pos ⟨(pl_T2 _ _).shaped, (pl_T2 _ _).shaped⟩, eqv_T2]
theorem hAbs_i (i : Int) : hAbs [.int i] = some (.im (.int i.natAbs)) := by
  show some (Rv.im (.int (if i < 0 then -i else i))) = _
  congr 3
  split <;> omega
theorem hAdd_t {a b : List PyData} (h : a.length + b.length ≤ 1000000) : hAdd (.tuple a) (.tuple b) = some (.im (.tuple (a ++ b))) := if_pos h
theorem hAdd_l {a b : List PyData} (h : a.length + b.length ≤ 1000000) : hAdd (.list a) (.list b) = some (.ow (a ++ b)) := if_pos h
@[simp] theorem hLen_t (ds : List PyData) : hLen [.tuple ds] = some (.im (.int ds.length)) := rfl
@[simp] theorem hLen_l (ds : List PyData) : hLen [.list ds] = some (.im (.int ds.length)) := rfl
@[simp] theorem hLst1_t (ds : List PyData) : hLst1 [.tuple ds] = some (.ow ds) := rfl
@[simp] theorem toSeq_t (ds : List PyData) : toSeq (.tuple ds) = some ds := rfl
@[simp] theorem toSeq_l (ds : List PyData) : toSeq (.list ds) = some ds := rfl
theorem hGcd_i (a b : Int) : hGcd [.int a, .int b] = some (.im (.int (Int.gcd a b : Nat))) := rfl
theorem hLt_i (i j : Int) : hLt (.int i) (.int j) = some (.im (.bool (decide (i < j)))) := rfl
theorem hLe_i (i j : Int) : hLe (.int i) (.int j) = some (.im (.bool (decide (i ≤ j)))) := rfl
theorem hGt_i (i j : Int) : hGt (.int i) (.int j) = some (.im (.bool (decide (j < i)))) := rfl
theorem hGe_i (i j : Int) : hGe (.int i) (.int j) = some (.im (.bool (decide (j ≤ i)))) := rfl
theorem hSub_i (i j : Int) : hSub (.int i) (.int j) = some (.im (.int (i - j))) := rfl
theorem sm_le {i : Int} {n : Nat} (h : i.natAbs ≤ n) (l : n < 1000000000000 := by decide) : Sm i := sm_of (by omega) (by omega)
theorem shw_int {i : Int} (h : Sm i) : Shw (.int i) := Shw.mk' (by simp [PyData.hasDict]) (show_int h) (by simp [PyData.depth]) (by simp [shOk]) (by simp [wt])
theorem shw_D4 {m : M4} {n : Nat} (h : m.Le n) (l : n < 1000000000000 := by decide) : Shw (D4 m) := Shw.mk' (by simp [PyData.hasDict, PyData.hasDictAll])
  (by have := log_sm (sm_le h.1 l); have := log_sm (sm_le h.2.1 l); have := log_sm (sm_le h.2.2.1 l); have := log_sm (sm_le h.2.2.2 l); simp [PyData.showable, PyData.showableAll]; omega) (by simp [PyData.depth, PyData.depthAll]) (by simp [shOk, shOkL]) (by simp [wt, wtL])
theorem shw_T2 {a b : Int} (ha : Sm a) (hb : Sm b) : Shw (T2 a b) := Shw.mk' (by simp [PyData.hasDict, PyData.hasDictAll])
  (by have := log_sm ha; have := log_sm hb; simp [PyData.showable, PyData.showableAll]; omega) (by simp [PyData.depth, PyData.depthAll]) (by simp [shOk, shOkL]) (by simp [wt, wtL])
theorem shw_bool (b : Bool) : Shw (.bool b) := by cases b <;> exact ⟨by decide +kernel, by decide +kernel⟩
theorem ne_self {d : PyData} (h : Shw d) : hNe (.str d.shown) (.str d.shown) = some (.im (.bool false)) := by
  rw [h.ne h, beq_self_eq_true]; rfl
theorem eq_self {d : PyData} (h : Shw d) : hEq (.str d.shown) (.str d.shown) = some (.im (.bool true)) := by
  rw [h.eq h, beq_self_eq_true]
/-! draws -/
theorem rand_ok {bound : Int} {n : Nat} {l : List Int} (h0 : 0 < bound) (h1 : bound ≤ 1000000) (hn : n ≤ 1000000000) (G : Gen n l) :
    ∃ r l', fRandom [.gn, .im (.int bound)] (some l) = .ok (.im (.int r)) (some l') ∧ 0 ≤ r ∧ r < bound ∧ Gen (n + 1) l' := random_ok h0 (Int.lt_of_le_of_lt h1 (by decide +kernel)) hn G
theorem Gen.up {m n : Nat} {l : List Int} (G : Gen m l) (h : m ≤ n) : Gen n l := ⟨by obtain ⟨a, b, c, e, q⟩ := G.ex; exact ⟨a, b, c, e, by omega⟩⟩
/-! the common divisor of large numbers -/
theorem common_fast {g : Option (List Int)} : ∀ (n N : Nat) (a b : Int), 0 ≤ a * b → b.natAbs < a.natAbs → a.natAbs * b.natAbs < 2 ^ n → n < N → ∃ a' : Int, whN cmC cmB N ⟨[.im (.int a), .im (.int b)], g⟩ = .nx ⟨[.im (.int a'), .im (.int 0)], g⟩ ∧ a'.natAbs = Int.gcd a b
  | _, 0, _, _, _, _, _, h => absurd h (Nat.not_lt_zero _)
  | n, N + 1, a, b, sg, lt, h, hN => by
    by_cases z : b = 0
    · subst z
      exact ⟨a, whN_no (s := ⟨[.im (.int a), .im (.int 0)], g⟩) (s1 := ⟨[.im (.int a), .im (.int 0)], g⟩) (by simp [cmC, -hI2]), by rw [Int.gcd_zero_right]⟩
    · have e : a - a.fdiv b * b = a.fmod b := by rw [Int.fmod_def, Int.mul_comm]
      have w := natAbs_fm sg z
      have l2 := fmod_lt' a z
      rw [e] at w
      have k1 : 1 ≤ (a.fdiv b).natAbs := by
        rcases Nat.eq_zero_or_pos (a.fdiv b).natAbs with y0 | y0
        · rw [y0] at w; omega
        · exact y0
      have k2 := Nat.mul_le_mul_right b.natAbs k1
      have k3 : 2 * (a.fmod b).natAbs ≤ a.natAbs := by omega
      have k4 := Nat.mul_le_mul_right b.natAbs k3
      match n, h with
      | 0, h =>
        have : 1 ≤ a.natAbs * b.natAbs := Nat.mul_pos (by omega) (by omega)
        omega
      | n + 1, h =>
        rw [Nat.pow_succ] at h
        obtain ⟨a', h1, h2⟩ := common_fast (g := g) n N b (a.fmod b) (fmod_sg a z) l2 (by rw [Nat.mul_comm]; rw [Nat.mul_assoc] at k4; omega) (by omega)
        refine ⟨a', ?_, by rw [h2, gcd_fmod]⟩
        have m := hMod_ne (i := a) z
        rw [← h1]
        exact whN_go (s1 := ⟨[.im (.int a), .im (.int b)], g⟩) (by simp [cmC, -hI2, z]) (by simp [cmB, -hI2, m])
theorem common_big {a b : Int} (hb : Bt 1000 b) : fCommon [.im (.int a), .im (.int b)] none = .ok (.im (.int (Int.gcd a b : Nat))) none := by
  have key : ∃ a' : Int, whN cmC cmB 1000000 ⟨[.im (.int a), .im (.int b)], none⟩ = .nx ⟨[.im (.int a'), .im (.int 0)], none⟩ ∧ a'.natAbs = Int.gcd a b := by
    by_cases z : b = 0
    · subst z
      exact ⟨a, whN_no (n := 999999) (s := ⟨[.im (.int a), .im (.int 0)], none⟩) (s1 := ⟨[.im (.int a), .im (.int 0)], none⟩) (by simp [cmC, -hI2]), by rw [Int.gcd_zero_right]⟩
    · obtain ⟨a', h1, h2⟩ := common_fast (g := none) 2000 999999 b (a.fmod b) (fmod_sg a z) (fmod_lt' a z) (by
        have h2 : (a.fmod b).natAbs < 2 ^ 1000 := Nat.lt_trans (fmod_lt' a z) hb
        rw [show 2000 = 1000 + 1000 from rfl, Nat.pow_add]
        exact Nat.mul_lt_mul_of_lt_of_le hb (Nat.le_of_lt h2) (Nat.pow_pos (by decide))) (by decide)
      have m := hMod_ne (i := a) z
      refine ⟨a', ?_, by rw [h2, gcd_fmod]⟩
      rw [← h1]
      exact whN_go (n := 999999) (s1 := ⟨[.im (.int a), .im (.int b)], none⟩) (by simp [cmC, -hI2, z]) (by simp [cmB, -hI2, m])
  obtain ⟨a', h1, h2⟩ := key
  have q := hAbs_i a'
  rw [h2] at q
  simp [fCommon, mWhF, h1, q]
/-! whole, near, points, four -/
def wholeD : PyData → Bool
  | .int _ => true
  | _ => false
def nearD : PyData → Bool
  | .int i => decide (i.natAbs ≤ 1000)
  | _ => false
def four : PyData → Bool
  | .tuple ds => ds.length == 4 && ds.all wholeD
  | _ => false
def pointD : PyData → Bool
  | .tuple [a, b] => nearD a && nearD b
  | _ => false
def fWhole : Fn := mkFn 1 1 (mRet (xAnd (xIsi (fun t => isTy t .int) (xVar 0)) (xNot (xIsi (fun t => isTy t .bool) (xVar 0)))))
def fNear : Fn := mkFn 1 1 (mRet (xAnd (xUser fWhole 1 (uCons (xVar 0) (uNil))) (xChain hLe hLe (xUn hNeg (xC (.int 1000))) (xVar 0) (xC (.int 1000)))))
def fFour : Fn := mkFn 2 1 (mRet (xAnd (xIsi (fun t => isTy t .tuple) (xVar 0)) (xAnd (xBin hEq (xCall hLen (aCons (xVar 0) (aNil))) (xC (.int 4))) (xBin hEq (xLc (.nm 1) (xSeq (xVar 0)) (some (xNot (xUser fWhole 1 (uCons (xVar 1) (uNil))))) (xVar 1) [1]) (xLst (aNil))))))
def fPoint : Fn := mkFn 1 1 (mRet (xAnd (xIsi (fun t => isTy t .tuple) (xVar 0)) (xAnd (xBin hEq (xCall hLen (aCons (xVar 0) (aNil))) (xC (.int 2))) (xAnd (xUser fNear 1 (uCons (xIxV 0 (xC (.int 0))) (uNil))) (xUser fNear 1 (uCons (xIxV 0 (xC (.int 1))) (uNil)))))))
theorem Pl.nodic {n : Nat} {kvs : List (PyData × PyData)} (h : Pl n (.dict kvs)) : False := by
  have := h.1
  unfold PyData.canLay0 at this
  cases this
/-- plain, or the empty dict -/
def Pd (n : Nat) (d : PyData) : Prop := d = .dict [] ∨ Pl n d
theorem whole_ok {n : Nat} {d : PyData} (h : Pd n d) : fWhole [.im d] none = .ok (.im (.bool (wholeD d))) none := by
  rcases h with rfl | h
  · rfl
  · cases d with
    | dict kvs => exact h.nodic.elim
    | _ => rfl
theorem near_int (i : Int) : fNear [.im (.int i)] none = .ok (.im (.bool (decide (i.natAbs ≤ 1000)))) none := by
  have w : fWhole [.im (.int i)] none = .ok (.im (.bool true)) none := rfl
  by_cases z : (-1000 : Int) ≤ i
  · by_cases y : i ≤ 1000
    · have : i.natAbs ≤ 1000 := by omega
      simp [fNear, w, -hI2, hLe_i, z, y, this]
    · have : ¬ i.natAbs ≤ 1000 := by omega
      simp [fNear, w, -hI2, hLe_i, z, y, this]
  · have : ¬ i.natAbs ≤ 1000 := by omega
    simp [fNear, w, -hI2, hLe_i, z, this]
theorem near_ok {n : Nat} {d : PyData} (h : Pd n d) : fNear [.im d] none = .ok (.im (.bool (nearD d))) none := by
  have w := whole_ok h
  rcases h with rfl | h
  · rfl
  · cases d with
    | dict kvs => exact h.nodic.elim
    | int i => exact near_int i
    | _ => rfl
theorem four_ok {n : Nat} {d : PyData} (h : Pd n d) (l : n ≤ 60 := by decide) : fFour [.im d] none = .ok (.im (.bool (four d))) none := by
  rcases h with rfl | h
  · rfl
  cases d with
  | dict kvs => exact h.nodic.elim
  | tuple ds =>
    have hs := Pl.of_tup (n := n) (h.up (by omega))
    by_cases hl : ds.length = 4
    · have lc := xLc_flt (v := 1) (gi := xSeq (xVar 0)) (c := xNot (xUser fWhole 1 (uCons (xVar 1) (uNil)))) (s := ⟨[.im (.tuple ds), .un], none⟩) (ds := ds) (fun d => !wholeD d) (by simp [xSeq]) rfl (by simp) (by omega)
        (fun d hd => by simp [whole_ok (.inr (hs d hd))])
      have e := hEq_nil (hs.filter (fun d => !wholeD d)) l
      rw [filter_empty] at e
      simp [fFour, -hI2, ↓lc, hl, e, four]
    · have hl' : ¬ (ds.length : Int) = 4 := by omega
      simp [fFour, -hI2, hl, hl', four]
  | _ => rfl
theorem point_ok {n : Nat} {d : PyData} (h : Pd n d) : fPoint [.im d] none = .ok (.im (.bool (pointD d))) none := by
  rcases h with rfl | h
  · rfl
  cases d with
  | dict kvs => exact h.nodic.elim
  | tuple ds =>
    have hs := Pl.of_tup (n := n) (h.up (by omega))
    match ds, hs with
    | [], _ => rfl
    | [_], _ => rfl
    | [a, b], hs =>
      have na := near_ok (.inr (hs a (by simp)))
      have nb := near_ok (.inr (hs b (by simp)))
      cases ha : nearD a with
      | false =>
        rw [ha] at na
        simp [fPoint, -hI2, na, pointD, ha]
      | true =>
        rw [ha] at na
        simp [fPoint, -hI2, na, nb, pointD, ha]
    | _ :: _ :: _ :: l, _ =>
      have : ¬ (((l.length : Int) + 1 + 1 + 1) = 2) := by omega
      simp [fPoint, -hI2, pointD, this]
  | _ => rfl
theorem point_int (a b : Int) : fPoint [.im (T2 a b)] none = .ok (.im (.bool (decide (a.natAbs ≤ 1000) && decide (b.natAbs ≤ 1000)))) none := point_ok (.inr (pl_T2 a b))
end DL

set_option Elab.async false
set_option linter.all false
set_option autoImplicit false
set_option maxRecDepth 100000
set_option maxHeartbeats 1000000
set_option exponentiation.threshold 3000
/-! DL24: fractions: plain numbers, then the program's defs. -/
namespace DL
open PySem L2
theorem fdiv_neg_dvd {x g : Int} (h : g ∣ x) (hg : g ≠ 0) : x.fdiv (-g) = -(x.fdiv g) := by
  obtain ⟨t, rfl⟩ := h
  rw [Int.mul_fdiv_cancel_left t hg, show g * t = (-g) * (-t) from by rw [Int.neg_mul_neg], Int.mul_fdiv_cancel_left (-t) (by omega)]
/-- a number by a bottom, in lowest terms -/
def lowF (n b : Int) : Int × Int := if b < 0 then (-(n.fdiv (Int.gcd n b : Nat)), -(b.fdiv (Int.gcd n b : Nat))) else (n.fdiv (Int.gcd n b : Nat), b.fdiv (Int.gcd n b : Nat))
theorem low_spec {n b : Int} (hb : b ≠ 0) : ∃ k : Int, k ≠ 0 ∧ n = k * (lowF n b).1 ∧ b = k * (lowF n b).2 ∧ 0 < (lowF n b).2 ∧ Int.gcd (lowF n b).1 (lowF n b).2 = 1 ∧ (lowF n b).1.natAbs ≤ n.natAbs ∧ (lowF n b).2.natAbs ≤ b.natAbs := by
  have g0 := gcd_pos' (a := n) (b := b) (fun z => hb z.2)
  obtain ⟨e1, l1⟩ := fdiv_gcd (Int.gcd_dvd_left n b) g0
  obtain ⟨e2, l2⟩ := fdiv_gcd (Int.gcd_dvd_right n b) g0
  have gc : Int.gcd (n.fdiv (Int.gcd n b : Nat)) (b.fdiv (Int.gcd n b : Nat)) = 1 := by
    have h : Int.gcd (((Int.gcd n b : Nat) : Int) * n.fdiv (Int.gcd n b : Nat)) (((Int.gcd n b : Nat) : Int) * b.fdiv (Int.gcd n b : Nat)) = Int.gcd n b := by
      rw [Int.mul_comm _ (n.fdiv _), e1, Int.mul_comm _ (b.fdiv _), e2]
    rw [Int.gcd_mul_left] at h
    have h' : Int.gcd n b * Int.gcd (n.fdiv (Int.gcd n b : Nat)) (b.fdiv (Int.gcd n b : Nat)) = Int.gcd n b * 1 := by rw [Nat.mul_one]; exact h
    exact Nat.eq_of_mul_eq_mul_left g0 h'
  unfold lowF
  generalize hg : Int.gcd n b = g at *
  generalize hp : n.fdiv (g : Int) = p at *
  generalize hq : b.fdiv (g : Int) = q at *
  have q0 : q ≠ 0 := fun z => by rw [z] at e2; omega
  by_cases z : b < 0
  · rw [if_pos z]
    have qn : q < 0 := by
      rcases Int.lt_or_le q 0 with y | y
      · exact y
      · have := Int.mul_nonneg y (Int.natCast_nonneg g); omega
    refine ⟨-(g : Int), by omega, by dsimp only; rw [Int.neg_mul_neg, Int.mul_comm]; omega, by dsimp only; rw [Int.neg_mul_neg, Int.mul_comm]; omega, by dsimp only; omega, by dsimp only; rw [Int.neg_gcd, Int.gcd_neg]; exact gc, by dsimp only; omega, by dsimp only; omega⟩
  · rw [if_neg z]
    have qn : 0 < q := by
      rcases Int.lt_or_le 0 q with y | y
      · exact y
      · have := Int.mul_nonpos_of_nonpos_of_nonneg y (Int.natCast_nonneg g); omega
    refine ⟨(g : Int), by omega, by dsimp only; rw [Int.mul_comm]; omega, by dsimp only; rw [Int.mul_comm]; omega, qn, gc, l1, l2⟩
theorem low_one {n b : Int} (hb : b ≠ 0) : (lowF n b).2 = 1 ↔ b ∣ n := by
  obtain ⟨k, k0, e1, e2, p, g, _, _⟩ := low_spec (n := n) hb
  generalize (lowF n b).1 = u at *
  generalize (lowF n b).2 = v at *
  subst e1
  subst e2
  constructor
  · rintro rfl
    rw [Int.mul_one]
    exact Int.dvd_mul_right _ _
  · intro h
    have h2 : v ∣ u := Int.dvd_of_mul_dvd_mul_left k0 h
    have h3 : v ∣ ((Int.gcd u v : Nat) : Int) := Int.dvd_coe_gcd h2 (Int.dvd_refl v)
    rw [g] at h3
    have := Int.le_of_dvd (by decide) h3
    omega
theorem low_bt {n b : Int} {k : Nat} (hb : b ≠ 0) (hn : Bt k n) : Bt k (lowF n b).1 := by
  obtain ⟨_, _, _, _, _, _, l, _⟩ := low_spec (n := n) hb
  exact Nat.lt_of_le_of_lt l hn
theorem low_bt2 {n b : Int} {k : Nat} (hb : b ≠ 0) (hn : Bt k b) : Bt k (lowF n b).2 := by
  obtain ⟨_, _, _, _, _, _, _, l⟩ := low_spec (n := n) hb
  exact Nat.lt_of_le_of_lt l hn
theorem low_pos {n b : Int} (hb : b ≠ 0) : 0 < (lowF n b).2 := by
  obtain ⟨_, _, _, _, p, _⟩ := low_spec (n := n) hb
  exact p
abbrev T2p (x : Int × Int) : PyData := T2 x.1 x.2
theorem bt_mul {m n : Nat} {a b : Int} (ha : Bt m a) (hb : Bt n b) : Bt (m + n) (a * b) := by
  unfold Bt at *
  rw [Int.natAbs_mul, Nat.pow_add]
  exact Nat.mul_lt_mul_of_lt_of_le ha (Nat.le_of_lt hb) (Nat.pow_pos (by decide))
theorem bt_add {m : Nat} {a b : Int} (ha : Bt m a) (hb : Bt m b) : Bt (m + 1) (a + b) := by
  unfold Bt at *
  rw [Nat.pow_succ]
  omega
theorem bt_sub {m : Nat} {a b : Int} (ha : Bt m a) (hb : Bt m b) : Bt (m + 1) (a - b) := by
  unfold Bt at *
  rw [Nat.pow_succ]
  omega
theorem bt_neg {m : Nat} {a : Int} (ha : Bt m a) : Bt m (-a) := by
  unfold Bt at *
  omega
def fLowest : Fn := mkFn 3 2 (mSeq (mSet 2 (xCall hGcd (aCons (xVar 0) (aCons (xVar 1) (aNil))))) (mSeq (mIf (xBin hLt (xVar 1) (xC (.int 0))) (mSet 2 (xUn hNeg (xVar 2))) (mNil)) (mRet (xTup (aCons (xBin hFdiv (xVar 0) (xVar 2)) (aCons (xBin hFdiv (xVar 1) (xVar 2)) (aNil)))))))
theorem bt_gcd {a b : Int} {k : Nat} (hb : b ≠ 0) (h : Bt k b) : Bt k ((Int.gcd a b : Nat) : Int) := by
  have := Nat.le_of_dvd (by omega) (Int.gcd_dvd_natAbs_right a b)
  unfold Bt at *
  omega
theorem lowest_ok {n b : Int} (hb : b ≠ 0) (h : Bt 1000 b) : fLowest [.im (.int n), .im (.int b)] none = .ok (.im (T2p (lowF n b))) none := by
  have g0 := gcd_pos' (a := n) (b := b) (fun z => hb z.2)
  have gb := bt_gcd (a := n) hb h
  have f1 := hFdiv_bt (i := n) (j := ((Int.gcd n b : Nat) : Int)) (by omega) gb
  have f2 := hFdiv_bt (i := b) (j := ((Int.gcd n b : Nat) : Int)) (by omega) gb
  have f3 := hFdiv_bt (i := n) (j := -((Int.gcd n b : Nat) : Int)) (by omega) (bt_neg gb)
  have f4 := hFdiv_bt (i := b) (j := -((Int.gcd n b : Nat) : Int)) (by omega) (bt_neg gb)
  rw [fdiv_neg_dvd (Int.gcd_dvd_left n b) (by omega)] at f3
  rw [fdiv_neg_dvd (Int.gcd_dvd_right n b) (by omega)] at f4
  have hg := hGcd_i n b
  unfold lowF
  by_cases z : b < 0
  · simp [fLowest, -hI2, hg, hLt_i, z, f3, f4]
  · simp [fLowest, -hI2, hg, hLt_i, z, f1, f2]
def fPlus : Fn := mkFn 2 2 (mRet (xUser fLowest 2 (uCons (xBin hAdd (xBin hMul (xIxV 0 (xC (.int 0))) (xIxV 1 (xC (.int 1)))) (xBin hMul (xIxV 1 (xC (.int 0))) (xIxV 0 (xC (.int 1))))) (uCons (xBin hMul (xIxV 0 (xC (.int 1))) (xIxV 1 (xC (.int 1)))) (uNil)))))
def fTimes : Fn := mkFn 2 2 (mRet (xUser fLowest 2 (uCons (xBin hMul (xIxV 0 (xC (.int 0))) (xIxV 1 (xC (.int 0)))) (uCons (xBin hMul (xIxV 0 (xC (.int 1))) (xIxV 1 (xC (.int 1)))) (uNil)))))
theorem plus_ok {a b c d : Int} (ha : Bt 490 a) (hb : Bt 490 b) (hc : Bt 490 c) (hd : Bt 490 d) (b0 : b ≠ 0) (d0 : d ≠ 0) : fPlus [.im (T2 a b), .im (T2 c d)] none = .ok (.im (T2p (lowF (a * d + c * b) (b * d)))) none := by
  have m1 := hMul_bt ha hd (by decide)
  have m2 := hMul_bt hc hb (by decide)
  have m3 := hMul_bt hb hd (by decide)
  have l := lowest_ok (n := a * d + c * b) (Int.mul_ne_zero b0 d0) ((bt_mul hb hd).up (by decide))
  simp [fPlus, -hI2, m1, m2, m3, l]
theorem times_ok {a b c d : Int} (ha : Bt 490 a) (hb : Bt 490 b) (hc : Bt 490 c) (hd : Bt 490 d) (b0 : b ≠ 0) (d0 : d ≠ 0) : fTimes [.im (T2 a b), .im (T2 c d)] none = .ok (.im (T2p (lowF (a * c) (b * d)))) none := by
  have m1 := hMul_bt ha hc (by decide)
  have m3 := hMul_bt hb hd (by decide)
  have l := lowest_ok (n := a * c) (Int.mul_ne_zero b0 d0) ((bt_mul hb hd).up (by decide))
  simp [fTimes, -hI2, m1, m3, l]
/-- fractions among data -/
def fracD : PyData → Bool
  | .tuple [.int n, .int b] => decide (1 ≤ b) && decide (Int.gcd n b = 1)
  | _ => false
def fFraction : Fn := mkFn 1 1 (mSeq (mIf (xOr (xNot (xIsi (fun t => isTy t .tuple) (xVar 0))) (xOr (xBin hNe (xCall hLen (aCons (xVar 0) (aNil))) (xC (.int 2))) (xOr (xNot (xUser fWhole 1 (uCons (xIxV 0 (xC (.int 0))) (uNil)))) (xNot (xUser fWhole 1 (uCons (xIxV 0 (xC (.int 1))) (uNil))))))) (mRet (xC (.bool false))) (mNil)) (mRet (xAnd (xBin hGe (xIxV 0 (xC (.int 1))) (xC (.int 1))) (xBin hEq (xCall hGcd (aCons (xIxV 0 (xC (.int 0))) (aCons (xIxV 0 (xC (.int 1))) (aNil)))) (xC (.int 1))))))
theorem fraction_ok {n : Nat} {d : PyData} (h : Pd n d) : fFraction [.im d] none = .ok (.im (.bool (fracD d))) none := by
  rcases h with rfl | h
  · rfl
  cases d with
  | dict kvs => exact h.nodic.elim
  | tuple ds =>
    have hs := Pl.of_tup (n := n) (h.up (by omega))
    match ds, hs with
    | [], _ => rfl
    | [x], _ => simp [fFraction, -hI2, fracD]
    | [a, b], hs =>
      have na := whole_ok (.inr (hs a (by simp)))
      have nb := whole_ok (.inr (hs b (by simp)))
      cases ha : wholeD a with
      | false =>
        rw [ha] at na
        have : fracD (.tuple [a, b]) = false := by
          unfold fracD
          split
          · rename_i e
            cases e
            cases ha
          · rfl
        simp [fFraction, -hI2, na, this]
      | true =>
        rw [ha] at na
        cases hb : wholeD b with
        | false =>
          rw [hb] at nb
          have : fracD (.tuple [a, b]) = false := by
            unfold fracD
            split
            · rename_i e
              cases e
              cases hb
            · rfl
          simp [fFraction, -hI2, na, nb, this]
        | true =>
          rw [hb] at nb
          cases a <;> first | (cases ha; done) | skip
          cases b <;> first | (cases hb; done) | skip
          rename_i x y
          by_cases z : 1 ≤ y
          · have e : decide (((Int.gcd x y : Nat) : Int) = 1) = decide (Int.gcd x y = 1) := by
              rw [Bool.eq_iff_iff, decide_eq_true_eq, decide_eq_true_eq]; omega
            simp [fFraction, -hI2, na, nb, hGe_i, z, hGcd_i, fracD, e]
          · simp [fFraction, -hI2, na, nb, hGe_i, z, fracD]
    | _ :: _ :: _ :: l, _ =>
      have : ¬ (((l.length : Int) + 1 + 1 + 1) = 2) := by omega
      simp [fFraction, -hI2, fracD, this]
  | _ => rfl
end DL

set_option Elab.async false
set_option linter.all false
set_option autoImplicit false
set_option maxRecDepth 100000
set_option maxHeartbeats 1000000
set_option exponentiation.threshold 3000
/-! DL25: lattices of tables: plain numbers, then the program's defs. -/
namespace DL
open PySem L2
/-- a vector of the lattice of a table's columns -/
def Lat (t : M4) (x y : Int) : Prop := ∃ m n : Int, x = m * t.a + n * t.b ∧ y = m * t.c + n * t.d
/-- by the determinant -/
theorem lat_det {t : M4} (h : t.det ≠ 0) {x y : Int} : Lat t x y ↔ t.det ∣ t.d * x - t.b * y ∧ t.det ∣ t.a * y - t.c * x := by
  constructor
  · rintro ⟨m, n, rfl, rfl⟩
    refine ⟨⟨m, ?_⟩, ⟨n, ?_⟩⟩ <;> unfold M4.det <;> grind
  · rintro ⟨⟨m, hm⟩, ⟨n, hn⟩⟩
    refine ⟨m, n, ?_, ?_⟩
    · refine Int.eq_of_mul_eq_mul_left h ?_
      unfold M4.det at *
      grind
    · refine Int.eq_of_mul_eq_mul_left h ?_
      unfold M4.det at *
      grind
theorem lat_add {t : M4} {x y z w : Int} (h : Lat t x y) (k : Lat t z w) : Lat t (x + z) (y + w) := by
  obtain ⟨m, n, rfl, rfl⟩ := h
  obtain ⟨p, q, rfl, rfl⟩ := k
  exact ⟨m + p, n + q, by grind, by grind⟩
theorem lat_mul {t : M4} {x y : Int} (k : Int) (h : Lat t x y) : Lat t (k * x) (k * y) := by
  obtain ⟨m, n, rfl, rfl⟩ := h
  exact ⟨k * m, k * n, by grind, by grind⟩
/-- the short form of a lattice -/
structure Sh (t s : M4) : Prop where
  c0 : s.c = 0
  a0 : 0 < s.a
  b0 : 0 ≤ s.b
  b1 : s.b < s.a
  d0 : 0 < s.d
  e : ∀ x y : Int, Lat t x y ↔ s.d ∣ y ∧ s.a ∣ x - (y / s.d) * s.b
theorem Sh.one {t t' s s' : M4} (h : Sh t s) (k : Sh t' s') (l : ∀ x y, Lat t x y ↔ Lat t' x y) : s = s' := by
  have e1 : ∀ x y : Int, (s.d ∣ y ∧ s.a ∣ x - (y / s.d) * s.b) ↔ (s'.d ∣ y ∧ s'.a ∣ x - (y / s'.d) * s'.b) := fun x y => by rw [← h.e, ← k.e, l]
  have hd : s.d = s'.d := by
    have a1 := ((e1 s.b s.d).mp ⟨Int.dvd_refl _, by rw [Int.ediv_self (by have := h.d0; omega)]; simp⟩).1
    have a2 := ((e1 s'.b s'.d).mpr ⟨Int.dvd_refl _, by rw [Int.ediv_self (by have := k.d0; omega)]; simp⟩).1
    exact Int.dvd_antisymm (by have := h.d0; omega) (by have := k.d0; omega) a2 a1
  have ha : s.a = s'.a := by
    have a1 := ((e1 s.a 0).mp ⟨Int.dvd_zero _, by simp⟩).2
    have a2 := ((e1 s'.a 0).mpr ⟨Int.dvd_zero _, by simp⟩).2
    simp at a1 a2
    exact Int.dvd_antisymm (by have := h.a0; omega) (by have := k.a0; omega) a2 a1
  have hb : s.b = s'.b := by
    have a1 := ((e1 s.b s.d).mp ⟨Int.dvd_refl _, by rw [Int.ediv_self (by have := h.d0; omega)]; simp⟩).2
    rw [hd, Int.ediv_self (by have := k.d0; omega), Int.one_mul] at a1
    obtain ⟨q, hq⟩ := a1
    have := h.b0; have := h.b1; have := k.b0; have := k.b1
    rcases Int.lt_trichotomy q 0 with z | z | z
    · have : s'.a * q ≤ s'.a * (-1) := Int.mul_le_mul_of_nonneg_left (by omega) (by omega)
      omega
    · rw [z] at hq; omega
    · have : s'.a * 1 ≤ s'.a * q := Int.mul_le_mul_of_nonneg_left (by omega) (by omega)
      omega
  exact M4.ext ha hb (by rw [h.c0, k.c0]) hd
theorem Sh.self {t s : M4} (h : Sh t s) : Sh s s := ⟨h.c0, h.a0, h.b0, h.b1, h.d0, fun x y => by
  have d0 := h.d0
  constructor
  · rintro ⟨m, n, rfl, rfl⟩
    rw [h.c0, Int.mul_zero, Int.zero_add, Int.mul_ediv_cancel _ (by omega)]
    exact ⟨Int.dvd_mul_left _ _, ⟨m, by grind⟩⟩
  · rintro ⟨⟨n, rfl⟩, ⟨m, hm⟩⟩
    rw [Int.mul_ediv_cancel_left _ (by omega)] at hm
    exact ⟨m, n, by grind, by rw [h.c0]; grind⟩⟩
theorem Sh.lat {t s : M4} (h : Sh t s) (x y : Int) : Lat s x y ↔ Lat t x y := by rw [h.self.e, h.e]
/-- the short form that the program makes -/
def shT (t : M4) (u v : Int) : M4 := ⟨((t.det.natAbs / Int.gcd t.c t.d : Nat) : Int), (t.a * u + t.b * v) % ((t.det.natAbs / Int.gcd t.c t.d : Nat) : Int), 0, Int.gcd t.c t.d⟩
theorem sh_far {t : M4} (h : t.det ≠ 0) : 0 < Int.gcd t.c t.d ∧ 0 < t.det.natAbs / Int.gcd t.c t.d ∧ t.det.natAbs / Int.gcd t.c t.d * Int.gcd t.c t.d = t.det.natAbs := by
  have g0 : 0 < Int.gcd t.c t.d := gcd_pos' fun z => h (by unfold M4.det; rw [z.1, z.2]; simp)
  have d1 : ((Int.gcd t.c t.d : Nat) : Int) ∣ t.det := Int.dvd_sub (Int.dvd_mul_of_dvd_right (Int.gcd_dvd_right _ _)) (Int.dvd_mul_of_dvd_right (Int.gcd_dvd_left _ _))
  have d2 : Int.gcd t.c t.d ∣ t.det.natAbs := Int.ofNat_dvd_left.mp d1
  have e := Nat.div_mul_cancel d2
  refine ⟨g0, ?_, e⟩
  rcases Nat.eq_zero_or_pos (t.det.natAbs / Int.gcd t.c t.d) with z | z
  · rw [z] at e; omega
  · exact z
theorem sh_of {t : M4} {u v : Int} (h : t.det ≠ 0) (uv : u * t.c + v * t.d = (Int.gcd t.c t.d : Nat)) : Sh t (shT t u v) := by
  obtain ⟨g0, f0, fe⟩ := sh_far h
  have dc := Int.gcd_dvd_left t.c t.d
  have dd := Int.gcd_dvd_right t.c t.d
  unfold shT
  generalize hg : Int.gcd t.c t.d = g at *
  generalize hf : t.det.natAbs / g = f at *
  have fg : (f : Int) * g = t.det ∨ (f : Int) * g = -t.det := by
    have : ((f * g : Nat) : Int) = (t.det.natAbs : Int) := by rw [fe]
    rw [Int.natCast_mul] at this
    omega
  have w0 : Lat t (t.a * u + t.b * v) g := ⟨u, v, by grind, by omega⟩
  have w1 : Lat t f 0 := by
    obtain ⟨c', hc⟩ := dc
    obtain ⟨d', hd⟩ := dd
    rw [lat_det h]
    rcases fg with z | z
    · exact ⟨⟨d', by rw [← z, hd]; grind⟩, ⟨-c', by rw [← z, hc]; grind⟩⟩
    · have z' : t.det = -((f : Int) * g) := by omega
      exact ⟨⟨-d', by rw [z', hd]; grind⟩, ⟨c', by rw [z', hc]; grind⟩⟩
  refine ⟨rfl, by dsimp only; omega, Int.emod_nonneg _ (by omega), Int.emod_lt_of_pos _ (by omega), by dsimp only; omega, fun x y => ?_⟩
  dsimp only
  generalize hW : t.a * u + t.b * v = W at *
  have em : W % (f : Int) = W - f * (W / f) := Int.emod_def W f
  constructor
  · intro hl
    have hy : (g : Int) ∣ y := by
      obtain ⟨m, n, _, rfl⟩ := hl
      exact Int.dvd_add (Int.dvd_mul_of_dvd_right dc) (Int.dvd_mul_of_dvd_right dd)
    refine ⟨hy, ?_⟩
    obtain ⟨k, rfl⟩ := hy
    rw [Int.mul_ediv_cancel_left _ (by omega)]
    have l2 := lat_add hl (lat_mul (-k) w0)
    rw [show (g : Int) * k + -k * g = 0 from by grind] at l2
    obtain ⟨p, q⟩ := (lat_det h).mp l2
    have p' : t.det ∣ t.d * (x + -k * W) := by simpa using p
    have q' : t.det ∣ t.c * (x + -k * W) := by
      have : t.det ∣ -(t.c * (x + -k * W)) := by simpa using q
      exact Int.dvd_neg.mp this
    have r : t.det ∣ (x + -k * W) * g := by
      rw [← uv]
      have := Int.dvd_add (Int.dvd_mul_of_dvd_right (b := u) q') (Int.dvd_mul_of_dvd_right (b := v) p')
      rw [show u * (t.c * (x + -k * W)) + v * (t.d * (x + -k * W)) = (x + -k * W) * (u * t.c + v * t.d) from by grind] at this
      exact this
    have r2 : (f : Int) * g ∣ (x + -k * W) * g := by
      rcases fg with z | z
      · rw [z]; exact r
      · rw [z]; exact Int.neg_dvd.mpr r
    have r3 : (f : Int) ∣ x + -k * W := Int.dvd_of_mul_dvd_mul_right (show (g : Int) ≠ 0 by omega) r2
    rw [em, show x - k * (W - f * (W / f)) = (x + -k * W) + f * (k * (W / f)) from by grind]
    exact Int.dvd_add r3 (Int.dvd_mul_right _ _)
  · rintro ⟨⟨k, rfl⟩, ⟨m, hm⟩⟩
    rw [Int.mul_ediv_cancel_left _ (by omega), em] at hm
    have l2 := lat_add (lat_mul (m - k * (W / f)) w1) (lat_mul k w0)
    rw [show (m - k * (W / f)) * (f : Int) + k * W = x from by grind, show (m - k * (W / f)) * 0 + k * (g : Int) = g * k from by grind] at l2
    exact l2
def fDet : Fn := mkFn 1 1 (mRet (xBin hSub (xBin hMul (xIxV 0 (xC (.int 0))) (xIxV 0 (xC (.int 3)))) (xBin hMul (xIxV 0 (xC (.int 1))) (xIxV 0 (xC (.int 2))))))
theorem det_ok {x : M4} {n : Nat} (hx : Bm n x) (l : n + n < 1000000 := by decide) : fDet [.im (D4 x)] none = .ok (.im (.int x.det)) none := by
  have m1 := hMul_bt hx.a hx.d l
  have m2 := hMul_bt hx.b hx.c l
  simp [fDet, -hI2, m1, m2, M4.det]
theorem bt_det {x : M4} {n : Nat} (hx : Bm n x) : Bt (n + n + 1) x.det := bt_sub (bt_mul hx.a hx.d) (bt_mul hx.b hx.c)
def fShort : Fn := mkFn 9 1 (mSeq (mUnp [1, 2, 3, 4] (xVar 0)) (mSeq (mSet 5 (xCall hGcd (aCons (xVar 3) (aCons (xVar 4) (aNil))))) (mSeq (mUnp [6, 7] (xUser fTwo 2 (uCons (xVar 3) (uCons (xVar 4) (uNil))))) (mSeq (mSet 8 (xBin hFdiv (xCall hAbs (aCons (xUser fDet 1 (uCons (xVar 0) (uNil))) (aNil))) (xVar 5))) (mRet (xTup (aCons (xVar 8) (aCons (xBin hMod (xBin hAdd (xBin hMul (xVar 1) (xVar 6)) (xBin hMul (xVar 2) (xVar 7))) (xVar 8)) (aCons (xC (.int 0)) (aCons (xVar 5) (aNil)))))))))))
theorem short_ok {t s : M4} (ht : Bm 100 t) (h : t.det ≠ 0) (hs : Sh t s) : fShort [.im (D4 t)] none = .ok (.im (D4 s)) none := by
  obtain ⟨u, v, e, uv, lu, lv⟩ := two_ok (ht.c.up (n := 1000) (by decide)) (ht.d.up (n := 1000) (by decide))
  obtain ⟨g0, f0, fe⟩ := sh_far h
  rw [hs.one (sh_of h uv) (fun _ _ => Iff.rfl)]
  have d := det_ok ht
  have ha := hAbs_i t.det
  have hg := hGcd_i t.c t.d
  have gb : Bt 100 ((Int.gcd t.c t.d : Nat) : Int) := by
    by_cases z : t.d = 0
    · rw [z, Int.gcd_zero_right]
      have := ht.c
      unfold Bt at *
      omega
    · exact bt_gcd z ht.d
  have f := hFdiv_bt (i := (t.det.natAbs : Int)) (j := ((Int.gcd t.c t.d : Nat) : Int)) (by omega) gb
  rw [Int.fdiv_eq_ediv_of_nonneg _ (by omega), ← Int.natCast_ediv] at f
  have m1 := hMul_bt ht.a (bt_le1 ht.d lu) (by decide)
  have m2 := hMul_bt ht.b (bt_le1 ht.c lv) (by decide)
  have md := hMod_ne (i := t.a * u + t.b * v) (j := ((t.det.natAbs / Int.gcd t.c t.d : Nat) : Int)) (by omega)
  rw [Int.fmod_eq_emod_of_nonneg _ (by omega)] at md
  unfold shT
  generalize ((t.det.natAbs / Int.gcd t.c t.d : Nat) : Int) = F at *
  simp [fShort, -hI2, hg, e, d, ha, f, m1, m2, md]
theorem sh_ex {t : M4} (h : t.det ≠ 0) : ∃ s, Sh t s := by
  obtain ⟨u, v, uv⟩ := bez t.c t.d
  exact ⟨_, sh_of h uv⟩
def fReduced : Fn := mkFn 7 2 (mSeq (mUnp [2, 3, 4, 5] (xVar 0)) (mSeq (mSet 6 (xBin hFdiv (xIxV 1 (xC (.int 1))) (xVar 5))) (mRet (xTup (aCons (xBin hMod (xBin hSub (xIxV 1 (xC (.int 0))) (xBin hMul (xVar 6) (xVar 3))) (xVar 2)) (aCons (xBin hSub (xIxV 1 (xC (.int 1))) (xBin hMul (xVar 6) (xVar 5))) (aNil)))))))
/-- the class of a point -/
def redP (s : M4) (x y : Int) : Int × Int := ((x - y / s.d * s.b) % s.a, y - y / s.d * s.d)
theorem reduced_ok {t s : M4} {x y : Int} (hs : Sh t s) (bs : Bm 300 s) (hx : Bt 300 x) (hy : Bt 300 y) : fReduced [.im (D4 s), .im (T2 x y)] none = .ok (.im (T2p (redP s x y))) none := by
  have f := hFdiv_bt (i := y) (j := s.d) (by have := hs.d0; omega) bs.d
  have b6 : Bt 301 (y.fdiv s.d) := bt_le1 hy (fdiv_le (by have := hs.d0; omega))
  have m1 := hMul_bt b6 bs.b (by decide)
  have m2 := hMul_bt b6 bs.d (by decide)
  have md := hMod_ne (i := x - y.fdiv s.d * s.b) (j := s.a) (by have := hs.a0; omega)
  rw [Int.fdiv_eq_ediv_of_nonneg _ (by have := hs.d0; omega)] at f m1 m2 md
  rw [Int.fmod_eq_emod_of_nonneg _ (by have := hs.a0; omega)] at md
  simp [fReduced, -hI2, f, m1, m2, md, redP]
theorem red_zero {t s : M4} {x y : Int} (hs : Sh t s) : redP s x y = (0, 0) ↔ Lat t x y := by
  rw [hs.e]
  unfold redP
  rw [Prod.mk.injEq]
  have d0 := hs.d0
  constructor
  · rintro ⟨h1, h2⟩
    exact ⟨⟨y / s.d, by rw [Int.mul_comm]; omega⟩, Int.dvd_of_emod_eq_zero h1⟩
  · rintro ⟨h1, h2⟩
    exact ⟨Int.emod_eq_zero_of_dvd h2, by rw [Int.ediv_mul_cancel h1]; omega⟩
/-! checks -/
def tableD : PyData → Bool
  | .tuple ds => ds.length == 4 && ds.all nearD
  | _ => false
theorem near_whole {d : PyData} (h : nearD d = true) : wholeD d = true := by cases d <;> first | (cases h; done) | rfl
theorem all_near {ds : List PyData} (h : ds.all nearD = true) : ds.all wholeD = true := by
  rw [List.all_eq_true] at *
  exact fun x hx => near_whole (h x hx)
def fChkTable (C : Addr) : Fn := mkFn 2 1 (mIf (xOr (xNot (xUser fFour 1 (uCons (xVar 0) (uNil)))) (xBin hNe (xLc (.nm 1) (xSeq (xVar 0)) (some (xNot (xUser fNear 1 (uCons (xVar 1) (uNil))))) (xVar 1) [1]) (xLst (aNil)))) (mRaise C (xVar 0)) (mNil))
theorem chkTable_ok {n : Nat} {d : PyData} {C : Addr} (h : Pd n d) (l : n ≤ 60 := by decide) : fChkTable C [.im d] none = if tableD d = true then .ok (.im .none) none else .err C d none := by
  have f := four_ok h l
  cases hf : four d with
  | false =>
    have : tableD d = false := by
      cases d with
      | tuple ds =>
        have hf : (ds.length == 4 && ds.all wholeD) = false := hf
        show (ds.length == 4 && ds.all nearD) = false
        cases hl : ds.length == 4 with
        | false => rfl
        | true =>
          rw [hl, Bool.true_and] at hf
          rw [Bool.true_and]
          cases hn : ds.all nearD with
          | false => rfl
          | true => rw [all_near hn] at hf; cases hf
      | _ => rfl
    rw [hf] at f
    simp [fChkTable, -hI2, f, this]
  | true =>
    rcases h with rfl | h
    · cases hf
    cases d with
    | tuple ds =>
      rw [hf] at f
      have hs := Pl.of_tup (n := n) (h.up (by omega))
      have hl : ds.length = 4 := by
        have hf : (ds.length == 4 && ds.all wholeD) = true := hf
        rw [Bool.and_eq_true, beq_iff_eq] at hf
        exact hf.1
      have lc := xLc_flt (v := 1) (gi := xSeq (xVar 0)) (c := xNot (xUser fNear 1 (uCons (xVar 1) (uNil)))) (s := ⟨[.im (.tuple ds), .un], none⟩) (ds := ds) (fun d => !nearD d) (by simp [xSeq]) rfl (by simp) (by omega)
        (fun d hd => by simp [near_ok (.inr (hs d hd))])
      have e := hNe_nil (hs.filter (fun d => !nearD d)) l
      rw [filter_empty] at e
      cases hn : ds.all nearD with
      | false =>
        rw [hn] at e
        simp [fChkTable, -hI2, f, ↓lc, e, tableD, hn]
      | true =>
        rw [hn] at e
        simp [fChkTable, -hI2, f, ↓lc, e, tableD, hn, hl]
    | _ => cases hf
def fChkPoint (C : Addr) : Fn := mkFn 1 1 (mIf (xNot (xUser fPoint 1 (uCons (xVar 0) (uNil)))) (mRaise C (xVar 0)) (mNil))
theorem chkPoint_ok {n : Nat} {d : PyData} {C : Addr} (h : Pd n d) : fChkPoint C [.im d] none = if pointD d = true then .ok (.im .none) none else .err C d none := by
  have f := point_ok h
  cases hp : pointD d with
  | false => rw [hp] at f; simp [fChkPoint, -hI2, f]
  | true => rw [hp] at f; simp [fChkPoint, -hI2, f]
end DL

set_option Elab.async false
set_option linter.all false
set_option autoImplicit false
set_option maxRecDepth 100000
set_option maxHeartbeats 1000000
/-! DL26: comprehensions over what is thawed on the way. -/
namespace DL
open PySem L2
/-- [x for x in V if c], V an expression that may change the state -/
theorem xLc_flt2 {v : Nat} {gi c : DX} {s0 s : Sd} {ds : List PyData} (p : PyData → Bool) (hg : gi s0 = .ok (.im (.list ds)) s) (ho : okOut s.σ [v] = true) (hv : v < s.σ.length) (hl : ds.length ≤ 1000000)
    (hc : ∀ d ∈ ds, c ⟨s.σ.set v (.im d), s.g⟩ = .ok (.im (.bool (p d))) ⟨s.σ.set v (.im d), s.g⟩) : xLc (.nm v) gi (some c) (xVar v) [v] s0 = .ok (.ow (ds.filter p)) s := by
  have h := xLc_flt (gi := fun _ => .ok (.im (.list ds)) s) (c := c) (s := s) p rfl ho hv hl hc
  unfold xLc at h ⊢
  rw [hg]
  exact h
/-- [e for x in V] -/
theorem lcM_map {t : Tg} {e : DX} {vs : List Nat} {out : List Sl} {α : Type} (D : α → PyData) (r : α → PyData) (s : Sd) : ∀ {l : List α} {acc : List PyData},
    acc.length + l.length ≤ 1000000 →
    (∀ x ∈ l, ∃ s1 s3, t.put s (D x) = some s1 ∧ e s1 = .ok (.im (r x)) s3 ∧ (⟨wipeD (afterV s1 (.im (r x)) s3).σ vs, s3.g⟩ : Sd) = s) →
    lcM t none e vs out (l.map D) acc s = .ok (.ow (acc ++ l.map r)) ⟨unw out s.σ vs, s.g⟩
  | [], acc, _, _ => by simp [lcM]
  | x :: l, acc, hl, k => by
    obtain ⟨s1, s3, h1, h2, h3⟩ := k x List.mem_cons_self
    rw [List.length_cons] at hl
    rw [List.map_cons]
    unfold lcM
    rw [h1]
    dsimp only
    unfold lcT lcE
    dsimp only
    rw [h2]
    dsimp only
    rw [if_pos (by omega), h3, List.map_cons]
    rw [lcM_map D r s (by rw [List.length_append, List.length_singleton]; omega) fun y hy => k y (List.mem_cons_of_mem _ hy)]
    rw [List.append_assoc]
    rfl
/-- [e for x in V] by one name -/
theorem xLc_map {v : Nat} {gi e : DX} {s0 s : Sd} {ds : List PyData} (r : PyData → PyData) (hg : gi s0 = .ok (.im (.list ds)) s) (ho : okOut s.σ [v] = true) (hv : v < s.σ.length) (hl : ds.length ≤ 1000000)
    (hc : ∀ d ∈ ds, e ⟨s.σ.set v (.im d), s.g⟩ = .ok (.im (r d)) ⟨s.σ.set v (.im d), s.g⟩) : xLc (.nm v) gi none e [v] s0 = .ok (.ow (ds.map r)) s := by
  unfold xLc
  rw [hg]
  dsimp only
  rw [if_pos ho]
  have lc := lcM_map (t := .nm v) (e := e) (vs := [v]) (out := s.σ) (fun d : PyData => d) r ⟨s.σ.set v .un, s.g⟩ (l := ds) (acc := [])
    (by simpa using hl) (fun d hd => by
      refine ⟨⟨s.σ.set v (.im d), s.g⟩, ⟨s.σ.set v (.im d), s.g⟩, by simp [Tg.put, List.set_set], hc d hd, ?_⟩
      unfold afterV
      split <;> simp [wipeD, List.set_set])
  rw [List.map_id', List.nil_append] at lc
  rw [show (⟨wipeD s.σ [v], s.g⟩ : Sd) = ⟨s.σ.set v .un, s.g⟩ from rfl, lc]
  have : unw s.σ (s.σ.set v .un) [v] = s.σ := by
    simp [unw, List.set_set, List.getElem?_eq_getElem hv]
  rw [this]
end DL

set_option Elab.async false
set_option linter.all false
set_option autoImplicit false
set_option maxRecDepth 100000
set_option maxHeartbeats 1000000
/-! DL27: sorted, min, max of data; in a tuple of data. -/
namespace DL
open PySem PyProof.Rows L2
open PySem.W (dataLt dataLe alike AllAlike Sortable minD maxD AlikeAll EachIs)
section
variable {X : Cx}
/-! ### in a tuple -/
def rInT (neg : Bool) (K : PySem.W.Frag) : R2 := fun x y H Q => ∃ d ds, Dp K H x d ∧ Dp K H y (.tuple ds) ∧ SeqAt.shaped d = true ∧ SeqAt.shaped (.tuple ds) = true ∧ Q (.bl (neg ^^ ds.any fun z => PyData.eqv z d)) H
theorem op_inT (hu : X.A.units + 66 < cLine) : OpR X (compareOp .In) (rInT false X.K) := by
  intro pins s σ H x y v u Q I rx ry h
  obtain ⟨d, ds, hd, he, sd, se, q⟩ := h
  obtain ⟨as, r1⟩ := Dp.reads I d x v hd rx
  obtain ⟨bs, r2⟩ := Dp.reads I (.tuple ds) y u he ry
  have cl : PyData.canLayAll0 ds = true := by
    have := SeqAt.canLay_of_shaped se
    unfold PyData.canLay0 at this
    exact this
  rw [Bool.false_xor] at q
  exact SeqAt.in_tuple_reads r2 r1 cl (SeqAt.canLay_of_shaped sd) (room_in_shaped sd (by omega)) ⟨.bl _, H, I, rfl, q⟩
theorem op_ninT (hu : X.A.units + 66 < cLine) : OpR X (compareOp .NotIn) (rInT true X.K) := by
  intro pins s σ H x y v u Q I rx ry h
  obtain ⟨d, ds, hd, he, sd, se, q⟩ := h
  obtain ⟨as, r1⟩ := Dp.reads I d x v hd rx
  obtain ⟨bs, r2⟩ := Dp.reads I (.tuple ds) y u he ry
  have cl : PyData.canLayAll0 ds = true := by
    have := SeqAt.canLay_of_shaped se
    unfold PyData.canLay0 at this
    exact this
  rw [Bool.true_xor] at q
  exact SeqAt.notIn_tuple_reads r2 r1 cl (SeqAt.canLay_of_shaped sd) (room_in_shaped sd (by omega)) ⟨.bl _, H, I, rfl, q⟩
def hInT (neg : Bool) (d e : PyData) : Option Rv := match e with
  | .tuple es => if SeqAt.shaped d = true ∧ SeqAt.shaped (.tuple es) = true then some (.im (.bool (neg ^^ es.any fun z => PyData.eqv z d))) else none
  | _ => none
theorem o_inT {neg : Bool} {K : PySem.W.Frag} : Op2 K (hInT neg) (rInT neg K) := by
  intro B W γ F s σ H x y d e rv Q G r1 r2 he A
  cases r2 with
  | tup h q =>
    rename_i l xs es
    replace he : (if SeqAt.shaped d = true ∧ SeqAt.shaped (.tuple es) = true then some (Rv.im (.bool (neg ^^ es.any fun z => PyData.eqv z d))) else none) = some rv := he
    split at he
    · rename_i c
      cases he
      exact ⟨d, es, (r1.mono G.sub).dpS c.1, ((Rp.tup h q).mono G.sub).dpS c.2, c.1, c.2, A.same G (.bl _)⟩
    · cases he
  | _ => cases he
/-! ### sorted -/
def rSortD (K : PySem.W.Frag) : List V → Hp → VK → Prop := fun vs H Q => ∃ (a : Addr) (ps : List (V × PyData)), vs = [.ref a] ∧ SqL K H a (ps.map (·.1)) ∧ (∀ p ∈ ps, Dp K H p.1 p.2) ∧ AllAlike (ps.map (·.2)) ∧ Sortable (ps.map (·.2)) ∧ (∀ p ∈ ps, p.2.depth ≤ 60) ∧
  ∀ q, H q = none → Q (.ref q) (upd H q (.lst ((ps.mergeSort (dataLe false (·.2))).map (·.1))))
theorem each_of {ps : List (V × PyData)} : ∀ {us : List Value}, Vals (ps.map (·.1)) us → EachIs (fun (v : Value) (p : V × PyData) => RelV p.1 v) us ps := by
  induction ps with
  | nil => intro us r; cases r; exact .nil
  | cons p ps ih => intro us r; cases r with | cons r1 r2 => exact .cons r1 (ih r2)
theorem vals_each {ps : List (V × PyData)} : ∀ {us : List Value}, EachIs (fun (v : Value) (p : V × PyData) => RelV p.1 v) us ps → Vals (ps.map (·.1)) us := by
  induction ps with
  | nil => intro us r; cases r; exact .nil
  | cons p ps ih => intro us r; cases r with | cons r1 r2 => exact .cons r1 (ih r2)
theorem cr_sortD (hu : X.A.units + 66 < cLine) : CallR X (.builtin "sorted") (rSortD X.K) := by
  intro pins s σ H vs us Q I r h
  obtain ⟨a, ps, rfl, hs, hd, hal, hso, hdp, q⟩ := h
  obtain ⟨its, rv, hl, hz⟩ := I.list hs
  rw [Vals.ref1 r]
  have el := each_of rv
  have len : its.length = ps.length := by rw [← rv.length, List.length_map]
  have er : EachIs (fun (v : Value) (p : V × PyData) => ∃ as, Reads s.heap v p.2 as) its ps := by
    clear hs hl hz hal hso hdp q r rv len
    induction el with
    | nil => exact .nil
    | cons r1 _ ih => exact .cons (Dp.reads I _ _ _ (hd _ List.mem_cons_self) r1) (ih fun p hp => hd p (List.mem_cons_of_mem _ hp))
  refine PySem.W.sorted_data (enc := fun p : V × PyData => p.2) hl.isList el er hal hso (by rw [← len, ← rv.length]; exact hz) (fun p hp => by have := hdp p hp; omega) fun out h1 h2 => ?_
  obtain ⟨ep, he'⟩ := PyProof.Rows.sortedAll_at s.heap its out.toArray
  have hl2 : ((ps.mergeSort (dataLe false (·.2))).map (·.1)).length ≤ sizeLine := by
    rw [List.length_map, List.length_mergeSort, ← len, ← rv.length]; exact hz
  exact ⟨.ref _, upd H (s.heap.objs.size + 1) (.lst ((ps.mergeSort (dataLe false (·.2))).map (·.1))), I.laid (t' := s.toks) (fun _ _ => PyProof.Rows.sortedAll_old) (Nat.le_succ _) ⟨hl2, out, ep, vals_each h2, by simpa using he'⟩, rfl, q _ (I.hok.fresh (Nat.le_succ _))⟩
theorem alikeAll_iff {ds : List PyData} : AlikeAll ds ↔ (∀ x ∈ ds, ∀ y ∈ ds, alike x y = true) ∧ ∀ x ∈ ds, x ≠ .none := Iff.rfl
theorem fold_mem (f : PyData → PyData → Bool) : ∀ (xs : List PyData) (x : PyData), xs.foldl (fun a y => if f a y then y else a) x ∈ x :: xs
  | [], x => List.mem_cons_self
  | y :: xs, x => by
    rw [List.foldl_cons]
    have h := fold_mem f xs (if f x y then y else x)
    rcases List.mem_cons.mp h with z | z
    · rw [z]
      split
      · exact List.mem_cons_of_mem _ List.mem_cons_self
      · exact List.mem_cons_self
    · exact List.mem_cons_of_mem _ (List.mem_cons_of_mem _ z)
theorem minD_mem (x : PyData) (xs : List PyData) : minD x xs ∈ x :: xs := fold_mem (fun a y => dataLt y a) xs x
theorem maxD_mem (x : PyData) (xs : List PyData) : maxD x xs ∈ x :: xs := fold_mem (fun a y => dataLt a y) xs x
/-! ### min, max -/
def rBest (f : PyData → List PyData → PyData) (K : PySem.W.Frag) : List V → Hp → VK → Prop := fun vs H Q => ∃ (a : Addr) (xs : List V) (d0 : PyData) (ds : List PyData), vs = [.ref a] ∧ (SqL K H a xs ∨ SqT K H a xs) ∧ DpAll K H xs (d0 :: ds) ∧ AlikeAll (d0 :: ds) ∧ PyData.canLayAll0 (d0 :: ds) = true ∧ PyData.depthAll (d0 :: ds) ≤ 60 ∧
  ∀ (i : Nat) (x : V), xs[i]? = some x → (d0 :: ds)[i]? = some (f d0 ds) → Q x H
theorem best_end {pins : List (Addr × Obj)} {σ : L2.St} {H : Hp} {s : Shared} {xs : List V} {its : List Value} {dd : List PyData} {m : PyData} {Q : VK} (I : Inv X pins σ H s) (rv : Vals xs its) (hd : DpAll X.K H xs dd) (cl : PyData.canLayAll0 dd = true) (hm : m ∈ dd)
    (q : ∀ (i : Nat) (x : V), xs[i]? = some x → dd[i]? = some m → Q x H) {i : Nat} {v : Value} {h' : Heap} {tk : Nat} {bs : List Addr} (hv : its[i]? = some v) (hr : Reads h' v m bs) (hk : ∀ b o, s.heap.get? b = some o → h'.get? b = some o) :
    ∃ x, RelV x v ∧ Q x H := by
  obtain ⟨as, ra⟩ := Dp.readsAll I dd xs its hd rv
  have ra' := PyProof.Rows.ReadsAll.keeps hk ra
  have mp := SeqAt.readsAll_map dd its as cl ra'
  have hi : i < its.length := (List.getElem?_eq_some_iff.mp hv).1
  have cm : m.canLay0 = true := by
    have : ∀ {l : List PyData}, PyData.canLayAll0 l = true → m ∈ l → m.canLay0 = true := fun {l} => by
      induction l with
      | nil => intro _ z; cases z
      | cons y l ih =>
        intro c z
        unfold PyData.canLayAll0 at c
        rw [Bool.and_eq_true] at c
        rcases List.mem_cons.mp z with w | w
        · rw [w]; exact c.1
        · exact ih c.2 w
    exact this cl hm
  have e : dd[i]? = some m := by
    rw [← mp, List.getElem?_map, hv, Option.map_some, SeqAt.readOf_eq cm hr]
  have hx : i < xs.length := by rw [rv.length]; exact hi
  obtain ⟨v', hv', rx⟩ := rv.get (List.getElem?_eq_getElem hx)
  rw [hv] at hv'
  cases hv'
  exact ⟨_, rx, q i _ (List.getElem?_eq_getElem hx) e⟩
theorem cr_minD (hc : X.calm = true) (hu : X.A.units + 66 < cLine) : CallR X (.builtin "min") (rBest minD X.K) := by
  intro pins s σ H vs us Q I r h
  obtain ⟨a, xs, d0, ds, rfl, hs, hd, ha, cl, dp, q⟩ := h
  rw [Vals.ref1 r]
  rcases hs with hs | hs
  · obtain ⟨its, rv, hl, _⟩ := I.list hs
    obtain ⟨as, ra⟩ := Dp.readsAll I _ xs its hd rv
    refine PySem.W.min_list_data (I.ok.hd hc) hl.isList (by simpa using ra) ha (by omega) fun i v h' tk bs hv hr hk => ?_
    obtain ⟨x, rx, qx⟩ := best_end I rv hd cl (minD_mem d0 ds) q (tk := 0) (by simpa using hv) hr hk
    exact ⟨x, H, I.kept hk, rx, qx⟩
  · obtain ⟨its, rv, hl, _⟩ := I.tuple hs
    obtain ⟨as, ra⟩ := Dp.readsAll I _ xs its hd rv
    refine PySem.W.min_tuple_data (vs := its.toArray) (I.ok.hd hc) hl (by simpa using ra) ha (by omega) fun i v h' tk bs hv hr hk => ?_
    obtain ⟨x, rx, qx⟩ := best_end I rv hd cl (minD_mem d0 ds) q (tk := 0) (by simpa using hv) hr hk
    exact ⟨x, H, I.kept hk, rx, qx⟩
theorem cr_maxD' (hc : X.calm = true) (hu : X.A.units + 66 < cLine) : CallR X (.builtin "max") (rBest maxD X.K) := by
  intro pins s σ H vs us Q I r h
  obtain ⟨a, xs, d0, ds, rfl, hs, hd, ha, cl, dp, q⟩ := h
  rw [Vals.ref1 r]
  rcases hs with hs | hs
  · obtain ⟨its, rv, hl, _⟩ := I.list hs
    obtain ⟨as, ra⟩ := Dp.readsAll I _ xs its hd rv
    refine PySem.W.max_list_data (I.ok.hd hc) hl.isList (by simpa using ra) ha (by omega) fun i v h' tk bs hv hr hk => ?_
    obtain ⟨x, rx, qx⟩ := best_end I rv hd cl (maxD_mem d0 ds) q (tk := 0) (by simpa using hv) hr hk
    exact ⟨x, H, I.kept hk, rx, qx⟩
  · obtain ⟨its, rv, hl, _⟩ := I.tuple hs
    obtain ⟨as, ra⟩ := Dp.readsAll I _ xs its hd rv
    refine PySem.W.max_tuple_data (vs := its.toArray) (I.ok.hd hc) hl (by simpa using ra) ha (by omega) fun i v h' tk bs hv hr hk => ?_
    obtain ⟨x, rx, qx⟩ := best_end I rv hd cl (maxD_mem d0 ds) q (tk := 0) (by simpa using hv) hr hk
    exact ⟨x, H, I.kept hk, rx, qx⟩
end
/-! ### at the level of data -/
def tupNE : PyData → Bool
  | .tuple (_ :: _) => true
  | _ => false
def sortNT : PyData → Bool
  | .none => false
  | .tuple _ => false
  | _ => true
/-- lists that can be sorted -/
def srtB (ds : List PyData) : Bool := (ds.all fun d => ds.all fun e => alike d e) && (ds.all tupNE || ds.all sortNT) && SeqAt.shaped (.list ds) && decide (PyData.depthAll ds ≤ 60)
def hSort : List PyData → Option Rv
  | [.list ds] => if srtB ds = true then some (.ow (ds.mergeSort (dataLe false fun d => d))) else none
  | _ => none
theorem RpL.zip {K : PySem.W.Frag} {F : Hp} : ∀ {ds : List PyData} {xs : List V}, RpL K F ds xs → (xs.zip ds).map (·.1) = xs ∧ (xs.zip ds).map (·.2) = ds ∧ ∀ p ∈ xs.zip ds, Rp K F p.2 p.1
  | _, _, .nil => ⟨rfl, rfl, fun p h => by cases h⟩
  | _, _, .cons r q => by
    obtain ⟨h1, h2, h3⟩ := RpL.zip q
    refine ⟨by simp [h1], by simp [h2], fun p hp => ?_⟩
    rw [List.zip_cons_cons] at hp
    rcases List.mem_cons.mp hp with z | z
    · rw [z]; exact r
    · exact h3 p z
theorem RpL.of_ps {K : PySem.W.Frag} {F : Hp} : ∀ {ps : List (V × PyData)}, (∀ p ∈ ps, Rp K F p.2 p.1) → RpL K F (ps.map (·.2)) (ps.map (·.1))
  | [], _ => .nil
  | p :: ps, h => .cons (h p List.mem_cons_self) (RpL.of_ps fun q hq => h q (List.mem_cons_of_mem _ hq))
theorem depth_mem {d : PyData} : ∀ {ds : List PyData}, d ∈ ds → d.depth ≤ PyData.depthAll ds
  | e :: ds, h => by
    unfold PyData.depthAll
    rcases List.mem_cons.mp h with z | z
    · rw [z]; exact Nat.le_max_left _ _
    · exact Nat.le_trans (depth_mem z) (Nat.le_max_right _ _)
theorem lay_mem {d : PyData} : ∀ {ds : List PyData}, PyData.canLayAll0 ds = true → d ∈ ds → d.canLay0 = true
  | e :: ds, c, h => by
    unfold PyData.canLayAll0 at c
    rw [Bool.and_eq_true] at c
    rcases List.mem_cons.mp h with z | z
    · rw [z]; exact c.1
    · exact lay_mem c.2 z
theorem o_sort {K : PySem.W.Frag} : OpN K hSort (rSortD K) := fun B W γ F s σ H xs ds rv Q G r he A => by
  unfold hSort at he
  split at he
  · rename_i es
    split at he
    · rename_i c
      cases he
      match r with
      | .cons (.lst (a := l) (xs := ys) h q) .nil =>
        obtain ⟨z1, z2, z3⟩ := q.zip
        unfold srtB at c
        simp only [Bool.and_eq_true, Bool.or_eq_true, decide_eq_true_eq, List.all_eq_true] at c
        obtain ⟨⟨⟨c1, c2⟩, c3⟩, c4⟩ := c
        have cl : PyData.canLayAll0 es = true := by
          have := SeqAt.canLay_of_shaped c3
          unfold PyData.canLay0 at this
          exact this
        refine ⟨l, ys.zip es, rfl, by rw [z1]; exact .inl (rd_mono G.sub h), fun p hp => ?_, by rw [z2]; exact c1, ?_, fun p hp => ?_, fun p np => ?_⟩
        · have hm : p.2 ∈ es := by rw [← z2]; exact List.mem_map.mpr ⟨p, hp, rfl⟩
          exact ((z3 p hp).mono G.sub).dp (lay_mem cl hm)
        · rw [z2]
          rcases c2 with c2 | c2
          · refine .inl fun d hd => ?_
            have := c2 d hd
            unfold tupNE at this
            split at this
            · exact ⟨_, _, rfl⟩
            · cases this
          · refine .inr fun d hd => ?_
            have := c2 d hd
            refine ⟨fun z => ?_, fun xs z => ?_⟩ <;> (rw [z] at this; cases this)
        · have hm : p.2 ∈ es := by rw [← z2]; exact List.mem_map.mpr ⟨p, hp, rfl⟩
          exact Nat.le_trans (depth_mem hm) c4
        · have e : ((ys.zip es).mergeSort (dataLe false (·.2))).map (·.2) = es.mergeSort (dataLe false fun d => d) := by
            exact (List.map_mergeSort (r := dataLe false (fun p : V × PyData => p.2)) (s := dataLe false fun d => d) (f := fun p : V × PyData => p.2) (fun a _ b _ => rfl)).trans (by rw [z2])
          rw [← e] at A
          exact A.newL G (RpL.of_ps fun p hp => z3 p (List.mem_mergeSort.mp hp)) np
    · cases he
  · cases he
def alikeB (ds : List PyData) : Bool := (ds.all fun d => ds.all fun e => alike d e) && ds.all (fun d => match d with | .none => false | _ => true) && SeqAt.shaped (.list ds) && decide (PyData.depthAll ds ≤ 60)
def hBest (f : PyData → List PyData → PyData) : List PyData → Option Rv
  | [.list (d :: ds)] => if alikeB (d :: ds) = true then some (.im (f d ds)) else none
  | [.tuple (d :: ds)] => if alikeB (d :: ds) = true then some (.im (f d ds)) else none
  | _ => none
theorem o_best {K : PySem.W.Frag} {f : PyData → List PyData → PyData} (hf : ∀ d ds, f d ds ∈ d :: ds) : OpN K (hBest f) (rBest f K) := fun B W γ F s σ H xs dd rv Q G r he A => by
  have key : ∀ {d : PyData} {ds : List PyData} {l : Addr} {ys : List V}, alikeB (d :: ds) = true → RpL K F (d :: ds) ys → (SqL K H l ys ∨ SqT K H l ys) → After K B W γ F s σ H (.ok (.im (f d ds)) s) Q → rBest f K [.ref l] H Q := fun {d ds l ys} c q hs A => by
    unfold alikeB at c
    simp only [Bool.and_eq_true, decide_eq_true_eq, List.all_eq_true] at c
    obtain ⟨⟨⟨c1, c2⟩, c3⟩, c4⟩ := c
    have cl : PyData.canLayAll0 (d :: ds) = true := by
      have := SeqAt.canLay_of_shaped c3
      unfold PyData.canLay0 at this
      exact this
    refine ⟨l, ys, d, ds, rfl, hs, (q.mono G.sub).dp cl, ⟨c1, fun x hx z => ?_⟩, cl, c4, fun i x hx hd => ?_⟩
    · have := c2 x hx
      rw [z] at this
      cases this
    · obtain ⟨v, h1, h2⟩ := q.get hd
      rw [hx] at h1
      cases h1
      exact A.same G h2
  unfold hBest at he
  split at he
  · split at he
    · rename_i c
      cases he
      match r with
      | .cons (.lst h q) .nil => exact key c q (.inl (.inl (rd_mono G.sub h))) A
    · cases he
  · split at he
    · rename_i c
      cases he
      match r with
      | .cons (.tup h q) .nil => exact key c q (.inr (sqT_mono G.sub h)) A
    · cases he
  · cases he
end DL

set_option Elab.async false
set_option linter.all false
set_option autoImplicit false
set_option maxRecDepth 100000
set_option maxHeartbeats 1000000
/-! DL28: sorted(set(x)), len(set(x)), x a list of tuples of ints of any sign. -/
namespace DL
open PySem PyProof.Rows L2
open PySem.W (dataLt dataLe alike AllAlike Sortable EachIs)
abbrev Tup := Addr × List Int
abbrev tupD (p : Tup) : PyData := .tuple (p.2.map PyData.int)
theorem reads_items {P : Program} {w : World} {h : Heap} : ∀ {k : List Int} {vs : List Value}, ItemsAre (intKind P w) k vs → ReadsAll h vs (k.map PyData.int) []
  | _, _, .nil => .nil
  | k :: ks, v :: vs, .cons r q => by
    cases v with
    | int i t =>
      have r : (i == k) = true := r
      rw [beq_iff_eq] at r
      subst r
      exact ReadsAll.cons (Reads.int _ _) (reads_items q)
    | _ => cases (show false = true from r)
theorem reads_tup {P : Program} {w : World} {h : Heap} {b : Addr} {k : List Int} (x : IsT P w h k b) : Reads h (.ref b) (.tuple (k.map PyData.int)) [] := by
  obtain ⟨o, its, n, h1, h2, h3, h4⟩ := x
  exact Reads.tuple h1 h2 h3 (reads_items h4)
theorem alike_rows : ∀ {xs ys : List Int}, xs.length = ys.length → PySem.W.alikeAll (xs.map PyData.int) (ys.map PyData.int) = true
  | [], [], _ => by unfold PySem.W.alikeAll; rfl
  | x :: xs, y :: ys, h => by
    have ih := alike_rows (xs := xs) (ys := ys) (by simpa using h)
    rw [List.map_cons, List.map_cons]
    unfold PySem.W.alikeAll
    rw [ih]
    unfold alike
    rfl
  | [], _ :: _, h => by simp at h
  | _ :: _, [], h => by simp at h
theorem tup_depth (p : Tup) : (tupD p).depth ≤ 1 := by
  have : PyData.depthAll (p.2.map PyData.int) = 0 := by
    induction p.2 with
    | nil => unfold PyData.depthAll; rfl
    | cons x xs ih => rw [List.map_cons]; unfold PyData.depthAll; rw [ih]; unfold PyData.depth; rfl
  show (PyData.tuple _).depth ≤ 1
  unfold PyData.depth
  omega
/-- the order of tuples -/
abbrev tle (p q : Tup) : Bool := dataLe false tupD p q
section
variable {P : Program} {w : World} {A : Around} {E : Value → Shared → Prop} {s : Shared}
theorem rows_back {L : List Tup} : ∀ (vs : List Value), (∀ v ∈ vs, ∃ q ∈ L, v = Value.ref q.1) → ∃ M : List Tup, vs = M.map (fun q => Value.ref q.1) ∧ ∀ q ∈ M, q ∈ L
  | [], _ => ⟨[], rfl, fun q h => nomatch h⟩
  | v :: vs, h => by
    obtain ⟨q, hq, rfl⟩ := h v List.mem_cons_self
    obtain ⟨M, rfl, hM⟩ := rows_back (L := L) vs fun u hu => h u (List.mem_cons_of_mem _ hu)
    exact ⟨q :: M, rfl, fun r hr => (List.mem_cons.mp hr).elim (fun z => z ▸ hq) (hM r)⟩
/-- sorted of a set of tuples of d ints -/
theorem sort_set {a : Addr} {L : List Tup} {es : Array (Int × Value)} {ep : Nat} {t : SetTable} {Q : Value → Shared → Prop} {d : Nat} (R : SetTR P w s.heap a L es ep t) (hh : A.handled = none) (hu : A.units + 66 < cLine)
    (d1 : 1 ≤ d) (hd : ∀ p ∈ L, p.2.length = d)
    (hQ : ∀ (s2 : Shared) (l : Addr) (out : List Value) (c : Nat) (M : List Tup), (∀ b o, s.heap.get? b = some o → s2.heap.get? b = some o) → s2.gens = s.gens → s2.os = s.os → s.heap.objs.size ≤ l →
      s2.heap.get? l = some (seqObj "list" out.toArray c) → M.Perm L → out = (M.mergeSort tle).map (fun q => Value.ref q.1) → Q (.ref l) s2) :
    wpAny (model P w) A (call (.builtin "sorted") [.ref a]) Q E s := by
  obtain ⟨o, o1, o2, o3⟩ := R.ob
  have sz : es.size = L.length := R.size
  have small := R.few
  refine Calls.call_function_entry kind_sorted plain_sorted entry_sorted
    (args_sorted1 _) ?_
  unfold Builtin.«sorted»
  refine wpAny_bind (m := checkCount "sorted" 1 1 _)
    (wpAny_pure ?_)
  refine wpAny_bind (collect_set (A := A.in1) hh ⟨o, o1, o2.1, o3⟩ R.fits
    (by unfold scanBound; omega) R.tab.ris R.led fun s1 vs kp le1 g1 os1 pm => ?_)
  rw [show es.toList.map (·.2) = L.map fun q => Value.ref q.1 from by
    rw [R.rows]; unfold rowsOf; rw [List.map_map]; rfl] at pm
  obtain ⟨M, rfl, hM⟩ := rows_back (L := L) vs fun v hv => by
    obtain ⟨q, hq, e⟩ := List.mem_map.mp (pm.mem_iff.mp hv)
    exact ⟨q, hq, e.symm⟩
  -- the rows are told by their addresses
  have inj : ∀ q ∈ L, ∀ r ∈ L, q.1 = r.1 → q = r := fun q hq r hr e => by
    have x := R.tup q hq
    rw [e] at x
    exact Prod.ext e (IsTupleKey.inj x (R.tup r hr))
  have nL : L.Nodup := nodup_of_map R.nd
  have nR : (L.map fun q => Value.ref q.1).Nodup := by
    refine List.pairwise_map.mpr (nL.imp_of_mem fun {q r} hq hr ne e => ?_)
    injection e with e
    exact ne (inj q hq r hr e)
  have nM : M.Nodup := nodup_of_map (pm.nodup_iff.mpr nR)
  have pM : M.Perm L := (List.perm_ext_iff_of_nodup nM nL).mpr fun q => ⟨hM q, fun hq => by
    have : Value.ref q.1 ∈ M.map (fun q => Value.ref q.1) := pm.mem_iff.mpr (List.mem_map.mpr ⟨q, hq, rfl⟩)
    obtain ⟨r, hr, e⟩ := List.mem_map.mp this
    injection e with e
    rw [← inj r (hM r hr) q hq e]
    exact hr⟩
  have lM : (M.map fun q => Value.ref q.1).length < 64 := by rw [List.length_map, pM.length_eq]; exact small
  refine wpAny_bind (wpAny_newList ?_
    (by rw [sizeLine_eq]; omega))
  have at0 : (s1.heap.push (seqObj "list" (M.map fun q => Value.ref q.1).toArray 0)).get? s1.heap.objs.size = some (seqObj "list" (M.map fun q => Value.ref q.1).toArray 0) := Heap.get?_push_size _ rfl
  have rd : ∀ q ∈ M, Reads (s1.heap.push (seqObj "list" (M.map fun q => Value.ref q.1).toArray 0)) (.ref q.1) (tupD q) [] := fun q hq =>
    reads_tup (P := P) (w := w) (isT_keep (R.tup q (hM q hq)) fun b u e => Heap.get?_push_of_some _ (kp b u e))
  have e1 : EachIs (fun (v : Value) (q : Tup) => v = .ref q.1) (M.map fun q => Value.ref q.1) M := by
    clear pm lM at0 rd pM nM hM
    induction M with
    | nil => exact .nil
    | cons q M ih => exact .cons rfl ih
  have e2 : EachIs (fun (v : Value) (q : Tup) => ∃ as, Reads (s1.heap.push (seqObj "list" (M.map fun q => Value.ref q.1).toArray 0)) v (tupD q) as ∧ s1.heap.objs.size ∉ as) (M.map fun q => Value.ref q.1) M := by
    generalize hgen : s1.heap.push (seqObj "list" (M.map fun q => Value.ref q.1).toArray 0) = hp at rd
    clear hgen pm lM at0 pM nM hM e1
    induction M with
    | nil => exact .nil
    | cons q M ih => exact .cons ⟨[], rd q List.mem_cons_self, fun z => nomatch z⟩ (ih fun r hr => rd r (List.mem_cons_of_mem _ hr))
  refine wpAny_bind (wpAny_holding (PySem.W.list_sort_data (s := { s1 with heap := s1.heap.push (seqObj "list" (M.map fun q => Value.ref q.1).toArray 0) }) (enc := tupD) at0 e1 e2 ?_ ?_ ?_ ?_ fun out l1 l2 => ?_))
  · intro x hx y hy
    obtain ⟨q, hq, rfl⟩ := List.mem_map.mp hx
    obtain ⟨r, hr, rfl⟩ := List.mem_map.mp hy
    show alike (.tuple _) (.tuple _) = true
    unfold alike
    exact alike_rows (by rw [hd q (hM q hq), hd r (hM r hr)])
  · refine .inl fun x hx => ?_
    obtain ⟨q, hq, rfl⟩ := List.mem_map.mp hx
    have := hd q (hM q hq)
    obtain ⟨qa, ql⟩ := q
    cases ql with
    | nil => simp at this; omega
    | cons z zs => exact ⟨_, _, rfl⟩
  · rw [List.length_map] at lM
    rw [sizeLine_eq]; omega
  · intro q hq
    have := tup_depth q
    show A.units + 1 + 1 + (tupD q).depth < cLine
    omega
  · obtain ⟨c, hc⟩ := sortedHeap_at (vs := M.map fun q => Value.ref q.1) (out := out.toArray) at0
    have ho : out = (M.mergeSort tle).map (fun q => Value.ref q.1) := by
      clear l1 hc
      generalize M.mergeSort (dataLe false tupD) = N at l2
      induction l2 with
      | nil => rfl
      | cons r _ ih => rw [List.map_cons, ← ih, r]
    refine wpAny_pure ⟨_, rfl, hQ _ s1.heap.objs.size out c M (fun b u e => ?_) g1 os1 le1 hc pM ho⟩
    have q := kp b u e
    have lt := Heap.lt_size q
    show (sortedHeap _ s1.heap.objs.size _ _).get? b = some u
    rw [sortedHeap_old (Nat.ne_of_lt lt)
      (by rw [size_push']; exact Nat.lt_succ_of_lt lt)]
    exact Heap.get?_push_of_some _ q
end
end DL

set_option Elab.async false
set_option linter.all false
set_option autoImplicit false
set_option maxRecDepth 100000
set_option maxHeartbeats 1000000
/-! DL29: rows of whole numbers in order, each once. -/
namespace DL
open PySem PyProof.Rows L2
open PySem.W (dataLt dataLe alike AllAlike Sortable EachIs)
def lexL : List Int → List Int → Bool
  | _, [] => false
  | [], _ :: _ => true
  | x :: xs, y :: ys => decide (x < y) || (decide (x = y) && lexL xs ys)
theorem lexL_irr : ∀ a : List Int, lexL a a = false
  | [] => rfl
  | x :: xs => by unfold lexL; simp [lexL_irr xs]
theorem lexL_tr : ∀ {a b c : List Int}, lexL a b = true → lexL b c = true → lexL a c = true
  | [], [], _, h, _ => by cases h
  | _ :: _, [], _, h, _ => by unfold lexL at h; cases h
  | _, _ :: _, [], _, h => by unfold lexL at h; cases h
  | [], _ :: _, _ :: _, _, _ => by unfold lexL; rfl
  | x :: xs, y :: ys, z :: zs, h, k => by
    unfold lexL at h k ⊢
    simp only [Bool.or_eq_true, Bool.and_eq_true, decide_eq_true_eq] at h k ⊢
    rcases h with h | ⟨h, h'⟩ <;> rcases k with k | ⟨k, k'⟩
    · exact .inl (by omega)
    · exact .inl (by omega)
    · exact .inl (by omega)
    · exact .inr ⟨by omega, lexL_tr h' k'⟩
theorem lexL_tri : ∀ (a b : List Int), lexL a b = true ∨ a = b ∨ lexL b a = true
  | [], [] => .inr (.inl rfl)
  | [], _ :: _ => .inl rfl
  | _ :: _, [] => .inr (.inr rfl)
  | x :: xs, y :: ys => by
    unfold lexL
    simp only [Bool.or_eq_true, Bool.and_eq_true, decide_eq_true_eq, List.cons.injEq]
    rcases Int.lt_trichotomy x y with z | z | z
    · exact .inl (.inl z)
    · rcases lexL_tri xs ys with w | w | w
      · exact .inl (.inr ⟨z, w⟩)
      · exact .inr (.inl ⟨z, w⟩)
      · exact .inr (.inr (.inr ⟨z.symm, w⟩))
    · exact .inr (.inr (.inl z))
/-- strictly ascending -/
abbrev Asc (l : List (List Int)) : Prop := l.Pairwise fun a b => lexL a b = true
def insU (x : List Int) : List (List Int) → List (List Int)
  | [] => [x]
  | y :: l => if lexL x y = true then x :: y :: l else if x = y then y :: l else y :: insU x l
def usort : List (List Int) → List (List Int)
  | [] => []
  | x :: l => insU x (usort l)
theorem mem_insU {x z : List Int} : ∀ {l : List (List Int)}, z ∈ insU x l ↔ z = x ∨ z ∈ l
  | [] => by simp [insU]
  | y :: l => by
    unfold insU
    split
    · simp
    · split
      · rename_i h
        rw [h]
        simp
      · rw [List.mem_cons, mem_insU (l := l), List.mem_cons]
        constructor
        · rintro (h | h | h)
          · exact .inr (.inl h)
          · exact .inl h
          · exact .inr (.inr h)
        · rintro (h | h | h)
          · exact .inr (.inl h)
          · exact .inl h
          · exact .inr (.inr h)
theorem asc_insU {x : List Int} : ∀ {l : List (List Int)}, Asc l → Asc (insU x l)
  | [], _ => List.pairwise_singleton _ _
  | y :: l, h => by
    obtain ⟨h1, h2⟩ := List.pairwise_cons.mp h
    unfold insU
    split
    · rename_i z
      exact List.pairwise_cons.mpr ⟨fun w hw => (List.mem_cons.mp hw).elim (fun e => e ▸ z) fun hw => lexL_tr z (h1 w hw), h⟩
    · split
      · exact h
      · rename_i z1 z2
        refine List.pairwise_cons.mpr ⟨fun w hw => ?_, asc_insU h2⟩
        rcases mem_insU.mp hw with rfl | hw
        · exact (lexL_tri w y).elim (fun z => absurd z z1) fun z => z.elim (fun z => absurd z z2) id
        · exact h1 w hw
theorem asc_usort : ∀ l : List (List Int), Asc (usort l)
  | [] => List.Pairwise.nil
  | _ :: l => asc_insU (asc_usort l)
theorem mem_usort {z : List Int} : ∀ {l : List (List Int)}, z ∈ usort l ↔ z ∈ l
  | [] => Iff.rfl
  | x :: l => by
    show z ∈ insU x (usort l) ↔ _
    rw [mem_insU, mem_usort (l := l), List.mem_cons]
theorem asc_one : ∀ {a b : List (List Int)}, Asc a → Asc b → (∀ z, z ∈ a ↔ z ∈ b) → a = b
  | [], [], _, _, _ => rfl
  | [], y :: b, _, _, h => nomatch (h y).mpr List.mem_cons_self
  | x :: a, [], _, _, h => nomatch (h x).mp List.mem_cons_self
  | x :: a, y :: b, h1, h2, h => by
    obtain ⟨p1, p2⟩ := List.pairwise_cons.mp h1
    obtain ⟨q1, q2⟩ := List.pairwise_cons.mp h2
    have e : x = y := by
      rcases List.mem_cons.mp ((h x).mp List.mem_cons_self) with z | z
      · exact z
      · rcases List.mem_cons.mp ((h y).mpr List.mem_cons_self) with w | w
        · exact w.symm
        · have := lexL_tr (q1 x z) (p1 y w)
          rw [lexL_irr] at this
          cases this
    subst e
    rw [asc_one p2 q2 fun z => ?_]
    constructor
    · intro hz
      rcases List.mem_cons.mp ((h z).mp (List.mem_cons_of_mem _ hz)) with w | w
      · have := p1 z hz
        rw [w, lexL_irr] at this
        cases this
      · exact w
    · intro hz
      rcases List.mem_cons.mp ((h z).mpr (List.mem_cons_of_mem _ hz)) with w | w
      · have := q1 z hz
        rw [w, lexL_irr] at this
        cases this
      · exact w
theorem asc_nodup {l : List (List Int)} (h : Asc l) : l.Nodup := h.imp fun {a b} hab e => by
  rw [e, lexL_irr] at hab
  cases hab
/-- the order of rows as data -/
theorem lt_rows : ∀ a b : List Int, dataLt (.tuple (a.map PyData.int)) (.tuple (b.map PyData.int)) = lexL a b := by
  intro a b
  have h := PySem.W.dataLt_ints a b
  unfold PySem.W.rowLt at h
  rw [PySem.W.dataLt_tuple, h]
  clear h
  induction a generalizing b with
  | nil => cases b <;> simp [lexL]
  | cons x xs ih =>
    cases b with
    | nil => simp [lexL]
    | cons y ys =>
      unfold lexL
      rw [← ih ys, Bool.eq_iff_iff]
      simp only [Bool.or_eq_true, Bool.and_eq_true, decide_eq_true_eq, List.cons_lt_cons_iff]
theorem tle_rows (p q : Tup) : tle p q = !lexL q.2 p.2 := by
  show (!dataLt (tupD q) (tupD p)) = _
  rw [lt_rows]
theorem not_lex {a b c : List Int} (h1 : lexL b a = false) (h2 : lexL c b = false) : lexL c a = false := by
  rcases lexL_tri a b with z | z | z
  · rcases lexL_tri b c with w | w | w
    · cases e : lexL c a with
      | false => rfl
      | true =>
        have := lexL_tr (lexL_tr z w) e
        rw [lexL_irr] at this
        cases this
    · rw [← w]; exact h1
    · rw [h2] at w; cases w
  · rw [z]; exact h2
  · rw [h1] at z; cases z
/-- a set's rows sorted -/
theorem sort_rows {M : List Tup} (nd : (M.map (·.2)).Nodup) {rows : List (List Int)} (hm : ∀ z, z ∈ M.map (·.2) ↔ z ∈ rows) : (M.mergeSort tle).map (·.2) = usort rows := by
  have ps : (M.mergeSort tle).Pairwise fun p q => tle p q = true := List.pairwise_mergeSort (fun a b c h1 h2 => by
    rw [tle_rows, Bool.not_eq_true'] at *
    exact not_lex h1 h2) (fun a b => by
    rw [tle_rows, tle_rows, Bool.or_eq_true, Bool.not_eq_true', Bool.not_eq_true']
    rcases lexL_tri a.2 b.2 with z | z | z
    · left
      cases e : lexL b.2 a.2 with
      | false => rfl
      | true => have := lexL_tr z e; rw [lexL_irr] at this; cases this
    · left; rw [z]; exact lexL_irr _
    · right
      cases e : lexL a.2 b.2 with
      | false => rfl
      | true => have := lexL_tr z e; rw [lexL_irr] at this; cases this) M
  have pm : (M.mergeSort tle).Perm M := List.mergeSort_perm M tle
  refine asc_one ?_ (asc_usort rows) fun z => by rw [(pm.map (·.2)).mem_iff, hm, mem_usort]
  have nd2 : ((M.mergeSort tle).map (·.2)).Nodup := (pm.map (·.2)).nodup_iff.mpr nd
  refine List.pairwise_map.mpr ((ps.and (List.pairwise_map.mp nd2)).imp fun {p q} h => ?_)
  obtain ⟨h1, h2⟩ := h
  rw [tle_rows, Bool.not_eq_true'] at h1
  rcases lexL_tri p.2 q.2 with z | z | z
  · exact z
  · exact absurd z h2
  · rw [h1] at z; cases z
end DL

set_option Elab.async false
set_option linter.all false
set_option autoImplicit false
set_option maxRecDepth 100000
set_option maxHeartbeats 1000000
/-! DL30: sorted(set(x)), len(set(x)) as expressions. -/
namespace DL
open PySem PyProof.Rows L2
section
variable {X : Cx}
def rSortSet (K : PySem.W.Frag) (P : Program) (w : World) : List V → Hp → VK → Prop := fun vs H Q => ∃ (a : Addr) (L : List Tup) (d : Nat), vs = [V.ref a] ∧ H a = some (SetTO P w a L) ∧ (∀ p ∈ L, SqT K H p.1 (p.2.map V.int)) ∧ 1 ≤ d ∧ (∀ p ∈ L, p.2.length = d) ∧
  ∀ (M : List Tup) (q : Addr), M.Perm L → (M.map (·.2)).Nodup → H q = none → Q (.ref q) (upd H q (.lst ((M.mergeSort tle).map fun p => V.ref p.1)))
theorem cr_sortSet (hc : X.calm = true) (hu : X.A.units + 66 < cLine) : CallR X (.builtin "sorted") (rSortSet X.K X.prog X.w) := by
  intro pins s σ H vs us Q I r h
  obtain ⟨a, L, d, rfl, ha, hk, d1, hd, q⟩ := h
  obtain ⟨es, ep, t, R⟩ := (show SetT0 X.prog X.w s.heap a L from (I.hok a _ ha).1).full fun p hp => I.isT (hk p hp)
  rw [Vals.ref1 r]
  refine sort_set R (I.ok.hd hc) hu d1 hd fun s2 l out c M kp g os le at_ pm e => ?_
  have np : H l = none := I.hok.fresh le
  have pm2 : (M.mergeSort tle).length < 64 := by rw [List.length_mergeSort, pm.length_eq]; exact R.few
  have vv : Vals ((M.mergeSort tle).map fun p => V.ref p.1) out := by rw [e]; exact vals_of_refs _
  refine ⟨.ref l, upd H l (.lst ((M.mergeSort tle).map fun p => V.ref p.1)), I.call' (ch := []) os (Un.laid kp le np)
    (I.hok.laid kp le ⟨by rw [List.length_map, sizeLine_eq]; omega, out, c, vv, at_⟩) (by rw [g]; exact I.bare) (fun _ z => nomatch z), rfl, q M l pm ((pm.map (·.2)).nodup_iff.mpr R.nd) np⟩
def rLenSet (K : PySem.W.Frag) (P : Program) (w : World) : List V → Hp → VK → Prop := fun vs H Q => ∃ (a : Addr) (L : List Tup), vs = [V.ref a] ∧ H a = some (SetTO P w a L) ∧ (∀ p ∈ L, SqT K H p.1 (p.2.map V.int)) ∧ ((L.map (·.2)).Nodup → Q (.int (L.length : Nat)) H)
theorem cr_lenSet : CallR X (.builtin "len") (rLenSet X.K X.prog X.w) := by
  intro pins s σ H vs us Q I r h
  obtain ⟨a, L, rfl, ha, hk, q⟩ := h
  obtain ⟨es, ep, t, R⟩ := (show SetT0 X.prog X.w s.heap a L from (I.hok a _ ha).1).full fun p hp => I.isT (hk p hp)
  rw [Vals.ref1 r]
  obtain ⟨o, o1, o2, o3⟩ := R.ob
  have sz : es.size = L.length := R.size
  have few := R.few
  refine call_len_set o1 o2 o3 R.fits (by omega) ⟨.int (L.length : Nat), H, I.tok _, ⟨_, by rw [sz]⟩, q R.nd⟩
end
/-! ### rows among data -/
def rowI : PyData → Option (List Int)
  | .tuple ds => intsOf ds
  | _ => none
def rowsI : List PyData → Option (List (List Int))
  | [] => some []
  | d :: ds => match rowI d, rowsI ds with
    | some r, some rs => some (r :: rs)
    | _, _ => none
abbrev rowD (r : List Int) : PyData := .tuple (r.map PyData.int)
def okRows (rows : List (List Int)) : Bool := decide (rows.length < 64) && (match rows with | [] => true | r :: _ => decide (1 ≤ r.length) && rows.all fun x => x.length == r.length)
theorem okRows_d {rows : List (List Int)} (h : okRows rows = true) : rows.length < 64 ∧ ∃ d, 1 ≤ d ∧ ∀ r ∈ rows, r.length = d := by
  unfold okRows at h
  rw [Bool.and_eq_true, decide_eq_true_eq] at h
  refine ⟨h.1, ?_⟩
  cases rows with
  | nil => exact ⟨1, Nat.le_refl _, fun r hr => nomatch hr⟩
  | cons r rs =>
    have h2 := h.2
    dsimp only at h2
    rw [Bool.and_eq_true, decide_eq_true_eq, List.all_eq_true] at h2
    exact ⟨_, h2.1, fun x hx => by simpa using h2.2 x hx⟩
theorem intsOf_inv : ∀ {ds : List PyData} {l : List Int}, intsOf ds = some l → ds = l.map PyData.int
  | [], l, h => by
    cases h
    rfl
  | d :: ds, l, h => by
    cases d with
    | int i =>
      have h : (intsOf ds).map (i :: ·) = some l := h
      cases e : intsOf ds with
      | none => rw [e] at h; cases h
      | some m =>
        rw [e] at h
        cases h
        rw [intsOf_inv e]
        rfl
    | _ => cases h
theorem rpL_ints {K : PySem.W.Frag} {F : Hp} : ∀ {k : List Int} {xs : List V}, RpL K F (k.map PyData.int) xs → xs = k.map V.int
  | [], _, .nil => rfl
  | i :: k, _, .cons r q => by
    cases r
    rw [rpL_ints q]
    rfl
theorem ints_rpL {K : PySem.W.Frag} {F : Hp} : ∀ (k : List Int), RpL K F (k.map PyData.int) (k.map V.int)
  | [] => .nil
  | i :: k => .cons (.int i) (ints_rpL k)
theorem rows_tups {K : PySem.W.Frag} {F : Hp} : ∀ {ds : List PyData} {ys : List V} {rows : List (List Int)}, RpL K F ds ys → rowsI ds = some rows → ∃ ks : List Tup, ys = ks.map (fun p => V.ref p.1) ∧ ks.map (·.2) = rows ∧ ∀ p ∈ ks, SqT K F p.1 (p.2.map V.int)
  | _, _, _, .nil, h => by
    cases h
    exact ⟨[], rfl, rfl, fun p z => nomatch z⟩
  | d :: ds, _, rows, .cons r q, h => by
    unfold rowsI at h
    cases e1 : rowI d with
    | none => rw [e1] at h; cases h
    | some k =>
      cases e2 : rowsI ds with
      | none => rw [e1, e2] at h; cases h
      | some rs =>
        rw [e1, e2] at h
        cases h
        obtain ⟨ks, rfl, h2, h3⟩ := rows_tups q e2
        cases d with
        | tuple es =>
          have := intsOf_inv (show intsOf es = some k from e1)
          subst this
          cases r with
          | tup hs hr =>
            rename_i a xs
            have := rpL_ints hr
            subst this
            refine ⟨(a, k) :: ks, rfl, by simp [h2], fun p hp => ?_⟩
            rcases List.mem_cons.mp hp with z | z
            · rw [z]; exact hs
            · exact h3 p z
        | _ => cases e1
def xSSet (g : DX) : DX := fun s => bindD (g s) fun d s1 => match d with
  | .list ds => (match rowsI ds with | some rows => if okRows rows = true then .ok (.ow ((usort rows).map rowD)) s1 else .bad | none => .bad)
  | _ => .bad
def xLSet (g : DX) : DX := fun s => bindD (g s) fun d s1 => match d with
  | .list ds => (match rowsI ds with | some rows => if okRows rows = true then .ok (.im (.int ((usort rows).length : Nat))) s1 else .bad | none => .bad)
  | _ => .bad
section
variable {X : Cx} {B : Bas} {W : WX} {a : Expr} {pos : Pos} {ga : DX}
theorem de_sset {p p2 q : Pos} (hc : X.calm = true) (hu : X.A.units + 66 < cLine) (hg : Gl X "sorted") (hm : X.mg "sorted" = none) (hg2 : Gl X "set") (hm2 : X.mg "set" = none) (ha : DPE X B W a ga)
    (he : starEach [.Call (.Name "set" p2) [a] [] q] X.env = (false, eval (.Call (.Name "set" p2) [a] [] q) X.env) :: starEach [] X.env := by rfl)
    (hpl : (backTo pos (starEach [] X.env)).any (·.1) = false := by rfl) (he2 : starEach [a] X.env = (false, eval a X.env) :: starEach [] X.env := by rfl)
    (hpl2 : (backTo q (starEach [] X.env)).any (·.1) = false := by rfl) :
    DPE X B W (.Call (.Name "sorted" p) [.Call (.Name "set" p2) [a] [] q] [] pos) (xSSet ga) :=
  (pe_callB (cr_sortSet hc hu) hg hm rfl (pa_cons (pe_callTy (cr_setOfT hc (by omega)) hg2 hm2 rfl (pa_cons ha pa_nil he2) (by decide) (by decide) he2 hpl2) pa_nil he) (by decide) (by decide) he hpl).con fun σ H Q ⟨γ, F, s, G, A⟩ => by
    refine (tD_bind G A).mono fun x H1 ⟨F1, s1, d, a1, p1, G1, r1, A1⟩ => ?_
    cases r1 with
    | @lst l ys ds h q =>
      dsimp only at A1
      cases e : rowsI ds with
      | none => rw [e] at A1; exact A1.elim
      | some rows =>
        rw [e] at A1
        dsimp only at A1
        by_cases ok : okRows rows = true
        · rw [if_pos ok] at A1
          obtain ⟨few, dd, d1, hd⟩ := okRows_d ok
          obtain ⟨ks, rfl, k2, k3⟩ := rows_tups q e
          refine ⟨l, ks, rfl, .inl (rd_mono G1.sub h), fun p hp => sqT_mono G1.sub (k3 p hp), by rw [← List.length_map (f := fun p : Tup => p.2), k2]; exact few, fun b L nb hL hA => ?_⟩
          obtain ⟨sF, G2⟩ := G1.laid (o := SetTO X.prog X.w b L) nb
          refine ⟨b, L, dd, rfl, upd_same, fun p hp => sqT_mono (sub_upd nb) (sqT_mono G1.sub (k3 p (hL p hp))), d1, fun p hp => hd _ (by rw [← k2]; exact List.mem_map.mpr ⟨p, hL p hp, rfl⟩), fun M o pm nd np => ?_⟩
          have ms : (M.mergeSort tle).map tupD = (usort rows).map rowD := by
            rw [← sort_rows nd (rows := rows) fun z => ?_, List.map_map]
            · rfl
            · rw [(pm.map (·.2)).mem_iff, ← k2]
              constructor
              · intro hz
                obtain ⟨p, hp, rfl⟩ := List.mem_map.mp hz
                exact List.mem_map.mpr ⟨p, hL p hp, rfl⟩
              · intro hz
                obtain ⟨p, hp, rfl⟩ := List.mem_map.mp hz
                exact hA p hp
          have rr : RpL X.K (upd F1 b (SetTO X.prog X.w b L)) ((usort rows).map rowD) ((M.mergeSort tle).map fun p => V.ref p.1) := by
            rw [← ms]
            have : ∀ p ∈ M.mergeSort tle, SqT X.K (upd F1 b (SetTO X.prog X.w b L)) p.1 (p.2.map V.int) := fun p hp => sqT_mono sF (k3 p (hL p (pm.mem_iff.mp (List.mem_mergeSort.mp hp))))
            clear ms
            generalize M.mergeSort tle = N at this
            induction N with
            | nil => exact .nil
            | cons p N ih => exact .cons (.tup (this p List.mem_cons_self) (ints_rpL p.2)) (ih fun p hp => this p (List.mem_cons_of_mem _ hp))
          obtain ⟨G3, O⟩ := G2.laidOwn np rr
          exact A1 _ _ _ sF (.of ((sub_upd nb).tr (sub_upd np)) rfl) G3 ⟨o, rfl, O⟩
        · rw [if_neg ok] at A1
          exact A1.elim
    | _ => exact A1.elim
theorem de_lset {p p2 q : Pos} (hc : X.calm = true) (hu : X.A.units + 66 < cLine) (hg : Gl X "len") (hm : X.mg "len" = none) (hg2 : Gl X "set") (hm2 : X.mg "set" = none) (ha : DPE X B W a ga)
    (he : starEach [.Call (.Name "set" p2) [a] [] q] X.env = (false, eval (.Call (.Name "set" p2) [a] [] q) X.env) :: starEach [] X.env := by rfl)
    (hpl : (backTo pos (starEach [] X.env)).any (·.1) = false := by rfl) (he2 : starEach [a] X.env = (false, eval a X.env) :: starEach [] X.env := by rfl)
    (hpl2 : (backTo q (starEach [] X.env)).any (·.1) = false := by rfl) :
    DPE X B W (.Call (.Name "len" p) [.Call (.Name "set" p2) [a] [] q] [] pos) (xLSet ga) :=
  (pe_callB cr_lenSet hg hm rfl (pa_cons (pe_callTy (cr_setOfT hc (by omega)) hg2 hm2 rfl (pa_cons ha pa_nil he2) (by decide) (by decide) he2 hpl2) pa_nil he) (by decide) (by decide) he hpl).con fun σ H Q ⟨γ, F, s, G, A⟩ => by
    refine (tD_bind G A).mono fun x H1 ⟨F1, s1, d, a1, p1, G1, r1, A1⟩ => ?_
    cases r1 with
    | @lst l ys ds h q =>
      dsimp only at A1
      cases e : rowsI ds with
      | none => rw [e] at A1; exact A1.elim
      | some rows =>
        rw [e] at A1
        dsimp only at A1
        by_cases ok : okRows rows = true
        · rw [if_pos ok] at A1
          obtain ⟨few, dd, d1, hd⟩ := okRows_d ok
          obtain ⟨ks, rfl, k2, k3⟩ := rows_tups q e
          refine ⟨l, ks, rfl, .inl (rd_mono G1.sub h), fun p hp => sqT_mono G1.sub (k3 p hp), by rw [← List.length_map (f := fun p : Tup => p.2), k2]; exact few, fun b L nb hL hA => ?_⟩
          obtain ⟨sF, G2⟩ := G1.laid (o := SetTO X.prog X.w b L) nb
          refine ⟨b, L, rfl, upd_same, fun p hp => sqT_mono (sub_upd nb) (sqT_mono G1.sub (k3 p (hL p hp))), fun nd => ?_⟩
          have e : L.length = (usort rows).length := by
            have pm : (L.map (·.2)).Perm (usort rows) := (List.perm_ext_iff_of_nodup nd (asc_nodup (asc_usort rows))).mpr fun z => by
              rw [mem_usort, ← k2]
              constructor
              · intro hz
                obtain ⟨p, hp, rfl⟩ := List.mem_map.mp hz
                exact List.mem_map.mpr ⟨p, hL p hp, rfl⟩
              · intro hz
                obtain ⟨p, hp, rfl⟩ := List.mem_map.mp hz
                exact hA p hp
            rw [← pm.length_eq, List.length_map]
          rw [e]
          exact A1 _ _ _ sF (.of (sub_upd nb) rfl) G2 (.int _)
        · rw [if_neg ok] at A1
          exact A1.elim
    | _ => exact A1.elim
end
end DL

set_option Elab.async false
set_option linter.all false
set_option autoImplicit false
set_option maxRecDepth 100000
set_option maxHeartbeats 1000000
/-! DL31: enumerate, [::-1]. -/
namespace DL
open PySem PyProof.Rows L2
def enumD : Nat → List PyData → List PyData
  | _, [] => []
  | k, d :: ds => .tuple [.int (k : Nat), d] :: enumD (k + 1) ds
theorem enumD_get : ∀ {ds : List PyData} {k i : Nat} {x : PyData}, (enumD k ds)[i]? = some x → ∃ d, ds[i]? = some d ∧ x = .tuple [.int ((k + i : Nat) : Int), d]
  | [], _, i, x, h => by simp [enumD] at h
  | d :: ds, k, 0, x, h => by
    unfold enumD at h
    exact ⟨d, rfl, (Option.some.inj h).symm⟩
  | d :: ds, k, i + 1, x, h => by
    unfold enumD at h
    obtain ⟨d', h1, h2⟩ := enumD_get (i := i) (by simpa using h)
    exact ⟨d', by simpa using h1, by rw [h2, show k + 1 + i = k + (i + 1) from by omega]⟩
theorem enumD_len : ∀ (k : Nat) (ds : List PyData), (enumD k ds).length = ds.length
  | _, [] => rfl
  | k, d :: ds => by unfold enumD; rw [List.length_cons, enumD_len, List.length_cons]
theorem itD_enum {K : PySem.W.Frag} {F : Hp} {a : Addr} {xs : List V} {ds : List PyData} (h1 : SqL K F a xs) (r1 : RpL K F ds xs) : ItD K (Ite K a) F (enumD 0 ds) := fun i H sH => by
  refine ⟨fun d hd => ?_, fun hl => ⟨xs, sqL_mono sH h1, by rw [enumD_len] at hl; rw [r1.len]; exact hl⟩⟩
  obtain ⟨d1, e1, ed⟩ := enumD_get hd
  rw [Nat.zero_add] at ed
  obtain ⟨v, k1, k2⟩ := r1.get e1
  refine ⟨⟨xs, v, sqL_mono sH h1, k1⟩, fun x H' ⟨T, x1, ex, hT, eH, q1⟩ => .inr ⟨T, [.int (i : Nat), d1], [.int (i : Nat), x1], hT, eH, ex, ed, ?_⟩⟩
  have f1 := q1 xs (sqL_mono sH h1)
  rw [k1] at f1
  cases f1
  exact .cons (.int _) (.cons k2 .nil)
def xEnum (t : DA) : DX := fun s => bindA (t s) fun ds s1 => match ds with
  | [.list es] => .ok (.im (.list (enumD 0 es))) s1
  | _ => .bad
section
variable {X : Cx} {B : Bas} {W : WX} {a : Expr} {pos : Pos} {ga : DX}
theorem di_enum {elts : List Expr} {kk : Nat} {tpos p : Pos} {t : DA} (hg : Gl X "enumerate") (hm : X.mg "enumerate" = none) (ha : DPA X B W [a] t) (hs : starEach [a] X.env = [(false, eval a X.env)] := by rfl) :
    DPI X B W (.Tuple elts kk tpos) (.Call (.Name "enumerate" p) [a] [] pos) (xEnum t) :=
  di_args (pi_enum hg hm ha hs) (fun σ H Rq h => h) fun γ F s σ H ds xs Rq G r A => by
    match ds, r, A with
    | [.list es], .cons (.lst h q) .nil, A => exact ⟨_, _, rfl, .inl (rd_mono G.sub h), A F H _ .rfl .rfl G (itD_enum (.inl h) q)⟩
    | [], _, A => exact A.elim
    | .none :: _, _, A => exact A.elim
    | .bool _ :: _, _, A => exact A.elim
    | .int _ :: _, _, A => exact A.elim
    | .str _ :: _, _, A => exact A.elim
    | .tuple _ :: _, _, A => exact A.elim
    | .dict _ :: _, _, A => exact A.elim
    | .list _ :: _ :: _, _, A => exact A.elim
def xRev (g : DX) : DX := fun s => bindD (g s) fun d s1 => match d with
  | .list ds => .ok (.ow ds.reverse) s1
  | _ => .bad
theorem de_rev {k : Nat} {p1 p2 p3 : Pos} (ha : DPE X B W a ga) : DPE X B W (.Subscript a (.Slice none none (some (.UnaryOp .USub (.Constant (.int 1) k p1) p2)) p3) pos) (xRev ga) :=
  (pe_revL ha).con fun σ H Q ⟨γ, F, s, G, A⟩ => (tD_bind G A).mono fun x H1 ⟨F1, s1, d, a1, p1, G1, r1, A1⟩ => by
    cases r1 with
    | @lst l ys ds h q => exact ⟨l, ys, rfl, .inl (rd_mono G1.sub h), fun p np => A1.newL G1 q.rev np⟩
    | _ => exact A1.elim
end
/-- one handler, or another one -/
def orN (h k : List PyData → Option Rv) : List PyData → Option Rv := fun l => match h l with
  | some r => some r
  | none => k l
theorem o_orN {K : PySem.W.Frag} {h k : List PyData → Option Rv} {r1 r2 : List V → Hp → VK → Prop} (o1 : OpN K h r1) (o2 : OpN K k r2) : OpN K (orN h k) (fun xs H Q => r1 xs H Q ∨ r2 xs H Q) := fun B W γ F s σ H xs ds rv Q G r he A => by
  unfold orN at he
  cases e : h ds with
  | some q =>
    rw [e] at he
    cases he
    exact .inl (o1 B W γ F s σ H xs ds rv Q G r e A)
  | none =>
    rw [e] at he
    exact .inr (o2 B W γ F s σ H xs ds rv Q G r he A)
abbrev hMinG := orN hMinL (hBest PySem.W.minD)
abbrev hMaxG := orN hMaxL (hBest PySem.W.maxD)
theorem o_minG {K : PySem.W.Frag} : OpN K hMinG (fun xs H Q => rMin K xs H Q ∨ rBest PySem.W.minD K xs H Q) := o_orN o_minL (o_best minD_mem)
theorem o_maxG {K : PySem.W.Frag} : OpN K hMaxG (fun xs H Q => rMax K xs H Q ∨ rBest PySem.W.maxD K xs H Q) := o_orN o_maxL (o_best maxD_mem)
end DL

set_option Elab.async false
set_option linter.all false
set_option autoImplicit false
set_option maxRecDepth 100000
set_option maxHeartbeats 1000000
/-! DL32: rings of corners: plain numbers, then what the defs do. -/
namespace DL
/-! points, turns, the ring of the corners of points (plain numbers) -/
abbrev Pt2 := Int × Int
def turn (a b c : Pt2) : Int := (b.1 - a.1) * (c.2 - a.2) - (b.2 - a.2) * (c.1 - a.1)
def plt (a b : Pt2) : Prop := a.1 < b.1 ∨ (a.1 = b.1 ∧ a.2 < b.2)
instance (a b : Pt2) : Decidable (plt a b) := inferInstanceAs (Decidable (_ ∨ _))
theorem plt_irr (a : Pt2) : ¬ plt a a := by unfold plt; omega
theorem plt_tr {a b c : Pt2} (h : plt a b) (k : plt b c) : plt a c := by unfold plt at *; omega
theorem plt_tri (a b : Pt2) : plt a b ∨ a = b ∨ plt b a := by
  unfold plt
  rcases Int.lt_trichotomy a.1 b.1 with h | h | h
  · exact .inl (.inl h)
  · rcases Int.lt_trichotomy a.2 b.2 with k | k | k
    · exact .inl (.inr ⟨h, k⟩)
    · exact .inr (.inl (Prod.ext h k))
    · exact .inr (.inr (.inr ⟨h.symm, k⟩))
  · exact .inr (.inr (.inl h))
theorem plt_ne {a b : Pt2} (h : plt a b) : a ≠ b := fun e => by rw [e] at h; exact plt_irr b h
theorem turn_cyc (a b c : Pt2) : turn a b c = turn b c a := by unfold turn; grind
theorem turn_self1 (a b : Pt2) : turn a b a = 0 := by unfold turn; grind
theorem turn_self2 (a b : Pt2) : turn a b b = 0 := by unfold turn; grind
theorem turn_swap (a b c : Pt2) : turn b a c = - turn a b c := by unfold turn; grind
/-- vectors to the right -/
def lp (x y : Int) : Prop := 0 < x ∨ (x = 0 ∧ 0 < y)
def cr (ux uy vx vy : Int) : Int := ux * vy - uy * vx
section
variable {ux uy vx vy wx wy : Int}
theorem cr_id1 : cr ux uy wx wy * vx = cr ux uy vx vy * wx + cr vx vy wx wy * ux := by unfold cr; grind
theorem cr_id2 : cr ux uy wx wy * vy = cr ux uy vx vy * wy + cr vx vy wx wy * uy := by unfold cr; grind
theorem lp_ge {x y : Int} (h : lp x y) : 0 ≤ x := by unfold lp at h; omega
theorem cr_w (hu : lp ux uy) (hv : lp vx vy) (hw : lp wx wy) (h1 : 0 ≤ cr ux uy vx vy) (h2 : 0 ≤ cr vx vy wx wy) : 0 ≤ cr ux uy wx wy := by
  rcases hv with v | ⟨v, v'⟩
  · rcases Int.lt_or_le (cr ux uy wx wy) 0 with n | n
    · have e := cr_id1 (ux := ux) (uy := uy) (vx := vx) (vy := vy) (wx := wx) (wy := wy)
      have a1 := Int.mul_neg_of_neg_of_pos n v
      have a2 := Int.mul_nonneg h1 (lp_ge hw)
      have a3 := Int.mul_nonneg h2 (lp_ge hu)
      omega
    · exact n
  · subst v
    have q : cr 0 vy wx wy = -(vy * wx) := by unfold cr; grind
    rw [q] at h2
    rcases hw with w | ⟨w, w'⟩
    · have := Int.mul_pos v' w; omega
    · subst w
      have : cr ux uy 0 wy = ux * wy := by unfold cr; grind
      rw [this]
      exact Int.mul_nonneg (lp_ge hu) (by omega)
theorem cr_s1 (hu : lp ux uy) (hv : lp vx vy) (hw : lp wx wy) (h1 : 0 < cr ux uy vx vy) (h2 : 0 ≤ cr vx vy wx wy) : 0 < cr ux uy wx wy := by
  have g := cr_w hu hv hw (Int.le_of_lt h1) h2
  rcases Int.lt_or_eq_of_le g with n | n
  · exact n
  · exfalso
    rcases hv with v | ⟨v, v'⟩
    · have e1 := cr_id1 (ux := ux) (uy := uy) (vx := vx) (vy := vy) (wx := wx) (wy := wy)
      have e2 := cr_id2 (ux := ux) (uy := uy) (vx := vx) (vy := vy) (wx := wx) (wy := wy)
      rw [← n, Int.zero_mul] at e1 e2
      have b1 := Int.mul_nonneg (Int.le_of_lt h1) (lp_ge hw)
      have b2 := Int.mul_nonneg h2 (lp_ge hu)
      rcases hw with w | ⟨w, w'⟩
      · have := Int.mul_pos h1 w; omega
      · have p := Int.mul_pos h1 w'
        rcases hu with u | ⟨u, u'⟩
        · rcases Int.lt_or_eq_of_le h2 with k | k
          · have := Int.mul_pos k u; omega
          · rw [← k, Int.zero_mul] at e2; omega
        · have := Int.mul_nonneg h2 (Int.le_of_lt u'); omega
    · subst v
      have q : cr 0 vy wx wy = -(vy * wx) := by unfold cr; grind
      have q2 : cr ux uy 0 vy = ux * vy := by unfold cr; grind
      rw [q] at h2
      rw [q2] at h1
      rcases hw with w | ⟨w, w'⟩
      · have := Int.mul_pos v' w; omega
      · subst w
        have q3 : cr ux uy 0 wy = ux * wy := by unfold cr; grind
        rw [q3] at n
        rcases hu with u | ⟨u, u'⟩
        · have := Int.mul_pos u w'; omega
        · rw [u] at h1; simp at h1
theorem cr_s2 (hu : lp ux uy) (hv : lp vx vy) (hw : lp wx wy) (h1 : 0 ≤ cr ux uy vx vy) (h2 : 0 < cr vx vy wx wy) : 0 < cr ux uy wx wy := by
  have g := cr_w hu hv hw h1 (Int.le_of_lt h2)
  rcases Int.lt_or_eq_of_le g with n | n
  · exact n
  · exfalso
    rcases hv with v | ⟨v, v'⟩
    · have e1 := cr_id1 (ux := ux) (uy := uy) (vx := vx) (vy := vy) (wx := wx) (wy := wy)
      rw [← n, Int.zero_mul] at e1
      have b1 := Int.mul_nonneg h1 (lp_ge hw)
      rcases hu with u | ⟨u, u'⟩
      · have := Int.mul_pos h2 u; omega
      · subst u
        have q : cr 0 uy vx vy = -(uy * vx) := by unfold cr; grind
        have := Int.mul_pos u' v
        omega
    · subst v
      have q : cr 0 vy wx wy = -(vy * wx) := by unfold cr; grind
      have := Int.mul_nonneg (Int.le_of_lt v') (lp_ge hw)
      omega
end
theorem lp_of {a b : Pt2} (h : plt a b) : lp (b.1 - a.1) (b.2 - a.2) := by unfold plt at h; unfold lp; omega
/-- edges of a stack, the top first -/
def Ed : List Pt2 → Pt2 → Pt2 → Prop
  | b :: a :: S, x, y => (x = a ∧ y = b) ∨ Ed (a :: S) x y
  | _, _, _ => False
theorem Ed.mem : ∀ {S : List Pt2} {x y : Pt2}, Ed S x y → x ∈ S ∧ y ∈ S
  | [], _, _, h => h.elim
  | [_], _, _, h => h.elim
  | b :: a :: S, x, y, h => by
    rcases h with ⟨rfl, rfl⟩ | h
    · exact ⟨by simp, by simp⟩
    · have := Ed.mem h
      exact ⟨List.mem_cons_of_mem _ this.1, List.mem_cons_of_mem _ this.2⟩
theorem Ed.lt : ∀ {S : List Pt2} {x y : Pt2}, S.Pairwise (fun b a => plt a b) → Ed S x y → plt x y
  | [], _, _, _, h => h.elim
  | [_], _, _, _, h => h.elim
  | b :: a :: S, x, y, p, h => by
    obtain ⟨p1, p2⟩ := List.pairwise_cons.mp p
    rcases h with ⟨rfl, rfl⟩ | h
    · exact p1 _ List.mem_cons_self
    · exact Ed.lt p2 h
/-- a half ring over the points in T -/
structure Hr (T : Pt2 → Prop) (S : List Pt2) : Prop where
  sub : ∀ c ∈ S, T c
  bot : ∀ c, T c → ∃ l e, S = l ++ [e] ∧ (c = e ∨ plt e c)
  asc : S.Pairwise fun b a => plt a b
  ge : ∀ a b, Ed S a b → ∀ c, T c → 0 ≤ turn a b c
  st : ∀ a b, Ed S a b → ∀ c ∈ S, c ≠ a → c ≠ b → 0 < turn a b c
def popW (p : Pt2) : List Pt2 → List Pt2
  | b :: a :: S => if turn a b p ≤ 0 then popW p (a :: S) else b :: a :: S
  | S => S
theorem Hr.tail {T : Pt2 → Prop} {b a : Pt2} {S : List Pt2} (h : Hr T (b :: a :: S)) : Hr T (a :: S) := by
  refine ⟨fun c hc => h.sub c (List.mem_cons_of_mem _ hc), fun c hc => ?_, (List.pairwise_cons.mp h.asc).2, fun x y e => h.ge x y (.inr e), fun x y e c hc => h.st x y (.inr e) c (List.mem_cons_of_mem _ hc)⟩
  obtain ⟨l, e, h1, h2⟩ := h.bot c hc
  cases l with
  | nil => simp at h1
  | cons z l =>
    rw [List.cons_append] at h1
    exact ⟨l, e, (List.cons.inj h1).2, h2⟩
/-- why the top stands as the next point's neighbour -/
def Why (T : Pt2 → Prop) (p q : Pt2) : Prop := (∀ c, T c → c = q ∨ plt c q) ∨ ∃ q', T q' ∧ plt q q' ∧ (∀ c, T c → 0 ≤ turn q q' c) ∧ turn q q' p ≤ 0
theorem pop_ok {T : Pt2 → Prop} {p : Pt2} : ∀ {S : List Pt2} {q : Pt2}, Hr T (q :: S) → Why T p q → ∃ q2 S2, popW p (q :: S) = q2 :: S2 ∧ Hr T (q2 :: S2) ∧ Why T p q2 ∧ (∀ a R, S2 = a :: R → 0 < turn a q2 p)
  | [], q, h, w => ⟨q, [], rfl, h, w, fun a R e => by cases e⟩
  | a :: S, q, h, w => by
    unfold popW
    by_cases z : turn a q p ≤ 0
    · rw [if_pos z]
      have lt : plt a q := (List.pairwise_cons.mp h.asc).1 a List.mem_cons_self
      exact pop_ok h.tail (.inr ⟨q, h.sub q List.mem_cons_self, lt, h.ge a q (.inl ⟨rfl, rfl⟩), z⟩)
    · rw [if_neg z]
      exact ⟨q, a :: S, rfl, h, w, fun a' R e => by cases e; omega⟩
theorem pop_turn {T : Pt2 → Prop} {p q : Pt2} {S : List Pt2} (h : Hr T (q :: S)) (hp : ∀ c, T c → plt c p) (ht : ∀ a R, S = a :: R → 0 < turn a q p) : ∀ y ∈ S, 0 < turn y q p := by
  intro y hy
  cases S with
  | nil => cases hy
  | cons a R =>
    have h0 := ht a R rfl
    by_cases e : y = a
    · rw [e]; exact h0
    · have hq : T q := h.sub q List.mem_cons_self
      have asc := List.pairwise_cons.mp h.asc
      have l1 : plt a q := asc.1 a List.mem_cons_self
      have l2 : plt y q := asc.1 y hy
      have s := h.st a q (.inl ⟨rfl, rfl⟩) y (List.mem_cons_of_mem _ hy) e (plt_ne l2)
      have k := cr_s1 (lp_of l2) (lp_of l1) (lp_of (hp q hq)) (by rw [show cr (q.1 - y.1) (q.2 - y.2) (q.1 - a.1) (q.2 - a.2) = turn a q y from by unfold cr turn; grind]; exact s)
        (by rw [show cr (q.1 - a.1) (q.2 - a.2) (p.1 - q.1) (p.2 - q.2) = turn a q p from by unfold cr turn; grind]; omega)
      rw [show cr (q.1 - y.1) (q.2 - y.2) (p.1 - q.1) (p.2 - q.2) = turn y q p from by unfold cr turn; grind] at k
      exact k
theorem push_ok {T : Pt2 → Prop} {p q : Pt2} {S : List Pt2} (h : Hr T (q :: S)) (w : Why T p q) (hp : ∀ c, T c → plt c p) (ht : ∀ a R, S = a :: R → 0 < turn a q p) : Hr (fun c => T c ∨ c = p) (p :: q :: S) := by
  have hq : T q := h.sub q List.mem_cons_self
  have py := pop_turn h hp ht
  have asc := List.pairwise_cons.mp h.asc
  have old : ∀ x y, Ed (q :: S) x y → 0 < turn x y p := fun x y e => by
    have m := e.mem
    have lxy := e.lt h.asc
    by_cases yq : y = q
    · subst yq
      have xs : x ∈ S := (List.mem_cons.mp m.1).resolve_left (plt_ne lxy)
      exact py x xs
    · have ys : y ∈ S := (List.mem_cons.mp m.2).resolve_left yq
      have lyq := asc.1 y ys
      have lxq := plt_tr lxy lyq
      have s1 := h.st x y e q List.mem_cons_self (plt_ne lxq).symm (Ne.symm yq)
      have s2 := py y ys
      have k := cr_s1 (lp_of lxy) (lp_of lyq) (lp_of (hp q hq)) (by rw [show cr (y.1 - x.1) (y.2 - x.2) (q.1 - y.1) (q.2 - y.2) = turn x y q from by unfold cr turn; grind]; exact s1)
        (by rw [show cr (q.1 - y.1) (q.2 - y.2) (p.1 - q.1) (p.2 - q.2) = turn y q p from by unfold cr turn; grind]; omega)
      have e2 : turn x y p = turn x y q + cr (y.1 - x.1) (y.2 - x.2) (p.1 - q.1) (p.2 - q.2) := by unfold cr turn; grind
      omega
  have new : ∀ c, T c → 0 ≤ turn q p c := fun c hc => by
    rcases plt_tri c q with z | z | z
    · cases S with
      | nil =>
        obtain ⟨l, e, h1, h2⟩ := h.bot c hc
        cases l with
        | nil =>
          simp at h1
          subst h1
          rcases h2 with h2 | h2
          · exact absurd h2 (plt_ne z)
          · exact absurd (plt_tr z h2) (plt_irr c)
        | cons a l => simp at h1
      | cons a R =>
        have l1 : plt a q := asc.1 a List.mem_cons_self
        have g := h.ge a q (.inl ⟨rfl, rfl⟩) c hc
        have k := cr_s2 (lp_of z) (lp_of l1) (lp_of (hp q hq)) (by rw [show cr (q.1 - c.1) (q.2 - c.2) (q.1 - a.1) (q.2 - a.2) = turn a q c from by unfold cr turn; grind]; exact g)
          (by rw [show cr (q.1 - a.1) (q.2 - a.2) (p.1 - q.1) (p.2 - q.2) = turn a q p from by unfold cr turn; grind]; exact ht a R rfl)
        rw [show cr (q.1 - c.1) (q.2 - c.2) (p.1 - q.1) (p.2 - q.2) = turn q p c from by unfold cr turn; grind] at k
        omega
    · rw [z, turn_self1]; exact Int.le_refl _
    · rcases w with w | ⟨q', t1, t2, t3, t4⟩
      · rcases w c hc with y | y
        · exact absurd y (plt_ne z).symm
        · exact absurd (plt_tr z y) (plt_irr q)
      · have k := cr_w (lp_of (hp q hq)) (lp_of t2) (lp_of z) (by rw [show cr (p.1 - q.1) (p.2 - q.2) (q'.1 - q.1) (q'.2 - q.2) = - turn q q' p from by unfold cr turn; grind]; omega)
          (by rw [show cr (q'.1 - q.1) (q'.2 - q.2) (c.1 - q.1) (c.2 - q.2) = turn q q' c from by unfold cr turn; grind]; exact t3 c hc)
        rw [show cr (p.1 - q.1) (p.2 - q.2) (c.1 - q.1) (c.2 - q.2) = turn q p c from by unfold cr turn; grind] at k
        exact k
  refine ⟨fun c hc => ?_, fun c hc => ?_, List.pairwise_cons.mpr ⟨fun a ha => hp a (h.sub a ha), h.asc⟩, fun x y e c hc => ?_, fun x y e c hc nx ny => ?_⟩
  · rcases List.mem_cons.mp hc with z | z
    · exact .inr z
    · exact .inl (h.sub c z)
  · rcases hc with hc | rfl
    · obtain ⟨l, e, h1, h2⟩ := h.bot c hc
      exact ⟨p :: l, e, by rw [h1]; rfl, h2⟩
    · obtain ⟨l, e, h1, h2⟩ := h.bot q hq
      refine ⟨c :: l, e, by rw [h1]; rfl, .inr ?_⟩
      exact hp e (h.sub e (by rw [h1]; simp))
  · rcases e with ⟨rfl, rfl⟩ | e
    · rcases hc with hc | rfl
      · exact new c hc
      · rw [turn_self2]; exact Int.le_refl _
    · rcases hc with hc | rfl
      · exact h.ge x y e c hc
      · exact Int.le_of_lt (old x y e)
  · rcases e with ⟨rfl, rfl⟩ | e
    · have hc' : c ∈ S := (List.mem_cons.mp ((List.mem_cons.mp hc).resolve_left ny)).resolve_left nx
      rw [← turn_cyc]
      exact py c hc'
    · rcases List.mem_cons.mp hc with rfl | hc
      · exact old x y e
      · exact h.st x y e c hc nx ny
def push (S : List Pt2) (p : Pt2) : List Pt2 := p :: popW p S
def chain (l : List Pt2) : List Pt2 := l.foldl push []
/-- the stack behind all points -/
theorem chain_go : ∀ {l : List Pt2} {T : Pt2 → Prop} {q : Pt2} {S : List Pt2}, Hr T (q :: S) → (∀ c, T c → c = q ∨ plt c q) → (q :: l).Pairwise plt → ∃ q2 S2, l.foldl push (q :: S) = q2 :: S2 ∧ Hr (fun c => T c ∨ c ∈ l) (q2 :: S2) ∧ (∀ c, T c ∨ c ∈ l → c = q2 ∨ plt c q2)
  | [], T, q, S, h, w, _ => by
    refine ⟨q, S, rfl, ?_, fun c hc => w c (hc.resolve_right (by simp))⟩
    have : (fun c => T c ∨ c ∈ ([] : List Pt2)) = T := funext fun c => by simp
    rw [this]
    exact h
  | p :: l, T, q, S, h, w, asc => by
    obtain ⟨a1, a2⟩ := List.pairwise_cons.mp asc
    have hqp := a1 p List.mem_cons_self
    have hp : ∀ c, T c → plt c p := fun c hc => (w c hc).elim (fun e => e ▸ hqp) fun k => plt_tr k hqp
    obtain ⟨q2, S2, e, h2, w2, t2⟩ := pop_ok (p := p) h (.inl w)
    have h3 := push_ok h2 w2 hp t2
    obtain ⟨q3, S3, e3, h4, w4⟩ := chain_go (l := l) h3 (fun c hc => hc.elim (fun z => .inr (hp c z)) .inl) a2
    refine ⟨q3, S3, ?_, ?_, fun c hc => w4 c ?_⟩
    · rw [List.foldl_cons]
      unfold push
      rw [e]
      exact e3
    · have : (fun c => T c ∨ c ∈ p :: l) = (fun c => (T c ∨ c = p) ∨ c ∈ l) := funext fun c => by simp [or_assoc]
      rw [this]
      exact h4
    · rcases hc with hc | hc
      · exact .inl (.inl hc)
      · exact (List.mem_cons.mp hc).elim (fun z => .inl (.inr z)) .inr
theorem chain_ok {l : List Pt2} (hl : l ≠ []) (asc : l.Pairwise plt) : ∃ q S, chain l = q :: S ∧ Hr (· ∈ l) (q :: S) ∧ ∀ c ∈ l, c = q ∨ plt c q := by
  cases l with
  | nil => exact absurd rfl hl
  | cons p l =>
    have h0 : Hr (· = p) [p] := ⟨fun c hc => by simpa using hc, fun c hc => ⟨[], p, rfl, .inl hc⟩, List.pairwise_singleton _ _, fun a b e => e.elim, fun a b e => e.elim⟩
    obtain ⟨q, S, e, h, w⟩ := chain_go (l := l) h0 (fun c hc => .inl hc) asc
    refine ⟨q, S, e, ?_, fun c hc => w c (by simpa using hc)⟩
    have : (fun c => c ∈ p :: l) = (fun c => c = p ∨ c ∈ l) := funext fun c => by simp
    rw [this]
    exact h
/-! both halves -/
def ngP (p : Pt2) : Pt2 := (-p.1, -p.2)
theorem ngP_ngP (p : Pt2) : ngP (ngP p) = p := by unfold ngP; simp
theorem turn_ng (a b c : Pt2) : turn (ngP a) (ngP b) (ngP c) = turn a b c := by unfold turn ngP; grind
theorem plt_ng {a b : Pt2} : plt (ngP a) (ngP b) ↔ plt b a := by unfold plt ngP; dsimp only; omega
theorem popW_ng (p : Pt2) : ∀ S : List Pt2, popW (ngP p) (S.map ngP) = (popW p S).map ngP
  | [] => rfl
  | [_] => rfl
  | b :: a :: S => by
    have ih := popW_ng p (a :: S)
    rw [List.map_cons, List.map_cons]
    unfold popW
    rw [turn_ng]
    split
    · exact ih
    · rfl
theorem chain_ng : ∀ (l S : List Pt2), (l.map ngP).foldl push (S.map ngP) = (l.foldl push S).map ngP
  | [], S => rfl
  | p :: l, S => by
    rw [List.map_cons, List.foldl_cons, List.foldl_cons]
    have : push (S.map ngP) (ngP p) = (push S p).map ngP := by unfold push; rw [popW_ng, List.map_cons]
    rw [this]
    exact chain_ng l (push S p)
theorem Ed.ng : ∀ {S : List Pt2} {x y : Pt2}, Ed (S.map ngP) (ngP x) (ngP y) ↔ Ed S x y
  | [], _, _ => Iff.rfl
  | [_], _, _ => Iff.rfl
  | b :: a :: S, x, y => by
    have inj : ∀ {u v : Pt2}, ngP u = ngP v ↔ u = v := fun {u v} => ⟨fun h => by rw [← ngP_ngP u, h, ngP_ngP], fun h => by rw [h]⟩
    have ih := Ed.ng (S := a :: S) (x := x) (y := y)
    show (ngP x = ngP a ∧ ngP y = ngP b) ∨ Ed ((a :: S).map ngP) (ngP x) (ngP y) ↔ _
    rw [ih, inj, inj]
    rfl
/-- the other half ring: the points downwards -/
structure Hu (T : Pt2 → Prop) (S : List Pt2) : Prop where
  sub : ∀ c ∈ S, T c
  asc : S.Pairwise fun b a => plt b a
  ge : ∀ a b, Ed S a b → ∀ c, T c → 0 ≤ turn a b c
  st : ∀ a b, Ed S a b → ∀ c ∈ S, c ≠ a → c ≠ b → 0 < turn a b c
theorem upper_ok {l : List Pt2} (hl : l ≠ []) (asc : l.Pairwise plt) : ∃ q S, chain l.reverse = q :: S ∧ Hu (· ∈ l) (q :: S) ∧ (∀ c ∈ l, c = q ∨ plt q c) ∧ (∀ c ∈ l, ∃ k e, q :: S = k ++ [e] ∧ (c = e ∨ plt c e)) := by
  have hl' : l.reverse.map ngP ≠ [] := by simpa using hl
  have asc' : (l.reverse.map ngP).Pairwise plt := by
    rw [List.pairwise_map, List.pairwise_reverse]
    exact asc.imp fun {a b} h => plt_ng.mpr h
  obtain ⟨q, S, e, h, w⟩ := chain_ok hl' asc'
  have ce : chain l.reverse = (q :: S).map ngP := by
    have := chain_ng l.reverse []
    have e' : (l.reverse.map ngP).foldl push [] = q :: S := e
    rw [List.map_nil, e'] at this
    rw [this, List.map_map]
    show chain l.reverse = (chain l.reverse).map (ngP ∘ ngP)
    rw [show (ngP ∘ ngP) = id from funext ngP_ngP, List.map_id]
  have mem : ∀ {c}, c ∈ l → ngP c ∈ l.reverse.map ngP := fun {c} hc => List.mem_map.mpr ⟨c, List.mem_reverse.mpr hc, rfl⟩
  have mem' : ∀ {c}, c ∈ l.reverse.map ngP → ngP c ∈ l := fun {c} hc => by
    obtain ⟨d, hd, rfl⟩ := List.mem_map.mp hc
    rw [ngP_ngP]
    exact List.mem_reverse.mp hd
  have ed : ∀ {a b}, Ed ((q :: S).map ngP) a b → Ed (q :: S) (ngP a) (ngP b) := fun {a b} h => by
    rw [← ngP_ngP a, ← ngP_ngP b] at h
    exact Ed.ng.mp h
  refine ⟨ngP q, S.map ngP, by rw [ce]; rfl, ⟨fun c hc => ?_, ?_, fun a b hab c hc => ?_, fun a b hab c hc na nb => ?_⟩, fun c hc => ?_, fun c hc => ?_⟩
  · have hc : c ∈ (q :: S).map ngP := hc
    obtain ⟨d, hd, rfl⟩ := List.mem_map.mp hc
    exact mem' (h.sub d hd)
  · show ((q :: S).map ngP).Pairwise _
    rw [List.pairwise_map]
    exact h.asc.imp fun {a b} k => plt_ng.mpr k
  · have := h.ge _ _ (ed hab) (ngP c) (mem hc)
    rw [turn_ng] at this
    exact this
  · have hc : c ∈ (q :: S).map ngP := hc
    obtain ⟨d, hd, rfl⟩ := List.mem_map.mp hc
    have := h.st _ _ (ed hab) d hd (fun z => na (by rw [z, ngP_ngP])) (fun z => nb (by rw [z, ngP_ngP]))
    rw [← turn_ng a b (ngP d), ngP_ngP]
    exact this
  · rcases w _ (mem hc) with z | z
    · left; rw [← z, ngP_ngP]
    · right
      rw [← ngP_ngP c]
      exact plt_ng.mpr z
  · obtain ⟨k, e, h1, h2⟩ := h.bot _ (mem hc)
    refine ⟨k.map ngP, ngP e, ?_, ?_⟩
    · show (q :: S).map ngP = _
      rw [h1, List.map_append]
      rfl
    · rcases h2 with z | z
      · left; rw [← z, ngP_ngP]
      · right
        rw [← ngP_ngP c]
        exact plt_ng.mpr z
theorem ed_get : ∀ {S : List Pt2} {i : Nat} {a b : Pt2}, S.reverse[i]? = some a → S.reverse[i + 1]? = some b → Ed S a b
  | [], i, a, b, h, _ => by simp at h
  | [x], i, a, b, h, k => by
    cases i with
    | zero => simp at k
    | succ i => simp at k
  | y :: x :: S, i, a, b, h, k => by
    have rv : (y :: x :: S).reverse = (x :: S).reverse ++ [y] := List.reverse_cons
    rw [rv] at h k
    have hl := (List.getElem?_eq_some_iff.mp k).1
    rw [List.length_append, List.length_singleton] at hl
    by_cases c : i + 1 < (x :: S).reverse.length
    · rw [List.getElem?_append_left (by omega)] at h
      rw [List.getElem?_append_left c] at k
      exact .inr (ed_get h k)
    · have e : i + 1 = (x :: S).reverse.length := by omega
      rw [List.getElem?_append_right (by omega), e, Nat.sub_self] at k
      rw [List.getElem?_append_left (by omega)] at h
      cases k
      left
      refine ⟨?_, rfl⟩
      have rv2 : (x :: S).reverse = S.reverse ++ [x] := List.reverse_cons
      rw [rv2] at h e
      rw [List.length_append, List.length_singleton] at e
      rw [List.getElem?_append_right (by omega), show i - S.reverse.length = 0 from by omega] at h
      cases h
      rfl
/-- within a stack: neighbours below and above -/
theorem ed_mid : ∀ {S : List Pt2} {k : List Pt2} {c e : Pt2}, S = k ++ [e] → c ∈ S → c ≠ e → ∃ x, Ed S x c
  | [], k, c, e, h, hc, _ => nomatch hc
  | [y], k, c, e, h, hc, ne => by
    cases k with
    | nil =>
      simp at h hc
      exact absurd (hc.trans h) ne
    | cons z k => simp at h
  | y :: x :: S, k, c, e, h, hc, ne => by
    rcases List.mem_cons.mp hc with z | z
    · exact ⟨x, .inl ⟨rfl, z⟩⟩
    · cases k with
      | nil => simp at h
      | cons w k =>
        rw [List.cons_append] at h
        obtain ⟨u, hu⟩ := ed_mid (List.cons.inj h).2 z ne
        exact ⟨u, .inr hu⟩
theorem ed_up : ∀ {S : List Pt2} {q c : Pt2}, c ∈ S → ∃ y, Ed (q :: S) c y
  | [], q, c, hc => nomatch hc
  | x :: S, q, c, hc => by
    rcases List.mem_cons.mp hc with z | z
    · exact ⟨q, .inl ⟨z, rfl⟩⟩
    · obtain ⟨y, hy⟩ := ed_up (q := x) z
      exact ⟨y, .inr hy⟩
/-- a corner of the other half is not on an edge's line -/
theorem off_line {T : Pt2 → Prop} {a b c x y : Pt2} (ab : plt a b) (ge : ∀ z, T z → 0 ≤ turn a b z) (tc : T c) (tx : T x) (ty : T y) (xc : plt c x) (cy : plt y c) (tn : 0 < turn x c y) : 0 < turn a b c := by
  have g := ge c tc
  rcases Int.lt_or_eq_of_le g with n | n
  · exact n
  · exfalso
    have k := cr_w (lp_of cy) (lp_of ab) (lp_of xc) (by
        have e : cr (c.1 - y.1) (c.2 - y.2) (b.1 - a.1) (b.2 - a.2) = turn a b y - turn a b c := by unfold cr turn; grind
        have := ge y ty
        omega) (by
        have e : cr (b.1 - a.1) (b.2 - a.2) (x.1 - c.1) (x.2 - c.2) = turn a b x - turn a b c := by unfold cr turn; grind
        have := ge x tx
        omega)
    have e : cr (c.1 - y.1) (c.2 - y.2) (x.1 - c.1) (x.2 - c.2) = - turn x c y := by unfold cr turn; grind
    omega
def half (l : List Pt2) : List Pt2 := (chain l).tail.reverse
/-- the ring of points, given in order -/
def ringP (l : List Pt2) : List Pt2 := if l.length < 3 then l else half l ++ half l.reverse
structure Ring (l R : List Pt2) : Prop where
  sub : ∀ c ∈ R, c ∈ l
  nd : R.Nodup
  two : 2 ≤ R.length
  hd : ∀ c ∈ l, c = R.getD 0 (0, 0) ∨ plt (R.getD 0 (0, 0)) c
  ge : ∀ i, i < R.length → ∀ c ∈ l, 0 ≤ turn (R.getD i (0, 0)) (R.getD ((i + 1) % R.length) (0, 0)) c
  st : ∀ i, i < R.length → ∀ c ∈ R, c ≠ R.getD i (0, 0) → c ≠ R.getD ((i + 1) % R.length) (0, 0) → 0 < turn (R.getD i (0, 0)) (R.getD ((i + 1) % R.length) (0, 0)) c
theorem ring_ok {l : List Pt2} (h2 : 2 ≤ l.length) (asc : l.Pairwise plt) : Ring l (half l ++ half l.reverse) := by
  have hl : l ≠ [] := fun z => by rw [z] at h2; simp at h2
  obtain ⟨t, S, e1, L, w1⟩ := chain_ok hl asc
  obtain ⟨m, U, e2, V, w2, b2⟩ := upper_ok hl asc
  have tl : t ∈ l := L.sub t List.mem_cons_self
  have ml : m ∈ l := V.sub m List.mem_cons_self
  have mt : plt m t := by
    rcases w2 t tl with z | z
    · exfalso
      -- all points are one
      have all : ∀ c ∈ l, c = t := fun c hc => by
        rcases w1 c hc with y | y
        · exact y
        · rcases w2 c hc with x | x
          · rw [x, ← z]
          · rw [← z] at x; exact absurd (plt_tr x y) (plt_irr t)
      match l, h2, asc, all with
      | a :: b :: _, _, asc, all =>
        have := (List.pairwise_cons.mp asc).1 b (by simp)
        rw [all a (by simp), all b (by simp)] at this
        exact plt_irr t this
    · exact z
  obtain ⟨k1, x1, ek1, ex1⟩ := L.bot m ml
  have bx1 : x1 = m := by
    have hx : x1 ∈ l := L.sub x1 (by rw [ek1]; simp)
    rcases ex1 with z | z
    · exact z.symm
    · rcases w2 x1 hx with y | y
      · exact y
      · exact absurd (plt_tr z y) (plt_irr x1)
  subst bx1
  obtain ⟨k2, x2, ek2, ex2⟩ := b2 t tl
  have bx2 : x2 = t := by
    have hx : x2 ∈ l := V.sub x2 (by rw [ek2]; simp)
    rcases ex2 with z | z
    · exact z.symm
    · rcases w1 x2 hx with y | y
      · exact y
      · exact absurd (plt_tr z y) (plt_irr t)
  subst bx2
  have hS : half l = S.reverse := by unfold half; rw [e1]; rfl
  have hU : half l.reverse = U.reverse := by unfold half; rw [e2]; rfl
  -- the bottoms within S, U
  have S0 : ∃ k, S = k ++ [x1] := by
    cases k1 with
    | nil => simp at ek1; exact absurd ek1.1 (plt_ne mt).symm
    | cons z k => rw [List.cons_append] at ek1; exact ⟨k, (List.cons.inj ek1).2⟩
  have U0 : ∃ k, U = k ++ [x2] := by
    cases k2 with
    | nil => simp at ek2; exact absurd ek2.1 (plt_ne mt)
    | cons z k => rw [List.cons_append] at ek2; exact ⟨k, (List.cons.inj ek2).2⟩
  obtain ⟨kS, eS⟩ := S0
  obtain ⟨kU, eU⟩ := U0
  have aL := List.pairwise_cons.mp L.asc
  have aV := List.pairwise_cons.mp V.asc
  have edL : ∀ {a b}, Ed (x2 :: S) a b → plt a b := fun h => h.lt L.asc
  have edV : ∀ {a b}, Ed (x1 :: U) a b → plt b a := by
    have : ∀ {Z : List Pt2} {a b : Pt2}, Z.Pairwise (fun b a => plt b a) → Ed Z a b → plt b a := by
      intro Z
      induction Z with
      | nil => intro a b _ h; exact h.elim
      | cons z Z ih =>
        intro a b p h
        cases Z with
        | nil => exact h.elim
        | cons y Y =>
          obtain ⟨p1, p2⟩ := List.pairwise_cons.mp p
          rcases h with ⟨rfl, rfl⟩ | h
          · exact p1 _ List.mem_cons_self
          · exact ih p2 h
    intro a b h
    exact this V.asc h
  -- corners of one half and edges of the other one
  have offL : ∀ {a b c}, Ed (x2 :: S) a b → c ∈ U → c ≠ x2 → 0 < turn a b c := fun {a b c} h hc ne => by
    obtain ⟨x, hx⟩ := ed_mid ek2 (List.mem_cons_of_mem _ hc) ne
    obtain ⟨y, hy⟩ := ed_up (q := x1) hc
    have mx := hx.mem
    have my := hy.mem
    have lx := edV hx
    have ly := edV hy
    exact off_line (T := (· ∈ l)) (edL h) (L.ge a b h) (V.sub c mx.2) (V.sub x mx.1) (V.sub y my.2) lx ly (V.st x c hx y my.2 (plt_ne (plt_tr ly lx)) (plt_ne ly))
  have offV : ∀ {a b c}, Ed (x1 :: U) a b → c ∈ S → c ≠ x1 → 0 < turn a b c := fun {a b c} h hc ne => by
    obtain ⟨x, hx⟩ := ed_mid ek1 (List.mem_cons_of_mem _ hc) ne
    obtain ⟨y, hy⟩ := ed_up (q := x2) hc
    have mx := hx.mem
    have my := hy.mem
    have lx := edL hx
    have ly := edL hy
    have sx := L.st x c hx y my.2 (plt_ne (plt_tr lx ly)).symm (plt_ne ly).symm
    rw [← turn_ng] at sx ⊢
    exact off_line (T := fun z => ngP z ∈ l) (plt_ng.mpr (edV h)) (fun z hz => by
      rw [← ngP_ngP z, turn_ng]
      exact V.ge a b h (ngP z) hz) (by rw [ngP_ngP]; exact L.sub c mx.2) (by rw [ngP_ngP]; exact L.sub x mx.1) (by rw [ngP_ngP]; exact L.sub y my.2) (plt_ng.mpr lx) (plt_ng.mpr ly) sx
  have g0 : (S.reverse ++ U.reverse).getD 0 (0, 0) = x1 := by rw [eS]; simp
  have dS : ∀ c ∈ S, c ≠ x2 := fun c hc => plt_ne (aL.1 c hc)
  have dU : ∀ c ∈ U, c ≠ x1 := fun c hc => (plt_ne (aV.1 c hc)).symm
  -- an edge of the ring is one of a half
  have edge : ∀ i, i < (S.reverse ++ U.reverse).length → Ed (x2 :: S) ((S.reverse ++ U.reverse).getD i (0, 0)) ((S.reverse ++ U.reverse).getD ((i + 1) % (S.reverse ++ U.reverse).length) (0, 0)) ∨ Ed (x1 :: U) ((S.reverse ++ U.reverse).getD i (0, 0)) ((S.reverse ++ U.reverse).getD ((i + 1) % (S.reverse ++ U.reverse).length) (0, 0)) := by
    intro i hi
    have ln : (S.reverse ++ U.reverse).length = S.length + U.length := by simp
    have lS : 0 < S.length := by rw [eS]; simp
    have lU : 0 < U.length := by rw [eU]; simp
    rw [ln] at hi ⊢
    by_cases c : i < S.length
    · left
      rw [Nat.mod_eq_of_lt (by omega)]
      refine ed_get (i := i) ?_ ?_
      · rw [List.reverse_cons, List.getElem?_append_left (by simpa using c)]
        rw [List.getD_eq_getElem?_getD, List.getElem?_append_left (by simpa using c)]
        cases e : S.reverse[i]? with
        | none => rw [List.getElem?_eq_none_iff] at e; simp at e; omega
        | some v => rfl
      · rw [List.reverse_cons, List.getD_eq_getElem?_getD]
        by_cases c2 : i + 1 < S.length
        · rw [List.getElem?_append_left (by simpa using c2), List.getElem?_append_left (by simpa using c2)]
          cases e : S.reverse[i + 1]? with
          | none => rw [List.getElem?_eq_none_iff] at e; simp at e; omega
          | some v => rfl
        · rw [List.getElem?_append_right (by simp; omega), List.getElem?_append_right (by simp; omega)]
          have : i + 1 - S.reverse.length = 0 := by simp; omega
          rw [this, eU]
          simp
    · right
      refine ed_get (i := i - S.length) ?_ ?_
      · rw [List.reverse_cons, List.getElem?_append_left (by simp; omega)]
        rw [List.getD_eq_getElem?_getD, List.getElem?_append_right (by simp; omega), List.length_reverse]
        cases e : U.reverse[i - S.length]? with
        | none => rw [List.getElem?_eq_none_iff] at e; simp at e; omega
        | some v => rfl
      · rw [List.reverse_cons, List.getD_eq_getElem?_getD]
        by_cases c2 : i + 1 < S.length + U.length
        · rw [Nat.mod_eq_of_lt c2, List.getElem?_append_left (by simp; omega), List.getElem?_append_right (by simp; omega), List.length_reverse, show i + 1 - S.length = i - S.length + 1 from by omega]
          cases e : U.reverse[i - S.length + 1]? with
          | none => rw [List.getElem?_eq_none_iff] at e; simp at e; omega
          | some v => rfl
        · have : i + 1 = S.length + U.length := by omega
          rw [this, Nat.mod_self, List.getElem?_append_right (by simp; omega)]
          rw [show i - S.length + 1 - U.reverse.length = 0 from by simp; omega]
          rw [← List.getD_eq_getElem?_getD, g0]
          rfl
  rw [hS, hU]
  refine ⟨fun c hc => ?_, ?_, ?_, fun c hc => ?_, fun i hi c hc => ?_, fun i hi c hc na nb => ?_⟩
  · rcases List.mem_append.mp hc with z | z
    · exact L.sub c (List.mem_cons_of_mem _ (List.mem_reverse.mp z))
    · exact V.sub c (List.mem_cons_of_mem _ (List.mem_reverse.mp z))
  · refine List.nodup_append.mpr ⟨?_, ?_, fun a ha b hb e => ?_⟩
    · exact List.pairwise_reverse.mpr (aL.2.imp fun {a b} h => plt_ne h)
    · exact List.pairwise_reverse.mpr (aV.2.imp fun {a b} h => (plt_ne h).symm)
    · subst e
      have hs := List.mem_reverse.mp ha
      have hu := List.mem_reverse.mp hb
      obtain ⟨y, hy⟩ := ed_up (q := x2) hs
      have := offL hy hu (dS a hs)
      rw [turn_self1] at this
      omega
  · rw [List.length_append, List.length_reverse, List.length_reverse, eS, eU]
    simp
    omega
  · rw [g0]
    exact w2 c hc
  · rcases edge i hi with z | z
    · exact L.ge _ _ z c hc
    · exact V.ge _ _ z c hc
  · rcases edge i hi with z | z
    · rcases List.mem_append.mp hc with y | y
      · exact L.st _ _ z c (List.mem_cons_of_mem _ (List.mem_reverse.mp y)) na nb
      · by_cases ct : c = x2
        · exact L.st _ _ z c (by rw [ct]; exact List.mem_cons_self) na nb
        · exact offL z (List.mem_reverse.mp y) ct
    · rcases List.mem_append.mp hc with y | y
      · by_cases cm : c = x1
        · exact V.st _ _ z c (by rw [cm]; exact List.mem_cons_self) na nb
        · exact offV z (List.mem_reverse.mp y) cm
      · exact V.st _ _ z c (List.mem_cons_of_mem _ (List.mem_reverse.mp y)) na nb
end DL
namespace DL
open PySem L2
abbrev ptD (p : Pt2) : PyData := T2 p.1 p.2
abbrev ptsD (l : List Pt2) : List PyData := l.map ptD
/-- coordinates of at most n -/
def Nr (n : Nat) (p : Pt2) : Prop := p.1.natAbs ≤ n ∧ p.2.natAbs ≤ n
def fTurn : Fn := mkFn 3 3 (mRet (xBin hSub (xBin hMul (xBin hSub (xIxV 1 (xC (.int 0))) (xIxV 0 (xC (.int 0)))) (xBin hSub (xIxV 2 (xC (.int 1))) (xIxV 0 (xC (.int 1))))) (xBin hMul (xBin hSub (xIxV 1 (xC (.int 1))) (xIxV 0 (xC (.int 1)))) (xBin hSub (xIxV 2 (xC (.int 0))) (xIxV 0 (xC (.int 0)))))))
theorem turn_ok {a b c : Pt2} (ha : Nr 1000000 a) (hb : Nr 1000000 b) (hc : Nr 1000000 c) : fTurn [.im (ptD a), .im (ptD b), .im (ptD c)] none = .ok (.im (.int (turn a b c))) none := by
  obtain ⟨a1, a2⟩ := ha
  obtain ⟨b1, b2⟩ := hb
  obtain ⟨c1, c2⟩ := hc
  have m1 : hMul (.int (b.1 - a.1)) (.int (c.2 - a.2)) = some (.im (.int ((b.1 - a.1) * (c.2 - a.2)))) := hMul_sm (sm_of (by omega) (by omega)) (sm_of (by omega) (by omega))
  have m2 : hMul (.int (b.2 - a.2)) (.int (c.1 - a.1)) = some (.im (.int ((b.2 - a.2) * (c.1 - a.1)))) := hMul_sm (sm_of (by omega) (by omega)) (sm_of (by omega) (by omega))
  simp [fTurn, -hI2, hSub_i, m1, m2, turn]
/-! halves -/
theorem at_m2 {α : Type} (l : List α) (a b : α) : atI (l ++ [a, b]) (-2) = some a ∧ atI (l ++ [a, b]) (-1) = some b := by
  have e1 : (-2 + ((l.length : Int) + 2)).toNat = l.length := by omega
  have e2 : (-1 + ((l.length : Int) + 2)).toNat = l.length + 1 := by omega
  constructor
  · unfold atI ixN
    simp
    rw [if_pos (by omega), e1]
    simp
  · unfold atI ixN
    simp
    rw [if_pos (by omega), e2]
    simp
theorem cut_last {α : Type} (l : List α) (x : α) : DL.cutD (l ++ [x]) none (some (-1)) = l := by
  have e : (-1 + ((l.length : Int) + 1)).toNat = l.length := by omega
  unfold DL.cutD HT.sIx
  simp
  rw [e]
  simp
theorem cut_nil {α : Type} : DL.cutD ([] : List α) none (some (-1)) = [] := by
  unfold DL.cutD
  simp
def hwC : DX := xAnd (xBin hGt (xCall hLen (aCons (xVar 1) (aNil))) (xC (.int 1))) (xBin hLe (xUser fTurn 3 (uCons (xIxV 1 (xUn hNeg (xC (.int 2)))) (uCons (xIxV 1 (xUn hNeg (xC (.int 1)))) (uCons (xVar 2) (uNil))))) (xC (.int 0)))
def hwB : DM := mSet 1 (xSlice (xVar 1) .no (.ex (xUn hNeg (xC (.int 1)))))
/-- a stack as a list -/
abbrev stkD (S : List Pt2) : List PyData := ptsD S.reverse
abbrev hfS (x : PyData) (S : List Pt2) (p : Pt2) : Sd := ⟨[.im x, .ow (stkD S), .im (ptD p)], none⟩
theorem hw_loop {x : PyData} {p : Pt2} (hp : Nr 1000000 p) : ∀ (N : Nat) (S : List Pt2), (∀ c ∈ S, Nr 1000000 c) → S.length < N → whN hwC hwB N (hfS x S p) = .nx (hfS x (popW p S) p)
  | 0, _, _, h => absurd h (Nat.not_lt_zero _)
  | N + 1, [], _, _ => by
    refine whN_no (s := hfS x [] p) (s1 := ⟨[.im x, .im (.list (stkD [])), .im (ptD p)], none⟩) ?_
    simp [hwC, hGt_i, -hI2]
  | N + 1, [a], _, _ => by
    refine whN_no (s := hfS x [a] p) (s1 := ⟨[.im x, .im (.list (stkD [a])), .im (ptD p)], none⟩) ?_
    simp [hwC, hGt_i, -hI2]
  | N + 1, b :: a :: S, hS, hN => by
    have tu := turn_ok (hS a (by simp)) (hS b (by simp)) hp
    have st : stkD (b :: a :: S) = stkD S ++ [ptD a, ptD b] := by simp [stkD, ptsD]
    obtain ⟨i1, i2⟩ := at_m2 (stkD S) (ptD a) (ptD b)
    have len : decide ((1 : Int) < ((stkD S ++ [ptD a, ptD b]).length : Nat)) = true := by
      rw [decide_eq_true_eq, List.length_append]
      simp only [List.length_cons, List.length_nil]
      omega
    generalize hL : stkD S ++ [ptD a, ptD b] = L at *
    unfold popW
    by_cases z : turn a b p ≤ 0
    · rw [if_pos z]
      rw [← hw_loop hp N (a :: S) (fun c hc => hS c (List.mem_cons_of_mem _ hc)) (by simpa using hN)]
      refine whN_go (s := hfS x (b :: a :: S) p) (s1 := ⟨[.im x, .im (.list L), .im (ptD p)], none⟩) ?_ ?_
      · rw [show hfS x (b :: a :: S) p = ⟨[.im x, .ow L, .im (ptD p)], none⟩ from by rw [← st]]
        simp [hwC, hGt_i, hLe_i, -hI2, len, i1, i2, tu, z]
      · rw [show (⟨(hfS x (b :: a :: S) p).σ, none⟩ : Sd) = ⟨[.im x, .ow L, .im (ptD p)], none⟩ from by rw [← st]]
        have c : DL.cutD L none (some (-1)) = stkD (a :: S) := by
          rw [← hL, show stkD S ++ [ptD a, ptD b] = stkD (a :: S) ++ [ptD b] from by simp [stkD, ptsD], cut_last]
        simp [hwB, xSlice, SlP.k, hSl, c]
    · rw [if_neg z]
      refine whN_no (s := hfS x (b :: a :: S) p) (s1 := ⟨[.im x, .im (.list L), .im (ptD p)], none⟩) ?_
      rw [show hfS x (b :: a :: S) p = ⟨[.im x, .ow L, .im (ptD p)], none⟩ from by rw [← st]]
      simp [hwC, hGt_i, hLe_i, -hI2, len, i1, i2, tu, z]
def hfC : DM := mSeq (mWhF hwC hwB) (mSet 1 (xBin hAdd (xVar 1) (xLst (aCons (xVar 2) (aNil)))))
def hfA : DM := mSeq (mWhF hwC hwB) (mApp 1 (xVar 2))
theorem popW_len (p : Pt2) : ∀ S : List Pt2, (popW p S).length ≤ S.length
  | [] => Nat.le_refl _
  | [_] => Nat.le_refl _
  | b :: a :: S => by
    have ih := popW_len p (a :: S)
    unfold popW
    split
    · simp only [List.length_cons] at *; omega
    · exact Nat.le_refl _
theorem popW_mem {p c : Pt2} : ∀ {S : List Pt2}, c ∈ popW p S → c ∈ S
  | [], h => h
  | [_], h => h
  | b :: a :: S, h => by
    unfold popW at h
    split at h
    · exact List.mem_cons_of_mem _ (popW_mem h)
    · exact h
theorem hfC_turn {x : PyData} {S : List Pt2} {p : Pt2} (hp : Nr 1000000 p) (hS : ∀ c ∈ S, Nr 1000000 c) (hl : S.length ≤ 900000) : hfC (hfS x S p) = .nx (hfS x (push S p) p) := by
  have w := hw_loop (x := x) hp 1000000 S hS (by omega)
  have h2 : (stkD (popW p S)).length + 1 ≤ 1000000 := by
    have := popW_len p S
    simp [stkD, ptsD]
    omega
  have e : stkD (push S p) = stkD (popW p S) ++ [ptD p] := by simp [stkD, ptsD, push]
  rw [show hfS x (push S p) p = ⟨[.im x, .ow (stkD (popW p S) ++ [ptD p]), .im (ptD p)], none⟩ from by rw [← e]]
  generalize hL : stkD (popW p S) = L at *
  simp only [hfC, mSeq, mWhF, w]
  simp [hL, hAdd_l, h2]
theorem hfA_turn {x : PyData} {S : List Pt2} {p : Pt2} (hp : Nr 1000000 p) (hS : ∀ c ∈ S, Nr 1000000 c) (hl : S.length ≤ 900000) : hfA (hfS x S p) = .nx (hfS x (push S p) p) := by
  have w := hw_loop (x := x) hp 1000000 S hS (by omega)
  have h2 : (stkD (popW p S)).length + 1 ≤ 1000000 := by
    have := popW_len p S
    simp [stkD, ptsD]
    omega
  have e : stkD (push S p) = stkD (popW p S) ++ [ptD p] := by simp [stkD, ptsD, push]
  rw [show hfS x (push S p) p = ⟨[.im x, .ow (stkD (popW p S) ++ [ptD p]), .im (ptD p)], none⟩ from by rw [← e]]
  generalize hL : stkD (popW p S) = L at *
  simp only [hfA, mSeq, mWhF, w]
  simp [hL]
  omega
theorem half_loop {x : PyData} {b : DM} (hb : ∀ (S : List Pt2) (p : Pt2), Nr 1000000 p → (∀ c ∈ S, Nr 1000000 c) → S.length ≤ 900000 → b (hfS x S p) = .nx (hfS x (push S p) p)) :
    ∀ (l S : List Pt2) (y : Sl), (∀ c ∈ l, Nr 1000000 c) → (∀ c ∈ S, Nr 1000000 c) → S.length + l.length ≤ 900000 → ∃ y', forM (.nm 2) b (ptsD l) ⟨[.im x, .ow (stkD S), y], none⟩ = .nx ⟨[.im x, .ow (stkD (l.foldl push S)), y'], none⟩
  | [], S, y, _, _, _ => ⟨y, rfl⟩
  | p :: l, S, y, hl, hS, n => by
    rw [List.length_cons] at n
    have t := hb S p (hl p List.mem_cons_self) hS (by omega)
    have lp := popW_len p S
    obtain ⟨y', e⟩ := half_loop hb l (push S p) (.im (ptD p)) (fun c hc => hl c (List.mem_cons_of_mem _ hc)) (fun c hc => by
      rcases List.mem_cons.mp hc with z | z
      · rw [z]; exact hl p List.mem_cons_self
      · exact hS c (popW_mem z)) (by show (popW p S).length + 1 + l.length ≤ _; omega)
    refine ⟨y', ?_⟩
    rw [List.foldl_cons, ← e]
    show forM (.nm 2) b (ptD p :: ptsD l) _ = _
    conv => lhs; unfold forM
    have e1 : Tg.put (.nm 2) ⟨[.im x, .ow (stkD S), y], none⟩ (ptD p) = some (hfS x S p) := rfl
    rw [e1]
    dsimp only
    rw [t]
def hfR (b : DM) : Fn := mkFn 3 1 (mSeq (mSet 1 (xLst (aNil))) (mSeq (mFor (.nm 2) (xSeq (xVar 0)) b) (mRet (xSlice (xVar 1) .no (.ex (xUn hNeg (xC (.int 1))))))))
def fHalfC : Fn := hfR hfC
def fHalfA : Fn := hfR hfA
theorem hfR_ok {b : DM} {l : List Pt2} (hb : ∀ (S : List Pt2) (p : Pt2), Nr 1000000 p → (∀ c ∈ S, Nr 1000000 c) → S.length ≤ 900000 → b (hfS (.list (ptsD l)) S p) = .nx (hfS (.list (ptsD l)) (push S p) p)) (hl : ∀ c ∈ l, Nr 1000000 c) (n : l.length ≤ 900000) :
    hfR b [.im (.list (ptsD l))] none = .ok (.ow (ptsD (half l))) none := by
  obtain ⟨y, e⟩ := half_loop hb l [] .un hl (fun c hc => nomatch hc) (by simpa using n)
  have c : DL.cutD (stkD (l.foldl push [])) none (some (-1)) = ptsD (half l) := by
    show DL.cutD (stkD (chain l)) none (some (-1)) = ptsD (chain l).tail.reverse
    cases chain l with
    | nil => exact cut_nil
    | cons t S =>
      rw [show stkD (t :: S) = stkD S ++ [ptD t] from by simp [stkD, ptsD], cut_last]
      rfl
  have e0 : forM (.nm 2) b (ptsD l) ⟨[.im (.list (ptsD l)), .ow [], .un], none⟩ = .nx ⟨[.im (.list (ptsD l)), .ow (stkD (l.foldl push [])), y], none⟩ := e
  generalize stkD (l.foldl push []) = K at e0 c
  generalize ptsD l = L at e0 ⊢
  simp [hfR, mFor, xSeq, toSeq, e0, xSlice, SlP.k, hSl, c]
theorem halfC_ok {l : List Pt2} (hl : ∀ c ∈ l, Nr 1000000 c) (n : l.length ≤ 900000) : fHalfC [.im (.list (ptsD l))] none = .ok (.ow (ptsD (half l))) none := hfR_ok (fun S p h1 h2 h3 => hfC_turn h1 h2 h3) hl n
theorem halfA_ok {l : List Pt2} (hl : ∀ c ∈ l, Nr 1000000 c) (n : l.length ≤ 900000) : fHalfA [.im (.list (ptsD l))] none = .ok (.ow (ptsD (half l))) none := hfR_ok (fun S p h1 h2 h3 => hfA_turn h1 h2 h3) hl n
/-! points in order, each once -/
def rowP (p : Pt2) : List Int := [p.1, p.2]
def unrow (r : List Int) : Pt2 := (r.getD 0 0, r.getD 1 0)
theorem unrow_row (p : Pt2) : unrow (rowP p) = p := rfl
def psort (l : List Pt2) : List Pt2 := (usort (l.map rowP)).map unrow
theorem psort_rows (l : List Pt2) : (psort l).map rowP = usort (l.map rowP) := by
  unfold psort
  rw [List.map_map]
  have : ∀ r ∈ usort (l.map rowP), (rowP ∘ unrow) r = r := fun r hr => by
    obtain ⟨p, _, rfl⟩ := List.mem_map.mp (mem_usort.mp hr)
    rfl
  rw [List.map_congr_left this, List.map_id']
theorem mem_psort {l : List Pt2} {c : Pt2} : c ∈ psort l ↔ c ∈ l := by
  unfold psort
  rw [List.mem_map]
  constructor
  · rintro ⟨r, hr, rfl⟩
    obtain ⟨p, hp, rfl⟩ := List.mem_map.mp (mem_usort.mp hr)
    exact hp
  · exact fun h => ⟨rowP c, mem_usort.mpr (List.mem_map.mpr ⟨c, h, rfl⟩), rfl⟩
theorem lex_plt (a b : Pt2) : lexL (rowP a) (rowP b) = decide (plt a b) := by
  unfold rowP lexL lexL lexL plt
  rw [Bool.eq_iff_iff]
  simp
  exact decide_eq_true_iff.symm
theorem psort_asc (l : List Pt2) : (psort l).Pairwise plt := by
  have h := asc_usort (l.map rowP)
  rw [← psort_rows] at h
  exact (List.pairwise_map.mp h).imp fun {a b} k => by
    rw [lex_plt] at k
    exact of_decide_eq_true k
theorem rowsI_pts : ∀ l : List Pt2, rowsI (ptsD l) = some (l.map rowP)
  | [] => rfl
  | p :: l => by
    show (match rowI (ptD p), rowsI (ptsD l) with | some r, some rs => some (r :: rs) | _, _ => none) = _
    rw [rowsI_pts l]
    rfl
theorem okRows_pts {l : List Pt2} (h : l.length < 64) : okRows (l.map rowP) = true := by
  unfold okRows
  rw [Bool.and_eq_true, decide_eq_true_eq]
  refine ⟨by simpa using h, ?_⟩
  cases l with
  | nil => rfl
  | cons p l =>
    simp [rowP]
theorem rowD_pts (l : List Pt2) : (l.map rowP).map rowD = ptsD l := by
  rw [List.map_map]
  rfl
/-- sorted(set(x)) of points -/
theorem sset_pts {g : DX} {s s1 : Sd} {l : List Pt2} {rv : Rv} (h : g s = .ok rv s1) (hd : rv.d = .list (ptsD l)) (n : l.length < 64) : xSSet g s = .ok (.ow (ptsD (psort l))) s1 := by
  have key : (match rowsI (ptsD l) with | some rows => if okRows rows = true then R.ok (.ow ((usort rows).map rowD)) s1 else .bad | none => .bad) = R.ok (Rv.ow (ptsD (psort l))) s1 := by
    rw [rowsI_pts]
    dsimp only
    rw [if_pos (okRows_pts n), ← psort_rows, rowD_pts]
  unfold xSSet
  cases rv with
  | im d =>
    have hd : d = .list (ptsD l) := hd
    subst hd
    simp only [bindD, h]
    exact key
  | ow ds =>
    have hd : PyData.list ds = .list (ptsD l) := hd
    cases hd
    simp only [bindD, h]
    exact key
theorem psort_len (l : List Pt2) : (psort l).length ≤ l.length := by
  have nd : (psort l).Nodup := (psort_asc l).imp fun {a b} h => plt_ne h
  exact nd.length_le_of_subset fun c hc => mem_psort.mp hc
def fHull (h : Fn) : Fn := mkFn 2 1 (mSeq (mSet 1 (xSSet (xVar 0))) (mRet (xIf (xBin hLt (xCall hLen (aCons (xVar 1) (aNil))) (xC (.int 3))) (xVar 1) (xBin hAdd (xUser h 1 (uCons (xVar 1) (uNil))) (xUser h 1 (uCons (xRev (xVar 1)) (uNil)))))))
theorem hull_ok {h : Fn} {l : List Pt2} (hh : ∀ m : List Pt2, (∀ c ∈ m, Nr 1000000 c) → m.length ≤ 900000 → h [.im (.list (ptsD m))] none = .ok (.ow (ptsD (half m))) none) (hl : ∀ c ∈ l, Nr 1000000 c) (n : l.length < 64) :
    ∃ rv, fHull h [.im (.list (ptsD l))] none = .ok rv none ∧ rv.d = .list (ptsD (ringP (psort l))) := by
  have ss := sset_pts (g := xVar 0) (s := ⟨[.im (.list (ptsD l)), .un], none⟩) (s1 := ⟨[.im (.list (ptsD l)), .un], none⟩) (rv := .im (.list (ptsD l))) (by simp) rfl n
  have pl := psort_len l
  have hm : ∀ c ∈ psort l, Nr 1000000 c := fun c hc => hl c (mem_psort.mp hc)
  have h1 := hh (psort l) hm (by omega)
  have h2 := hh (psort l).reverse (fun c hc => hm c (List.mem_reverse.mp hc)) (by rw [List.length_reverse]; omega)
  unfold ringP
  have le : ((ptsD (psort l)).length : Int) = (psort l).length := by simp [ptsD]
  by_cases z : (psort l).length < 3
  · rw [if_pos z]
    have z' : decide (((psort l).length : Int) < 3) = true := by rw [decide_eq_true_eq]; omega
    refine ⟨.im (.list (ptsD (psort l))), ?_, rfl⟩
    simp [fHull, ↓ss, hLt_i, -hI2, z']
  · rw [if_neg z]
    have z' : decide (((psort l).length : Int) < 3) = false := by rw [decide_eq_false_iff_not]; omega
    have hh2 : ∀ m : List Pt2, (half m).length ≤ m.length := fun m => by
      have : ∀ (k S : List Pt2), (k.foldl push S).length ≤ S.length + k.length := by
        intro k
        induction k with
        | nil => intro S; simp
        | cons p k ih =>
          intro S
          have i := ih (push S p)
          have := popW_len p S
          have e : (push S p).length = (popW p S).length + 1 := rfl
          rw [List.foldl_cons, List.length_cons]
          omega
      have := this m []
      unfold half chain
      simp at *
      omega
    have l1 := hh2 (psort l)
    have l2 := hh2 (psort l).reverse
    rw [List.length_reverse] at l2
    have sz : (ptsD (half (psort l))).length + (ptsD (half (psort l).reverse)).length ≤ 1000000 := by
      simp [ptsD]; omega
    have rv : (ptsD (psort l)).reverse = ptsD (psort l).reverse := by simp [ptsD]
    have aa := hAdd_l sz
    refine ⟨.ow (ptsD (half (psort l) ++ half (psort l).reverse)), ?_, rfl⟩
    rw [show ptsD (half (psort l) ++ half (psort l).reverse) = ptsD (half (psort l)) ++ ptsD (half (psort l).reverse) from by simp [ptsD]]
    generalize hA : ptsD (half (psort l)) = A at *
    generalize hB : ptsD (half (psort l).reverse) = B at *
    generalize hP : ptsD (psort l).reverse = P at *
    generalize hQ : ptsD (psort l) = Q at *
    simp [fHull, ↓ss, hLt_i, -hI2, le, z', h1, xRev, rv, h2, aa]
end DL

set_option Elab.async false
set_option linter.all false
set_option autoImplicit false
set_option maxRecDepth 100000
set_option maxHeartbeats 1000000
/-! DL33: figures: what is judged to be one. -/
namespace DL
open PySem PyProof.Rows L2
open PySem.W (dataLt dataLe alike minD maxD)
theorem lt_pt (a b : Pt2) : dataLt (ptD a) (ptD b) = decide (plt a b) := by
  have h := lt_rows (rowP a) (rowP b)
  rw [lex_plt] at h
  exact h
theorem al_pt (a b : Pt2) : alike (ptD a) (ptD b) = true := by
  unfold alike
  exact alike_rows (xs := [a.1, a.2]) (ys := [b.1, b.2]) rfl
theorem pl_pt (a : Pt2) : Pl 1 (ptD a) := pl_T2 a.1 a.2
theorem pl_pts (l : List Pt2) : PlA 1 (ptsD l) := fun d hd => by
  obtain ⟨p, _, rfl⟩ := List.mem_map.mp hd
  exact pl_pt p
theorem eqv_pt (a b : Pt2) : PyData.eqv (ptD a) (ptD b) = decide (a = b) := by
  rw [show ptD a = T2 a.1 a.2 from rfl, show ptD b = T2 b.1 b.2 from rfl, eqv_T2]
  simp [Prod.ext_iff]
theorem eqv_pts : ∀ a b : List Pt2, PyData.eqvAll (ptsD a) (ptsD b) = decide (a = b)
  | [], [] => by unfold PyData.eqvAll; rfl
  | [], y :: ys => by
    show PyData.eqvAll [] (ptD y :: ptsD ys) = _
    unfold PyData.eqvAll
    rfl
  | x :: xs, [] => by
    show PyData.eqvAll (ptD x :: ptsD xs) [] = _
    unfold PyData.eqvAll
    rfl
  | x :: xs, y :: ys => by
    show PyData.eqvAll (ptD x :: ptsD xs) (ptD y :: ptsD ys) = _
    unfold PyData.eqvAll
    rw [eqv_pt, eqv_pts xs ys]
    simp
theorem hEq_pts (a b : List Pt2) : hEq (.list (ptsD a)) (.list (ptsD b)) = some (.im (.bool (decide (a = b)))) := by
  unfold hEq
  rw [if_pos ⟨(Pl.lst (pl_pts a)).shaped, (Pl.lst (pl_pts b)).shaped⟩]
  unfold PyData.eqv
  rw [eqv_pts]
theorem dle_pt (a b : Pt2) : dataLe false (fun d => d) (ptD a) (ptD b) = !decide (plt b a) := by
  rw [← lt_pt]
  rfl
theorem dep_pts (l : List Pt2) : PyData.depthAll (ptsD l) ≤ 60 := by
  have := (plA_iff.mp (pl_pts l)).2
  omega
theorem srt_pts (l : List Pt2) : srtB (ptsD l) = true := by
  unfold srtB
  simp only [Bool.and_eq_true, Bool.or_eq_true, decide_eq_true_eq, List.all_eq_true]
  refine ⟨⟨⟨fun x hx y hy => ?_, .inl fun x hx => ?_⟩, (Pl.lst (pl_pts l)).shaped⟩, dep_pts l⟩
  · obtain ⟨p, _, rfl⟩ := List.mem_map.mp hx
    obtain ⟨q, _, rfl⟩ := List.mem_map.mp hy
    exact al_pt p q
  · obtain ⟨p, _, rfl⟩ := List.mem_map.mp hx
    rfl
theorem sort_asc {l : List Pt2} (h : l.Pairwise plt) : hSort [.list (ptsD l)] = some (.ow (ptsD l)) := by
  show (if srtB (ptsD l) = true then some (Rv.ow ((ptsD l).mergeSort (dataLe false fun d => d))) else none) = _
  rw [if_pos (srt_pts l)]
  have : (ptsD l).Pairwise (fun a b => dataLe false (fun d => d) a b = true) := by
    unfold ptsD
    rw [List.pairwise_map]
    refine h.imp fun {a b} k => ?_
    rw [dle_pt]
    have : ¬ plt b a := fun z => plt_irr a (plt_tr k z)
    simp [this]
  rw [List.mergeSort_of_pairwise this]
theorem sort_dsc {a b : Pt2} (h : plt b a) : hSort [.list (ptsD [a, b])] = some (.ow (ptsD [b, a])) := by
  show (if srtB (ptsD [a, b]) = true then some (Rv.ow ((ptsD [a, b]).mergeSort (dataLe false fun d => d))) else none) = _
  rw [if_pos (srt_pts _)]
  have : dataLe false (fun d => d) (ptD a) (ptD b) = false := by rw [dle_pt]; simp [h]
  simp [ptsD, List.mergeSort, List.MergeSort.Internal.splitInTwo, List.merge, this]
theorem fold_min : ∀ (l : List Pt2) (a : Pt2), (∀ c ∈ l, c = a ∨ plt a c) → minD (ptD a) (ptsD l) = ptD a
  | [], a, _ => rfl
  | b :: l, a, h => by
    show minD (if dataLt (ptD b) (ptD a) = true then ptD b else ptD a) (ptsD l) = ptD a
    have : ¬ plt b a := by
      rcases h b List.mem_cons_self with z | z
      · rw [z]; exact plt_irr a
      · exact fun w => plt_irr a (plt_tr z w)
    rw [lt_pt, decide_eq_false this, if_neg (by decide)]
    exact fold_min l a fun c hc => h c (List.mem_cons_of_mem _ hc)
theorem hMin_pts {a : Pt2} {l : List Pt2} (h : ∀ c ∈ l, c = a ∨ plt a c) : hMinG [.list (ptsD (a :: l))] = some (.im (ptD a)) := by
  have al : alikeB (ptsD (a :: l)) = true := by
    unfold alikeB
    simp only [Bool.and_eq_true, decide_eq_true_eq, List.all_eq_true]
    refine ⟨⟨⟨fun x hx y hy => ?_, fun x hx => ?_⟩, (Pl.lst (pl_pts _)).shaped⟩, dep_pts _⟩
    · obtain ⟨p, _, rfl⟩ := List.mem_map.mp hx
      obtain ⟨q, _, rfl⟩ := List.mem_map.mp hy
      exact al_pt p q
    · obtain ⟨p, _, rfl⟩ := List.mem_map.mp hx
      rfl
  have e : hMinL [.list (ptsD (a :: l))] = none := rfl
  show orN hMinL (hBest minD) _ = _
  unfold orN
  rw [e]
  show (if alikeB (ptsD (a :: l)) = true then some (Rv.im (minD (ptD a) (ptsD l))) else none) = _
  rw [if_pos al, fold_min l a h]
/-- points of a figure -/
structure Fp (l : List Pt2) : Prop where
  one : 1 ≤ l.length
  most : l.length ≤ 12
  nd : l.Nodup
  near : ∀ c ∈ l, Nr 1000 c
/-- the corners of a polygon, in the order in which they stand -/
structure Rg (R : List Pt2) : Prop where
  hd : ∀ c ∈ R, c = R.getD 0 (0, 0) ∨ plt (R.getD 0 (0, 0)) c
  st : ∀ i, i < R.length → ∀ c ∈ R, c ≠ R.getD i (0, 0) → c ≠ R.getD ((i + 1) % R.length) (0, 0) → 0 < turn (R.getD i (0, 0)) (R.getD ((i + 1) % R.length) (0, 0)) c
def Fig (l : List Pt2) : Prop := Fp l ∧ (l.length < 3 → l.Pairwise plt) ∧ (3 ≤ l.length → Rg l)
theorem usort_len {l : List Pt2} (h : l.Nodup) : (usort (l.map rowP)).length = l.length := by
  have h1 := psort_len l
  have h2 : l.length ≤ (psort l).length := h.length_le_of_subset fun c hc => mem_psort.mpr hc
  have h3 : (usort (l.map rowP)).length = (psort l).length := by rw [← psort_rows, List.length_map]
  omega
def fAre : Fn := mkFn 2 1 (mSeq (mIf (xOr (xNot (xIsi (fun t => isTy t .list) (xVar 0))) (xNot (xChain hLe hLe (xC (.int 1)) (xCall hLen (aCons (xVar 0) (aNil))) (xC (.int 12))))) (mRet (xC (.bool false))) (mNil)) (mRet (xAnd (xBin hEq (xLc (.nm 1) (xSeq (xVar 0)) (some (xNot (xUser fPoint 1 (uCons (xVar 1) (uNil))))) (xVar 1) [1]) (xLst (aNil))) (xBin hEq (xLSet (xVar 0)) (xCall hLen (aCons (xVar 0) (aNil)))))))
def fCorners : Fn := mkFn 5 1 (mSeq (mIf (xBin hNe (xIxV 0 (xC (.int 0))) (xCall hMinG (aCons (xVar 0) (aNil)))) (mRet (xC (.bool false))) (mNil)) (mSeq (mFor (.tp [1, 2]) (xEnum (aCons (xVar 0) (aNil))) (mSeq (mSet 3 (xIxV 0 (xBin hMod (xBin hAdd (xVar 1) (xC (.int 1))) (xCall hLen (aCons (xVar 0) (aNil)))))) (mIf (xBin hNe (xLc (.nm 4) (xSeq (xVar 0)) (some (xAnd (xBin (hInT true) (xVar 4) (xTup (aCons (xVar 2) (aCons (xVar 3) (aNil))))) (xBin hLe (xUser fTurn 3 (uCons (xVar 2) (uCons (xVar 3) (uCons (xVar 4) (uNil))))) (xC (.int 0))))) (xVar 4) [4]) (xLst (aNil))) (mRet (xC (.bool false))) (mNil)))) (mRet (xC (.bool true)))))
def fFigure : Fn := mkFn 1 1 (mSeq (mIf (xNot (xUser fAre 1 (uCons (xVar 0) (uNil)))) (mRet (xC (.bool false))) (mNil)) (mRet (xIf (xBin hLt (xCall hLen (aCons (xVar 0) (aNil))) (xC (.int 3))) (xBin hEq (xVar 0) (xCall hSort (aCons (xVar 0) (aNil)))) (xUser fCorners 1 (uCons (xVar 0) (uNil))))))
def fPolygon : Fn := mkFn 1 1 (mRet (xAnd (xUser fFigure 1 (uCons (xVar 0) (uNil))) (xBin hGt (xCall hLen (aCons (xVar 0) (aNil))) (xC (.int 2)))))
def fChkFigure (C : Addr) : Fn := mkFn 1 1 (mIf (xNot (xUser fFigure 1 (uCons (xVar 0) (uNil)))) (mRaise C (xVar 0)) (mNil))
def fChkPolygon (C : Addr) : Fn := mkFn 1 1 (mIf (xNot (xUser fPolygon 1 (uCons (xVar 0) (uNil)))) (mRaise C (xVar 0)) (mNil))
theorem are_ok {l : List Pt2} (h : Fp l) : fAre [.im (.list (ptsD l))] none = .ok (.im (.bool true)) none := by
  have len : (ptsD l).length = l.length := List.length_map _
  have lc := xLc_flt (v := 1) (gi := xSeq (xVar 0)) (c := xNot (xUser fPoint 1 (uCons (xVar 1) (uNil)))) (s := ⟨[.im (.list (ptsD l)), .un], none⟩) (ds := ptsD l) (fun d => !pointD d) (by simp [xSeq]) rfl (by simp) (by have := h.most; omega)
        (fun d hd => by simp [point_ok (.inr (pl_pts l d hd))])
  have e := hEq_nil ((pl_pts l).filter (fun d => !pointD d))
  rw [filter_empty] at e
  have al : (ptsD l).all pointD = true := by
    rw [List.all_eq_true]
    intro d hd
    obtain ⟨p, hp, rfl⟩ := List.mem_map.mp hd
    have := h.near p hp
    unfold Nr at this
    simp [ptD, T2, pointD, nearD, this.1, this.2]
  rw [al] at e
  have ls : ∀ s : Sd, xLSet (fun s => .ok (.im (.list (ptsD l))) s) s = .ok (.im (.int (l.length : Nat))) s := fun s => by
    show (match rowsI (ptsD l) with | some rows => if okRows rows = true then R.ok (.im (.int ((usort rows).length : Nat))) s else .bad | none => .bad) = _
    rw [rowsI_pts]
    dsimp only
    rw [if_pos (okRows_pts (by have := h.most; omega)), usort_len h.nd]
  have ls2 : xLSet (xVar 0) ⟨[.im (.list (ptsD l)), .un], none⟩ = .ok (.im (.int (l.length : Nat))) ⟨[.im (.list (ptsD l)), .un], none⟩ := ls _
  have c1 : (1 : Int) ≤ (l.length : Nat) := by have := h.one; omega
  have c2 : ((l.length : Nat) : Int) ≤ 12 := by have := h.most; omega
  have e2 : hEq (.int (l.length : Nat)) (.int (l.length : Nat)) = some (.im (.bool true)) := by
    show some (Rv.im (.bool (decide ((l.length : Int) = l.length)))) = _
    simp
  generalize hD : ptsD l = D at *
  simp [fAre, -hI2, ↓lc, ls2, hLe_i, c1, c2, len, e, e2]
theorem get_pts {l : List Pt2} {i : Nat} (h : i < l.length) : (ptsD l)[i]? = some (ptD (l.getD i (0, 0))) := by
  unfold ptsD
  rw [List.getElem?_map, List.getElem?_eq_getElem h, Option.map_some, List.getD_eq_getElem?_getD, List.getElem?_eq_getElem h]
  rfl
theorem at_pts {l : List Pt2} {i : Nat} (h : i < l.length) : atI (ptsD l) (i : Int) = some (ptD (l.getD i (0, 0))) := atI_nat (get_pts h)
theorem getD_mem {l : List Pt2} {i : Nat} (h : i < l.length) : l.getD i (0, 0) ∈ l := by
  rw [List.getD_eq_getElem?_getD, List.getElem?_eq_getElem h]
  exact List.getElem_mem h
theorem hMod_nat {i n : Nat} (h : 0 < n) : hMod (.int ((i : Int) + 1)) (.int (n : Nat)) = some (.im (.int ((i + 1) % n : Nat))) := by
  rw [hMod_ne (by omega)]
  congr 3
theorem hInT_pt (a b c : Pt2) : hInT true (ptD c) (.tuple [ptD a, ptD b]) = some (.im (.bool (!(decide (a = c) || decide (b = c))))) := by
  show (if SeqAt.shaped (ptD c) = true ∧ SeqAt.shaped (.tuple [ptD a, ptD b]) = true then some (Rv.im (.bool (true ^^ [ptD a, ptD b].any fun z => PyData.eqv z (ptD c)))) else none) = _
  rw [if_pos ⟨(pl_pt c).shaped, (Pl.tup (n := 1) (pl_pts [a, b])).shaped⟩]
  simp [List.any_cons, eqv_pt]
def ofPt : PyData → Pt2
  | .tuple [.int a, .int b] => (a, b)
  | _ => (0, 0)
theorem ofPt_pt (p : Pt2) : ofPt (ptD p) = p := rfl
def crB : DM := mSeq (mSet 3 (xIxV 0 (xBin hMod (xBin hAdd (xVar 1) (xC (.int 1))) (xCall hLen (aCons (xVar 0) (aNil)))))) (mIf (xBin hNe (xLc (.nm 4) (xSeq (xVar 0)) (some (xAnd (xBin (hInT true) (xVar 4) (xTup (aCons (xVar 2) (aCons (xVar 3) (aNil))))) (xBin hLe (xUser fTurn 3 (uCons (xVar 2) (uCons (xVar 3) (uCons (xVar 4) (uNil))))) (xC (.int 0))))) (xVar 4) [4]) (xLst (aNil))) (mRet (xC (.bool false))) (mNil))
theorem crB_ok {l : List Pt2} (h : Fp l) (r : Rg l) {i : Nat} (hi : i < l.length) (z : Sl) : crB ⟨[.im (.list (ptsD l)), .im (.int (i : Nat)), .im (ptD (l.getD i (0, 0))), z, .un], none⟩ = .nx ⟨[.im (.list (ptsD l)), .im (.int (i : Nat)), .im (ptD (l.getD i (0, 0))), .im (ptD (l.getD ((i + 1) % l.length) (0, 0))), .un], none⟩ := by
  have len : (ptsD l).length = l.length := List.length_map _
  have hm := hMod_nat (i := i) (n := l.length) (by have := h.one; omega)
  have hj : (i + 1) % l.length < l.length := Nat.mod_lt _ h.one
  have ha := at_pts hj
  have st := r.st i hi
  have ia := getD_mem hi
  have ja := getD_mem hj
  generalize hA : l.getD i (0, 0) = A at *
  generalize hB : l.getD ((i + 1) % l.length) (0, 0) = B at *
  have lc := xLc_flt (v := 4) (gi := xSeq (xVar 0)) (c := xAnd (xBin (hInT true) (xVar 4) (xTup (aCons (xVar 2) (aCons (xVar 3) (aNil))))) (xBin hLe (xUser fTurn 3 (uCons (xVar 2) (uCons (xVar 3) (uCons (xVar 4) (uNil))))) (xC (.int 0)))) (s := ⟨[.im (.list (ptsD l)), .im (.int (i : Nat)), .im (ptD A), .im (ptD B), .un], none⟩) (ds := ptsD l)
    (fun _ => false) (by simp [xSeq]) rfl (by simp) (by have := h.most; omega) (fun d hd => by
      obtain ⟨c, hc, rfl⟩ := List.mem_map.mp hd
      have near : ∀ q ∈ l, Nr 1000000 q := fun q hq => by
        have := h.near q hq
        unfold Nr at *
        omega
      have t := turn_ok (near A ia) (near B ja) (near c hc)
      have q := hInT_pt A B c
      by_cases z1 : c = A
      · have : decide (A = c) = true := by simp [z1]
        rw [this] at q
        simp [-hI2, q]
      · by_cases z2 : c = B
        · have : decide (B = c) = true := by simp [z2]
          rw [this, Bool.or_true] at q
          simp [-hI2, q]
        · have y1 : decide (A = c) = false := by simp; exact fun z => z1 z.symm
          have y2 : decide (B = c) = false := by simp; exact fun z => z2 z.symm
          rw [y1, y2] at q
          have := st c hc z1 z2
          have lt : ¬ turn A B c ≤ 0 := by omega
          simp [-hI2, q, t, hLe_i, lt])
  have e := hNe_nil (n := 1) (ds := []) PlA.nil
  have fl : (ptsD l).filter (fun _ => false) = [] := by simp
  rw [fl] at lc
  have len2 : ((ptsD l).length : Int) = (l.length : Nat) := by rw [len]
  have hi2 : hAdd (.int (i : Nat)) (.int 1) = some (.im (.int ((i : Int) + 1))) := rfl
  generalize hD : ptsD l = D at *
  generalize hK : (i + 1) % l.length = K at *
  simp [crB, -hI2, ↓lc, hi2, hm, len2, ha, e]
theorem corners_ok {l : List Pt2} (h : Fp l) (r : Rg l) : fCorners [.im (.list (ptsD l))] none = .ok (.im (.bool true)) none := by
  obtain ⟨a, l', rfl⟩ : ∃ a l', l = a :: l' := by
    cases l with
    | nil => have := h.one; simp at this
    | cons a l' => exact ⟨a, l', rfl⟩
  have mi := hMin_pts (a := a) (l := l') (fun c hc => by
    have := r.hd c (List.mem_cons_of_mem _ hc)
    exact this)
  have h0 : atI (ptsD (a :: l')) 0 = some (ptD a) := atI_nat (l := ptsD (a :: l')) (i := 0) rfl
  have ne := hNe_T2 a.1 a.2 a.1 a.2
  simp only [and_self, decide_true, Bool.not_true] at ne
  obtain ⟨s', e, y1, y2, y3, rfl⟩ := forM_inv (t := .tp [1, 2]) (b := crB) (fun s => ∃ y1 y2 y3, s = ⟨[.im (.list (ptsD (a :: l'))), y1, y2, y3, .un], none⟩) (l := enumD 0 (ptsD (a :: l'))) (s := ⟨[.im (.list (ptsD (a :: l'))), .un, .un, .un, .un], none⟩) ⟨_, _, _, rfl⟩ (fun v hv s ⟨y1, y2, y3, hs⟩ => by
    subst hs
    obtain ⟨i, hi⟩ := List.mem_iff_getElem?.mp hv
    obtain ⟨d, e1, rfl⟩ := enumD_get hi
    rw [Nat.zero_add]
    have il : i < (a :: l').length := by
      have := (List.getElem?_eq_some_iff.mp e1).1
      simpa [ptsD] using this
    have e2 := get_pts il
    rw [e1] at e2
    cases e2
    exact ⟨_, _, rfl, crB_ok h r il _, _, _, _, rfl⟩)
  have e' : DL.forM (.tp [1, 2]) (mSeq (mSet 3 (xIxV 0 (xBin hMod (xBin hAdd (xVar 1) (xC (.int 1))) (xCall hLen (aCons (xVar 0) (aNil)))))) (mIf (xBin hNe (xLc (.nm 4) (xSeq (xVar 0)) (some (xAnd (xBin (hInT true) (xVar 4) (xTup (aCons (xVar 2) (aCons (xVar 3) (aNil))))) (xBin hLe (xUser fTurn 3 (uCons (xVar 2) (uCons (xVar 3) (uCons (xVar 4) (uNil))))) (xC (.int 0))))) (xVar 4) [4]) (xLst (aNil))) (mRet (xC (.bool false))) (mNil))) (enumD 0 (ptsD (a :: l'))) ⟨[.im (.list (ptsD (a :: l'))), .un, .un, .un, .un], none⟩ = .nx _ := e
  generalize hD : ptsD (a :: l') = D at *
  simp [fCorners, -hI2, mi, h0, ne, mFor, xEnum, e']
theorem figure_ok {l : List Pt2} (h : Fig l) : fFigure [.im (.list (ptsD l))] none = .ok (.im (.bool true)) none := by
  have a := are_ok h.1
  have len : (ptsD l).length = l.length := List.length_map _
  by_cases z : l.length < 3
  · have s := sort_asc (h.2.1 z)
    have q := hEq_pts l l
    rw [show decide (l = l) = true from by simp] at q
    have z' : decide (((ptsD l).length : Int) < 3) = true := by rw [len]; simp; omega
    generalize hD : ptsD l = D at *
    simp [fFigure, -hI2, a, hLt_i, z', s, q]
  · have c := corners_ok h.1 (h.2.2 (by omega))
    have z' : decide (((ptsD l).length : Int) < 3) = false := by rw [len]; simp; omega
    generalize hD : ptsD l = D at *
    simp [fFigure, -hI2, a, hLt_i, z', c]
theorem polygon_ok {l : List Pt2} (h : Fig l) (h3 : 3 ≤ l.length) : fPolygon [.im (.list (ptsD l))] none = .ok (.im (.bool true)) none := by
  have a := figure_ok h
  have len : (ptsD l).length = l.length := List.length_map _
  have z' : decide ((2 : Int) < ((ptsD l).length : Int)) = true := by rw [len]; simp; omega
  generalize hD : ptsD l = D at *
  simp [fPolygon, -hI2, a, hGt_i, z']
theorem chkFigure_ok {C : Addr} {l : List Pt2} (h : Fig l) : fChkFigure C [.im (.list (ptsD l))] none = .ok (.im .none) none := by
  have a := figure_ok h
  simp [fChkFigure, -hI2, a]
theorem chkPolygon_ok {C : Addr} {l : List Pt2} (h : Fig l) (h3 : 3 ≤ l.length) : fChkPolygon C [.im (.list (ptsD l))] none = .ok (.im .none) none := by
  have a := polygon_ok h h3
  simp [fChkPolygon, -hI2, a]
end DL

set_option Elab.async false
set_option linter.all false
set_option autoImplicit false
set_option maxRecDepth 100000
set_option maxHeartbeats 1000000
/-! DL34: drawing points, figures and polygons. -/
namespace DL
open PySem PyProof.Rows L2
/-- [e for x in V], e drawing -/
theorem lcM_draw {t : Tg} {e : DX} {vs : List Nat} {out σ0 : List Sl} (I : Nat → List Int → Prop) (P : PyData → Prop) : ∀ {l acc : List PyData} {k : Nat} {g : List Int},
    acc.length + l.length ≤ 1000000 → I k g →
    (∀ x ∈ l, ∀ j g, k ≤ j → j < k + l.length → I j g → ∃ s1 r s3 g', t.put ⟨σ0, some g⟩ x = some s1 ∧ e s1 = .ok (.im r) s3 ∧ P r ∧ I (j + 1) g' ∧ (⟨wipeD (afterV s1 (.im r) s3).σ vs, s3.g⟩ : Sd) = ⟨σ0, some g'⟩) →
    ∃ rs g', lcM t none e vs out l acc ⟨σ0, some g⟩ = .ok (.ow (acc ++ rs)) ⟨unw out σ0 vs, some g'⟩ ∧ rs.length = l.length ∧ (∀ r ∈ rs, P r) ∧ I (k + l.length) g'
  | [], acc, k, g, _, h, _ => ⟨[], g, by simp [lcM], rfl, by simp, h⟩
  | x :: l, acc, k, g, hl, h, q => by
    obtain ⟨s1, r, s3, g1, h1, h2, h3, h4, h5⟩ := q x List.mem_cons_self k g (Nat.le_refl _) (by rw [List.length_cons]; omega) h
    rw [List.length_cons] at hl
    obtain ⟨rs, g', e1, e2, e3, e4⟩ := lcM_draw (t := t) (e := e) (vs := vs) (out := out) (σ0 := σ0) I P (l := l) (acc := acc ++ [r]) (k := k + 1) (g := g1) (by rw [List.length_append, List.length_singleton]; omega) h4
      (fun y hy j g a1 a2 => q y (List.mem_cons_of_mem _ hy) j g (by omega) (by rw [List.length_cons]; omega))
    refine ⟨r :: rs, g', ?_, by simp [e2], ?_, by rw [List.length_cons, show k + (l.length + 1) = k + 1 + l.length from by omega]; exact e4⟩
    · unfold lcM
      rw [h1]
      dsimp only
      unfold lcT lcE
      dsimp only
      rw [h2]
      dsimp only
      rw [if_pos (by omega), h5]
      rw [show (Rv.im r).d = r from rfl, e1, List.append_assoc]
      rfl
    · intro z hz
      rcases List.mem_cons.mp hz with w | w
      · rw [w]; exact h3
      · exact e3 z w
theorem xLc_draw {v : Nat} {gi e : DX} {s0 : Sd} {σ : List Sl} {g : List Int} {ds : List PyData} (I : Nat → List Int → Prop) (P : PyData → Prop) (hg : gi s0 = .ok (.im (.list ds)) ⟨σ, some g⟩) (ho : okOut σ [v] = true) (hv : v < σ.length) (hl : ds.length ≤ 1000000) (h0 : I 0 g)
    (hc : ∀ x ∈ ds, ∀ j g, j < ds.length → I j g → ∃ r g', flat r = false ∧ e ⟨σ.set v (.im x), some g⟩ = .ok (.im r) ⟨σ.set v (.im x), some g'⟩ ∧ P r ∧ I (j + 1) g') :
    ∃ rs g', xLc (.nm v) gi none e [v] s0 = .ok (.ow rs) ⟨σ, some g'⟩ ∧ rs.length = ds.length ∧ (∀ r ∈ rs, P r) ∧ I ds.length g' := by
  obtain ⟨rs, g', e1, e2, e3, e4⟩ := lcM_draw (t := .nm v) (e := e) (vs := [v]) (out := σ) (σ0 := σ.set v .un) I P (l := ds) (acc := []) (k := 0) (g := g) (by simpa using hl) h0 (fun x hx j g _ a2 hI => by
    obtain ⟨r, g', f, h1, h2, h3⟩ := hc x hx j g (by simpa using a2) hI
    refine ⟨⟨σ.set v (.im x), some g⟩, r, ⟨σ.set v (.im x), some g'⟩, g', by simp [Tg.put, List.set_set], h1, h2, h3, ?_⟩
    unfold afterV
    rw [if_neg (by show ¬ flat r = true; rw [f]; decide)]
    simp [wipeD, List.set_set])
  rw [Nat.zero_add] at e4
  refine ⟨rs, g', ?_, e2, e3, e4⟩
  unfold xLc
  rw [hg]
  dsimp only
  rw [if_pos ho]
  rw [show (⟨wipeD σ [v], some g⟩ : Sd) = ⟨σ.set v .un, some g⟩ from rfl, e1, List.nil_append]
  have : unw σ (σ.set v .un) [v] = σ := by
    simp [unw, List.set_set, List.getElem?_eq_getElem hv]
  rw [this]
theorem pts_of {n : Nat} : ∀ {rs : List PyData}, (∀ r ∈ rs, ∃ p, r = ptD p ∧ Nr n p) → ∃ l, rs = ptsD l ∧ ∀ c ∈ l, Nr n c
  | [], _ => ⟨[], rfl, by simp⟩
  | r :: rs, h => by
    obtain ⟨p, e, hp⟩ := h r List.mem_cons_self
    obtain ⟨l, rfl, hl⟩ := pts_of (n := n) fun z hz => h z (List.mem_cons_of_mem _ hz)
    exact ⟨p :: l, by rw [e]; rfl, fun c hc => (List.mem_cons.mp hc).elim (fun w => w ▸ hp) (hl c)⟩
def spE : DX := xTup (aCons (xBin hSub (xUser fRandom 2 (uGen 0 (uCons (xBin hAdd (xBin hMul (xC (.int 2)) (xVar 2)) (xC (.int 1))) (uNil)))) (xVar 2)) (aCons (xBin hSub (xUser fRandom 2 (uGen 0 (uCons (xBin hAdd (xBin hMul (xC (.int 2)) (xVar 2)) (xC (.int 1))) (uNil)))) (xVar 2)) (aNil)))
def fSome : Fn := mkFn 4 2 (mSeq (mSet 2 (xUser fPick 2 (uGen 0 (uCons (xLst (aCons (xC (.int 1)) (aCons (xC (.int 2)) (aCons (xC (.int 3)) (aCons (xC (.int 6)) (aCons (xC (.int 12)) (aNil))))))) (uNil))))) (mRet (xLc (.nm 3) (xRng1 (aCons (xBin hAdd (xC (.int 1)) (xUser fRandom 2 (uGen 0 (uCons (xVar 1) (uNil))))) (aNil))) none spE [3])))
theorem some_ok {m n : Nat} {l : List Int} (m1 : 1 ≤ m) (m2 : m ≤ 12) (hn : n ≤ 900000000) (G : Gen n l) :
    ∃ ps l', fSome [.gn, .im (.int (m : Nat))] (some l) = .ok (.ow (ptsD ps)) (some l') ∧ 1 ≤ ps.length ∧ ps.length ≤ m ∧ (∀ c ∈ ps, Nr 12 c) ∧ Gen (n + 30) l' := by
  obtain ⟨d, l1, e1, hd, G1⟩ := pick_ok (ds := [.int 1, .int 2, .int 3, .int 6, .int 12]) (by simp) (by simp) (by omega) G
  obtain ⟨f, rfl, f1, f2⟩ : ∃ f : Nat, d = .int f ∧ 1 ≤ f ∧ f ≤ 12 := by
    simp only [List.mem_cons, List.not_mem_nil, or_false] at hd
    rcases hd with rfl | rfl | rfl | rfl | rfl
    · exact ⟨1, rfl, by decide, by decide⟩
    · exact ⟨2, rfl, by decide, by decide⟩
    · exact ⟨3, rfl, by decide, by decide⟩
    · exact ⟨6, rfl, by decide, by decide⟩
    · exact ⟨12, rfl, by decide, by decide⟩
  obtain ⟨r, l2, e2, r0, r1, G2⟩ := rand_ok (bound := (m : Int)) (by omega) (by omega) (by omega) G1
  obtain ⟨k, rfl⟩ : ∃ k : Nat, r = (k : Int) := ⟨r.toNat, by omega⟩
  have a1 : hAdd (.int 1) (.int (k : Int)) = some (.im (.int (1 + (k : Int)))) := rfl
  have q1 : -1000000 < 1 + (k : Int) ∧ 1 + (k : Int) < 1000000 := by omega
  have tn : (1 + (k : Int)).toNat = k + 1 := by omega
  obtain ⟨rs, l3, e3, n3, p3, G3⟩ := xLc_draw (v := 3) (gi := xRng1 (aCons (xBin hAdd (xC (.int 1)) (xUser fRandom 2 (uGen 0 (uCons (xVar 1) (uNil))))) (aNil))) (e := spE) (s0 := ⟨[.gn, .im (.int (m : Nat)), .im (.int f), .un], some l1⟩) (σ := [.gn, .im (.int (m : Nat)), .im (.int f), .un]) (g := l2) (ds := rngD 0 (k + 1))
    (fun j g => Gen (n + 2 + 2 * j) g) (fun d => ∃ p, d = ptD p ∧ Nr 12 p) (by simp [xRng1, -hI2, e2, a1, int1, q1, tn]) rfl (by simp) (by simp [rngD]; omega) G2 (fun x hx j g hj G => by
      rw [show (rngD 0 (k + 1)).length = k + 1 from by simp [rngD]] at hj
      have mm : hMul (.int 2) (.int (f : Nat)) = some (.im (.int (2 * (f : Int)))) := by
        have := hMul_bt (i := 2) (j := (f : Int)) (n := 5) (m := 5) (bt_le (m := 2) (by decide) (by decide)) (bt_le (m := 12) (by omega) (by decide)) (by decide)
        exact this
      have ma : hAdd (.int (2 * (f : Int))) (.int 1) = some (.im (.int (2 * (f : Int) + 1))) := rfl
      obtain ⟨x1, g1, u1, u2, u3, G1⟩ := rand_ok (bound := 2 * (f : Int) + 1) (by omega) (by omega) (by omega) G
      obtain ⟨x2, g2, v1, v2, v3, G2⟩ := rand_ok (bound := 2 * (f : Int) + 1) (by omega) (by omega) (by omega) G1
      refine ⟨ptD (x1 - f, x2 - f), g2, rfl, ?_, ⟨_, rfl, by unfold Nr; dsimp only; omega⟩, G2.up (by omega)⟩
      simp [spE, -hI2, mm, ma, u1, v1, hSub_i])
  obtain ⟨ps, rfl, hp⟩ := pts_of p3
  have n4 : ps.length = k + 1 := by simpa [ptsD, rngD] using n3
  refine ⟨ps, l3, ?_, by omega, by omega, hp, G3.up (by simp [rngD]; omega)⟩
  simp [fSome, -hI2, e1, ↓e3]
/-- what a hull of drawn points is -/
theorem ring_len {l : List Pt2} (n : l ≠ []) : 1 ≤ (ringP (psort l)).length ∧ (∀ c ∈ ringP (psort l), c ∈ l) ∧ (ringP (psort l)).Nodup := by
  have ne : 1 ≤ (psort l).length := by
    obtain ⟨a, ha⟩ := List.exists_mem_of_ne_nil l n
    exact List.length_pos_iff.mpr (List.ne_nil_of_mem (mem_psort.mpr ha))
  unfold ringP
  by_cases z : (psort l).length < 3
  · rw [if_pos z]
    exact ⟨ne, fun c hc => mem_psort.mp hc, (psort_asc l).imp fun {a b} h => plt_ne h⟩
  · rw [if_neg z]
    have r := ring_ok (l := psort l) (by omega) (psort_asc l)
    exact ⟨by have := r.two; omega, fun c hc => mem_psort.mp (r.sub c hc), r.nd⟩
theorem hull_fig {l : List Pt2} (n : l ≠ []) (n2 : l.length ≤ 12) (hl : ∀ c ∈ l, Nr 1000 c) : Fig (ringP (psort l)) := by
  obtain ⟨h1, h2, h3⟩ := ring_len n
  have h4 : (ringP (psort l)).length ≤ l.length := h3.length_le_of_subset h2
  refine ⟨⟨h1, by omega, h3, fun c hc => hl c (h2 c hc)⟩, fun z => ?_, fun z => ?_⟩
  · unfold ringP at *
    by_cases y : (psort l).length < 3
    · rw [if_pos y]
      exact psort_asc l
    · rw [if_neg y] at *
      have r := ring_ok (l := psort l) (by omega) (psort_asc l)
      generalize half (psort l) ++ half (psort l).reverse = R at *
      match R, r with
      | [], r => have := r.two; simp at this
      | [_], r => have := r.two; simp at this
      | [a, b], r =>
        have : a = a → b ≠ a := fun _ e => by have := r.nd; simp [e] at this
        have q := (r.hd b (r.sub b (by simp))).resolve_left (by simpa using this rfl)
        simpa using q
      | _ :: _ :: _ :: _, _ => simp at z; omega
  · unfold ringP at *
    by_cases y : (psort l).length < 3
    · rw [if_pos y] at z; omega
    · rw [if_neg y] at *
      have r := ring_ok (l := psort l) (by omega) (psort_asc l)
      exact ⟨fun c hc => r.hd c (r.sub c hc), r.st⟩
def fFigD (h : Fn) : Fn := mkFn 1 1 (mRet (xUser (fHull h) 1 (uCons (xUser fSome 2 (uGen 0 (uCons (xC (.int 7)) (uNil)))) (uNil))))
def fPolyD (h : Fn) : Fn := mkFn 2 1 (mSeq (mSet 1 (xUser (fHull h) 1 (uCons (xUser fSome 2 (uGen 0 (uCons (xC (.int 8)) (uNil)))) (uNil)))) (mRet (xIf (xBin hGt (xCall hLen (aCons (xVar 1) (aNil))) (xC (.int 2))) (xVar 1) (xLst (aCons (xTup (aCons (xC (.int 0)) (aCons (xC (.int 0)) (aNil)))) (aCons (xTup (aCons (xBin hAdd (xC (.int 1)) (xUser fRandom 2 (uGen 0 (uCons (xC (.int 4)) (uNil))))) (aCons (xC (.int 0)) (aNil)))) (aCons (xTup (aCons (xUser fRandom 2 (uGen 0 (uCons (xC (.int 3)) (uNil)))) (aCons (xBin hAdd (xC (.int 1)) (xUser fRandom 2 (uGen 0 (uCons (xC (.int 4)) (uNil))))) (aNil)))) (aNil))))))))
/-- half of a hull -/
def Hf (h : Fn) : Prop := ∀ m : List Pt2, (∀ c ∈ m, Nr 1000000 c) → m.length ≤ 900000 → h [.im (.list (ptsD m))] none = .ok (.ow (ptsD (half m))) none
theorem hf_c : Hf fHalfC := fun m h1 h2 => halfC_ok h1 h2
theorem hf_a : Hf fHalfA := fun m h1 h2 => halfA_ok h1 h2
theorem nr_up {m n : Nat} {c : Pt2} (h : Nr m c) (l : m ≤ n) : Nr n c := ⟨Nat.le_trans h.1 l, Nat.le_trans h.2 l⟩
/-- a figure drawn -/
structure Dr (l : List Pt2) : Prop where
  f : Fig l
  s : ∀ c ∈ l, Nr 12 c
theorem figD_ok {h : Fn} (H : Hf h) {n : Nat} {l : List Int} (hn : n ≤ 900000000) (G : Gen n l) : ∃ rv ps l', fFigD h [.gn] (some l) = .ok rv (some l') ∧ rv.d = .list (ptsD ps) ∧ Dr ps ∧ Gen (n + 40) l' := by
  obtain ⟨ps, l1, e1, n1, n2, hp, G1⟩ := some_ok (m := 7) (by decide) (by decide) hn G
  have e1 : fSome [.gn, .im (.int 7)] (some l) = .ok (.ow (ptsD ps)) (some l1) := e1
  obtain ⟨rv, e2, hd⟩ := hull_ok H (fun c hc => nr_up (hp c hc) (by decide)) (by omega : ps.length < 64)
  have ne : ps ≠ [] := fun z => by rw [z] at n1; simp at n1
  refine ⟨rv, _, l1, ?_, hd, ⟨hull_fig ne (by omega) (fun c hc => nr_up (hp c hc) (by decide)), fun c hc => hp c ((ring_len ne).2.1 c hc)⟩, G1.up (by omega)⟩
  simp [fFigD, -hI2, e1, e2]
end DL
namespace DL
open PySem PyProof.Rows L2
theorem tri_fig {u v w : Int} (hu : 1 ≤ u) (hv : 0 ≤ v) (hw : 1 ≤ w) (u2 : u ≤ 12) (v2 : v ≤ 12) (w2 : w ≤ 12) : Dr [(0, 0), (u, 0), (v, w)] := by
  have near : ∀ c ∈ [((0 : Int), (0 : Int)), (u, 0), (v, w)], Nr 12 c := fun c hc => by
    simp only [List.mem_cons, List.not_mem_nil, or_false] at hc
    rcases hc with rfl | rfl | rfl <;> (unfold Nr; dsimp only; omega)
  have pos : 0 < turn (0, 0) (u, 0) (v, w) := by
    have : turn (0, 0) (u, 0) (v, w) = u * w := by unfold turn; dsimp only; grind
    rw [this]
    exact Int.mul_pos (by omega) (by omega)
  have p2 : 0 < turn (u, 0) (v, w) (0, 0) := by rw [← turn_cyc]; exact pos
  have p3 : 0 < turn (v, w) (0, 0) (u, 0) := by rw [← turn_cyc]; exact p2
  refine ⟨⟨⟨by simp, by simp, ?_, fun c hc => nr_up (near c hc) (by decide)⟩, fun z => by simp at z, fun _ => ⟨fun c hc => ?_, fun i hi c hc h1 h2 => ?_⟩⟩, near⟩
  · simp [Prod.ext_iff]
    omega
  · simp only [List.mem_cons, List.not_mem_nil, or_false] at hc
    rcases hc with rfl | rfl | rfl
    · exact .inl rfl
    · refine .inr (.inl ?_)
      show 0 < u
      omega
    · refine .inr ?_
      show 0 < v ∨ (0 = v ∧ 0 < w)
      omega
  · simp only [List.mem_cons, List.not_mem_nil, or_false] at hc
    have hi : i < 3 := hi
    obtain rfl | rfl | rfl : i = 0 ∨ i = 1 ∨ i = 2 := by omega
    · rcases hc with rfl | rfl | rfl
      · exact absurd rfl h1
      · exact absurd rfl h2
      · exact pos
    · rcases hc with rfl | rfl | rfl
      · exact p2
      · exact absurd rfl h1
      · exact absurd rfl h2
    · have e : (2 + 1) % [((0 : Int), (0 : Int)), (u, 0), (v, w)].length = 0 := by simp
      rw [e] at h2 ⊢
      rcases hc with rfl | rfl | rfl
      · exact absurd rfl h2
      · exact p3
      · exact absurd rfl h1
theorem polyD_ok {h : Fn} (H : Hf h) {n : Nat} {l : List Int} (hn : n ≤ 900000000) (G : Gen n l) : ∃ rv ps l', fPolyD h [.gn] (some l) = .ok rv (some l') ∧ rv.d = .list (ptsD ps) ∧ Dr ps ∧ 3 ≤ ps.length ∧ Gen (n + 40) l' := by
  obtain ⟨ps, l1, e1, n1, n2, hp, G1⟩ := some_ok (m := 8) (by decide) (by decide) hn G
  have e1 : fSome [.gn, .im (.int 8)] (some l) = .ok (.ow (ptsD ps)) (some l1) := e1
  obtain ⟨rv, e2, hd⟩ := hull_ok H (fun c hc => nr_up (hp c hc) (by decide)) (by omega : ps.length < 64)
  have ne : ps ≠ [] := fun z => by rw [z] at n1; simp at n1
  have dr : Dr (ringP (psort ps)) := ⟨hull_fig ne (by omega) (fun c hc => nr_up (hp c hc) (by decide)), fun c hc => hp c ((ring_len ne).2.1 c hc)⟩
  generalize ringP (psort ps) = R at *
  have len : (ptsD R).length = R.length := List.length_map _
  by_cases z : 3 ≤ R.length
  · have z' : decide ((2 : Int) < ((ptsD R).length : Int)) = true := by rw [len]; simp; omega
    refine ⟨.im (.list (ptsD R)), R, l1, ?_, rfl, dr, z, G1.up (by omega)⟩
    cases rv with
    | im d =>
      have hd : d = .list (ptsD R) := hd
      subst hd
      generalize hD : ptsD R = D at *
      simp [fPolyD, -hI2, e1, e2, hGt_i, z']
    | ow ds =>
      have hd : PyData.list ds = .list (ptsD R) := hd
      cases hd
      generalize hD : ptsD R = D at *
      simp [fPolyD, -hI2, e1, e2, hGt_i, z']
  · have z' : decide ((2 : Int) < ((ptsD R).length : Int)) = false := by rw [len]; simp; omega
    obtain ⟨x1, l2, u1, u2, u3, G2⟩ := rand_ok (bound := 4) (by omega) (by omega) (by omega) G1
    obtain ⟨x2, l3, v1, v2, v3, G3⟩ := rand_ok (bound := 3) (by omega) (by omega) (by omega) G2
    obtain ⟨x3, l4, w1, w2, w3, G4⟩ := rand_ok (bound := 4) (by omega) (by omega) (by omega) G3
    have a1 : hAdd (.int 1) (.int x1) = some (.im (.int (1 + x1))) := rfl
    have a3 : hAdd (.int 1) (.int x3) = some (.im (.int (1 + x3))) := rfl
    refine ⟨.ow (ptsD [(0, 0), (1 + x1, 0), (x2, 1 + x3)]), _, l4, ?_, rfl, tri_fig (by omega) (by omega) (by omega) (by omega) (by omega) (by omega), by simp, G4.up (by omega)⟩
    cases rv with
    | im d =>
      have hd : d = .list (ptsD R) := hd
      subst hd
      generalize hD : ptsD R = D at *
      simp [fPolyD, -hI2, e1, e2, hGt_i, z', u1, v1, w1, a1, a3]
    | ow ds =>
      have hd : PyData.list ds = .list (ptsD R) := hd
      cases hd
      generalize hD : ptsD R = D at *
      simp [fPolyD, -hI2, e1, e2, hGt_i, z', u1, v1, w1, a1, a3]
end DL

set_option Elab.async false
set_option linter.all false
set_option autoImplicit false
set_option maxRecDepth 100000
set_option maxHeartbeats 1000000
/-! DL35: sums around a ring, turns of a ring, texts of points, the greatest of some. -/
namespace DL
open PySem PyProof.Rows L2
def sumI (h : Nat → Int) : Nat → Int
  | 0 => 0
  | k + 1 => sumI h k + h k
theorem sumI_congr {f g : Nat → Int} : ∀ {n : Nat}, (∀ j, j < n → f j = g j) → sumI f n = sumI g n
  | 0, _ => rfl
  | n + 1, h => by
    unfold sumI
    rw [sumI_congr (n := n) fun j hj => h j (by omega), h n (by omega)]
theorem sumI_shift (h : Nat → Int) : ∀ n, sumI (fun j => h (j + 1)) n = sumI h n + h n - h 0
  | 0 => by unfold sumI; omega
  | n + 1 => by
    have := sumI_shift h n
    unfold sumI
    omega
theorem sumI_rot (g : Nat → Int) {n : Nat} (hn : 0 < n) : ∀ s, sumI (fun j => g ((j + s) % n)) n = sumI g n
  | 0 => sumI_congr fun j hj => by rw [Nat.add_zero, Nat.mod_eq_of_lt hj]
  | s + 1 => by
    have h := sumI_shift (fun j => g ((j + s) % n)) n
    rw [sumI_rot g hn s] at h
    have e : (n + s) % n = (0 + s) % n := by rw [Nat.add_mod_left, Nat.zero_add]
    rw [e] at h
    rw [show (fun j => g ((j + (s + 1)) % n)) = fun j => g ((j + 1 + s) % n) from by funext j; rw [show j + (s + 1) = j + 1 + s from by omega]]
    omega
theorem sumI_le {f : Nat → Int} {B : Nat} : ∀ {n : Nat}, (∀ j, j < n → (f j).natAbs ≤ B) → (sumI f n).natAbs ≤ n * B
  | 0, _ => by simp [sumI]
  | n + 1, h => by
    have h1 := sumI_le (n := n) fun j hj => h j (by omega)
    have h2 := h n (by omega)
    unfold sumI
    rw [Nat.add_mul]
    omega
theorem sumI_ge {f : Nat → Int} : ∀ {n : Nat}, (∀ j, j < n → 0 < f j) → (n : Int) ≤ sumI f n
  | 0, _ => by simp [sumI]
  | n + 1, h => by
    have h1 := sumI_ge (n := n) fun j hj => h j (by omega)
    have h2 := h n (by omega)
    unfold sumI
    omega
abbrev gp (R : List Pt2) (i : Nat) : Pt2 := R.getD i (0, 0)
/-- a fan from the first one, k parts -/
def fan (f : Pt2 → Pt2 → Pt2 → Int) (R : List Pt2) (k : Nat) : Int := sumI (fun j => f (gp R 0) (gp R (j + 1)) (gp R (j + 2))) k
theorem fan_edge {f : Pt2 → Pt2 → Pt2 → Int} {m : Pt2 → Pt2 → Int} (hf : ∀ a b c, f a b c = m a b + m b c + m c a) (hm : ∀ a b, m a b = - m b a) (R : List Pt2) : ∀ k, fan f R k = sumI (fun j => m (gp R j) (gp R (j + 1))) (k + 1) + m (gp R (k + 1)) (gp R 0)
  | 0 => by
    have := hm (gp R 0) (gp R (0 + 1))
    unfold fan sumI
    unfold sumI
    omega
  | k + 1 => by
    have h1 := fan_edge hf hm R k
    have h2 := hf (gp R 0) (gp R (k + 1)) (gp R (k + 2))
    have h3 := hm (gp R 0) (gp R (k + 1))
    have e : fan f R (k + 1) = fan f R k + f (gp R 0) (gp R (k + 1)) (gp R (k + 2)) := rfl
    rw [e]
    have e2 : sumI (fun j => m (gp R j) (gp R (j + 1))) (k + 1 + 1) = sumI (fun j => m (gp R j) (gp R (j + 1))) (k + 1) + m (gp R (k + 1)) (gp R (k + 2)) := rfl
    rw [e2]
    show _ = _ + m (gp R (k + 2)) (gp R 0)
    omega
theorem fan_cyc {f : Pt2 → Pt2 → Pt2 → Int} {m : Pt2 → Pt2 → Int} (hf : ∀ a b c, f a b c = m a b + m b c + m c a) (hm : ∀ a b, m a b = - m b a) (R : List Pt2) {n : Nat} (hn : 2 ≤ n) : fan f R (n - 2) = sumI (fun j => m (gp R j) (gp R ((j + 1) % n))) n := by
  obtain ⟨k, rfl⟩ : ∃ k, n = k + 2 := ⟨n - 2, by omega⟩
  rw [show k + 2 - 2 = k from rfl, fan_edge hf hm]
  have e : sumI (fun j => m (gp R j) (gp R ((j + 1) % (k + 2)))) (k + 2) = sumI (fun j => m (gp R j) (gp R ((j + 1) % (k + 2)))) (k + 1) + m (gp R (k + 1)) (gp R ((k + 1 + 1) % (k + 2))) := rfl
  rw [e, show (k + 1 + 1) % (k + 2) = 0 from Nat.mod_self _]
  congr 1
  exact sumI_congr fun j hj => by rw [Nat.mod_eq_of_lt (by omega)]
theorem fan_rot {f : Pt2 → Pt2 → Pt2 → Int} {m : Pt2 → Pt2 → Int} (hf : ∀ a b c, f a b c = m a b + m b c + m c a) (hm : ∀ a b, m a b = - m b a) {R R' : List Pt2} {n s : Nat} (hn : 2 ≤ n) (h : ∀ j, j < n → gp R' j = gp R ((j + s) % n)) : fan f R' (n - 2) = fan f R (n - 2) := by
  rw [fan_cyc hf hm R' hn, fan_cyc hf hm R hn]
  rw [← sumI_rot (fun j => m (gp R j) (gp R ((j + 1) % n))) (by omega) s]
  refine sumI_congr fun j hj => ?_
  rw [h j hj, h _ (Nat.mod_lt _ (by omega))]
  congr 2
  rw [Nat.mod_add_mod, Nat.mod_add_mod]
  congr 1
  omega
def crs (p q : Pt2) : Int := p.1 * q.2 - p.2 * q.1
def mom0 (a b c : Pt2) : Int := turn a b c * (a.1 + b.1 + c.1)
def mom1 (a b c : Pt2) : Int := turn a b c * (a.2 + b.2 + c.2)
theorem area_rot {R R' : List Pt2} {n s : Nat} (hn : 2 ≤ n) (h : ∀ j, j < n → gp R' j = gp R ((j + s) % n)) : fan turn R' (n - 2) = fan turn R (n - 2) :=
  fan_rot (m := crs) (fun a b c => by unfold turn crs; grind) (fun a b => by unfold crs; grind) hn h
theorem mom0_rot {R R' : List Pt2} {n s : Nat} (hn : 2 ≤ n) (h : ∀ j, j < n → gp R' j = gp R ((j + s) % n)) : fan mom0 R' (n - 2) = fan mom0 R (n - 2) :=
  fan_rot (m := fun p q => crs p q * (p.1 + q.1)) (fun a b c => by unfold mom0 turn crs; grind) (fun a b => by unfold crs; grind) hn h
theorem mom1_rot {R R' : List Pt2} {n s : Nat} (hn : 2 ≤ n) (h : ∀ j, j < n → gp R' j = gp R ((j + s) % n)) : fan mom1 R' (n - 2) = fan mom1 R (n - 2) :=
  fan_rot (m := fun p q => crs p q * (p.2 + q.2)) (fun a b c => by unfold mom1 turn crs; grind) (fun a b => by unfold crs; grind) hn h
theorem gp_rot {R : List Pt2} {s : Nat} (hs : s < R.length) {j : Nat} (hj : j < R.length) : gp (R.drop s ++ R.take s) j = gp R ((j + s) % R.length) := by
  unfold gp
  rw [List.getD_eq_getElem?_getD, List.getD_eq_getElem?_getD]
  by_cases z : j < R.length - s
  · rw [List.getElem?_append_left (by rw [List.length_drop]; exact z), List.getElem?_drop, Nat.mod_eq_of_lt (by omega), Nat.add_comm]
  · rw [List.getElem?_append_right (by rw [List.length_drop]; omega), List.length_drop, List.getElem?_take_of_lt (by omega)]
    have : (j + s) % R.length = j - (R.length - s) := by
      rw [Nat.mod_eq_sub_mod (by omega), Nat.mod_eq_of_lt (by omega)]
      omega
    rw [this]
theorem gp_ne {R : List Pt2} (nd : R.Nodup) {i j : Nat} (hi : i < R.length) (hj : j < R.length) (h : i ≠ j) : gp R i ≠ gp R j := by
  unfold gp
  rw [List.getD_eq_getElem?_getD, List.getD_eq_getElem?_getD, List.getElem?_eq_getElem hi, List.getElem?_eq_getElem hj, Option.getD_some, Option.getD_some]
  intro e
  rcases Nat.lt_or_gt_of_ne h with z | z
  · exact List.pairwise_iff_getElem.mp nd i j hi hj z e
  · exact List.pairwise_iff_getElem.mp nd j i hj hi z e.symm
theorem edge_pos {R : List Pt2} (r : Rg R) (nd : R.Nodup) {i k : Nat} (hi : i + 1 < R.length) (hk : k < R.length) (h1 : k ≠ i) (h2 : k ≠ i + 1) : 0 < turn (gp R i) (gp R (i + 1)) (gp R k) := by
  have h := r.st i (by omega) (gp R k) (getD_mem hk) (gp_ne nd hk (by omega) h1)
  rw [Nat.mod_eq_of_lt hi] at h
  exact h (gp_ne nd hk hi h2)
theorem conv {R : List Pt2} (r : Rg R) (nd : R.Nodup) {i j : Nat} (ij : i < j) : ∀ {k : Nat}, j < k → k < R.length → 0 < turn (gp R i) (gp R j) (gp R k)
  | 0, h, _ => absurd h (Nat.not_lt_zero _)
  | k + 1, h, hk => by
    by_cases z : j = i + 1
    · subst z
      exact edge_pos r nd (by omega) hk (by omega) (by omega)
    · by_cases y : j = k
      · subst y
        have := edge_pos r nd (i := j) (k := i) hk (by omega) (by omega) (by omega)
        rw [turn_cyc]
        exact this
      · have h1 := conv r nd ij (k := k) (by omega) (by omega)
        have h2 := edge_pos r nd (i := k) (k := i) hk (by omega) (by omega) (by omega)
        rw [← turn_cyc] at h2
        have u1 := edge_pos r nd (i := i) (k := j) (by omega) (by omega) (by omega) (by omega)
        have u2 := edge_pos r nd (i := i) (k := k) (by omega) (by omega) (by omega) (by omega)
        have u3 := edge_pos r nd (i := i) (k := k + 1) (by omega) (by omega) (by omega) (by omega)
        generalize gp R i = a at *
        generalize gp R j = b at *
        generalize gp R k = c at *
        generalize gp R (k + 1) = d at *
        generalize gp R (i + 1) = e at *
        have id : turn a e c * turn a b d = turn a e b * turn a c d + turn a e d * turn a b c := by unfold turn; grind
        have p1 := Int.mul_pos u1 h2
        have p2 := Int.mul_pos u3 h1
        by_cases w : 0 < turn a b d
        · exact w
        · have := Int.mul_le_mul_of_nonneg_left (show turn a b d ≤ 0 by omega) (Int.le_of_lt u2)
          omega
/-! the greatest one -/
theorem pick_max {ls : List Int} (ne : ls ≠ []) : ∃ (m : Int) (j : Nat), j < ls.length ∧ hMaxG [.list (ls.map .int)] = some (.im (.int m)) ∧ hIdx (.list (ls.map .int)) (.int m) = some (.im (.int (j : Nat))) := by
  cases ls with
  | nil => exact absurd rfl ne
  | cons n l =>
    have mm : maxI n l ∈ n :: l := by
      rcases (maxI_mem l n).1 with h | h
      · rw [h]; exact List.mem_cons_self
      · exact List.mem_cons_of_mem _ h
    have e1 : hMaxL [.list ((n :: l).map .int)] = some (.im (.int (maxI n l))) := by
      show (match intsOf ((n :: l).map .int) with | some (n :: l) => some (Rv.im (.int (maxI n l))) | _ => none) = _
      rw [intsOf_map]
    have sh : SeqAt.shaped (.list ((n :: l).map .int)) = true := (Pl.lst (n := 0) (fun d hd => by
      obtain ⟨k, _, rfl⟩ := List.mem_map.mp hd
      exact .int _)).shaped
    cases e : ((n :: l).map PyData.int).findIdx? (fun z => PyData.eqv z (.int (maxI n l))) with
    | none =>
      rw [List.findIdx?_eq_none_iff] at e
      have := e (.int (maxI n l)) (List.mem_map.mpr ⟨_, mm, rfl⟩)
      rw [eqv_int] at this
      simp at this
    | some j =>
      have hj : j < ((n :: l).map PyData.int).length := (List.findIdx?_eq_some_iff_findIdx_eq.mp e).1
      refine ⟨maxI n l, j, by simpa using hj, ?_, ?_⟩
      · show orN hMaxL (hBest PySem.W.maxD) _ = _
        unfold orN
        rw [e1]
      · show (if SeqAt.shaped (.list ((n :: l).map .int)) = true ∧ SeqAt.shaped (.int (maxI n l)) = true then (((n :: l).map PyData.int).findIdx? fun z => PyData.eqv z (.int (maxI n l))).map fun j => Rv.im (.int j) else none) = _
        rw [if_pos ⟨sh, (Pl.int (n := 0) _).shaped⟩, e]
        rfl
/-! texts -/
theorem wt_pts : ∀ l : List Pt2, wtL (ptsD l) = l.length * 3851
  | [] => by simp [ptsD, wtL]
  | p :: l => by
    show wtL (ptD p :: ptsD l) = _
    unfold wtL
    rw [wt_pts l, List.length_cons]
    simp [ptD, T2, wt, wtL]
    omega
theorem sho_pts : ∀ l : List Pt2, shOkL (ptsD l) = true
  | [] => by simp [ptsD, shOkL]
  | p :: l => by
    show shOkL (ptD p :: ptsD l) = _
    unfold shOkL
    rw [sho_pts l]
    simp [ptD, T2, shOk, shOkL]
theorem nod_pts : ∀ l : List Pt2, PyData.hasDictAll (ptsD l) = false
  | [] => by simp [ptsD, PyData.hasDictAll]
  | p :: l => by
    show PyData.hasDictAll (ptD p :: ptsD l) = _
    unfold PyData.hasDictAll
    rw [nod_pts l]
    simp [ptD, T2, PyData.hasDict, PyData.hasDictAll]
theorem sha_pts : ∀ {l : List Pt2}, (∀ c ∈ l, Nr 1000000 c) → PyData.showableAll (ptsD l) = true
  | [], _ => by simp [ptsD, PyData.showableAll]
  | p :: l, h => by
    show PyData.showableAll (ptD p :: ptsD l) = _
    unfold PyData.showableAll
    have ih := sha_pts (l := l) fun c hc => h c (List.mem_cons_of_mem _ hc)
    rw [ih]
    obtain ⟨h1, h2⟩ := h p List.mem_cons_self
    have k1 := log_sm (sm_le h1)
    have k2 := log_sm (sm_le h2)
    simp [ptD, T2, PyData.showable, PyData.showableAll]
    omega
theorem shw_pts {l : List Pt2} (h : ∀ c ∈ l, Nr 1000000 c) (n : l.length ≤ 200) : Shw (.list (ptsD l)) := Shw.mk' (by simp [PyData.hasDict, nod_pts])
  (by rw [show PyData.showable (.list (ptsD l)) = PyData.showableAll (ptsD l) from by conv => lhs; unfold PyData.showable]; exact sha_pts h) (Nat.le_trans (Pl.lst (pl_pts l)).2 (by decide)) (by unfold shOk; exact sho_pts l) (by unfold wt; rw [wt_pts]; omega)
end DL

set_option Elab.async false
set_option linter.all false
set_option autoImplicit false
set_option maxRecDepth 100000
set_option maxHeartbeats 1000000
/-! DL36: loops by place, twice the area. -/
namespace DL
open PySem PyProof.Rows L2
theorem forM_idx {t : Tg} {b : DM} (I : Nat → Sd → Prop) : ∀ {l : List PyData} {k : Nat} {s : Sd}, I k s → (∀ j x s, l[j]? = some x → I (k + j) s → ∃ s1 s2, t.put s x = some s1 ∧ b s1 = .nx s2 ∧ I (k + j + 1) s2) → ∃ s', DL.forM t b l s = .nx s' ∧ I (k + l.length) s'
  | [], k, s, h, _ => ⟨s, rfl, h⟩
  | x :: l, k, s, h, q => by
    obtain ⟨s1, s2, h1, h2, h3⟩ := q 0 x s rfl h
    obtain ⟨s', h4, h5⟩ := forM_idx I (l := l) (k := k + 1) h3 fun j y s hy hs => by
      have := q (j + 1) y s (by simpa using hy) (by rw [show k + (j + 1) = k + 1 + j from by omega]; exact hs)
      rw [show k + (j + 1) + 1 = k + 1 + j + 1 from by omega] at this
      exact this
    refine ⟨s', ?_, by rw [List.length_cons]; rw [show k + (l.length + 1) = k + 1 + l.length from by omega]; exact h5⟩
    unfold DL.forM
    rw [h1]
    dsimp only
    rw [h2]
    exact h4
theorem rng_get {a : Int} {k j : Nat} {x : PyData} (h : (rngD a k)[j]? = some x) : j < k ∧ x = .int (a + (j : Int)) := by
  unfold rngD at h
  rw [List.getElem?_map] at h
  by_cases z : j < k
  · rw [List.getElem?_range z] at h
    cases h
    exact ⟨z, rfl⟩
  · rw [List.getElem?_eq_none (by simpa using z)] at h
    cases h
theorem rng_len (a : Int) (k : Nat) : (rngD a k).length = k := by simp [rngD]
theorem sum_ints (h : Nat → Int) : ∀ k, ((List.range k).map h).sum = sumI h k
  | 0 => rfl
  | k + 1 => by
    rw [List.range_succ, List.map_append, List.sum_append, sum_ints h k]
    show _ = sumI h k + h k
    simp
theorem hSum_map {l : List Int} : hSum [.list (l.map .int)] = some (.im (.int l.sum)) := by
  show (intsOf (l.map .int)).map (fun l => Rv.im (.int l.sum)) = _
  rw [intsOf_map]
  rfl
/-- a whole number that stands in data -/
def intD : PyData → Int
  | .int i => i
  | _ => 0
theorem rng_map {a : Int} {k : Nat} (f : Int → Int) : (rngD a k).map (fun d => PyData.int (f (intD d))) = ((List.range k).map fun j : Nat => f (a + (j : Int))).map PyData.int := by
  unfold rngD
  rw [List.map_map, List.map_map]
  rfl
def gi (R : List Pt2) (i : Int) : Pt2 := gp R i.toNat
theorem at_ptI {l : List Pt2} {i : Int} (h0 : 0 ≤ i) (h : i < l.length) : atI (ptsD l) i = some (ptD (gi l i)) := by
  obtain ⟨k, rfl⟩ : ∃ k : Nat, i = (k : Int) := ⟨i.toNat, by omega⟩
  exact at_pts (by omega)
theorem gi_mem {l : List Pt2} {i : Int} (h0 : 0 ≤ i) (h : i < l.length) : gi l i ∈ l := getD_mem (by omega)
theorem gi_nat (l : List Pt2) {i : Int} {k : Nat} (h : i = (k : Int)) : gi l i = gp l k := by
  subst h
  rfl
theorem area_sum (l : List Pt2) (k : Nat) : ((List.range k).map fun j : Nat => turn (gi l 0) (gi l (2 + (j : Int) - 1)) (gi l (2 + (j : Int)))).sum = fan turn l k := by
  rw [sum_ints]
  unfold fan
  refine sumI_congr fun j hj => ?_
  rw [gi_nat l (show (0 : Int) = ((0 : Nat) : Int) from rfl), gi_nat l (show 2 + (j : Int) - 1 = ((j + 1 : Nat) : Int) from by omega), gi_nat l (show 2 + (j : Int) = ((j + 2 : Nat) : Int) from by omega)]
theorem area_elt {l : List Pt2} (h3 : l.length ≤ 12) (hl : ∀ c ∈ l, Nr 1000000 c) {p : Int} (h1 : 2 ≤ p) (h2 : p < l.length) : xUser fTurn 3 (uCons (xIxV 0 (xC (.int 0))) (uCons (xIxV 0 (xBin hSub (xVar 1) (xC (.int 1)))) (uCons (xIxV 0 (xVar 1)) (uNil)))) ⟨[.im (.list (ptsD l)), .im (.int p)], none⟩ = .ok (.im (.int (turn (gi l 0) (gi l (p - 1)) (gi l p)))) ⟨[.im (.list (ptsD l)), .im (.int p)], none⟩ := by
  have a0 := at_ptI (l := l) (i := 0) (by omega) (by omega)
  have a1 := at_ptI (l := l) (i := p - 1) (by omega) (by omega)
  have a2 := at_ptI (l := l) (i := p) (by omega) (by omega)
  have t := turn_ok (hl _ (gi_mem (l := l) (i := 0) (by omega) (by omega))) (hl _ (gi_mem (l := l) (i := p - 1) (by omega) (by omega))) (hl _ (gi_mem (l := l) (i := p) (by omega) (by omega)))
  have s1 : hSub (.int p) (.int 1) = some (.im (.int (p - 1))) := rfl
  generalize p - 1 = q at *
  generalize ptsD l = D at *
  simp [-hI2, a0, a1, a2, s1, t]
theorem xRng2_ok {t : DA} {s s1 : Sd} {i j : Int} {n : Nat} (h : t s = .ok [.int i, .int j] s1) (hi : -1000000 < i ∧ i < 1000000) (hj : -1000000 < j ∧ j < 1000000) (e : (j - i).toNat = n) : xRng2 t s = .ok (.im (.list (rngD i n))) s1 := by
  unfold xRng2
  rw [h]
  subst e
  exact if_pos ⟨hi.1, hi.2, hj.1, hj.2⟩
theorem xRng1_ok {t : DA} {s s1 : Sd} {j : Int} {n : Nat} (h : t s = .ok [.int j] s1) (hj : -1000000 < j ∧ j < 1000000) (e : j.toNat = n) : xRng1 t s = .ok (.im (.list (rngD 0 n))) s1 := by
  unfold xRng1
  rw [h]
  subst e
  exact if_pos hj
theorem len_of {l : List Pt2} : ((ptsD l).length : Int) = (l.length : Int) := by simp [ptsD]
theorem area_rng {l : List Pt2} (h2 : 2 ≤ l.length) (h3 : l.length ≤ 12) : xRng2 (aCons (xC (.int 2)) (aCons (xCall hLen (aCons (xVar 0) (aNil))) (aNil))) ⟨[.im (.list (ptsD l)), .un], none⟩ = .ok (.im (.list (rngD 2 (l.length - 2)))) ⟨[.im (.list (ptsD l)), .un], none⟩ :=
  xRng2_ok (j := (l.length : Int)) (by
    have len := len_of (l := l)
    generalize ptsD l = D at *
    simp [len]) (by decide) (by omega) (by omega)
theorem area_lc {l : List Pt2} (h2 : 2 ≤ l.length) (h3 : l.length ≤ 12) (hl : ∀ c ∈ l, Nr 1000000 c) : xLc (.nm 1) (xRng2 (aCons (xC (.int 2)) (aCons (xCall hLen (aCons (xVar 0) (aNil))) (aNil)))) none (xUser fTurn 3 (uCons (xIxV 0 (xC (.int 0))) (uCons (xIxV 0 (xBin hSub (xVar 1) (xC (.int 1)))) (uCons (xIxV 0 (xVar 1)) (uNil))))) [1] ⟨[.im (.list (ptsD l)), .un], none⟩ = .ok (.ow ((rngD 2 (l.length - 2)).map (fun d => PyData.int (turn (gi l 0) (gi l (intD d - 1)) (gi l (intD d)))))) ⟨[.im (.list (ptsD l)), .un], none⟩ := by
  have hn : (rngD 2 (l.length - 2)).length ≤ 1000000 := by rw [rng_len]; exact Nat.le_trans (Nat.sub_le _ _) (Nat.le_trans h3 (by decide))
  have hc : ∀ d ∈ rngD 2 (l.length - 2), xUser fTurn 3 (uCons (xIxV 0 (xC (.int 0))) (uCons (xIxV 0 (xBin hSub (xVar 1) (xC (.int 1)))) (uCons (xIxV 0 (xVar 1)) (uNil)))) ⟨[.im (.list (ptsD l)), .im d], none⟩ = .ok (.im (.int (turn (gi l 0) (gi l (intD d - 1)) (gi l (intD d))))) ⟨[.im (.list (ptsD l)), .im d], none⟩ := fun d hd => by
    obtain ⟨j, hj⟩ := List.mem_iff_getElem?.mp hd
    obtain ⟨hj, rfl⟩ := rng_get hj
    rw [show intD (.int (2 + (j : Int))) = 2 + (j : Int) from rfl]
    exact area_elt h3 hl (by omega) (by omega)
  exact xLc_map (v := 1) (fun d => PyData.int (turn (gi l 0) (gi l (intD d - 1)) (gi l (intD d)))) (area_rng h2 h3) rfl (by simp) hn hc
def fSumOf (E : DX) : Fn := mkFn 2 1 (mRet (xCall hSum (aCons E (aNil))))
theorem sumof_ok {E : DX} {D L : List PyData} {S : Int} (lc : E ⟨[.im (.list D), .un], none⟩ = .ok (.ow L) ⟨[.im (.list D), .un], none⟩) (sm : hSum [.list L] = some (.im (.int S))) :
    fSumOf E [.im (.list D)] none = .ok (.im (.int S)) none := by
  unfold fSumOf
  simp [lc, sm]
def fAreaIn : Fn := fSumOf (xLc (.nm 1) (xRng2 (aCons (xC (.int 2)) (aCons (xCall hLen (aCons (xVar 0) (aNil))) (aNil)))) none (xUser fTurn 3 (uCons (xIxV 0 (xC (.int 0))) (uCons (xIxV 0 (xBin hSub (xVar 1) (xC (.int 1)))) (uCons (xIxV 0 (xVar 1)) (uNil))))) [1])
theorem area_lc2 {l : List Pt2} (k : Nat) : ((rngD 2 k).map (fun d => PyData.int (turn (gi l 0) (gi l (intD d - 1)) (gi l (intD d))))) = (((List.range k).map fun j : Nat => turn (gi l 0) (gi l (2 + (j : Int) - 1)) (gi l (2 + (j : Int))))).map PyData.int := rng_map (fun i => turn (gi l 0) (gi l (i - 1)) (gi l i))
theorem area_sm {l : List Pt2} (k : Nat) : hSum [.list ((rngD 2 k).map (fun d => PyData.int (turn (gi l 0) (gi l (intD d - 1)) (gi l (intD d)))))] = some (.im (.int (fan turn l k))) := by
  rw [area_lc2, hSum_map, area_sum]
theorem area_ok {l : List Pt2} (h2 : 2 ≤ l.length) (h3 : l.length ≤ 12) (hl : ∀ c ∈ l, Nr 1000000 c) : fAreaIn [.im (.list (ptsD l))] none = .ok (.im (.int (fan turn l (l.length - 2)))) none := sumof_ok (area_lc h2 h3 hl) (area_sm _)
end DL

set_option Elab.async false
set_option linter.all false
set_option autoImplicit false
set_option maxRecDepth 100000
set_option maxHeartbeats 1000000
/-! DL37: squares of numbers of any sign. -/
namespace DL
open PySem PyProof.Rows L2
def CSq (i j : Int) : Prop := j = 2 ∧ i.natAbs.log2 < 100000
theorem op_sq {X : Cx} : OpR X (binaryOp .Pow) (rI CSq fun i _ => .int (i * i)) := by
  rintro pins s σ H x y v u Q I rx ry ⟨i, j, rfl, rfl, ⟨rfl, h3⟩, q⟩
  obtain ⟨t, rfl⟩ := rx
  obtain ⟨t', rfl⟩ := ry
  by_cases z : i = 0 ∨ i = 1
  · refine PySem.AutoIntOps.pow_1 (by omega) (by decide) (by rcases z with rfl | rfl <;> decide) ⟨.int _, H, I.tok _, ⟨_, rfl⟩, ?_⟩
    rcases z with rfl | rfl <;> exact q
  · by_cases y : i = -1
    · subst y
      exact PySem.AutoIntOps.pow_2 (by omega) (by decide) (by decide) (by decide) ⟨.int _, H, I.tok _, ⟨_, rfl⟩, q⟩
    · have hb : Builtin.Int.intBits i = i.natAbs.log2 + 1 := by
        unfold Builtin.Int.intBits
        rw [if_neg (by simp; omega)]
      have e1 : (i == 0 || i == 1) = false := by simp; omega
      have e2 : (i == -1) = false := by simp; omega
      refine PySem.AutoIntOps.pow_4 (by omega) (by decide) (by rw [e1]; decide) (by rw [e2]; decide) ?_ ⟨.int _, H, I.tok _, ⟨_, rfl⟩, ?_⟩
      · intro z
        unfold Builtin.Int.intTooBig at z
        have z2 := of_decide_eq_true z
        have e : bitsLine = 134217728 := by decide
        rw [hb, e] at z2
        omega
      · have e : i ^ (2 : Int).toNat = i * i := by
          rw [show (2 : Int).toNat = 2 from rfl]
          grind
        rw [e]
        exact q
abbrev hSq := hI2 fun i j => if j = 2 ∧ i.natAbs.log2 < 100000 then some (.int (i * i)) else none
theorem o_sq {K : PySem.W.Frag} : Op2 K hSq (rI CSq fun i _ => .int (i * i)) := o_int fun i j d h => by
  split at h
  · rename_i c; cases h; exact ⟨c, fun _ => .int _⟩
  · cases h
theorem hSq_bt {n : Nat} {i : Int} (h : Bt n i) (l : n < 100000 := by decide) : hSq (.int i) (.int 2) = some (.im (.int (i * i))) := by
  show (if (2 : Int) = 2 ∧ i.natAbs.log2 < 100000 then some (PyData.int (i * i)) else none).map Rv.im = _
  rw [if_pos ⟨rfl, by have := h.log; omega⟩]
  rfl
end DL

set_option Elab.async false
set_option linter.all false
set_option autoImplicit false
set_option maxRecDepth 100000
set_option maxHeartbeats 1000000
/-! DL38: defs that call themselves (mirrors with fuel). -/
namespace DL
open PySem PyProof.Rows L2
/-- the mirror without fuel -/
abbrev fBad : Fn := fun _ _ => .bad
theorem fnG_bad {P : Program} {w : World} {K : PySem.W.Frag} {mg : Str → Option Value} {base : Heap} {T : List (Addr × Str)} {f : Addr} {fd : FuncData} {ps : List Str} {k n : Nat} (hn : ps.length = n) : FnG P w K mg base k f fd ps (spD K T fBad n) := by
  subst hn
  refine ⟨fun vs H Q E h => ?_, fun A outer s H args us vs Q E hr gd e0 hbd rv h => ?_⟩
  · obtain ⟨F, γ, as, g, _, _, _, r, hl, _⟩ := h
    rw [r.len]; exact hl
  · obtain ⟨F0, γ, as, g, _, _, _, _, _, _, _, A0⟩ := h
    exact A0.elim
end DL

set_option Elab.async false
set_option linter.all false
set_option autoImplicit false
set_option maxRecDepth 100000
set_option maxHeartbeats 1000000
/-! DL39: stores that thaw; a def that is handed a list as its own. -/
namespace DL
open PySem PyProof.Rows L2
def thw (l l1 : List Sl) : Bool := (List.range l.length).all fun j => match l[j]? with
  | some (.ow _) => (match l1[j]? with | some (.ow _) => true | some (.im (.list _)) => true | _ => false)
  | _ => true
@[simp] def mSetT (i : Nat) (g : DX) : DM := fun s => bindS (g s) fun rv s1 => match rv with
  | .im d => if flat d = true then .nx ⟨s.σ.set i (.im d), s1.g⟩ else .nx ⟨s1.σ.set i (.im d), s1.g⟩
  | .ow ds => if (ds.all flat && thw s.σ s1.σ) = true then .nx ⟨s.σ.set i (.ow ds), s1.g⟩ else .nx ⟨s1.σ.set i (.ow ds), s1.g⟩
section
variable {X : Cx} {B : Bas} {W : WX} {e : Expr} {es : List Expr} {pos : Pos} {gx : DX}
theorem thw_at {l l1 : List Sl} {j : Nat} {es : List PyData} (h : thw l l1 = true) (e : l[j]? = some (.ow es)) : (∃ es', l1[j]? = some (.ow es')) ∨ ∃ es', l1[j]? = some (.im (.list es')) := by
  unfold thw at h
  have hj : j < l.length := (List.getElem?_eq_some_iff.mp e).1
  have := List.all_eq_true.mp h j (List.mem_range.mpr hj)
  rw [e] at this
  dsimp only at this
  split at this
  · exact .inl ⟨_, by assumption⟩
  · exact .inr ⟨_, by assumption⟩
  · cases this
theorem set_conT {i : Nat} {D : Ends} {σ : L2.St} {H : Hp} (q : tS X.K B W (mSetT i gx) D σ H) : tAsg (tD X.K B W gx) (gName i) D σ H := by
  obtain ⟨γ, F, s, G, A⟩ := q
  refine (tD_bindS G A).mono fun x H1 ⟨F1, s1, rv, a1, p1, G1, r1, A1⟩ => ?_
  cases rv with
  | im d =>
    dsimp only at A1
    by_cases f : flat d = true
    · rw [if_pos f] at A1
      have G2 := G.thaw a1 p1 G1
      exact A1 γ F _ H1 .rfl (G2.setIm (RvR.flat (rv := .im d) (γ' := γ) (s' := s) (σ' := σ) (H' := H) r1 f))
    · rw [if_neg f] at A1
      exact A1 γ F1 _ H1 a1 (G1.setIm r1)
  | ow ds =>
    obtain ⟨a, rfl, O⟩ := r1
    dsimp only at A1
    by_cases f : (ds.all flat && thw s.σ s1.σ) = true
    · rw [if_pos f] at A1
      rw [Bool.and_eq_true] at f
      have G2 := G.thaw a1 p1 G1
      obtain ⟨xs, h1, h2⟩ := O.at_
      have nf : F a = none := by
        cases q : F a with
        | none => rfl
        | some o =>
          have := a1 a o q
          rw [O.nf] at this
          cases this
      have O2 : Own X.K B γ F ⟨s.σ, s1.g⟩ σ H1 a ds := ⟨⟨xs, h1, h2.flat f.1⟩, nf, O.nb, O.ng, fun j es e w => by
        rcases thw_at f.2 e with ⟨es', e'⟩ | ⟨es', e'⟩
        · exact O.ns j es' e' w
        · obtain ⟨v, k1, k2⟩ := G1.im j _ e'
          rw [w] at k1
          cases k1
          cases k2 with
          | lst h q =>
            have nf1 := O.nf
            rcases h with h | ⟨o, h⟩ <;> (rw [h] at nf1; cases nf1)⟩
      exact A1 γ F _ H1 .rfl (G2.setOw O2)
    · rw [if_neg f] at A1
      exact A1 γ F1 _ H1 a1 (G1.setOw O)
theorem ds_setT {i : Nat} {x : Str} {pos' : Pos} (hN : X.N.Nodup) (hi : X.N[i]? = some x) (hx : Loc X.env.scope x) (he : DPE X B W e gx) (hs : swapsWith e (some (.Name x pos')) pos.line X.env = pure false := by rfl)
    (hf : X.fn x = true ∨ X.env.scope.names.lookup x = some .local := by first | exact .inl rfl | exact .inr rfl | assumption) : DPS X B W (.Assign [.Name x pos'] e pos) (mSetT i gx) :=
  (ps_set hN hi hx he hs hf).con fun D σ H q => set_conT q
theorem ds_setLcT {i : Nat} {y : Str} {py : Pos} {elt tg iter : Expr} {ifs : List Expr} {scope : Scope} {own : List (Str × Nat)} {spos : Pos} {t : Tg} {gi : DX} {gt : TG} {gc : Option DX} {ge : DX} (hc : X.calm = true) (hN : X.N.Nodup) (hy : X.N[i]? = some y) (hyl : X.env.scope.names.lookup y = some .local)
    (hi : DPI X B W tg iter gi) (ok : BlkOk X.N X.env.scope scope own) (ht : TgOkW X.K t gt (own.map (·.2)))
    (hg : ∀ (s : Shared) (H : Hp) (C : Addr) (cl : List (Str × Addr)) (fp : List Addr), PG (X.blk s H scope (compEnvC scope cl C X.env) fp) tg gt) (hts : ∀ (s : Shared) (H : Hp) (C : Addr) (cl : List (Str × Addr)) (fp : List Addr), DPTs (X.blk s H scope (compEnvC scope cl C X.env) fp) B.t ifs gc)
    (he : ∀ (s : Shared) (H : Hp) (C : Addr) (cl : List (Str × Addr)) (fp : List Addr) (B' : Bas), B'.t = B.t → DPE (X.blk s H scope (compEnvC scope cl C X.env) fp) B' W0 elt ge)
    (hsw : swapsWith (.ListComp elt [⟨tg, iter, ifs, 0⟩] scope pos) (some (.Name y py)) spos.line X.env = pure true := by rfl) (hs : ∀ x, foldedSetIterable iter X.env x = pure x := by intro _; rfl) :
    DPS X B W (.Assign [.Name y py] (.ListComp elt [⟨tg, iter, ifs, 0⟩] scope pos) spos) (mSetT i (xLc t gi gc ge (own.map (·.2)))) :=
  (ps_setLc (tt := tTs X.K B.t gc) (te := tEs X.K B.t ge) hc hN hy hyl hsw hi ok hg hts (fun s H0 C cl fp => ⟨fun pins s' σ H Q I q => let ⟨B', e, q⟩ := q; (he s H0 C cl fp B' e).run pins s' σ H Q I q⟩) hs).con fun D σ H q => lc_con ht (set_conT q)
end
end DL

set_option Elab.async false
set_option linter.all false
set_option autoImplicit false
set_option maxRecDepth 100000
set_option maxHeartbeats 1000000
/-! DL40: a def of one list that becomes its own. -/
namespace DL
open PySem PyProof.Rows L2
/-- what such a call leaves -/
structure LvO (T : List (Addr × Str)) (a : Addr) (F H F' H' : Hp) : Prop where
  f : Sub F F'
  h : Sub F' H'
  kp : ∀ b o, H b = some o → (∀ ps, o ≠ .tbl ps) → b ≠ a → H' b = some o
  tb : LamX.Tabs T H'
  nf : ∀ b ps, F' b ≠ some (.tbl ps)
  nw : ∀ b o, F' b = some o → F b = some o ∨ Nu H b ∨ b = a
/-- the promise of a def that takes a list as its own: m tells its answer -/
def spO (K : PySem.W.Frag) (T : List (Addr × Str)) (m : List PyData → Option PyData) : Sp := fun vs H Q E => ∃ (F : Hp) (a : Addr) (xs : List V) (ds : List PyData) (d : PyData),
  LamX.Tabs T H ∧ (∀ b ps, F b ≠ some (.tbl ps)) ∧ Sub F H ∧ vs = [.ref a] ∧ H a = some (.lst xs) ∧ RpL K F ds xs ∧ F a = none ∧ m ds = some d ∧ ∀ v F' H', LvO T a F H F' H' → Rp K F' d v → Q v H'
/-- the body's answer for a list of its own -/
def mkO (n : Nat) (b : DM) : List PyData → Option PyData := fun ds => match b ⟨.ow ds :: List.replicate (n - 1) .un, none⟩ with
  | .rt (.im d) _ => some d
  | _ => none
abbrev stO (T : List (Addr × Str)) (a : Addr) (F H : Hp) : Bas := ⟨fun b => if b = a then none else notTbl (H b), F, none, T⟩
section
variable {P : Program} {w : World} {K : PySem.W.Frag} {mg : Str → Option Value} {base : Heap}
theorem start_goodO {T : List (Addr × Str)} {N : List Str} {F : Hp} {a : Addr} {xs : List V} {ds : List PyData} {H : Hp} (hT : LamX.Tabs T H) (hnf : ∀ b ps, F b ≠ some (.tbl ps)) (sF : Sub F H) (h : H a = some (.lst xs)) (r : RpL K F ds xs) (fa : F a = none) (hN : 1 ≤ N.length) :
    Good K (stO T a F H) 0 F ⟨.ow ds :: List.replicate (N.length - 1) .un, none⟩ (L2.start N [.ref a]) H := by
  have at_ : ∀ (i : Nat) (sl : Sl), (Sl.ow ds :: List.replicate (N.length - 1) Sl.un)[i]? = some sl → sl ≠ .un → i = 0 ∧ sl = .ow ds := fun i sl h n => by
    cases i with
    | zero => exact ⟨rfl, (Option.some.inj h).symm⟩
    | succ i =>
      rw [List.getElem?_cons_succ, List.getElem?_replicate] at h
      split at h
      · cases h; exact absurd rfl n
      · cases h
  have z0 : (L2.start N [.ref a])[0]? = some (some (.ref a)) := rfl
  refine ⟨sF, fun b o e => ?_, .rfl, fun b o e => .inl e, ?_, fun i d e => ?_, fun i es e => ?_, fun i j d e b h1 h2 _ _ => ?_, fun i e => ?_, (fun l e => nomatch e), (fun b e => nomatch e), hT, fun b ps e => ?_, hnf⟩
  · dsimp only at e
    split at e
    · cases e
    · exact (notTbl_some e).1
  · unfold L2.start
    simp only [List.length_append, List.length_map, List.length_replicate, List.length_cons, List.length_nil]
    omega
  · obtain ⟨_, q⟩ := at_ i _ e (fun z => by cases z)
    cases q
  · obtain ⟨rfl, q⟩ := at_ i _ e (fun z => by cases z)
    cases q
    exact ⟨a, xs, z0, h, r, fa, by dsimp only; rw [if_pos rfl], fun z => nomatch z⟩
  · obtain ⟨rfl, _⟩ := at_ i _ h1 (fun z => by cases z)
    obtain ⟨rfl, _⟩ := at_ j _ h2 (fun z => by cases z)
    rfl
  · obtain ⟨_, q⟩ := at_ i _ e (fun z => by cases z)
    cases q
  · dsimp only at e
    split at e
    · cases e
    · exact (notTbl_some e).2 ps rfl
theorem end_lvO {T : List (Addr × Str)} {F : Hp} {γ' a : Addr} {H F' H' : Hp} {s : Sd} {σ : L2.St} (sF : Sub F F') (G : Good K (stO T a F H) γ' F' s σ H') : LvO T a F H F' H' := by
  refine ⟨sF, G.sub, fun b o e t n => G.bs b o ?_, G.tb, G.nf, fun b o e => ?_⟩
  · dsimp only
    rw [if_neg n, e]
    cases o <;> first | rfl | exact absurd rfl (t _)
  · rcases G.fr b o e with h | h
    · exact .inl h
    · dsimp only at h
      split at h
      · rename_i z
        exact .inr (.inr z)
      · refine .inr (.inl fun u q => ?_)
        rcases notTbl_none h with z | ⟨ps, z⟩
        · rw [z] at q; cases q
        · rw [z] at q; cases q; exact ⟨ps, rfl⟩
theorem def_okO {T : List (Addr × Str)} {x qual : Str} {st : Stmt} {f : Addr} {fd : FuncData} {N : List Str} {p : Str} {k : Nat} {b : DM} (F : Fun K x qual st f fd) (S : FnScope N [p] (defScope st))
    (hb : ∀ (cdv : Value) (A : Around) (outer : List Env) (s : Shared) (H : Hp) (E : XK) (B : Bas), fd.code = cdv → B.t = T → Room k (A.deeper (envOfC qual (defScope st) s.heap.objs.size f cdv)) → A.guards = some [] →
      DPB (cxOf (L2.CX P w) P w K mg base N qual (defScope st) f cdv A outer s H E) B (fun cls d _ H => E cls d H) (defBody st) b) :
    FnG P w K mg base (k + 1) f fd [p] (spO K T (mkO N.length b)) := by
  have hp : 1 ≤ N.length := by have := congrArg List.length S.pre; rw [List.length_take] at this; simp at this; omega
  refine ⟨fun vs H Q E h => ?_, fun A outer s H args us vs Q E hr gd e0 hbd rv h => ?_⟩
  · obtain ⟨F0, a, xs, ds, d, _, _, _, rfl, _⟩ := h
    rfl
  · obtain ⟨F0, a, xs, ds, d, hT, hnf, sF, rfl, h1, r, fa, em, A0⟩ := h
    obtain ⟨oc, od, kV, doc, pm, an, cdv, ct, osl, rfl, lk, hcd⟩ := F.ex
    refine LamX.run_ofS lk hcd S hr e0 hbd rv rfl fun hr2 => ?_
    refine ⟨_, hb cdv A outer s H E _ rfl rfl hr2 gd, ⟨0, F0, _, start_goodO (K := K) hT hnf sF h1 r fa hp, ?_⟩⟩
    unfold mkO at em
    revert em
    generalize b ⟨.ow ds :: List.replicate (N.length - 1) .un, none⟩ = r0
    intro em
    cases r0 with
    | rt rv2 s1 =>
      cases rv2 with
      | im d' =>
        cases em
        exact fun γ' F' σ' H' v a' G q => A0 v F' H' (end_lvO a' G) q
      | ow es => cases em
    | _ => cases em
end
/-- such a def stands there -/
structure FdO (P : Program) (w : World) (K : PySem.W.Frag) (mg : Str → Option Value) (base : Heap) (T : List (Addr × Str)) (x : Str) (st : Stmt) (p : Str) (k : Nat) (m : List PyData → Option PyData) : Prop where
  ex : ∃ f fd, mg x = some (.ref f) ∧ Fun K x x st f fd ∧ Binds K fd [p] [] ∧ FnG P w K mg base k f fd [p] (spO K T m)
section
variable {K : PySem.W.Frag} {B : Bas} {γ : Addr} {F F' : Hp} {s : Sd} {σ : L2.St} {H H' : Hp}
/-- the caller's state behind it -/
theorem Good.afterO {a : Addr} {ds : List PyData} (G : Good K B γ F s σ H) (O : Own K B γ F s σ H a ds) (L : LvO B.t a F H F' H') : Good K B γ F' s σ H' := by
  obtain ⟨xs0, ha, _⟩ := O.at_
  have kp : ∀ b o, B.b b = some o → H' b = some o := fun b o e => L.kp b o (G.bs b o e) (fun ps z => G.nt b ps (by rw [e, z])) (fun z => by rw [z, O.nb] at e; cases e)
  refine ⟨L.h, kp, G.f0.tr L.f, fun b o e => ?_, G.len, fun i d e => ?_, fun i es e => ?_, G.ap, G.gn, fun l e => ?_, G.gx, L.tb, G.nt, L.nf⟩
  · rcases L.nw b o e with h | h | h
    · exact G.fr b o h
    · cases q : B.b b with
      | none => exact .inr rfl
      | some u =>
        obtain ⟨ps, z⟩ := h u (G.bs b u q)
        exact absurd (by rw [q, z]) (G.nt b ps)
    · rw [h]; exact .inr O.nb
  · obtain ⟨v, h1, h2⟩ := G.im i d e
    exact ⟨v, h1, h2.mono L.f⟩
  · obtain ⟨b, xs, h1, h2, h3, h4, h5, h6⟩ := G.ow i es e
    have ne : b ≠ a := fun z => O.ns i es e (by rw [← z]; exact h1)
    refine ⟨b, xs, h1, L.kp b _ h2 (fun ps z => by cases z) ne, h3.mono L.f, ?_, h5, h6⟩
    cases q : F' b with
    | none => rfl
    | some u =>
      rcases L.nw b u q with h | h | h
      · rw [h4] at h; cases h
      · exact absurd rfl (h.ne h2 (fun ps z => by cases z))
      · exact absurd h ne
  · obtain ⟨h1, h2, h3⟩ := G.gg l e
    have ne : γ ≠ a := fun z => O.ng (by rw [e]; rfl) z.symm
    refine ⟨L.kp γ _ h1 (fun ps z => by cases z) ne, ?_, h3⟩
    cases q : F' γ with
    | none => rfl
    | some u =>
      rcases L.nw γ u q with h | h | h
      · rw [h2] at h; cases h
      · exact absurd rfl (h.ne h1 (fun ps z => by cases z))
      · exact absurd h ne
end
end DL

set_option Elab.async false
set_option linter.all false
set_option autoImplicit false
set_option maxRecDepth 100000
set_option maxHeartbeats 1000000
/-! DL41: x(y(..)), x a def that takes the list that y makes as its own. -/
namespace DL
open PySem PyProof.Rows L2
def xOwn (m : List PyData → Option PyData) (m2 : Fn) (n : Nat) (t : DU) : DX := fun s => match t s with
  | .ok as s1 => if as.length = n then (if hasGn as = true then .bad else (match m2 as none with
      | .ok (.ow ds) _ => (match m ds with | some d => .ok (.im d) s1 | none => .bad)
      | .err C d _ => .err C d s1
      | _ => .bad)) else .bad
  | .err C d s1 => .err C d s1
  | .bad => .bad
theorem xOwn_ok {m : List PyData → Option PyData} {m2 : Fn} {n : Nat} {t : DU} {s s1 : Sd} {as : List Ar} {ds : List PyData} {d : PyData} {g : Option (List Int)} (h : t s = .ok as s1) (hl : as.length = n) (hg : hasGn as = false) (h2 : m2 as none = .ok (.ow ds) g) (h3 : m ds = some d) : xOwn m m2 n t s = .ok (.im d) s1 := by
  unfold xOwn
  rw [h]
  dsimp only
  rw [if_pos hl, if_neg (by rw [hg]; decide), h2]
  dsimp only
  rw [h3]
section
variable {X : Cx} {B : Bas} {W : WX} {e : Expr} {es : List Expr} {pos : Pos}
theorem de_own {n : Nat} {x y pn : Str} {st st2 : Stmt} {ps : List Str} {k k2 : Nat} {m : List PyData → Option PyData} {m2 : Fn} {t : DU} {p p2 pos2 : Pos} {T : List (Addr × Str)} (D : FdO X.prog X.w X.K X.mg X.base T x st pn k m) (D2 : Fd X.prog X.w X.K X.mg X.base T y st2 ps k2 m2) (hT : B.t = T) (tk : Takes X W) (hr : Room k X.A) (hr2 : Room k2 X.A) (gd : X.A.guards = some []) (hg : Gl X x) (hg2 : Gl X y) (ha : DPU X B W (e :: es) t)
    (hdb : (x == ("__debug__" : Str)) = false := by decide) (hdb2 : (y == ("__debug__" : Str)) = false := by decide)
    (he2 : starEach (e :: es) X.env = (false, eval e X.env) :: starEach es X.env := by rfl) (hpl2 : (backTo pos2 (starEach es X.env)).any (·.1) = false := by rfl)
    (he : starEach [.Call (.Name y p2) (e :: es) [] pos2] X.env = (false, eval (.Call (.Name y p2) (e :: es) [] pos2) X.env) :: starEach [] X.env := by rfl) (hpl : (backTo pos (starEach [] X.env)).any (·.1) = false := by rfl) (hn : ps.length = n := by rfl) :
    DPE X B W (.Call (.Name x p) [.Call (.Name y p2) (e :: es) [] pos2] [] pos) (xOwn m m2 n t) := by
  subst hn
  subst hT
  obtain ⟨f, fd, hm, FF, hb, ok⟩ := D.ex
  obtain ⟨f2, fd2, hm2, FF2, hb2, ok2⟩ := D2.ex
  have inner := pe_callG (p := p2) (pos := pos2) ok2 hr2 gd hg2 hm2 FF2.kp hb2 tk ha hdb2 he2 hpl2
  refine (pe_callG ok hr gd hg hm FF.kp hb tk (pa_cons inner pa_nil he) hdb he hpl).con fun σ H Q ⟨γ, F, s, G, A⟩ => ⟨γ, F, s, G, ?_⟩
  unfold xOwn at A
  cases e1 : t s with
  | bad => rw [e1] at A; exact A.elim
  | err C d s1 => rw [e1] at A; exact A
  | ok as s1 =>
    rw [e1] at A
    intro F1 H1 xs a1 p1 G1 r1
    dsimp only at A
    by_cases hl : as.length = ps.length
    · rw [if_pos hl] at A
      by_cases hgn : hasGn as = true
      · rw [if_pos hgn] at A
        exact A.elim
      · rw [if_neg hgn] at A
        have hgn' : hasGn as = false := by simpa using hgn
        refine ⟨F1, γ, as, none, G1.tb, G1.nf, G1.sub, r1, hl, hgn'.symm, (fun l el => nomatch el), ?_⟩
        cases em : m2 as none with
        | bad => rw [em] at A; exact A.elim
        | err C d g' =>
          rw [em] at A
          intro dx F2 H2 L er
          obtain ⟨G2, p2⟩ := G1.afterN L
          exact A F2 H2 dx (a1.tr L.f) (p1.tr p2) G2 er
        | ok rv g' =>
          rw [em] at A
          cases rv with
          | im d => exact A.elim
          | ow ds =>
            dsimp only at A
            cases e3 : m ds with
            | none => rw [e3] at A; exact A.elim
            | some d =>
              rw [e3] at A
              intro v F2 H2 L rv2
              obtain ⟨G2, p2⟩ := G1.afterN L
              have O := rv2.own G1 rfl rfl
              obtain ⟨a, xs', rfl, h1, h2, h3, h4⟩ := rv2
              obtain ⟨a', ea, O⟩ := O
              cases ea
              refine ⟨F2, a, xs', ds, d, G2.tb, G2.nf, G2.sub, rfl, h1, h2, h3, e3, fun v3 F3 H3 L3 r3 => ?_⟩
              have G3 := G2.afterO O L3
              refine A F3 H3 v3 ((a1.tr L.f).tr L3.f) ⟨fun b o hb ht hn => ?_, (p1.tr p2).gs⟩ G3 r3
              have hb2 := p1.pr b o hb ht hn
              have hb3 := p2.pr b o hb2 ht (fun z => hn (by rw [← p1.gs]; exact z))
              exact L3.kp b o hb3 ht (h4.ne hb2 ht)
    · rw [if_neg hl] at A
      exact A.elim
end
end DL

set_option Elab.async false
set_option linter.all false
set_option autoImplicit false
set_option maxRecDepth 100000
set_option maxHeartbeats 1000000
/-! DL42: the law's marks on lists that a call made. -/
namespace DL
open PySem PyProof.Rows L2
def mkL (r : Fn) : DX := xLc (.nm 2) (xSeq (xVar 0)) none (xUser r 1 (uCons (xVar 2) (uNil))) [2]
def mkX (L1 L2 : DX) : DM := (mSeq (mIf (xIsi (fun t => isTy t .list) (xVar 0)) (mSeq (mIf (xAnd (xBin hNe (xVar 0) (xLst (aNil))) (xBin hEq (xIxV 0 (xUn hNeg (xC (.int 1)))) (xC (.str "marked")))) (mRet (xC (.bool false))) (mNil)) (mSeq (mSetT 1 L1) (mSeq (mApp 0 (xC (.str "marked"))) (mRet (xBin (hIn true) (xC (.bool false)) (xVar 1)))))) (mNil)) (mSeq (mIf (xIsi (fun t => isTy t .tuple) (xVar 0)) (mRet (xBin (hIn true) (xC (.bool false)) L2)) (mNil)) (mRet (xC (.bool true)))))
def mkB (r : Fn) : DM := mkX (mkL r) (mkL r)
def fMk : Nat → Fn
  | 0 => fBad
  | i + 1 => mkFn 3 1 (mkB (fMk i))
def oMk : List PyData → Option PyData := mkO 3 (mkB (fMk 8))
theorem fMk_int (i : Nat) (n : Int) : fMk (i + 1) [.im (.int n)] none = .ok (.im (.bool true)) none := rfl
theorem mkL_ok {r : Fn} {ds : List PyData} {x : Sl} {y : Sl} (hx : x = .ow ds ∨ x = .im (.list ds) ∨ x = .im (.tuple ds)) (hl : ds.length ≤ 1000000) (hr : ∀ d ∈ ds, r [.im d] none = .ok (.im (.bool true)) none) (hy : y = .un) :
    ∃ x', mkL r ⟨[x, y, .un], none⟩ = .ok (.ow (ds.map fun _ => .bool true)) ⟨[x', y, .un], none⟩ ∧ (x = .ow ds → x' = .im (.list ds)) := by
  subst hy
  have key : ∀ x' : PyData, xSeq (xVar 0) ⟨[x, .un, .un], none⟩ = .ok (.im (.list ds)) ⟨[.im x', .un, .un], none⟩ → mkL r ⟨[x, .un, .un], none⟩ = .ok (.ow (ds.map fun _ => .bool true)) ⟨[.im x', .un, .un], none⟩ := fun x' h =>
    xLc_map (v := 2) (fun _ => .bool true) h rfl (by simp) hl (fun d hd => by
      have := hr d hd
      simp [this])
  rcases hx with rfl | rfl | rfl
  · exact ⟨_, key (.list ds) (by simp [xSeq]), fun _ => rfl⟩
  · exact ⟨_, key (.list ds) (by simp [xSeq]), fun z => nomatch z⟩
  · exact ⟨_, key (.tuple ds) (by simp [xSeq]), fun z => nomatch z⟩
theorem trues_pl (ds : List PyData) : PlA 0 (ds.map fun _ => PyData.bool true) := fun d hd => by
  obtain ⟨_, _, rfl⟩ := List.mem_map.mp hd
  exact .bool _
theorem any_trues (ds : List PyData) : ((ds.map fun _ => PyData.bool true).any fun z => PyData.eqv z (.bool false)) = false := by
  rw [List.any_eq_false]
  intro z hz
  obtain ⟨_, _, rfl⟩ := List.mem_map.mp hz
  unfold PyData.eqv
  decide
theorem all_trues (ds : List PyData) : (ds.map fun _ => PyData.bool true).all flat = true := by
  rw [List.all_eq_true]
  intro z hz
  obtain ⟨_, _, rfl⟩ := List.mem_map.mp hz
  rfl
theorem hIn_trues (ds : List PyData) : hIn true (.bool false) (.list (ds.map fun _ => .bool true)) = some (.im (.bool true)) := by
  show (if flat (.bool false) = true ∧ (ds.map fun _ => PyData.bool true).all flat = true then some (Rv.im (.bool (true ^^ (ds.map fun _ => PyData.bool true).any fun z => PyData.eqv z (.bool false)))) else _) = _
  rw [if_pos ⟨rfl, all_trues ds⟩, any_trues]
  rfl
theorem at_last {α : Type} (l : List α) (a : α) : atI (l ++ [a]) (-1) = some a := by
  have e2 : (-1 + ((l.length : Int) + 1)).toNat = l.length := by omega
  unfold atI ixN
  simp
  rw [if_pos (by omega), e2]
  simp
theorem mkX_ow {L1 L2 : DX} {ds bs : List PyData} (h1 : L1 ⟨[.ow ds, .un, .un], none⟩ = .ok (.ow bs) ⟨[.im (.list ds), .un, .un], none⟩) (hb : bs.all flat = true) (hi : hIn true (.bool false) (.list bs) = some (.im (.bool true))) (hl : ds.length ≤ 1000000) (hp : PlA 1 ds) (hm : ∀ d ∈ ds, hEq d (.str "marked") = some (.im (.bool false))) :
    ∃ s, mkX L1 L2 ⟨[.ow ds, .un, .un], none⟩ = .rt (.im (.bool true)) s := by
  have ne := hNe_nil hp
  have tw : thw [.ow ds, .un, .un] [.im (.list ds), .un, .un] = true := rfl
  rcases List.eq_nil_or_concat ds with rfl | ⟨k, x, rfl⟩
  · simp only [List.isEmpty_nil, Bool.not_true] at ne
    exact ⟨_, by simp [mkX, ne, h1, hb, hi, tw]; rfl⟩
  · rw [List.concat_eq_append] at *
    have e := at_last k x
    have q := hm x (by simp)
    rw [show (k ++ [x]).isEmpty = false from by simp, Bool.not_false] at ne
    generalize k ++ [x] = D at *
    exact ⟨_, by simp [mkX, -hI2, ne, e, q, h1, hb, hi, hl, tw]; rfl⟩
theorem mkO_ok {r : Fn} {ds : List PyData} (hl : ds.length ≤ 1000000) (hp : PlA 1 ds) (hr : ∀ d ∈ ds, r [.im d] none = .ok (.im (.bool true)) none) (hm : ∀ d ∈ ds, hEq d (.str "marked") = some (.im (.bool false))) : mkO 3 (mkB r) ds = some (.bool true) := by
  obtain ⟨x', h1, h2⟩ := mkL_ok (r := r) (x := .ow ds) (y := .un) (.inl rfl) hl hr rfl
  rw [h2 rfl] at h1
  obtain ⟨s, e⟩ := mkX_ow (L2 := mkL r) h1 (all_trues ds) (hIn_trues ds) hl hp hm
  have e' : mkB r ⟨[.ow ds, .un, .un], none⟩ = .rt (.im (.bool true)) s := e
  show (match mkB r ⟨[.ow ds, .un, .un], none⟩ with | .rt (.im d) _ => some d | _ => none) = _
  rw [e']
theorem mkX_tup {L1 L2 : DX} {ds bs : List PyData} {s1 : Sd} (h2 : L2 ⟨[.im (.tuple ds), .un, .un], none⟩ = .ok (.ow bs) s1) (hi : hIn true (.bool false) (.list bs) = some (.im (.bool true))) :
    ∃ s, mkX L1 L2 ⟨[.im (.tuple ds), .un, .un], none⟩ = .rt (.im (.bool true)) s := ⟨_, by simp [mkX, h2, hi]; rfl⟩
theorem mkf_tup {r : Fn} {ds : List PyData} (hl : ds.length ≤ 1000000) (hr : ∀ d ∈ ds, r [.im d] none = .ok (.im (.bool true)) none) : mkFn 3 1 (mkB r) [.im (.tuple ds)] none = .ok (.im (.bool true)) none := by
  obtain ⟨x', h1, _⟩ := mkL_ok (r := r) (x := .im (.tuple ds)) (y := .un) (.inr (.inr rfl)) hl hr rfl
  obtain ⟨s, e⟩ := mkX_tup (L1 := mkL r) h1 (hIn_trues ds)
  have e' : mkB r ⟨[.im (.tuple ds), .un, .un], none⟩ = .rt (.im (.bool true)) s := e
  generalize mkB r = M at *
  simp [e']
theorem fMk_tup (i : Nat) {is : List Int} (h : is.length ≤ 1000000) : fMk (i + 2) [.im (.tuple (is.map .int))] none = .ok (.im (.bool true)) none :=
  mkf_tup (by simpa using h) (fun d hd => by
    obtain ⟨n, _, rfl⟩ := List.mem_map.mp hd
    exact fMk_int i n)
theorem ints_pl (is : List Int) : PlA 0 (is.map PyData.int) := fun d hd => by
  obtain ⟨n, _, rfl⟩ := List.mem_map.mp hd
  exact .int _
theorem mrk_pl : Pl 1 (.str "marked") := .str (by decide +kernel)
theorem ne_mark {d : PyData} (h : Pl 1 d) (e : PyData.eqv d (.str "marked") = false) : hEq d (.str "marked") = some (.im (.bool false)) := by
  unfold hEq
  rw [if_pos ⟨h.shaped, mrk_pl.shaped⟩, e]
theorem oMk_ints {is : List Int} (h : is.length ≤ 1000000) : oMk (is.map .int) = some (.bool true) :=
  mkO_ok (by simpa using h) (fun d hd => (ints_pl is d hd).up (by decide)) (fun d hd => by
    obtain ⟨n, _, rfl⟩ := List.mem_map.mp hd
    exact fMk_int 7 n) (fun d hd => by
    obtain ⟨n, _, rfl⟩ := List.mem_map.mp hd
    exact ne_mark (.int _) (by unfold PyData.eqv; rfl))
theorem oMk_tups {ts : List (List Int)} (h : ts.length ≤ 1000000) (h2 : ∀ t ∈ ts, t.length ≤ 1000000) : oMk (ts.map fun t => .tuple (t.map .int)) = some (.bool true) :=
  mkO_ok (by simpa using h) (fun d hd => by
    obtain ⟨t, _, rfl⟩ := List.mem_map.mp hd
    exact Pl.tup (ints_pl t)) (fun d hd => by
    obtain ⟨t, ht, rfl⟩ := List.mem_map.mp hd
    exact fMk_tup 6 (h2 t ht)) (fun d hd => by
    obtain ⟨t, _, rfl⟩ := List.mem_map.mp hd
    exact ne_mark (Pl.tup (ints_pl t)) (by unfold PyData.eqv; rfl))
end DL

set_option Elab.async false
set_option linter.all false
set_option autoImplicit false
set_option maxRecDepth 100000
set_option maxHeartbeats 1000000
/-! DL43: all and any of lists of truth values. -/
namespace DL
open PySem PyProof.Rows L2
def boolsOf : List PyData → Option (List Bool)
  | [] => some []
  | .bool b :: ds => (boolsOf ds).map (b :: ·)
  | _ :: _ => none
theorem boolsOf_map : ∀ bs : List Bool, boolsOf (bs.map .bool) = some bs
  | [] => rfl
  | b :: bs => by
    rw [List.map_cons]
    unfold boolsOf
    rw [boolsOf_map bs]
    rfl
theorem boolsOf_eq : ∀ {ds : List PyData} {bs : List Bool}, boolsOf ds = some bs → ds = bs.map PyData.bool
  | [], bs, h => by cases h; rfl
  | d :: ds, bs, h => by
    cases d with
    | bool b =>
      unfold boolsOf at h
      rw [Option.map_eq_some_iff] at h
      obtain ⟨cs, h1, rfl⟩ := h
      rw [boolsOf_eq h1]
      rfl
    | _ => cases h
theorem RpL.ofBools {K : PySem.W.Frag} {F : Hp} : ∀ {bs : List Bool} {xs : List V}, RpL K F (bs.map PyData.bool) xs → xs = bs.map V.bl
  | [], _, .nil => rfl
  | b :: bs, _, .cons r q => by
    cases r
    rw [RpL.ofBools q]
    rfl
def hAll : List PyData → Option Rv
  | [.list ds] => (boolsOf ds).map fun bs => .im (.bool (bs.all id))
  | _ => none
def hAny : List PyData → Option Rv
  | [.list ds] => (boolsOf ds).map fun bs => .im (.bool (bs.any id))
  | _ => none
theorem o_all {K : PySem.W.Frag} : OpN K hAll (rAll K) := fun B W γ F s σ H xs ds rv Q G r he A => by
  unfold hAll at he
  split at he
  · rename_i ds
    cases e : boolsOf ds with
    | none => rw [e] at he; cases he
    | some l =>
      rw [e] at he
      cases he
      match r with
      | .cons (.lst h q) .nil =>
        rw [boolsOf_eq e] at q
        rw [q.ofBools] at h
        exact ⟨_, l, rfl, .inl (rd_mono G.sub h), A.same G (.bl _)⟩
  · cases he
theorem o_any {K : PySem.W.Frag} : OpN K hAny (rAny K) := fun B W γ F s σ H xs ds rv Q G r he A => by
  unfold hAny at he
  split at he
  · rename_i ds
    cases e : boolsOf ds with
    | none => rw [e] at he; cases he
    | some l =>
      rw [e] at he
      cases he
      match r with
      | .cons (.lst h q) .nil =>
        rw [boolsOf_eq e] at q
        rw [q.ofBools] at h
        exact ⟨_, l, rfl, .inl (rd_mono G.sub h), A.same G (.bl _)⟩
  · cases he
end DL

set_option Elab.async false
set_option linter.all false
set_option autoImplicit false
set_option maxRecDepth 100000
set_option maxHeartbeats 1000000
/-! DL44: enumerate of a tuple. -/
namespace DL
open PySem PyProof.Rows L2
def IteT (K : PySem.W.Frag) (a : Addr) : It :=
  ⟨fun i H => ∃ (xs : List V) (x : V), SqT K H a xs ∧ xs[i]? = some x, fun i H v H' => ∃ T x, v = .ref T ∧ H T = none ∧ H' = upd H T (.tup [.int (i : Nat), x]) ∧ ∀ xs, SqT K H a xs → xs[i]? = some x, fun i H => ∃ xs : List V, SqT K H a xs ∧ xs.length = i⟩
theorem turn_enumT {P : Program} {w : World} {K : PySem.W.Frag} {elts : List Expr} {kk : Nat} {tpos : Pos} (a e it : Addr) :
    Turn P w K (.Tuple elts kk tpos) (IteT K a) [e, it] e (fun i h => (∃ old, IsEnum h e it ((i : Nat) : Int) old) ∧ h.IsTupleIter it a i ∧ e ≠ it ∧ a ≠ it ∧ e ≠ a) where
  mem := by simp
  obj := fun i h st b hb => by
    obtain ⟨⟨old, he⟩, ⟨o, ho, hc, hd⟩, _⟩ := st
    have e' : b = e ∨ b = it := by simpa using hb
    rcases e' with z | z
    · rw [z]; exact ⟨_, he, fun v q => nomatch q⟩
    · rw [z]; exact ⟨o, ho, fun v q => by rw [hd] at q; cases q⟩
  keep := fun i h h' st k => let ⟨⟨old, he⟩, hi, hne⟩ := st; ⟨⟨old, k e (by simp) _ he⟩, hi.at fun o q => k it (by simp) o q, hne⟩
  item := by
    intro X hP hw hK hc i pins s σ H E I hf st hg
    subst hP hw hK
    obtain ⟨⟨old, he⟩, hit, hne, hai, hea⟩ := st
    obtain ⟨xs, x, hq, hx⟩ := hg
    obtain ⟨its, rv, p, hz⟩ := I.tuple hq
    obtain ⟨u, hu, ru⟩ := rv.get hx
    have hel : e < s.heap.objs.size := Heap.lt_size he
    have hil : it < s.heap.objs.size := by obtain ⟨_, q, _⟩ := hit; exact Heap.lt_size q
    have D := Draws.tuple (prog := X.prog) (w := X.w) (A := X.A.in1) (I.ok.hd hc) it a hai its.toArray
    refine wpAny_pyNext_enum_itemD D he ⟨hit, p⟩ (by have := (List.getElem?_eq_some_iff.mp hu).1; simpa using this) hne (by simp [hne, hea]) fun x' h' tk hP' ho hit' hT hsz hk => ?_
    have ex : x' = u := by
      have h1 : its.toArray[i]? = some x' := hP'
      simp at h1
      rw [hu] at h1
      exact (Option.some.inj h1).symm
    subst ex
    refine ⟨_, rfl, wpAny_letOwnedTupleGo_enum (s := { s with heap := h', toks := tk + 1 }) ho fun h'' he' sb => ?_⟩
    have hT2 : h''.get? s.heap.objs.size = some { cls := .type "tuple", data := .seq #[.int i tk, x'] } := (sb.2 _ (Nat.ne_of_gt hel)).trans hT
    have new : ObjOk X.prog X.w (upd H s.heap.objs.size (.tup [.int (i : Nat), x])) h'' s.heap.objs.size (.tup [.int (i : Nat), x]) :=
      ⟨by show 2 ≤ sizeLine; decide, [.int i tk, x'], .cons ⟨_, rfl⟩ (.cons ru .nil), ⟨_, hT2, rfl, _, rfl⟩⟩
    have I1 : Inv X pins σ (upd H s.heap.objs.size (.tup [.int (i : Nat), x])) { s with heap := h'', toks := tk + 1 } :=
      I.turnedNew (ch := [e, it]) (fun b ob hb q => (sb.2 b (fun z => hb (by simp [z]))).trans (hk b ob (fun z => hb (by simp [z])) (fun z => hb (by simp [z])) q)) hf (Nat.le_refl _) new
    refine ⟨.ref s.heap.objs.size, _, I1, rfl, ⟨_, x, rfl, I.hok.fresh (Nat.le_refl _), rfl, fun ys hy => by rw [I.tuple_inj hy hq]; exact hx⟩, ⟨⟨x', ?_⟩, hit'.1.at fun o q => (sb.2 it (Ne.symm hne)).trans q, hne, hai, hea⟩, fun b hb => ?_⟩
    · have e1 : ((i + 1 : Nat) : Int) = (i : Int) + 1 := by omega
      rw [e1]; exact he'
    · have hb' : b < s.heap.objs.size := by
        have e' : b = e ∨ b = it := by simpa using hb
        rcases e' with z | z
        · rw [z]; exact hel
        · rw [z]; exact hil
      rw [upd_ne (Nat.ne_of_lt hb')]
      exact (hf b hb).1
  done := by
    intro X hP hw hK hc i pins s σ H E I hf st hg
    subst hP hw hK
    obtain ⟨⟨old, he⟩, hit, hne, hai, hea⟩ := st
    obtain ⟨xs, hq, hx⟩ := hg
    obtain ⟨its, rv, p, hz⟩ := I.tuple hq
    obtain ⟨f0, f1, f2, f3, f4, f5⟩ := hf it (by simp)
    have hl := rv.length
    have D := Draws.tuple (prog := X.prog) (w := X.w) (A := X.A.in1) (I.ok.hd hc) it a hai its.toArray
    exact wpAny_pyNext_enum_endD D he (by rw [show its.toArray.size = i from by simp; omega]; exact ⟨hit, p⟩) fun h' eb => ⟨rfl, I.turned (t' := s.toks) (fun b o hb q => eb b o hb q) f0 f1 f3 f4 f5⟩
  self := fun A i s Q E st h => let ⟨⟨_, he⟩, _⟩ := st; wpAny_pyIter_enum he h
end DL

set_option Elab.async false
set_option linter.all false
set_option autoImplicit false
set_option maxRecDepth 100000
set_option maxHeartbeats 1000000
/-! DL45: enumerate(t), t a tuple: the call. -/
namespace PySem
open Sem (wp)
theorem meets_enum1B {v : Value} {o : Obj} {H : Heap → Prop} (B : Begins v o H) :
    Meets (Builtin.«enumerate.__new__» ⟨[.type "enumerate", v], []⟩) (fun _ R s => H s.heap ∧
      R (.ok (.ret (.ref (s.heap.push o).objs.size))) { s with heap := (s.heap.push o).push { cls := .type "enumerate", data := .fields #[.none, .bool false, .ref s.heap.objs.size, rawInt 0, .none, .none] } }) :=
  .of_wp fun prog w A R s h => by
    obtain ⟨hp, g, d, tk, os⟩ := s; obtain ⟨h1, h⟩ := h
    have hsub := sub_enumerate
    have q1 : ∀ {A' : Around} {E : Value → Shared → Prop} {Q : Value → Shared → Prop}, Q (.ref hp.objs.size) ⟨hp.push o, g, d, tk, os⟩ → wpAny (model prog w) A' (pyIter v) Q E ⟨hp, g, d, tk, os⟩ :=
      fun q => B.iter prog w _ _ ⟨hp, g, d, tk, os⟩ _ h1 q
    wp_walk using q1
    refine wpAny_stack_any fun st => wpAny_pure ?_
    split
    · rename_i c _ _ _ _ _
      cases (c == Value.type "enumerate")
      · wp_walk using q1
        exact ⟨_, rfl, h⟩
      · wp_walk using q1
        exact ⟨_, rfl, h⟩
    · wp_walk using q1
      exact ⟨_, rfl, h⟩
theorem call_enum1B {prog : Program} {w : World} {A : Around} {E : Value → Shared → Prop} {s : Shared} {v : Value} {o : Obj} {H : Heap → Prop} {Q : Value → Shared → Prop} (B : Begins v o H) (h1 : H s.heap)
    (h : ∀ h', IsEnum h' (s.heap.objs.size + 1) s.heap.objs.size 0 .none → h'.get? s.heap.objs.size = some o → h'.objs.size = s.heap.objs.size + 2 →
      (∀ b o, s.heap.get? b = some o → h'.get? b = some o) → Q (.ref (s.heap.objs.size + 1)) { s with heap := h' }) :
    wpAny (model prog w) A (call (.type "enumerate") [v]) Q E s := by
  refine callType_new F.called_enumerate (by decide) (F.typeCall_enumerate_1 _) (F.newCall_enumerate_1 _) (fun obj => F.args_object_init_2 obj _) F.entry_enumerate_new
    (meets_enum1B B) ⟨h1, ?_⟩
  have hz : (s.heap.push o).objs.size = s.heap.objs.size + 1 := Heap.size_push ..
  show _ ∧ _
  rw [hz]
  have he : IsEnum ((s.heap.push o).push { cls := .type "enumerate", data := .fields #[.none, .bool false, .ref s.heap.objs.size, rawInt 0, .none, .none] }) (s.heap.objs.size + 1) s.heap.objs.size 0 .none := by
    have := Heap.get?_push_size (s.heap.push o) (o := { cls := .type "enumerate", data := .fields #[.none, .bool false, .ref s.heap.objs.size, rawInt 0, .none, .none] }) rfl
    rw [hz] at this; exact this
  refine ⟨⟨_, he, rfl⟩, h _ he (Heap.get?_push_of_some _ (Heap.get?_push_size _ B.free)) (by rw [Heap.size_push, hz]) fun b o x => Heap.get?_push_of_some _ (Heap.get?_push_of_some _ x)⟩
end PySem

set_option Elab.async false
set_option linter.all false
set_option autoImplicit false
set_option maxRecDepth 100000
set_option maxHeartbeats 1000000
/-! DL46: for .. in enumerate(t), t a tuple. -/
namespace DL
open PySem PyProof.Rows L2
def iEnumT (K : PySem.W.Frag) (ta : TA) : TI := fun σ H R => ta σ H fun vs H1 => ∃ a xs, vs = [.ref a] ∧ SqT K H1 a xs ∧ R (IteT K a) H1
theorem pi_enumT {X : Cx} {e : Expr} {ta : TA} {p pos tpos : Pos} {elts : List Expr} {kk : Nat} (hg : Gl X "enumerate") (hm : X.mg "enumerate" = none) (ha : PA X [e] ta) (hs : starEach [e] X.env = [(false, eval e X.env)] := by rfl) :
    PI X (.Tuple elts kk tpos) (.Call (.Name "enumerate" p) [e] [] pos) (iEnumT X.K ta) := by
  refine ⟨fun pins s σ H R I h => ?_⟩
  refine Call_ (ld_blt I hg hm boot_enumerate (PyProof.Rows.callWith_type1 (thn (ha.run pos pins s σ H _ I h) fun us s1 ⟨vs, H1, I1, r1, q1⟩ => ?_) hs rfl))
  obtain ⟨a, xs, ex, hq, q⟩ := q1
  subst ex
  cases r1 with
  | cons r rr =>
    cases rr
    cases r
    obtain ⟨its, rv, p', hz⟩ := I1.tuple hq
    have ha : a < s1.heap.objs.size := by obtain ⟨_, q, _⟩ := p'; exact Heap.lt_size q
    refine call_enum1B (begins_tuple a its.toArray) p' fun h' he hit hsz hk => wpAny_pyIter_enum he ?_
    have I2 : Inv X pins σ H1 { s1 with heap := h' } := I1.kept (t' := s1.toks) hk
    refine ⟨s1.heap.objs.size + 1, [s1.heap.objs.size + 1, s1.heap.objs.size], _, _, H1, rfl, I2, turn_enumT a (s1.heap.objs.size + 1) s1.heap.objs.size, ⟨⟨.none, he⟩, ⟨_, hit, rfl, rfl⟩, Nat.succ_ne_self _, Nat.ne_of_lt ha, (Nat.ne_of_lt (Nat.lt_succ_of_lt ha)).symm⟩, fun b hb => ?_, q⟩
    have e' : b = s1.heap.objs.size + 1 ∨ b = s1.heap.objs.size := by simpa using hb
    have hle : s1.heap.objs.size ≤ b := by
      rcases e' with z | z
      · rw [z]; exact Nat.le_add_right _ _
      · rw [z]; exact Nat.le_refl _
    exact I1.fpOk hle (I1.hok.fresh hle)
end DL

set_option Elab.async false
set_option linter.all false
set_option autoImplicit false
set_option maxRecDepth 100000
set_option maxHeartbeats 1000000
namespace DL
open PySem PyProof.Rows L2 LamX
/-! texts of long lists of small numbers -/
def Tn (i : Int) : Prop := i.natAbs < 10 ^ 40
theorem Tn.sm {i : Int} (h : Tn i) : Sm i := Nat.lt_of_lt_of_le h (Nat.pow_le_pow_right (by decide) (by decide))
theorem tn_of {i : Int} (h1 : -1000000000000 < i) (h2 : i < 1000000000000) : Tn i := by
  have : i.natAbs < 1000000000000 := by omega
  exact Nat.lt_of_lt_of_le this (by decide)
theorem shown_int {i : Int} (h : Tn i) : (PyData.int i).shown.length ≤ 41 := by
  show (PySem.Str.ofString (toString i)).length ≤ 41
  rw [PySem.ofString_length]
  exact PySem.int_text_length_le10 (k := 40) (by decide) h
theorem shown_ints : ∀ {l : List Int}, (∀ i ∈ l, Tn i) → ((PyData.shownAll (l.map PyData.int)).map fun x => x.length + 2).sum ≤ 43 * l.length
  | [], _ => by simp [PyData.shownAll]
  | i :: l, h => by
    have ih := shown_ints (l := l) fun c hc => h c (List.mem_cons_of_mem _ hc)
    have h1 := shown_int (h i List.mem_cons_self)
    rw [List.map_cons]
    unfold PyData.shownAll
    rw [List.map_cons, List.sum_cons, List.length_cons]
    omega
theorem nod_ints (l : List Int) : PyData.hasDictAll (l.map PyData.int) = false := by
  induction l with
  | nil => simp [PyData.hasDictAll]
  | cons i l ih => rw [List.map_cons]; unfold PyData.hasDictAll; rw [ih]; simp [PyData.hasDict]
theorem sho_ints (l : List Int) : shOkL (l.map PyData.int) = true := by
  induction l with
  | nil => rfl
  | cons i l ih => rw [List.map_cons]; unfold shOkL; rw [ih]; rfl
theorem sha_ints : ∀ {l : List Int}, (∀ i ∈ l, Tn i) → PyData.showableAll (l.map PyData.int) = true
  | [], _ => by simp [PyData.showableAll]
  | i :: l, h => by
    rw [List.map_cons]
    unfold PyData.showableAll
    rw [sha_ints (l := l) fun c hc => h c (List.mem_cons_of_mem _ hc), show_int (h i List.mem_cons_self).sm]
    rfl
theorem plA_ints (l : List Int) : PlA 0 (l.map PyData.int) := fun d hd => by
  obtain ⟨n, _, rfl⟩ := List.mem_map.mp hd
  exact Pl.int n
theorem shw_ints {l : List Int} (h : ∀ i ∈ l, Tn i) (n : l.length ≤ 20000) : Shw (.list (l.map .int)) := ⟨by
  unfold reprOk
  have h1 : PyData.hasDict (.list (l.map PyData.int)) = false := by unfold PyData.hasDict; exact nod_ints l
  have h2 : PyData.showable (.list (l.map PyData.int)) = true := by unfold PyData.showable; exact sha_ints h
  have h3 : PyData.depth (.list (l.map PyData.int)) ≤ 60 := Nat.le_trans (Pl.lst (plA_ints l)).2 (by decide)
  have h4 : (PyData.shown (.list (l.map PyData.int))).length ≤ 1000000 := by
    unfold PyData.shown listText
    have k1 := len_from (PyData.shownAll (l.map PyData.int)) 0 "["
    have k2 := shown_ints h
    have k3 : (Str.ofString "[").length = 1 := by decide +kernel
    have k4 : (Str.ofString "]").length = 1 := by decide +kernel
    rw [len_app]
    omega
  rw [h1, h2]
  simp only [Bool.not_false, Bool.or_true, Bool.true_and, Bool.and_eq_true, decide_eq_true_eq]
  exact ⟨h3, h4⟩, by unfold shOk; exact sho_ints l⟩
theorem hEq_ints {a b : List Int} : hEq (.list (a.map .int)) (.list (b.map .int)) = some (.im (.bool (decide (a = b)))) := by
  unfold hEq
  rw [if_pos ⟨(Pl.lst (plA_ints a)).shaped, (Pl.lst (plA_ints b)).shaped⟩]
  have key : ∀ a b : List Int, PyData.eqvAll (a.map PyData.int) (b.map PyData.int) = decide (a = b) := by
    intro a
    induction a with
    | nil => intro b; cases b <;> (simp [PyData.eqvAll])
    | cons x a ih =>
      intro b
      cases b with
      | nil => simp [PyData.eqvAll]
      | cons y b =>
        rw [List.map_cons, List.map_cons]
        unfold PyData.eqvAll
        rw [ih b]
        have : PyData.eqv (.int x) (.int y) = decide (x = y) := by unfold PyData.eqv; rfl
        rw [this]
        by_cases h : x = y <;> by_cases k : a = b <;> simp [h, k]
  have e : PyData.eqv (.list (a.map .int)) (.list (b.map .int)) = decide (a = b) := by unfold PyData.eqv; exact key a b
  rw [e]
theorem mFor_ok {t : Tg} {gi : DX} {b : DM} {s s1 : Sd} {ds : List PyData} {r : RS} (h : gi s = .ok (.im (.list ds)) s1) (e : DL.forM t b ds s1 = r) : mFor t gi b s = r := by
  unfold mFor
  rw [h]
  exact e
theorem xLc_gen {t : Tg} {gi e : DX} {vs : List Nat} {s0 s : Sd} {α : Type} {l : List α} (D r : α → PyData) (hg : gi s0 = .ok (.im (.list (l.map D))) s) (ho : okOut s.σ vs = true) (hl : l.length ≤ 1000000) (hu : unw s.σ (wipeD s.σ vs) vs = s.σ)
    (hc : ∀ x ∈ l, ∃ s1 s3, t.put ⟨wipeD s.σ vs, s.g⟩ (D x) = some s1 ∧ e s1 = .ok (.im (r x)) s3 ∧ (⟨wipeD (afterV s1 (.im (r x)) s3).σ vs, s3.g⟩ : Sd) = ⟨wipeD s.σ vs, s.g⟩) : xLc t gi none e vs s0 = .ok (.ow (l.map r)) s := by
  unfold xLc
  rw [hg]
  dsimp only
  rw [if_pos ho]
  have lc := lcM_map (t := t) (e := e) (vs := vs) (out := s.σ) D r ⟨wipeD s.σ vs, s.g⟩ (l := l) (acc := []) (by simpa using hl) hc
  rw [lc, List.nil_append]
  dsimp only
  rw [hu]
abbrev Tr := Nat × Nat × Nat
abbrev t3 (t : Tr) : PyData := .tuple [.int t.1, .int t.2.1, .int t.2.2]
/-- [e for x in V], e drawing, of any kind -/
theorem xLc_drawI {v : Nat} {gi e : DX} {s0 : Sd} {σ : List Sl} {g : List Int} {ds : List PyData} (I : Nat → List Int → Prop) (P : PyData → Prop) (hg : gi s0 = .ok (.im (.list ds)) ⟨σ, some g⟩) (ho : okOut σ [v] = true) (hv : v < σ.length) (hl : ds.length ≤ 1000000) (h0 : I 0 g)
    (hc : ∀ x ∈ ds, ∀ j g, j < ds.length → I j g → ∃ r g', e ⟨σ.set v (.im x), some g⟩ = .ok (.im r) ⟨σ.set v (.im x), some g'⟩ ∧ P r ∧ I (j + 1) g') :
    ∃ rs g', xLc (.nm v) gi none e [v] s0 = .ok (.ow rs) ⟨σ, some g'⟩ ∧ rs.length = ds.length ∧ (∀ r ∈ rs, P r) ∧ I ds.length g' := by
  obtain ⟨rs, g', e1, e2, e3, e4⟩ := lcM_draw (t := .nm v) (e := e) (vs := [v]) (out := σ) (σ0 := σ.set v .un) I P (l := ds) (acc := []) (k := 0) (g := g) (by simpa using hl) h0 (fun x hx j g _ a2 hI => by
    obtain ⟨r, g', h1, h2, h3⟩ := hc x hx j g (by simpa using a2) hI
    refine ⟨⟨σ.set v (.im x), some g⟩, r, ⟨σ.set v (.im x), some g'⟩, g', by simp [Tg.put, List.set_set], h1, h2, h3, ?_⟩
    unfold afterV
    split <;> simp [wipeD, List.set_set])
  rw [Nat.zero_add] at e4
  refine ⟨rs, g', ?_, e2, e3, e4⟩
  unfold xLc
  rw [hg]
  dsimp only
  rw [if_pos ho]
  rw [show (⟨wipeD σ [v], some g⟩ : Sd) = ⟨σ.set v .un, some g⟩ from rfl, e1, List.nil_append]
  have : unw σ (σ.set v .un) [v] = σ := by
    simp [unw, List.set_set, List.getElem?_eq_getElem hv]
  rw [this]
end DL

set_option Elab.async false
set_option linter.all false
set_option autoImplicit false
set_option maxRecDepth 100000
set_option maxHeartbeats 1000000
set_option exponentiation.threshold 3000
namespace DL
open PySem PyProof.Rows L2 LamX
/-! the wrong figures and polygons of the laws -/
theorem dr_one (a b : Int) (h : a.natAbs ≤ 12) (k : b.natAbs ≤ 12) : Dr [(a, b)] := by
  have n : ∀ c ∈ [(a, b)], Nr 12 c := fun c hc => by
    simp only [List.mem_cons, List.not_mem_nil, or_false] at hc
    subst hc
    exact ⟨h, k⟩
  exact ⟨⟨⟨by simp, by simp, by simp, fun c hc => nr_up (n c hc) (by decide)⟩, fun _ => by simp, fun z => by simp at z⟩, n⟩
theorem dr_two {a b : Pt2} (h : Nr 12 a) (k : Nr 12 b) (l : plt a b) : Dr [a, b] := by
  have n : ∀ c ∈ [a, b], Nr 12 c := fun c hc => by
    simp only [List.mem_cons, List.not_mem_nil, or_false] at hc
    rcases hc with rfl | rfl <;> assumption
  exact ⟨⟨⟨by simp, by simp, by simp; exact plt_ne l, fun c hc => nr_up (n c hc) (by decide)⟩, fun _ => by simpa using l, fun z => by simp at z⟩, n⟩
theorem dr_12 : Dr [((0 : Int), (0 : Int)), (1, 2)] := dr_two (by unfold Nr; decide) (by unfold Nr; decide) (by unfold plt; decide)
theorem fig_dsc : fFigure [.im (.list [T2 1 0, T2 0 0])] none = .ok (.im (.bool false)) none := by
  have fp : Fp [((1 : Int), (0 : Int)), (0, 0)] := ⟨by decide, by decide, by decide, fun c hc => by
    simp only [List.mem_cons, List.not_mem_nil, or_false] at hc
    rcases hc with rfl | rfl <;> (unfold Nr; decide)⟩
  have a := are_ok fp
  have s := sort_dsc (a := (1, 0)) (b := (0, 0)) (by unfold plt; decide)
  have q := hEq_pts [((1 : Int), (0 : Int)), (0, 0)] [(0, 0), (1, 0)]
  rw [show decide ([((1 : Int), (0 : Int)), (0, 0)] = [(0, 0), (1, 0)]) = false from by decide] at q
  have z : hLt (.int 2) (.int 3) = some (.im (.bool true)) := rfl
  have hl : ∀ s : Sd, xCall hLen (aCons (xVar 0) (aNil)) ⟨[.im (.list (ptsD [((1 : Int), (0 : Int)), (0, 0)]))], none⟩ = .ok (.im (.int 2)) ⟨[.im (.list (ptsD [((1 : Int), (0 : Int)), (0, 0)]))], none⟩ := fun s => rfl
  have len : ((ptsD [((1 : Int), (0 : Int)), (0, 0)]).length : Int) = 2 := rfl
  show fFigure [.im (.list (ptsD [((1 : Int), (0 : Int)), (0, 0)]))] none = _
  generalize ptsD [((1 : Int), (0 : Int)), (0, 0)] = D at *
  generalize ptsD [((0 : Int), (0 : Int)), (1, 0)] = D2 at *
  simp [fFigure, -hI2, a, len, z, s, q]
theorem chk_f {C : Addr} {v : PyData} (h : fFigure [.im v] none = .ok (.im (.bool false)) none) : fChkFigure C [.im v] none = .err C v none := by
  generalize hF : fFigure = F at h
  unfold fChkFigure
  rw [hF]
  simp [-hI2, h]
theorem chk_p {C : Addr} {v : PyData} (h : fFigure [.im v] none = .ok (.im (.bool false)) none) : fChkPolygon C [.im v] none = .err C v none := by
  generalize hF : fFigure = F at h
  unfold fChkPolygon fPolygon
  rw [hF]
  simp [-hI2, h]
theorem chk_p2 {C : Addr} {D : List PyData} {n : Int} (h : fFigure [.im (.list D)] none = .ok (.im (.bool true)) none) (hn : (D.length : Int) = n) (z : hGt (.int n) (.int 2) = some (.im (.bool false))) : fChkPolygon C [.im (.list D)] none = .err C (.list D) none := by
  generalize hF : fFigure = F at h
  unfold fChkPolygon fPolygon
  rw [hF]
  simp [-hI2, h, hn, z]
abbrev wfD : List PyData := [PyData.none, .int 7, .tuple [], .list [], .dict [], .list [.none], .list [.tuple [.int 0]], .list [.list [.int 0, .int 0]], .list [.tuple [.int 0, .bool true]], .list [T2 1001 0], .list [T2 0 0, T2 0 0], .list [T2 1 0, T2 0 0], .tuple [T2 0 0], .list [T2 0 0, T2 1 0, T2 2 0],
  .list [T2 0 0, T2 0 1, T2 1 0], .list [T2 1 0, T2 0 1, T2 0 0], .list [T2 0 0, T2 1 0, T2 2 0, T2 0 1], .list [T2 0 0, T2 2 0, T2 1 1, T2 2 2, T2 0 2], .list [T2 0 0, T2 1 0, T2 1 1, T2 0 0]]
abbrev wpD : List PyData := wfD ++ [.list [T2 0 0], .list [T2 0 0, T2 1 2]]
theorem no_fig : ∀ v ∈ wfD, fFigure [.im v] none = .ok (.im (.bool false)) none := by
  intro v hv
  simp only [wfD, List.mem_cons, List.not_mem_nil, or_false] at hv
  rcases hv with rfl | rfl | rfl | rfl | rfl | rfl | rfl | rfl | rfl | rfl | rfl | rfl | rfl | rfl | rfl | rfl | rfl | rfl | rfl
  all_goals first
    | exact fig_dsc
    | kernel_rfl
theorem no_pol {C : Addr} : ∀ v ∈ wpD, fChkPolygon C [.im v] none = .err C v none := by
  intro v hv
  rcases List.mem_append.mp hv with h | h
  · exact chk_p (no_fig v h)
  · simp only [List.mem_cons, List.not_mem_nil, or_false] at h
    rcases h with rfl | rfl
    · exact chk_p2 (D := [T2 0 0]) (n := 1) (figure_ok (dr_one 0 0 (by decide) (by decide)).f) rfl rfl
    · exact chk_p2 (D := [T2 0 0, T2 1 2]) (n := 2) (figure_ok dr_12.f) rfl rfl
theorem shw_wpD : ∀ v ∈ wpD, Shw v := by
  intro v hv
  simp only [wpD, wfD, List.cons_append, List.nil_append, List.mem_cons, List.not_mem_nil, or_false] at hv
  rcases hv with rfl | rfl | rfl | rfl | rfl | rfl | rfl | rfl | rfl | rfl | rfl | rfl | rfl | rfl | rfl | rfl | rfl | rfl | rfl | rfl | rfl
  all_goals exact ⟨by decide +kernel, by decide +kernel⟩
theorem no_figC {C : Addr} : ∀ v ∈ wfD, fChkFigure C [.im v] none = .err C v none := fun v hv => chk_f (no_fig v hv)
end DL

set_option Elab.async false
set_option linter.all false
set_option autoImplicit false
set_option maxRecDepth 100000
namespace DL
open PySem PyProof.Rows L2
section
variable {X : Cx} {B : Bas} {W : WX} {e a b c : Expr} {es : List Expr} {pos : Pos} {ga gb gc g : DX}
/-! ### a, b, c = d, e, [..]: the last one a list that is just made -/
@[simp] def mPar3L (i j l : Nat) (ga gb gc : DX) : DM := fun s => bindS (ga s) fun r1 s1 => bindS (gb s1) fun r2 s2 => bindS (gc s2) fun r3 s3 => match r1, r2, r3 with
  | .im d, .im e, .ow ds => if (flat d && flat e) = true then .nx ⟨((s3.σ.set l (.ow ds)).set i (.im d)).set j (.im e), s3.g⟩ else .bad
  | _, _, _ => .bad
theorem ds_par3L {i j l : Nat} {x y z : Str} {px py pz pt : Pos} {kt k2 : Nat} {pt2 : Pos} (hc : X.calm = true) (hN : X.N.Nodup) (hi : X.N[i]? = some x) (hj : X.N[j]? = some y) (hl : X.N[l]? = some z) (hij : i ≠ j) (hil : i ≠ l) (hjl : j ≠ l)
    (hx : X.env.scope.names.lookup x = some .local) (hy : X.env.scope.names.lookup y = some .local) (hz : X.env.scope.names.lookup z = some .local) (ha : DPE X B W a ga) (hb : DPE X B W b gb) (hcc : DPE X B W c gc)
    (hw : swappedStores [.Tuple [.Name x px, .Name y py, .Name z pz] kt pt] (.Tuple [a, b, c] k2 pt2) X.env = pure (some [x, y, z]) := by rfl)
    (hs : swapsWithSole [.Tuple [.Name x px, .Name y py, .Name z pz] kt pt] (.Tuple [a, b, c] k2 pt2) pos.line X.env = pure false := by rfl)
    (s1 : starEach [a, b, c] X.env = (false, eval a X.env) :: starEach [b, c] X.env := by rfl) (s2 : starEach [b, c] X.env = (false, eval b X.env) :: starEach [c] X.env := by rfl) (s3 : starEach [c] X.env = (false, eval c X.env) :: starEach [] X.env := by rfl) :
    DPS X B W (.Assign [.Tuple [.Name x px, .Name y py, .Name z pz] kt pt] (.Tuple [a, b, c] k2 pt2) pos) (mPar3L i j l ga gb gc) :=
  (ps_par3 hc hN hi hj hl hij hil hjl hx hy hz (pa_cons ha (pa_cons hb (pa_cons hcc pa_nil s3) s2) s1) hw hs).con fun D σ H ⟨γ, F, s, G, A⟩ =>
    (tD_bindS G A).mono fun v1 H1 ⟨F1, s1, rv1, a1, p1, G1, r1, A1⟩ =>
    (tD_bindS G1 (A1.on a1)).mono fun v2 H2 ⟨F2, s2, rv2, a2, p2, G2, r2, A2⟩ =>
    (tD_bindS G2 (A2.on a2)).mono fun v3 H3 ⟨F3, s3, rv3, a3, p3, G3, r3, A3⟩ => by
      cases rv1 with
      | ow ds => exact A3.elim
      | im d =>
        cases rv2 with
        | ow ds => exact A3.elim
        | im e =>
          cases rv3 with
          | im f => exact A3.elim
          | ow ds =>
            dsimp only at A3
            by_cases f : (flat d && flat e) = true
            · rw [if_pos f] at A3
              rw [Bool.and_eq_true] at f
              obtain ⟨q, rfl, O⟩ := r3
              have h1 : Rp X.K F3 d v1 := Rp.flat r1 f.1
              have h2 : Rp X.K F3 e v2 := Rp.flat r2 f.2
              have G4 := ((G3.setOw (i := l) O).setIm (i := i) h1).setIm (i := j) h2
              refine ⟨v1, v2, .ref q, rfl, ?_⟩
              rw [show ((σ.set i (some v1)).set j (some v2)).set l (some (V.ref q)) = ((σ.set l (some (V.ref q))).set i (some v1)).set j (some v2) from by
                rw [List.set_comm _ _ hjl, List.set_comm _ _ hil]]
              exact A3 γ F3 _ H3 a3 G4
            · rw [if_neg f] at A3
              exact A3.elim
end
end DL

set_option Elab.async false
set_option linter.all false
set_option autoImplicit false
set_option maxRecDepth 100000
/-! DL50: an empty dict is no list -/
namespace PySem.SeqAt
open PySem
theorem list_eq_declines_dict (l b : Addr) (items : Array Value) (n : Nat) (dd dd2 : Option Addr) (sl sl2 : Array (Option Value)) (d2 : Data) :
    Meets (Builtin.«list.__eq__» ⟨[.ref l, .ref b], []⟩) (fun _ R s => s.heap.get? l = some { cls := .type "list", dict := dd, data := .seq items n, slots := sl } ∧ s.heap.get? b = some { cls := .type "dict", dict := dd2, data := d2, slots := sl2 } ∧ R (.ok (.ret .notImplemented)) s) :=
  .of_wp fun prog w A R s h => by obtain ⟨hp, g, d, tk, os⟩ := s; obtain ⟨hl, hb, h⟩ := h; have f1 := F.sub_dict_list; wp_walk using wpAny_loadPart' hl, wpAny_loadPart' hb; exact ⟨_, rfl, h⟩
section
variable {prog : Program} {w : World} {A : Around} {E : Value → Shared → Prop} {s : Shared} {K : Type} [DecidableEq K] {knd : KeyKind prog w K}
theorem rc_dict_list {a b : Addr} {ka : List (K × Value)} {its : Array Value} {Q : Value → Shared → Prop} (da : s.heap.DictOf knd a ka) (hl : s.heap.IsList b its) (hne : a ≠ b) (hu : A.units < cLine) (h : Q (.bool false) s) :
    wpAny (model prog w) A (richCompare .Eq (.ref a) (.ref b)) Q E s := by
  obtain ⟨⟨cls, dd, data, sl⟩, ho, hc, n, hd⟩ := id hl
  simp only at hc hd
  subst hc hd
  have db : s.TypeIs (.ref b) "list" := ⟨_, ho, rfl⟩
  have da' : s.TypeIs (.ref a) "dict" := da.typeIs
  obtain ⟨⟨cls2, dd2, data2, sl2⟩, ho2, hc2⟩ := id da'
  simp only at hc2
  subst hc2
  refine rc_eq_decline_or (k := false) da' db (by decide) F.sub_list_dict F.slot_dict_eq F.slot_list_eq_refl
    (fun Q' hq => wpAny_call_entry PySem.F.slot_dict_eq da' PySem.F.entry_dict_eq ?_ (PySem.F.args_dict_eq_2 _ _))
    (fun _ hq => call_meets F.slot_list_eq_refl db F.entry_list_eq (F.args_list_eq_2 _ _) (list_eq_declines_dict b a its n dd dd2 sl sl2 data2) ⟨ho, ho2, hq⟩)
    (fun _ hq => wpAny_isSame_ref_other hne ho2 ho (by simp) hq) (.inr hu) h
  show wpAny _ _ (Builtin.Dict.dictSlotArgs "__eq__" ⟨[.ref a, .ref b], []⟩ >>= _) _ _ s
  refine wpAny_bind ?_
  unfold Builtin.Dict.dictSlotArgs
  refine wpAny_bind (wpAny_notOrdered_dict da' ?_)
  show wpAny _ _ (pure (Value.ref a, Value.ref b)) _ _ s
  refine wpAny_pure ?_
  refine wpAny_bind (wpAny_isInstance (T := "list") db PySem.F.sub_list_dict ?_)
  simp only [Bool.not_false, if_true]
  refine wpAny_bind (wpAny_rule ?_)
  refine wpAny_bind (wpAny_pure ?_)
  refine wpAny_pure ⟨_, rfl, hq⟩
end
end PySem.SeqAt
namespace DL
open PySem PyProof.Rows L2
def hEqE : PyData → PyData → Option Rv
  | .dict [], .list _ => some (.im (.bool false))
  | d, e => hEq d e
def rEqE (K : PySem.W.Frag) : R2 := fun x y H Q => rEqD K x y H Q ∨ ∃ a b ys, x = .ref a ∧ y = .ref b ∧ H a = some (.dK []) ∧ L2.Rd H b (.lst ys) ∧ Q (.bl false) H
theorem isList_of {P : Program} {w : World} {H : Hp} {h : Heap} {b : Addr} {ys : List V} (ok : HOk P w H h) (r : L2.Rd H b (.lst ys)) : ∃ its, h.IsList b its := by
  rcases r with e | ⟨o, e⟩
  · obtain ⟨_, its, n, _, e2⟩ := (show ObjOk P w H h b (.lst ys) from ok b _ e)
    exact ⟨its.toArray, _, e2, rfl, n, rfl⟩
  · obtain ⟨_, _, its, n, _, e2⟩ := (show h.get? b = some o ∧ ObjOk P w H h b (.lst ys) from ok b _ e)
    exact ⟨its.toArray, _, e2, rfl, n, rfl⟩
theorem op_eqE {X : Cx} (hu : X.A.units + 64 < cLine) : OpR X (compareOp .Eq) (rEqE X.K) := by
  intro pins s σ H x y v u Q I rx ry h
  rcases h with h | ⟨a, b, ys, rfl, rfl, ea, eb, q⟩
  · exact op_eqD hu pins s σ H x y v u Q I rx ry h
  · obtain rfl : v = Value.ref a := rx
    obtain rfl : u = Value.ref b := ry
    obtain ⟨_, _, va, _, da⟩ := (show ObjOk X.prog X.w H s.heap a (.dK []) from I.hok a _ ea)
    obtain ⟨its, hl⟩ := isList_of I.hok eb
    have hne : a ≠ b := fun z => by
      subst z
      obtain ⟨o, h1, h2, _⟩ := hl
      obtain ⟨o2, h3, h4⟩ := da.typeIs
      rw [h1] at h3
      cases h3
      rw [h2] at h4
      exact absurd h4 (by decide)
    exact SeqAt.rc_dict_list da hl hne (by omega) ⟨.bl false, H, I, rfl, q⟩
theorem o_eqE {K : PySem.W.Frag} : Op2 K hEqE (rEqE K) := by
  intro B W γ F s σ H x y d e rv Q G r1 r2 he A
  unfold hEqE at he
  split at he
  · cases he
    cases r1 with
    | dic h1 =>
      cases r2 with
      | lst h2 _ => exact .inr ⟨_, _, _, rfl, rfl, G.sub _ _ h1, rd_mono G.sub h2, A.same G (.bl _)⟩
  · exact .inl (o_eq B W γ F s σ H x y _ _ rv Q G r1 r2 he A)
end DL

set_option Elab.async false
set_option linter.all false
set_option autoImplicit false
set_option maxRecDepth 100000
set_option maxHeartbeats 1000000
/-! DL51: enumerate of a list or a tuple. -/
namespace PySem
theorem pyNext_enum_end0 {prog : Program} {w : World} {A : Around} {E : Value → Shared → Prop} {s : Shared} {e it : Addr} {i : Int} {old : Value} {Q : Option Value → Shared → Prop}
    (he : IsEnum s.heap e it i old) (nx : ∀ (Q' : Value → Shared → Prop) (E' : Value → Shared → Prop), (∀ h' x, Heap.ExtBut it s.heap h' → (∃ o, h'.get? x = some o ∧ o.cls = .type "StopIteration") → E' (.ref x) { s with heap := h' }) → wpAny (model prog w) A.in1 (Builtin.SmallTypes.nextOf (.ref it)) Q' E' s)
    (hQ : ∀ h', Heap.ExtBut it s.heap h' → Q none { s with heap := h' }) : wpAny (model prog w) A (pyNext (.ref e)) Q E s := by
  have hT : s.TypeIs (.ref e) "enumerate" := ⟨_, he, rfl⟩
  unfold pyNext
  refine wpAny_bind (wpAny_attempt (wpAny_callSpecial?_slot (name := Str.ofString "__next__") hT F.slot_enumerate_next
    (wpAny_call_entry F.slot_enumerate_next hT F.entry_enumerate_next ?_ (F.args_enumerate_next_1 _))))
  show wpAny _ _ (field (.ref e) 2 >>= _) _ _ _
  refine wpAny_bind (wpAny_field he rfl (x := .ref it) rfl ?_)
  refine wpAny_bind (nx _ _ fun h' x he' hx' => ?_)
  obtain ⟨o, ho, hc⟩ := hx'
  refine wpAny_bind (wpAny_isInstance (T := "StopIteration") (b := true) ⟨o, ho, hc⟩ isSubtype_stop ?_)
  exact wpAny_pure (hQ _ he')
end PySem
namespace DL
open PySem PyProof.Rows L2
def IteS (K : PySem.W.Frag) (a : Addr) : It :=
  ⟨fun i H => ∃ (xs : List V) (x : V), SqT K H a xs ∧ xs[i]? = some x, fun i H v H' => ∃ T x, v = .ref T ∧ H T = none ∧ H' = upd H T (.tup [.int (i : Nat), x]) ∧ ∀ xs, SqT K H a xs → xs[i]? = some x, fun i H => ∃ xs : List V, SqT K H a xs ∧ xs.length ≤ i⟩
theorem turn_enumS {P : Program} {w : World} {K : PySem.W.Frag} {elts : List Expr} {kk : Nat} {tpos : Pos} (a e it : Addr) :
    Turn P w K (.Tuple elts kk tpos) (IteS K a) [e, it] e (fun i h => (∃ old, IsEnum h e it ((i : Nat) : Int) old) ∧ h.IsTupleIter it a i ∧ e ≠ it ∧ a ≠ it ∧ e ≠ a) where
  mem := by simp
  obj := fun i h st b hb => by
    obtain ⟨⟨old, he⟩, ⟨o, ho, hc, hd⟩, _⟩ := st
    have e' : b = e ∨ b = it := by simpa using hb
    rcases e' with z | z
    · rw [z]; exact ⟨_, he, fun v q => nomatch q⟩
    · rw [z]; exact ⟨o, ho, fun v q => by rw [hd] at q; cases q⟩
  keep := fun i h h' st k => let ⟨⟨old, he⟩, hi, hne⟩ := st; ⟨⟨old, k e (by simp) _ he⟩, hi.at fun o q => k it (by simp) o q, hne⟩
  item := by
    intro X hP hw hK hc i pins s σ H E I hf st hg
    subst hP hw hK
    obtain ⟨⟨old, he⟩, hit, hne, hai, hea⟩ := st
    obtain ⟨xs, x, hq, hx⟩ := hg
    obtain ⟨its, rv, p, hz⟩ := I.tuple hq
    obtain ⟨u, hu, ru⟩ := rv.get hx
    have hel : e < s.heap.objs.size := Heap.lt_size he
    have hil : it < s.heap.objs.size := by obtain ⟨_, q, _⟩ := hit; exact Heap.lt_size q
    have D := Draws.tuple (prog := X.prog) (w := X.w) (A := X.A.in1) (I.ok.hd hc) it a hai its.toArray
    refine wpAny_pyNext_enum_itemD D he ⟨hit, p⟩ (by have := (List.getElem?_eq_some_iff.mp hu).1; simpa using this) hne (by simp [hne, hea]) fun x' h' tk hP' ho hit' hT hsz hk => ?_
    have ex : x' = u := by
      have h1 : its.toArray[i]? = some x' := hP'
      simp at h1
      rw [hu] at h1
      exact (Option.some.inj h1).symm
    subst ex
    refine ⟨_, rfl, wpAny_letOwnedTupleGo_enum (s := { s with heap := h', toks := tk + 1 }) ho fun h'' he' sb => ?_⟩
    have hT2 : h''.get? s.heap.objs.size = some { cls := .type "tuple", data := .seq #[.int i tk, x'] } := (sb.2 _ (Nat.ne_of_gt hel)).trans hT
    have new : ObjOk X.prog X.w (upd H s.heap.objs.size (.tup [.int (i : Nat), x])) h'' s.heap.objs.size (.tup [.int (i : Nat), x]) :=
      ⟨by show 2 ≤ sizeLine; decide, [.int i tk, x'], .cons ⟨_, rfl⟩ (.cons ru .nil), ⟨_, hT2, rfl, _, rfl⟩⟩
    have I1 : Inv X pins σ (upd H s.heap.objs.size (.tup [.int (i : Nat), x])) { s with heap := h'', toks := tk + 1 } :=
      I.turnedNew (ch := [e, it]) (fun b ob hb q => (sb.2 b (fun z => hb (by simp [z]))).trans (hk b ob (fun z => hb (by simp [z])) (fun z => hb (by simp [z])) q)) hf (Nat.le_refl _) new
    refine ⟨.ref s.heap.objs.size, _, I1, rfl, ⟨_, x, rfl, I.hok.fresh (Nat.le_refl _), rfl, fun ys hy => by rw [I.tuple_inj hy hq]; exact hx⟩, ⟨⟨x', ?_⟩, hit'.1.at fun o q => (sb.2 it (Ne.symm hne)).trans q, hne, hai, hea⟩, fun b hb => ?_⟩
    · have e1 : ((i + 1 : Nat) : Int) = (i : Int) + 1 := by omega
      rw [e1]; exact he'
    · have hb' : b < s.heap.objs.size := by
        have e' : b = e ∨ b = it := by simpa using hb
        rcases e' with z | z
        · rw [z]; exact hel
        · rw [z]; exact hil
      rw [upd_ne (Nat.ne_of_lt hb')]
      exact (hf b hb).1
  done := by
    intro X hP hw hK hc i pins s σ H E I hf st hg
    subst hP hw hK
    obtain ⟨⟨old, he⟩, hit, hne, hai, hea⟩ := st
    obtain ⟨xs, hq, hx⟩ := hg
    obtain ⟨its, rv, p, hz⟩ := I.tuple hq
    obtain ⟨f0, f1, f2, f3, f4, f5⟩ := hf it (by simp)
    have hl := rv.length
    exact pyNext_enum_end0 he (fun Q' E' q => wpAny_nextOf_tuple_end (I.ok.hd hc) hit p (by simp; omega) q) fun h' eb => ⟨rfl, I.turned (t' := s.toks) (fun b o hb q => eb b o hb q) f0 f1 f3 f4 f5⟩
  self := fun A i s Q E st h => let ⟨⟨_, he⟩, _⟩ := st; wpAny_pyIter_enum he h

/-- enumerate of a list or a tuple -/
def iEnumB (K : PySem.W.Frag) (ta : TA) : TI := fun σ H R => ta σ H fun vs H1 => (∃ a xs, vs = [.ref a] ∧ SqL K H1 a xs ∧ R (Ite K a) H1) ∨ ∃ a xs, vs = [.ref a] ∧ SqT K H1 a xs ∧ R (IteS K a) H1
theorem pi_enumB {X : Cx} {e : Expr} {ta : TA} {p pos tpos : Pos} {elts : List Expr} {kk : Nat} (hg : Gl X "enumerate") (hm : X.mg "enumerate" = none) (ha : PA X [e] ta) (hs : starEach [e] X.env = [(false, eval e X.env)] := by rfl) :
    PI X (.Tuple elts kk tpos) (.Call (.Name "enumerate" p) [e] [] pos) (iEnumB X.K ta) := by
  refine ⟨fun pins s σ H R I h => ?_⟩
  refine Call_ (ld_blt I hg hm boot_enumerate (PyProof.Rows.callWith_type1 (thn (ha.run pos pins s σ H _ I h) fun us s1 ⟨vs, H1, I1, r1, q1⟩ => ?_) hs rfl))
  rcases q1 with ⟨a, xs, ex, hq, q⟩ | ⟨a, xs, ex, hq, q⟩
  · subst ex
    cases r1 with
    | cons r rr =>
      cases rr
      cases r
      obtain ⟨its, rv, p', hz⟩ := I1.list hq
      refine call_enumerate_list p'.isList fun h' he hit hsz hk => wpAny_pyIter_enum he ?_
      have I2 : Inv X pins σ H1 { s1 with heap := h' } := I1.kept (t' := s1.toks) hk
      refine ⟨s1.heap.objs.size + 1, [s1.heap.objs.size + 1, s1.heap.objs.size], _, _, H1, rfl, I2, turn_enum a (s1.heap.objs.size + 1) s1.heap.objs.size, ⟨⟨.none, he⟩, hit, Nat.succ_ne_self _⟩, fun b hb => ?_, q⟩
      have e' : b = s1.heap.objs.size + 1 ∨ b = s1.heap.objs.size := by simpa using hb
      have hle : s1.heap.objs.size ≤ b := by
        rcases e' with z | z
        · rw [z]; exact Nat.le_add_right _ _
        · rw [z]; exact Nat.le_refl _
      exact I1.fpOk hle (I1.hok.fresh hle)
  · subst ex
    cases r1 with
    | cons r rr =>
      cases rr
      cases r
      obtain ⟨its, rv, p', hz⟩ := I1.tuple hq
      have ha : a < s1.heap.objs.size := by obtain ⟨_, q, _⟩ := p'; exact Heap.lt_size q
      refine call_enum1B (begins_tuple a its.toArray) p' fun h' he hit hsz hk => wpAny_pyIter_enum he ?_
      have I2 : Inv X pins σ H1 { s1 with heap := h' } := I1.kept (t' := s1.toks) hk
      refine ⟨s1.heap.objs.size + 1, [s1.heap.objs.size + 1, s1.heap.objs.size], _, _, H1, rfl, I2, turn_enumS a (s1.heap.objs.size + 1) s1.heap.objs.size, ⟨⟨.none, he⟩, ⟨_, hit, rfl, rfl⟩, Nat.succ_ne_self _, Nat.ne_of_lt ha, (Nat.ne_of_lt (Nat.lt_succ_of_lt ha)).symm⟩, fun b hb => ?_, q⟩
      have e' : b = s1.heap.objs.size + 1 ∨ b = s1.heap.objs.size := by simpa using hb
      have hle : s1.heap.objs.size ≤ b := by
        rcases e' with z | z
        · rw [z]; exact Nat.le_add_right _ _
        · rw [z]; exact Nat.le_refl _
      exact I1.fpOk hle (I1.hok.fresh hle)
theorem itD_enumS {K : PySem.W.Frag} {F : Hp} {a : Addr} {xs : List V} {ds : List PyData} (h1 : SqT K F a xs) (r1 : RpL K F ds xs) : ItD K (IteS K a) F (enumD 0 ds) := fun i H sH => by
  refine ⟨fun d hd => ?_, fun hl => ⟨xs, sqT_mono sH h1, by rw [enumD_len] at hl; rw [r1.len]; exact hl⟩⟩
  obtain ⟨d1, e1, ed⟩ := enumD_get hd
  rw [Nat.zero_add] at ed
  obtain ⟨v, k1, k2⟩ := r1.get e1
  refine ⟨⟨xs, v, sqT_mono sH h1, k1⟩, fun x H' ⟨T, x1, ex, hT, eH, q1⟩ => .inr ⟨T, [.int (i : Nat), d1], [.int (i : Nat), x1], hT, eH, ex, ed, ?_⟩⟩
  have f1 := q1 xs (sqT_mono sH h1)
  rw [k1] at f1
  cases f1
  exact .cons (.int _) (.cons k2 .nil)
def xEnumB (t : DA) : DX := fun s => bindA (t s) fun ds s1 => match ds with
  | [.list es] => .ok (.im (.list (enumD 0 es))) s1
  | [.tuple es] => .ok (.im (.list (enumD 0 es))) s1
  | _ => .bad
section
variable {X : Cx} {B : Bas} {W : WX} {a : Expr} {pos : Pos} {ga : DX}
theorem di_enumB {elts : List Expr} {kk : Nat} {tpos p : Pos} {t : DA} (hg : Gl X "enumerate") (hm : X.mg "enumerate" = none) (ha : DPA X B W [a] t) (hs : starEach [a] X.env = [(false, eval a X.env)] := by rfl) :
    DPI X B W (.Tuple elts kk tpos) (.Call (.Name "enumerate" p) [a] [] pos) (xEnumB t) :=
  di_args (pi_enumB hg hm ha hs) (fun σ H Rq h => h) fun γ F s σ H ds xs Rq G r A => by
    match ds, r, A with
    | [.list es], .cons (.lst h q) .nil, A => exact .inl ⟨_, _, rfl, .inl (rd_mono G.sub h), A F H _ .rfl .rfl G (itD_enum (.inl h) q)⟩
    | [.tuple es], .cons (.tup h q) .nil, A => exact .inr ⟨_, _, rfl, sqT_mono G.sub h, A F H _ .rfl .rfl G (itD_enumS h q)⟩
    | [], _, A => exact A.elim
    | .none :: _, _, A => exact A.elim
    | .bool _ :: _, _, A => exact A.elim
    | .int _ :: _, _, A => exact A.elim
    | .str _ :: _, _, A => exact A.elim
    | .dict _ :: _, _, A => exact A.elim
    | .list _ :: _ :: _, _, A => exact A.elim
    | .tuple _ :: _ :: _, _, A => exact A.elim
end
end DL

set_option Elab.async false
set_option linter.all false
set_option autoImplicit false
set_option maxRecDepth 100000
set_option maxHeartbeats 1000000
/-! DL52: hulls are told by their points; maps of rings. -/
namespace DL
open PySem PyProof.Rows L2
theorem turn_acb (a b c : Pt2) : turn a c b = - turn a b c := by unfold turn; grind
theorem gp_mem {R : List Pt2} {i : Nat} (h : i < R.length) : gp R i ∈ R := getD_mem h
theorem mod_ne {n i : Nat} (h : 2 ≤ n) : (i + 1) % n ≠ i % n := by
  intro e
  have h1 := Nat.div_add_mod (i + 1) n
  have h2 := Nat.div_add_mod i n
  have h3 := Nat.mod_lt i (show 0 < n by omega)
  rw [e] at h1
  have h4 : n * ((i + 1) / n) = n * (i / n) + 1 := by omega
  have h5 : n ∣ 1 := by
    have : 1 = n * ((i + 1) / n) - n * (i / n) := by omega
    rw [this]
    exact Nat.dvd_sub (Nat.dvd_mul_right _ _) (Nat.dvd_mul_right _ _)
  have := Nat.le_of_dvd (by omega) h5
  omega
theorem ring_uniq {l R1 R2 : List Pt2} (r1 : Ring l R1) (rg : Rg R2) (nd2 : R2.Nodup) (h2 : 2 ≤ R2.length) (e : ∀ c, c ∈ l ↔ c ∈ R2) : R1 = R2 := by
  have n1 := r1.two
  have l1 : 0 < R1.length := by omega
  have l2 : 0 < R2.length := by omega
  have key : ∀ i, gp R1 (i % R1.length) = gp R2 (i % R2.length) := by
    intro i
    induction i with
    | zero =>
      rw [Nat.zero_mod, Nat.zero_mod]
      have a := r1.hd (gp R2 0) ((e _).mpr (gp_mem l2))
      have b := rg.hd (gp R1 0) ((e _).mp (r1.sub _ (gp_mem l1)))
      rcases a with a | a
      · exact a.symm
      · rcases b with b | b
        · exact b
        · exact absurd (plt_tr a b) (plt_irr _)
    | succ i ih =>
      have i1 := Nat.mod_lt i l1
      have i2 := Nat.mod_lt i l2
      have j1 := Nat.mod_lt (i + 1) l1
      have j2 := Nat.mod_lt (i + 1) l2
      have g := r1.ge (i % R1.length) i1 (gp R2 ((i + 1) % R2.length)) ((e _).mpr (gp_mem j2))
      have s := rg.st (i % R2.length) i2 (gp R1 ((i + 1) % R1.length)) ((e _).mp (r1.sub _ (gp_mem j1)))
      rw [Nat.mod_add_mod] at g s
      have nb : gp R1 ((i + 1) % R1.length) ≠ gp R1 (i % R1.length) := gp_ne r1.nd j1 i1 (mod_ne n1)
      rw [ih] at nb
      by_cases z : gp R1 ((i + 1) % R1.length) = gp R2 ((i + 1) % R2.length)
      · exact z
      · have s : 0 < turn (gp R2 (i % R2.length)) (gp R2 ((i + 1) % R2.length)) (gp R1 ((i + 1) % R1.length)) := s nb z
        have g : 0 ≤ turn (gp R1 (i % R1.length)) (gp R1 ((i + 1) % R1.length)) (gp R2 ((i + 1) % R2.length)) := g
        rw [ih] at g
        have := turn_acb (gp R2 (i % R2.length)) (gp R1 ((i + 1) % R1.length)) (gp R2 ((i + 1) % R2.length))
        omega
  have k0 := key 0
  rw [Nat.zero_mod, Nat.zero_mod] at k0
  have len : R1.length = R2.length := by
    rcases Nat.lt_trichotomy R1.length R2.length with z | z | z
    · have k := key R1.length
      rw [Nat.mod_self, Nat.mod_eq_of_lt z, k0] at k
      exact absurd k.symm (gp_ne nd2 z l2 (by omega))
    · exact z
    · have k := key R2.length
      rw [Nat.mod_self, Nat.mod_eq_of_lt z, ← k0] at k
      exact absurd k (gp_ne r1.nd z l1 (by omega))
  refine List.ext_getElem len fun i h1 h2 => ?_
  have k := key i
  rw [Nat.mod_eq_of_lt h1, Nat.mod_eq_of_lt h2] at k
  unfold gp at k
  rw [List.getD_eq_getElem?_getD, List.getD_eq_getElem?_getD, List.getElem?_eq_getElem h1, List.getElem?_eq_getElem h2] at k
  exact k
theorem asc_uniq : ∀ {l R : List Pt2}, l.Pairwise plt → R.Pairwise plt → (∀ c, c ∈ l ↔ c ∈ R) → l = R
  | [], [], _, _, _ => rfl
  | [], b :: R, _, _, e => absurd ((e b).mpr List.mem_cons_self) (by simp)
  | a :: l, [], _, _, e => absurd ((e a).mp List.mem_cons_self) (by simp)
  | a :: l, b :: R, h, k, e => by
    rw [List.pairwise_cons] at h k
    have ab : a = b := by
      rcases List.mem_cons.mp ((e a).mp List.mem_cons_self) with z | z
      · exact z
      · rcases List.mem_cons.mp ((e b).mpr List.mem_cons_self) with y | y
        · exact y.symm
        · exact absurd (plt_tr (k.1 a z) (h.1 b y)) (plt_irr _)
    subst ab
    congr 1
    refine asc_uniq h.2 k.2 fun c => ⟨fun hc => ?_, fun hc => ?_⟩
    · rcases List.mem_cons.mp ((e c).mp (List.mem_cons_of_mem _ hc)) with z | z
      · subst z; exact absurd (h.1 c hc) (plt_irr _)
      · exact z
    · rcases List.mem_cons.mp ((e c).mpr (List.mem_cons_of_mem _ hc)) with z | z
      · subst z; exact absurd (k.1 c hc) (plt_irr _)
      · exact z
theorem psort_of {l R : List Pt2} (h : R.Pairwise plt) (e : ∀ c, c ∈ l ↔ c ∈ R) : psort l = R :=
  asc_uniq (psort_asc l) h fun c => mem_psort.trans (e c)
theorem psort_size {l R : List Pt2} (nd : R.Nodup) (e : ∀ c, c ∈ l ↔ c ∈ R) : (psort l).length = R.length := by
  have n1 : (psort l).Nodup := (psort_asc l).imp fun {a b} h => plt_ne h
  have a := n1.length_le_of_subset (l₂ := R) fun c hc => (e c).mp (mem_psort.mp hc)
  have b := nd.length_le_of_subset (l₂ := psort l) fun c hc => mem_psort.mpr ((e c).mpr hc)
  omega
/-- a figure is the hull of its own corners -/
theorem hull_of_set {l R : List Pt2} (nd : R.Nodup) (f2 : R.length < 3 → R.Pairwise plt) (f3 : 3 ≤ R.length → Rg R) (e : ∀ c, c ∈ l ↔ c ∈ R) : ringP (psort l) = R := by
  have n := psort_size nd e
  unfold ringP
  by_cases z : R.length < 3
  · rw [if_pos (by omega)]
    exact psort_of (f2 z) e
  · rw [if_neg (by omega)]
    exact ring_uniq (ring_ok (l := psort l) (by omega) (psort_asc l)) (f3 (by omega)) nd (by omega) fun c => mem_psort.trans (e c)
/-! maps -/
structure Mp where
  a : Int
  b : Int
  c : Int
  d : Int
  e : Int
  f : Int
namespace Mp
def det (m : Mp) : Int := m.a * m.d - m.b * m.c
def app (m : Mp) (p : Pt2) : Pt2 := (m.a * p.1 + m.b * p.2 + m.e, m.c * p.1 + m.d * p.2 + m.f)
def Uni (m : Mp) : Prop := m.det = 1 ∨ m.det = -1
theorem det_sq {m : Mp} (h : m.Uni) : m.det * m.det = 1 := by rcases h with h | h <;> rw [h] <;> decide
theorem turn_app (m : Mp) (p q r : Pt2) : turn (m.app p) (m.app q) (m.app r) = m.det * turn p q r := by unfold turn app det; grind
theorem inj {m : Mp} (h : m.Uni) {p q : Pt2} (e : m.app p = m.app q) : p = q := by
  unfold app at e
  rw [Prod.mk.injEq] at e
  have s := det_sq h
  have e1 : m.det * (p.1 - q.1) = 0 := by
    have : m.det * (p.1 - q.1) = m.d * ((m.a * p.1 + m.b * p.2 + m.e) - (m.a * q.1 + m.b * q.2 + m.e)) - m.b * ((m.c * p.1 + m.d * p.2 + m.f) - (m.c * q.1 + m.d * q.2 + m.f)) := by unfold det; grind
    rw [this, e.1, e.2]; omega
  have e2 : m.det * (p.2 - q.2) = 0 := by
    have : m.det * (p.2 - q.2) = m.a * ((m.c * p.1 + m.d * p.2 + m.f) - (m.c * q.1 + m.d * q.2 + m.f)) - m.c * ((m.a * p.1 + m.b * p.2 + m.e) - (m.a * q.1 + m.b * q.2 + m.e)) := by unfold det; grind
    rw [this, e.1, e.2]; omega
  have f1 : p.1 - q.1 = m.det * (m.det * (p.1 - q.1)) := by rw [← Int.mul_assoc, s, Int.one_mul]
  have f2 : p.2 - q.2 = m.det * (m.det * (p.2 - q.2)) := by rw [← Int.mul_assoc, s, Int.one_mul]
  rw [e1, Int.mul_zero] at f1
  rw [e2, Int.mul_zero] at f2
  exact Prod.ext (by omega) (by omega)
/-- steps -/
def lin (m : Mp) (v : Pt2) : Pt2 := (m.a * v.1 + m.b * v.2, m.c * v.1 + m.d * v.2)
theorem gcd_lin {m : Mp} (h : m.Uni) (v : Pt2) : Int.gcd (m.lin v).1 (m.lin v).2 = Int.gcd v.1 v.2 := by
  have s := det_sq h
  have e1 : v.1 = m.det * (m.d * (m.lin v).1 - m.b * (m.lin v).2) := by
    have : m.d * (m.lin v).1 - m.b * (m.lin v).2 = m.det * v.1 := by unfold lin det; grind
    rw [this, ← Int.mul_assoc, s, Int.one_mul]
  have e2 : v.2 = m.det * (m.a * (m.lin v).2 - m.c * (m.lin v).1) := by
    have : m.a * (m.lin v).2 - m.c * (m.lin v).1 = m.det * v.2 := by unfold lin det; grind
    rw [this, ← Int.mul_assoc, s, Int.one_mul]
  refine Nat.dvd_antisymm ?_ ?_
  · refine Int.ofNat_dvd.mp (Int.dvd_coe_gcd ?_ ?_)
    · conv => rhs; rw [e1]
      exact Int.dvd_mul_of_dvd_right (Int.dvd_sub (Int.dvd_mul_of_dvd_right (Int.gcd_dvd_left _ _)) (Int.dvd_mul_of_dvd_right (Int.gcd_dvd_right _ _)))
    · conv => rhs; rw [e2]
      exact Int.dvd_mul_of_dvd_right (Int.dvd_sub (Int.dvd_mul_of_dvd_right (Int.gcd_dvd_right _ _)) (Int.dvd_mul_of_dvd_right (Int.gcd_dvd_left _ _)))
  · refine Int.ofNat_dvd.mp (Int.dvd_coe_gcd ?_ ?_)
    · unfold lin; exact Int.dvd_add (Int.dvd_mul_of_dvd_right (Int.gcd_dvd_left _ _)) (Int.dvd_mul_of_dvd_right (Int.gcd_dvd_right _ _))
    · unfold lin; exact Int.dvd_add (Int.dvd_mul_of_dvd_right (Int.gcd_dvd_left _ _)) (Int.dvd_mul_of_dvd_right (Int.gcd_dvd_right _ _))
end Mp
/-- how many steps lead from a point to another one -/
def stp (p q : Pt2) : Int := (Int.gcd (q.1 - p.1) (q.2 - p.2) : Nat)
theorem stp_sym (p q : Pt2) : stp p q = stp q p := by
  unfold stp
  congr 1
  rw [show q.1 - p.1 = -(p.1 - q.1) from by omega, show q.2 - p.2 = -(p.2 - q.2) from by omega, Int.neg_gcd, Int.gcd_neg]
theorem stp_app {m : Mp} (h : m.Uni) (p q : Pt2) : stp (m.app p) (m.app q) = stp p q := by
  have := Mp.gcd_lin h (q.1 - p.1, q.2 - p.2)
  unfold stp
  congr 1
  rw [← this]
  unfold Mp.app Mp.lin
  dsimp only
  congr 1 <;> grind
end DL

set_option Elab.async false
set_option linter.all false
set_option autoImplicit false
set_option maxRecDepth 100000
set_option maxHeartbeats 1000000
/-! DL53: the ring of the images of a ring. -/
namespace DL
open PySem PyProof.Rows L2
structure Cyc (R : List Pt2) : Prop where
  nd : R.Nodup
  st : ∀ i, i < R.length → ∀ c ∈ R, c ≠ gp R i → c ≠ gp R ((i + 1) % R.length) → 0 < turn (gp R i) (gp R ((i + 1) % R.length)) c
def rotS (s : Nat) (R : List Pt2) : List Pt2 := R.drop s ++ R.take s
theorem rotS_len (s : Nat) (R : List Pt2) : (rotS s R).length = R.length := by unfold rotS; rw [List.length_append, List.length_drop, List.length_take]; omega
theorem rotS_mem {s : Nat} {R : List Pt2} {c : Pt2} : c ∈ rotS s R ↔ c ∈ R := by
  unfold rotS
  conv => rhs; rw [← List.take_append_drop s R]
  rw [List.mem_append, List.mem_append]
  exact Or.comm
theorem rotS_nd {s : Nat} {R : List Pt2} (h : R.Nodup) : (rotS s R).Nodup := by
  unfold rotS
  have := h
  rw [← List.take_append_drop s R] at this
  exact List.perm_append_comm.nodup_iff.mp this
theorem Cyc.rot {R : List Pt2} (h : Cyc R) {s : Nat} (hs : s < R.length) : Cyc (rotS s R) := by
  refine ⟨rotS_nd h.nd, fun i hi c hc n1 n2 => ?_⟩
  rw [rotS_len] at hi n2 ⊢
  have pos : 0 < R.length := by omega
  have e1 : gp (rotS s R) i = gp R ((i + s) % R.length) := gp_rot hs hi
  have e2 : gp (rotS s R) ((i + 1) % R.length) = gp R (((i + s) % R.length + 1) % R.length) := by
    rw [Nat.mod_add_mod]
    have := gp_rot hs (j := (i + 1) % R.length) (Nat.mod_lt _ pos)
    rw [Nat.mod_add_mod, show i + 1 + s = i + s + 1 from by omega] at this
    exact this
  rw [e1] at n1 ⊢
  rw [e2] at n2 ⊢
  exact h.st _ (Nat.mod_lt _ pos) c (rotS_mem.mp hc) n1 n2
theorem min_at : ∀ {R : List Pt2}, R ≠ [] → ∃ i, i < R.length ∧ ∀ c ∈ R, c = gp R i ∨ plt (gp R i) c
  | [], h => absurd rfl h
  | [a], _ => ⟨0, by simp, fun c hc => .inl (by simpa using hc)⟩
  | a :: b :: R, _ => by
    obtain ⟨i, hi, k⟩ := min_at (R := b :: R) (by simp)
    have e : gp (a :: b :: R) (i + 1) = gp (b :: R) i := by unfold gp; rfl
    have z : gp (a :: b :: R) 0 = a := rfl
    rcases plt_tri a (gp (b :: R) i) with h | h | h
    · refine ⟨0, by simp, fun c hc => ?_⟩
      rw [z]
      rcases List.mem_cons.mp hc with y | y
      · exact .inl y
      · rcases k c y with w | w
        · rw [w]; exact .inr h
        · exact .inr (plt_tr h w)
    · refine ⟨0, by simp, fun c hc => ?_⟩
      rw [z]
      rcases List.mem_cons.mp hc with y | y
      · exact .inl y
      · rcases k c y with w | w
        · rw [w]; exact .inl h.symm
        · rw [h]; exact .inr w
    · refine ⟨i + 1, by simp at hi ⊢; omega, fun c hc => ?_⟩
      rw [e]
      rcases List.mem_cons.mp hc with y | y
      · rw [y]; exact .inr h
      · exact k c y
theorem Cyc.rg {R : List Pt2} (h : Cyc R) (n : R ≠ []) : ∃ s, s < R.length ∧ Rg (rotS s R) := by
  obtain ⟨s, hs, k⟩ := min_at n
  refine ⟨s, hs, fun c hc => ?_, (h.rot hs).st⟩
  have e : gp (rotS s R) 0 = gp R s := by
    have := gp_rot hs (j := 0) (by omega)
    rw [Nat.zero_add, Nat.mod_eq_of_lt hs] at this
    exact this
  show c = gp (rotS s R) 0 ∨ plt (gp (rotS s R) 0) c
  rw [e]
  exact k c (rotS_mem.mp hc)
/-! images -/
theorem gp_map {m : Mp} {R : List Pt2} {i : Nat} (h : i < R.length) : gp (R.map m.app) i = m.app (gp R i) := by
  unfold gp
  rw [List.getD_eq_getElem?_getD, List.getD_eq_getElem?_getD, List.getElem?_map, List.getElem?_eq_getElem h]
  rfl
theorem gp_rev {R : List Pt2} {i : Nat} (h : i < R.length) : gp R.reverse i = gp R (R.length - 1 - i) := by
  unfold gp
  rw [List.getD_eq_getElem?_getD, List.getD_eq_getElem?_getD, List.getElem?_reverse h]
theorem map_nd {m : Mp} (hm : m.Uni) {R : List Pt2} (h : R.Nodup) : (R.map m.app).Nodup :=
  List.pairwise_map.mpr (h.imp fun {a b} n e => n (Mp.inj hm e))
theorem rev_nx {n i : Nat} (h : i < n) : (n - 1 - (i + 1) % n + 1) % n = n - 1 - i := by
  by_cases z : i + 1 < n
  · rw [Nat.mod_eq_of_lt z, show n - 1 - (i + 1) + 1 = n - 1 - i from by omega, Nat.mod_eq_of_lt (by omega)]
  · have e : i + 1 = n := by omega
    rw [e, Nat.mod_self, show n - 1 - 0 + 1 = n from by omega, Nat.mod_self]
    omega
/-- the images, against the clock -/
def img (m : Mp) (R : List Pt2) : List Pt2 := if m.det = 1 then R.map m.app else (R.map m.app).reverse
theorem img_mem {m : Mp} {R : List Pt2} {c : Pt2} : c ∈ img m R ↔ c ∈ R.map m.app := by
  unfold img
  split
  · exact Iff.rfl
  · exact List.mem_reverse
theorem img_len {m : Mp} {R : List Pt2} : (img m R).length = R.length := by unfold img; split <;> simp
theorem img_cyc {m : Mp} (hm : m.Uni) {R : List Pt2} (rg : Rg R) (nd : R.Nodup) : Cyc (img m R) := by
  unfold img
  by_cases z : m.det = 1
  · rw [if_pos z]
    refine ⟨map_nd hm nd, fun i hi c hc n1 n2 => ?_⟩
    rw [List.length_map] at hi n2 ⊢
    obtain ⟨p, hp, rfl⟩ := List.mem_map.mp hc
    have j := Nat.mod_lt (i + 1) (show 0 < R.length by omega)
    rw [gp_map hi] at n1 ⊢
    rw [gp_map j] at n2 ⊢
    rw [Mp.turn_app, z, Int.one_mul]
    exact rg.st i hi p hp (fun e => n1 (by rw [e])) (fun e => n2 (by rw [e]))
  · rw [if_neg z]
    have z' : m.det = -1 := hm.resolve_left z
    refine ⟨(List.reverse_perm _).nodup_iff.mpr (map_nd hm nd), fun i hi c hc n1 n2 => ?_⟩
    rw [List.length_reverse, List.length_map] at hi n2 ⊢
    obtain ⟨p, hp, rfl⟩ := List.mem_map.mp (List.mem_reverse.mp hc)
    have j := Nat.mod_lt (i + 1) (show 0 < R.length by omega)
    have e1 : gp (R.map m.app).reverse i = m.app (gp R (R.length - 1 - i)) := by
      rw [gp_rev (by rw [List.length_map]; exact hi), List.length_map, gp_map (by omega)]
    have e2 : gp (R.map m.app).reverse ((i + 1) % R.length) = m.app (gp R (R.length - 1 - (i + 1) % R.length)) := by
      rw [gp_rev (by rw [List.length_map]; exact j), List.length_map, gp_map (by omega)]
    rw [e1] at n1 ⊢
    rw [e2] at n2 ⊢
    rw [Mp.turn_app, z']
    have s : R.length - 1 - (i + 1) % R.length < R.length := by omega
    have t : 0 < turn (gp R (R.length - 1 - (i + 1) % R.length)) (gp R ((R.length - 1 - (i + 1) % R.length + 1) % R.length)) p := by
      refine rg.st _ s p hp (fun e => n2 (by rw [e])) (fun e => n1 ?_)
      rw [rev_nx hi] at e
      rw [e]
    rw [rev_nx hi] at t
    have w : turn (gp R (R.length - 1 - i)) (gp R (R.length - 1 - (i + 1) % R.length)) p = - turn (gp R (R.length - 1 - (i + 1) % R.length)) (gp R (R.length - 1 - i)) p := by
      unfold turn; grind
    omega
/-- the hull of the images of a polygon -/
theorem moved_ring {m : Mp} (hm : m.Uni) {R : List Pt2} (rg : Rg R) (nd : R.Nodup) (h3 : 3 ≤ R.length) : ∃ s, s < R.length ∧ ringP (psort (R.map m.app)) = rotS s (img m R) := by
  have c := img_cyc hm rg nd
  obtain ⟨s, hs, k⟩ := c.rg (fun z => by have := img_len (m := m) (R := R); rw [z] at this; simp at this; omega)
  rw [img_len] at hs
  refine ⟨s, hs, hull_of_set (rotS_nd c.nd) (fun z => ?_) (fun _ => k) fun p => ?_⟩
  · rw [rotS_len, img_len] at z; omega
  · rw [rotS_mem, img_mem]
/-! sums -/
theorem sumI_split {f : Nat → Int} : ∀ n, sumI f (n + 1) = f 0 + sumI (fun j => f (j + 1)) n
  | 0 => by simp [sumI]
  | n + 1 => by
    have := sumI_split (f := f) n
    show sumI f (n + 1) + f (n + 1) = f 0 + (sumI (fun j => f (j + 1)) n + f (n + 1))
    omega
theorem sumI_rev (g : Nat → Int) : ∀ n, sumI (fun j => g (n - 1 - j)) n = sumI g n
  | 0 => rfl
  | n + 1 => by
    rw [sumI_split]
    show g (n + 1 - 1 - 0) + sumI (fun j => g (n + 1 - 1 - (j + 1))) n = sumI g n + g n
    have e : sumI (fun j => g (n + 1 - 1 - (j + 1))) n = sumI (fun j => g (n - 1 - j)) n := sumI_congr fun j hj => by congr 1; omega
    rw [e, sumI_rev g n, show n + 1 - 1 - 0 = n from by omega]
    omega
theorem sumI_neg {f : Nat → Int} : ∀ n, sumI (fun j => - f j) n = - sumI f n
  | 0 => rfl
  | n + 1 => by
    have := sumI_neg (f := f) n
    show sumI (fun j => - f j) n + - f n = - (sumI f n + f n)
    omega
theorem sumI_mul {f : Nat → Int} (k : Int) : ∀ n, sumI (fun j => k * f j) n = k * sumI f n
  | 0 => by simp [sumI]
  | n + 1 => by
    have := sumI_mul (f := f) k n
    show sumI (fun j => k * f j) n + k * f n = k * (sumI f n + f n)
    rw [Int.mul_add]
    omega
/-- what is summed over all sides -/
def cycS (f : Pt2 → Pt2 → Int) (R : List Pt2) : Int := sumI (fun j => f (gp R j) (gp R ((j + 1) % R.length))) R.length
theorem cycS_rot (f : Pt2 → Pt2 → Int) {R : List Pt2} {s : Nat} (hs : s < R.length) : cycS f (rotS s R) = cycS f R := by
  unfold cycS
  rw [rotS_len]
  rw [← sumI_rot (fun j => f (gp R j) (gp R ((j + 1) % R.length))) (by omega) s]
  refine sumI_congr fun j hj => ?_
  have e1 : gp (rotS s R) j = gp R ((j + s) % R.length) := gp_rot hs hj
  have e2 : gp (rotS s R) ((j + 1) % R.length) = gp R (((j + 1) % R.length + s) % R.length) := gp_rot hs (Nat.mod_lt _ (by omega))
  rw [e1, e2, Nat.mod_add_mod, Nat.mod_add_mod, show j + 1 + s = j + s + 1 from by omega]
theorem cycS_rev (f g : Pt2 → Pt2 → Int) (h : ∀ p q, f p q = g q p) (R : List Pt2) : cycS f R.reverse = cycS g R := by
  unfold cycS
  rw [List.length_reverse]
  by_cases z : R.length = 0
  · rw [z]; rfl
  have pos : 0 < R.length := by omega
  have e : sumI (fun j => f (gp R.reverse j) (gp R.reverse ((j + 1) % R.length))) R.length = sumI (fun j => (fun i => g (gp R (R.length - 1 - i)) (gp R ((R.length - 1 - i + 1) % R.length))) ((j + 1) % R.length)) R.length := by
    refine sumI_congr fun j hj => ?_
    dsimp only
    rw [gp_rev hj, gp_rev (Nat.mod_lt _ pos), h, rev_nx hj]
  rw [e, sumI_rot (fun i => g (gp R (R.length - 1 - i)) (gp R ((R.length - 1 - i + 1) % R.length))) pos 1]
  exact sumI_rev (fun k => g (gp R k) (gp R ((k + 1) % R.length))) R.length
theorem cycS_map {f g : Pt2 → Pt2 → Int} {m : Mp} (h : ∀ p q, f (m.app p) (m.app q) = g p q) (R : List Pt2) : cycS f (R.map m.app) = cycS g R := by
  unfold cycS
  rw [List.length_map]
  refine sumI_congr fun j hj => ?_
  rw [gp_map hj, gp_map (Nat.mod_lt _ (by omega)), h]
theorem rim_img {m : Mp} (hm : m.Uni) (R : List Pt2) : cycS stp (img m R) = cycS stp R := by
  unfold img
  split
  · exact cycS_map (stp_app hm) R
  · rw [cycS_rev stp stp stp_sym]
    exact cycS_map (stp_app hm) R
theorem fan_cycS {R : List Pt2} (h : 2 ≤ R.length) : fan turn R (R.length - 2) = cycS crs R :=
  fan_cyc (m := crs) (fun a b c => by unfold turn crs; grind) (fun a b => by unfold crs; grind) R h
theorem area_img {m : Mp} (hm : m.Uni) {R : List Pt2} (h : 2 ≤ R.length) : fan turn (img m R) (R.length - 2) = fan turn R (R.length - 2) := by
  have mp : fan turn (R.map m.app) (R.length - 2) = m.det * fan turn R (R.length - 2) := by
    unfold fan
    rw [← sumI_mul]
    refine sumI_congr fun j hj => ?_
    rw [gp_map (by omega), gp_map (by omega), gp_map (by omega), Mp.turn_app]
  unfold img
  by_cases z : m.det = 1
  · rw [if_pos z, mp, z, Int.one_mul]
  · rw [if_neg z]
    have z' : m.det = -1 := hm.resolve_left z
    have a := fan_cycS (R := (R.map m.app).reverse) (by simp; exact h)
    have b := fan_cycS (R := R.map m.app) (by simp; exact h)
    rw [List.length_reverse, List.length_map] at a
    rw [List.length_map] at b
    have c : cycS crs (R.map m.app).reverse = - cycS crs (R.map m.app) := by
      rw [cycS_rev crs (fun p q => - crs p q) (fun p q => by unfold crs; grind)]
      unfold cycS
      exact sumI_neg _
    rw [a, c, ← b, mp, z']
    omega
end DL

set_option Elab.async false
set_option linter.all false
set_option autoImplicit false
set_option maxRecDepth 100000
namespace DL
open PySem PyProof.Rows L2
section
variable {X : Cx} {B : Bas} {W : WX} {e a b c : Expr} {es : List Expr} {pos : Pos} {ga gb gc g : DX}
/-! ### a, b = d, e: the second one a list of its own -/
@[simp] def mPar2L (i j : Nat) (ga gb : DX) : DM := fun s => bindS (ga s) fun r1 s1 => bindS (gb s1) fun r2 s2 => match r2 with
  | .ow ds => .nx ⟨(s2.σ.set j (.ow ds)).set i (.im r1.d), s2.g⟩
  | _ => .bad
theorem ds_par2L {i j : Nat} {x y : Str} {px py pt : Pos} {kt k2 : Nat} {pt2 : Pos} (hc : X.calm = true) (hN : X.N.Nodup) (hi : X.N[i]? = some x) (hj : X.N[j]? = some y) (hij : i ≠ j)
    (hx : X.env.scope.names.lookup x = some .local) (hy : X.env.scope.names.lookup y = some .local) (ha : DPE X B W a ga) (hb : DPE X B W b gb)
    (hw : swappedStores [.Tuple [.Name x px, .Name y py] kt pt] (.Tuple [a, b] k2 pt2) X.env = pure (some [x, y]) := by rfl)
    (hs : swapsWithSole [.Tuple [.Name x px, .Name y py] kt pt] (.Tuple [a, b] k2 pt2) pos.line X.env = pure false := by rfl)
    (s1 : starEach [a, b] X.env = (false, eval a X.env) :: starEach [b] X.env := by rfl) (s2 : starEach [b] X.env = (false, eval b X.env) :: starEach [] X.env := by rfl) :
    DPS X B W (.Assign [.Tuple [.Name x px, .Name y py] kt pt] (.Tuple [a, b] k2 pt2) pos) (mPar2L i j ga gb) :=
  (ps_par hc hN hi hj hij hx hy (pa_cons ha (pa_cons hb pa_nil s2) s1) hw hs).con fun D σ H ⟨γ, F, s, G, A⟩ =>
    (tD_bindS G A).mono fun v1 H1 ⟨F1, s1, rv1, a1, p1, G1, r1, A1⟩ => by
      obtain ⟨F2, a2, G2, r2⟩ := G1.frzV r1
      exact (tD_bindS G2 ((A1.on a1).on a2)).mono fun v2 H2 ⟨F3, s3, rv3, a3, p3, G3, r3, A3⟩ => by
        cases rv3 with
        | im d => exact A3.elim
        | ow ds =>
          dsimp only at A3
          obtain ⟨q, rfl, O⟩ := r3
          have G4 := (G3.setOw (i := j) O).setIm (i := i) (r2.mono a3)
          refine ⟨v1, .ref q, rfl, ?_⟩
          rw [show (σ.set i (some v1)).set j (some (V.ref q)) = (σ.set j (some (V.ref q))).set i (some v1) from List.set_comm _ _ hij]
          exact A3 γ F3 _ H2 a3 G4
end
end DL

set_option Elab.async false
set_option linter.all false
set_option autoImplicit false
set_option maxRecDepth 100000
set_option maxHeartbeats 1000000
/-! DL55: rim points, inner points of figures; they stay when the figure is moved. -/
namespace DL
open PySem PyProof.Rows L2 LamX
/-- the place before, around -/
def pvI (n i : Nat) : Nat := if i = 0 then n - 1 else i - 1
theorem pvI_lt {n i : Nat} (h : i < n) : pvI n i < n := by unfold pvI; split <;> omega
theorem pvI_nx {n i : Nat} (h : i < n) : (pvI n i + 1) % n = i := by
  unfold pvI
  split
  · rw [show n - 1 + 1 = n from by omega, Nat.mod_self]; omega
  · rw [show i - 1 + 1 = i from by omega, Nat.mod_eq_of_lt h]
theorem pvI_mod {n i : Nat} (h : i < n) : (i + (n - 1)) % n = pvI n i := by
  unfold pvI
  split
  · rename_i z; subst z; rw [Nat.zero_add, Nat.mod_eq_of_lt (by omega)]
  · rw [show i + (n - 1) = (i - 1) + n from by omega, Nat.add_mod_right, Nat.mod_eq_of_lt (by omega)]
theorem atI_pvI {α : Type} {S : List α} {n i : Nat} {x : α} (hl : S.length = n) (hi : i < n) (h : S[pvI n i]? = some x) : atI S ((i : Int) - 1) = some x := by
  unfold atI
  have e : ixN S.length ((i : Int) - 1) = some (pvI n i) := by
    unfold ixN pvI
    by_cases z : i = 0
    · subst z
      rw [if_neg (by omega), if_pos (by omega), if_pos rfl, hl]
      congr 1
      omega
    · rw [if_pos (by omega), if_pos (by omega), if_neg z]
      congr 1
      omega
  rw [e]
  exact h
def fStep : Fn := mkFn 2 2 (mRet (xCall hGcd (aCons (xBin hSub (xIxV 1 (xC (.int 0))) (xIxV 0 (xC (.int 0)))) (aCons (xBin hSub (xIxV 1 (xC (.int 1))) (xIxV 0 (xC (.int 1)))) (aNil)))))
theorem pt_at {p : Pt2} : hIx (ptD p) (.int 0) = some (.im (.int p.1)) ∧ hIx (ptD p) (.int 1) = some (.im (.int p.2)) := ⟨rfl, rfl⟩
theorem step_ok (p q : Pt2) : fStep [.im (ptD p), .im (ptD q)] none = .ok (.im (.int (stp p q))) none := by
  have g : hGcd [.int (q.1 - p.1), .int (q.2 - p.2)] = some (.im (.int (stp p q))) := rfl
  simp [fStep, pt_at, hSub_i, g, -hI2, -hIx]
def rmL (ST : Fn) : DX := xLc (.nm 1) (xRng1 (aCons (xCall hLen (aCons (xVar 0) (aNil))) (aNil))) none (xUser ST 2 (uCons (xIxV 0 (xBin hSub (xVar 1) (xC (.int 1)))) (uCons (xIxV 0 (xVar 1)) (uNil)))) [1]
def rmM (ST : Fn) (L : DX) : Fn := mkFn 2 1 (mSeq (mIf (xBin hLt (xCall hLen (aCons (xVar 0) (aNil))) (xC (.int 3))) (mRet (xBin hAdd (xC (.int 1)) (xUser ST 2 (uCons (xIxV 0 (xC (.int 0))) (uCons (xIxV 0 (xUn hNeg (xC (.int 1)))) (uNil)))))) (mNil)) (mRet (xCall hSum (aCons L (aNil)))))
def fRim : Fn := rmM fStep (rmL fStep)
def rimV (l : List Pt2) : Int := if l.length < 3 then 1 + stp (gp l 0) (gp l (l.length - 1)) else cycS stp l
theorem rmL_ok {ST : Fn} {D : List PyData} {n : Nat} {f : Nat → Int} {P : Nat → PyData} (hn : n ≤ 1000) (hl : (D.length : Int) = n) (h0 : ∀ i, i < n → hIx (.list D) (.int (i : Int)) = some (.im (P i))) (h1 : ∀ i, i < n → hIx (.list D) (.int ((i : Int) - 1)) = some (.im (P (pvI n i)))) (h : ∀ i, i < n → ST [.im (P (pvI n i)), .im (P i)] none = .ok (.im (.int (f i))) none) :
    rmL ST ⟨[.im (.list D), .un], none⟩ = .ok (.ow (((List.range n).map f).map .int)) ⟨[.im (.list D), .un], none⟩ := by
  rw [List.map_map]
  unfold rmL
  refine xLc_gen (l := List.range n) (fun i : Nat => PyData.int (0 + (i : Int))) (fun i => .int (f i)) (xRng1_ok (j := (n : Int)) (by simp [hl]) (by omega) (by omega)) rfl (by rw [List.length_range]; omega) rfl ?_
  intro i hi
  have il := List.mem_range.mp hi
  have k0 := h0 i il
  have k1 := h1 i il
  have k := h i il
  have e0 : hSub (.int (i : Int)) (.int 1) = some (.im (.int ((i : Int) - 1))) := rfl
  refine ⟨⟨[.im (.list D), .im (.int (0 + (i : Int)))], none⟩, ⟨[.im (.list D), .im (.int (0 + (i : Int)))], none⟩, rfl, ?_, rfl⟩
  rw [Int.zero_add]
  simp [k0, k1, e0, k, -hI2, -hIx]
theorem rmM_far {ST : Fn} {L : DX} {D X : List PyData} {v : Int} (h : 3 ≤ (D.length : Int)) (e : L ⟨[.im (.list D), .un], none⟩ = .ok (.ow X) ⟨[.im (.list D), .un], none⟩) (s : hSum [.list X] = some (.im (.int v))) : rmM ST L [.im (.list D)] none = .ok (.im (.int v)) none := by
  have z : ¬ (D.length : Int) < 3 := by omega
  simp [rmM, hLt_i, z, e, s, -hI2]
theorem rmM_few {ST : Fn} {L : DX} {D : List PyData} {p q : PyData} {v : Int} (h : (D.length : Int) < 3) (h0 : hIx (.list D) (.int 0) = some (.im p)) (h1 : hIx (.list D) (.int (-1)) = some (.im q)) (s : ST [.im p, .im q] none = .ok (.im (.int v)) none) : rmM ST L [.im (.list D)] none = .ok (.im (.int (1 + v))) none := by
  have ng : hNeg (.int 1) = some (.im (.int (-1))) := rfl
  have a : hAdd (.int 1) (.int v) = some (.im (.int (1 + v))) := rfl
  simp [rmM, hLt_i, h, h0, h1, s, ng, a, -hI2, -hIx, -hNeg]
theorem rim_cyc (l : List Pt2) : sumI (fun i => stp (gp l (pvI l.length i)) (gp l i)) l.length = cycS stp l := by
  by_cases y : l.length = 0
  · rw [y]; unfold cycS; rw [y]; rfl
  unfold cycS
  rw [← sumI_rot (fun j => stp (gp l j) (gp l ((j + 1) % l.length))) (by omega) (l.length - 1)]
  refine sumI_congr fun j hj => ?_
  rw [pvI_mod hj, pvI_nx hj]
theorem len3 {l : List Pt2} (z : ¬ l.length < 3) : 3 ≤ ((ptsD l).length : Int) := by rw [len_of]; omega
theorem len2 {l : List Pt2} (z : l.length < 3) : ((ptsD l).length : Int) < 3 := by rw [len_of]; omega
theorem rim_ok {l : List Pt2} (h1 : 1 ≤ l.length) (h2 : l.length ≤ 12) : fRim [.im (.list (ptsD l))] none = .ok (.im (.int (rimV l))) none := by
  have len := len_of (l := l)
  unfold fRim rimV
  by_cases z : l.length < 3
  · rw [if_pos z]
    have a0 := at_pts (l := l) (i := 0) (by omega)
    have a1 := atI_pvI (S := ptsD l) (n := l.length) (i := 0) (List.length_map _) (by omega) (get_pts (pvI_lt (by omega)))
    rw [show pvI l.length 0 = l.length - 1 from rfl] at a1
    exact rmM_few (len2 z) (congrArg (Option.map Rv.im) a0) (congrArg (Option.map Rv.im) a1) (step_ok _ _)
  · rw [if_neg z]
    have e := rmL_ok (ST := fStep) (D := ptsD l) (n := l.length) (P := fun i => ptD (gp l i)) (f := fun i => stp (gp l (pvI l.length i)) (gp l i)) (by omega) len (fun i hi => congrArg (Option.map Rv.im) (at_pts hi)) (fun i hi => congrArg (Option.map Rv.im) (atI_pvI (List.length_map _) hi (get_pts (pvI_lt hi)))) (fun i hi => step_ok _ _)
    have sm : hSum [.list (((List.range l.length).map fun i => stp (gp l (pvI l.length i)) (gp l i)).map .int)] = some (.im (.int (cycS stp l))) := by
      rw [hSum_map, sum_ints, rim_cyc]
    have l3 := len3 z
    generalize cycS stp l = v at *
    generalize ((List.range l.length).map fun i => stp (gp l (pvI l.length i)) (gp l i)).map PyData.int = X at *
    generalize ptsD l = D at *
    exact rmM_far l3 e sm
def areaV (l : List Pt2) : Int := fan turn l (l.length - 2)
theorem areaV_few {l : List Pt2} (h : l.length < 3) : areaV l = 0 := by
  unfold areaV
  have e : l.length - 2 = 0 := by omega
  rw [e]
  unfold fan sumI
  rfl
theorem area_one (p : Pt2) : fAreaIn [.im (.list (ptsD [p]))] none = .ok (.im (.int 0)) none := by
  refine sumof_ok (L := ([] : List Nat).map fun _ => .int 0) ?_ rfl
  refine xLc_gen (l := ([] : List Nat)) (fun _ => .int 0) (fun _ => .int 0) ?_ rfl (by simp) rfl (fun x hx => by cases hx)
  exact xRng2_ok (i := 2) (j := 1) (n := 0) rfl (by decide) (by decide) rfl
theorem areaV_ok {l : List Pt2} (h1 : 1 ≤ l.length) (h3 : l.length ≤ 12) (hl : ∀ c ∈ l, Nr 1000000 c) : fAreaIn [.im (.list (ptsD l))] none = .ok (.im (.int (areaV l))) none := by
  by_cases z : 2 ≤ l.length
  · exact area_ok z h3 hl
  · match l, h1, z with
    | [p], _, _ => exact area_one p
    | _ :: _ :: _, _, z => simp at z
def fInner (AR RI : Fn) : Fn := mkFn 1 1 (mRet (xIf (xBin hGt (xCall hLen (aCons (xVar 0) (aNil))) (xC (.int 2))) (xBin hFdiv (xBin hAdd (xBin hSub (xUser AR 1 (uCons (xVar 0) (uNil))) (xUser RI 1 (uCons (xVar 0) (uNil)))) (xC (.int 2))) (xC (.int 2))) (xC (.int 0))))
def innV (l : List Pt2) : Int := if 2 < l.length then (areaV l - rimV l + 2).fdiv 2 else 0
theorem inner_gen {AR RI : Fn} {D : List PyData} {n : Nat} {a r v : Int} (hl : (D.length : Int) = n) (ha : AR [.im (.list D)] none = .ok (.im (.int a)) none) (hr : RI [.im (.list D)] none = .ok (.im (.int r)) none) (hv : v = if 2 < n then (a - r + 2).fdiv 2 else 0) : fInner AR RI [.im (.list D)] none = .ok (.im (.int v)) none := by
  subst hv
  have f := hFdiv_bt (i := a - r + 2) (j := 2) (n := 5) (by decide) (bt_le (m := 2) (by decide) (by decide))
  have ad : hAdd (.int (a - r)) (.int 2) = some (.im (.int (a - r + 2))) := rfl
  by_cases z : 2 < n
  · have z' : (2 : Int) < (n : Int) := by omega
    simp [fInner, hl, hGt_i, z, z', ha, hr, hSub_i, ad, f, -hI2]
  · have z' : ¬ (2 : Int) < (n : Int) := by omega
    simp [fInner, hl, hGt_i, z, z', -hI2]
theorem inner_ok {l : List Pt2} (h1 : 1 ≤ l.length) (h3 : l.length ≤ 12) (hl : ∀ c ∈ l, Nr 1000000 c) : fInner fAreaIn fRim [.im (.list (ptsD l))] none = .ok (.im (.int (innV l))) none :=
  inner_gen len_of (areaV_ok h1 h3 hl) (rim_ok h1 h3) rfl
/-! moved figures -/
def mvd (m : Mp) (l : List Pt2) : List Pt2 := ringP (psort (l.map m.app))
theorem mvd_mem {m : Mp} (u : m.Uni) {l : List Pt2} (f : Fig l) {c : Pt2} : c ∈ mvd m l ↔ c ∈ l.map m.app := by
  by_cases z : l.length < 3
  · have n := psort_size (l := l.map m.app) (map_nd u f.1.nd) (fun c => Iff.rfl)
    rw [List.length_map] at n
    unfold mvd ringP
    rw [if_pos (by omega)]
    exact mem_psort
  · obtain ⟨s, hs, e⟩ := moved_ring u (f.2.2 (by omega)) f.1.nd (by omega)
    unfold mvd
    rw [e, rotS_mem, img_mem]
theorem mvd_same {m : Mp} (u : m.Uni) {l : List Pt2} (f : Fig l) : (mvd m l).length = l.length ∧ areaV (mvd m l) = areaV l ∧ rimV (mvd m l) = rimV l := by
  by_cases z : l.length < 3
  · have n := psort_size (l := l.map m.app) (map_nd u f.1.nd) (fun c => Iff.rfl)
    rw [List.length_map] at n
    have e : mvd m l = psort (l.map m.app) := by unfold mvd ringP; rw [if_pos (by omega)]
    have len : (mvd m l).length = l.length := by rw [e, n]
    refine ⟨len, by rw [areaV_few (by omega), areaV_few z], ?_⟩
    have one := f.1.one
    have asc := f.2.1 z
    rw [e]
    match l, one, z, asc with
    | [p], _, _, _ =>
      have : psort ([p].map m.app) = [m.app p] := psort_of (by simp) (fun c => by simp)
      rw [this]
      show 1 + stp (m.app p) (m.app p) = 1 + stp p p
      rw [stp_app u]
    | [p, q], _, _, asc =>
      rcases plt_tri (m.app p) (m.app q) with h | h | h
      · have : psort ([p, q].map m.app) = [m.app p, m.app q] := psort_of (by simpa using h) (fun c => by simp)
        rw [this]
        show 1 + stp (m.app p) (m.app q) = 1 + stp p q
        rw [stp_app u]
      · have := Mp.inj u h
        subst this
        exact absurd (by simpa using asc) (plt_irr p)
      · have : psort ([p, q].map m.app) = [m.app q, m.app p] := psort_of (by simpa using h) (fun c => by simp [or_comm])
        rw [this]
        show 1 + stp (m.app q) (m.app p) = 1 + stp p q
        rw [stp_app u, stp_sym]
    | _ :: _ :: _ :: _, _, z, _ => simp at z; omega
  · obtain ⟨s, hs, e⟩ := moved_ring u (f.2.2 (by omega)) f.1.nd (by omega)
    have e : mvd m l = rotS s (img m l) := e
    have len : (mvd m l).length = l.length := by rw [e, rotS_len, img_len]
    refine ⟨len, ?_, ?_⟩
    · unfold areaV
      rw [len, e]
      have r := area_rot (R := img m l) (R' := rotS s (img m l)) (n := l.length) (s := s) (by omega) (fun j hj => by
        have := gp_rot (R := img m l) (s := s) (by rw [img_len]; exact hs) (j := j) (by rw [img_len]; exact hj)
        rw [img_len] at this
        exact this)
      rw [r]
      exact area_img u (by omega)
    · unfold rimV
      rw [if_neg (by omega), if_neg z, e, cycS_rot stp (by rw [img_len]; exact hs), rim_img u]
theorem mvd_inn {m : Mp} (u : m.Uni) {l : List Pt2} (f : Fig l) : innV (mvd m l) = innV l := by
  obtain ⟨a, b, c⟩ := mvd_same u f
  unfold innV
  rw [a, b, c]
theorem mvd_fig {m : Mp} (u : m.Uni) {l : List Pt2} (f : Fig l) (n : ∀ c ∈ l.map m.app, Nr 1000 c) : Fig (mvd m l) :=
  hull_fig (fun z => by have h := f.1.one; have k := congrArg List.length z; rw [List.length_map] at k; simp at k; rw [k] at h; simp at h) (by rw [List.length_map]; exact f.1.most) n
/-- back again -/
theorem mvd_back {m k : Mp} (u : m.Uni) {l : List Pt2} (f : Fig l) (h : ∀ p, k.app (m.app p) = p) : mvd k (mvd m l) = l := by
  unfold mvd
  refine hull_of_set f.1.nd f.2.1 f.2.2 fun c => ?_
  rw [List.mem_map]
  constructor
  · rintro ⟨q, hq, rfl⟩
    obtain ⟨p, hp, rfl⟩ := List.mem_map.mp ((mvd_mem u f).mp hq)
    rw [h]
    exact hp
  · intro hc
    exact ⟨m.app c, (mvd_mem u f).mpr (List.mem_map.mpr ⟨c, hc, rfl⟩), h c⟩
end DL

set_option Elab.async false
set_option linter.all false
set_option autoImplicit false
set_option maxRecDepth 100000
set_option maxHeartbeats 1000000
namespace K07
open PySem PyProof.Rows L2 LamX DL
abbrev PW : Program := PySem.Challenge.pw_gridpolygons_k07_whole_maps_of_points
def topS (i : Nat) : Stmt := PW.main.body.getD i (.Pass ⟨0, 0, 0, 0⟩)
/-- where the error classes stand -/
structure Ad where
  InvalidFigure : Addr
  InvalidMap : Addr
  InvalidPoint : Addr
  GridError : Addr
/-- code objects of those that make lambdas, their tables -/
structure Ta where
  none : Unit
def all_ (ad : Ad) : List Addr := [ad.InvalidFigure, ad.InvalidMap, ad.InvalidPoint]
def tab_InvalidFigure (ad : Ad) : List (Addr × Bool) := [(ad.InvalidFigure, true), (ad.InvalidMap, false), (ad.InvalidPoint, false)]
def tab_InvalidMap (ad : Ad) : List (Addr × Bool) := [(ad.InvalidFigure, false), (ad.InvalidMap, true), (ad.InvalidPoint, false)]
def tab_InvalidPoint (ad : Ad) : List (Addr × Bool) := [(ad.InvalidFigure, false), (ad.InvalidMap, false), (ad.InvalidPoint, true)]
/-- what the globals stand for -/
structure Zs (P : Program) (K : PySem.W.Frag) (mg : Str → Option Value) (ad : Ad) : Prop where
  b_abs : mg "abs" = none
  b_all : mg "all" = none
  b_bool : mg "bool" = none
  b_enumerate : mg "enumerate" = none
  b_gcd : mg "gcd" = some (.builtin "math.gcd")
  b_int : mg "int" = none
  b_isinstance : mg "isinstance" = none
  b_len : mg "len" = none
  b_list : mg "list" = none
  b_max : mg "max" = none
  b_min : mg "min" = none
  b_range : mg "range" = none
  b_set : mg "set" = none
  b_sorted : mg "sorted" = none
  b_str : mg "str" = none
  b_sum : mg "sum" = none
  b_tuple : mg "tuple" = none
  c_MOST_CORNERS : ∃ t, mg "MOST_CORNERS" = some (.int 12 t)
  c_MOST_FAR : ∃ t, mg "MOST_FAR" = some (.int 1000 t)
  e_InvalidFigure : ∃ fI cc cda qn, ETxt P K mg ad.InvalidFigure fI cc cda qn
  g_InvalidFigure : mg "InvalidFigure" = some (.ref ad.InvalidFigure)
  t_InvalidFigure : ∀ C b, (tab_InvalidFigure ad).lookup C = some b → ExcOk K C ∧ PySem.W.kitOne K (.ref C) (.ref ad.InvalidFigure) = some b
  e_InvalidMap : ∃ fI cc cda qn, ETxt P K mg ad.InvalidMap fI cc cda qn
  g_InvalidMap : mg "InvalidMap" = some (.ref ad.InvalidMap)
  t_InvalidMap : ∀ C b, (tab_InvalidMap ad).lookup C = some b → ExcOk K C ∧ PySem.W.kitOne K (.ref C) (.ref ad.InvalidMap) = some b
  e_InvalidPoint : ∃ fI cc cda qn, ETxt P K mg ad.InvalidPoint fI cc cda qn
  g_InvalidPoint : mg "InvalidPoint" = some (.ref ad.InvalidPoint)
  t_InvalidPoint : ∀ C b, (tab_InvalidPoint ad).lookup C = some b → ExcOk K C ∧ PySem.W.kitOne K (.ref C) (.ref ad.InvalidPoint) = some b
  g_GridError : mg "GridError" = some (.ref ad.GridError)
  x_ : ∀ C, (all_ ad).contains C = true → PySem.W.exmOne K (.ref C) (.ref ad.GridError) = some true
  k_ : ∀ C, (all_ ad).contains C = true → ExcOk K C
  nd : (all_ ad).Nodup
abbrev S_is_whole : Stmt := topS 9
abbrev S_turn_at : Stmt := topS 12
abbrev S_steps_between : Stmt := topS 23
abbrev S_gone : Stmt := topS 32
abbrev S_behind_in : Stmt := topS 36
abbrev S_back_in : Stmt := topS 38
abbrev S__law_hash : Stmt := topS 42
abbrev S__law_cell : Stmt := topS 44
abbrev S__law_turn : Stmt := topS 49
abbrev S__law_gone : Stmt := topS 55
abbrev S_is_near : Stmt := topS 10
abbrev S_is_ring_of_corners : Stmt := topS 13
abbrev S_area_in : Stmt := topS 21
abbrev S_rim_in : Stmt := topS 24
abbrev S_half_ring : Stmt := topS 29
abbrev S__law_random : Stmt := topS 43
abbrev S__law_generator : Stmt := topS 45
abbrev S__law_half : Stmt := topS 50
abbrev S__law_behind : Stmt := topS 56
abbrev S_is_point : Stmt := topS 11
abbrev S_is_map : Stmt := topS 16
abbrev S_inner_in : Stmt := topS 26
abbrev S_ring_of : Stmt := topS 30
abbrev S__law_pick : Stmt := topS 46
abbrev S__law_ring : Stmt := topS 51
abbrev S__law_drawn_point : Stmt := topS 52
abbrev S_are_figure_points : Stmt := topS 14
abbrev S_check_point : Stmt := topS 17
abbrev S_check_map : Stmt := topS 19
abbrev S_moved_in : Stmt := topS 34
abbrev S__law_figure : Stmt := topS 53
abbrev S__law_map : Stmt := topS 54
abbrev S_is_figure : Stmt := topS 15
abbrev S_moved_point : Stmt := topS 33
abbrev S_one_behind : Stmt := topS 37
abbrev S_back_of : Stmt := topS 39
abbrev S_is_turned_over : Stmt := topS 40
abbrev S_check_figure : Stmt := topS 18
abbrev S_twice_area : Stmt := topS 22
abbrev S_rim_count : Stmt := topS 25
abbrev S_inner_count : Stmt := topS 27
abbrev S_moved : Stmt := topS 35
abbrev S__law_exact : Stmt := topS 47
abbrev S__law_copied : Stmt := topS 48
abbrev S__law_maps_right : Stmt := topS 57
abbrev S__law_figures_right : Stmt := topS 58
abbrev S_law : Stmt := topS 59
structure Fs (K : PySem.W.Frag) (mg : Str → Option Value) (ta : Ta) : Prop where
  a_is_whole : ∃ (f : Addr) (fd : FuncData), mg "is_whole" = some (.ref f) ∧ Fun K "is_whole" "is_whole" S_is_whole f fd
  a_turn_at : ∃ (f : Addr) (fd : FuncData), mg "turn_at" = some (.ref f) ∧ Fun K "turn_at" "turn_at" S_turn_at f fd
  a_steps_between : ∃ (f : Addr) (fd : FuncData), mg "steps_between" = some (.ref f) ∧ Fun K "steps_between" "steps_between" S_steps_between f fd
  a_gone : ∃ (f : Addr) (fd : FuncData), mg "gone" = some (.ref f) ∧ Fun K "gone" "gone" S_gone f fd
  a_behind_in : ∃ (f : Addr) (fd : FuncData), mg "behind_in" = some (.ref f) ∧ Fun K "behind_in" "behind_in" S_behind_in f fd
  a_back_in : ∃ (f : Addr) (fd : FuncData), mg "back_in" = some (.ref f) ∧ Fun K "back_in" "back_in" S_back_in f fd
  a__law_hash : ∃ (f : Addr) (fd : FuncData), mg "_law_hash" = some (.ref f) ∧ Fun K "_law_hash" "_law_hash" S__law_hash f fd
  a__law_cell : ∃ (f : Addr) (fd : FuncData), mg "_law_cell" = some (.ref f) ∧ Fun K "_law_cell" "_law_cell" S__law_cell f fd
  a__law_turn : ∃ (f : Addr) (fd : FuncData), mg "_law_turn" = some (.ref f) ∧ Fun K "_law_turn" "_law_turn" S__law_turn f fd
  a__law_gone : ∃ (f : Addr) (fd : FuncData), mg "_law_gone" = some (.ref f) ∧ Fun K "_law_gone" "_law_gone" S__law_gone f fd
  a_is_near : ∃ (f : Addr) (fd : FuncData), mg "is_near" = some (.ref f) ∧ Fun K "is_near" "is_near" S_is_near f fd
  a_is_ring_of_corners : ∃ (f : Addr) (fd : FuncData), mg "is_ring_of_corners" = some (.ref f) ∧ Fun K "is_ring_of_corners" "is_ring_of_corners" S_is_ring_of_corners f fd
  a_area_in : ∃ (f : Addr) (fd : FuncData), mg "area_in" = some (.ref f) ∧ Fun K "area_in" "area_in" S_area_in f fd
  a_rim_in : ∃ (f : Addr) (fd : FuncData), mg "rim_in" = some (.ref f) ∧ Fun K "rim_in" "rim_in" S_rim_in f fd
  a_half_ring : ∃ (f : Addr) (fd : FuncData), mg "half_ring" = some (.ref f) ∧ Fun K "half_ring" "half_ring" S_half_ring f fd
  a__law_random : ∃ (f : Addr) (fd : FuncData), mg "_law_random" = some (.ref f) ∧ Fun K "_law_random" "_law_random" S__law_random f fd
  a__law_generator : ∃ (f : Addr) (fd : FuncData), mg "_law_generator" = some (.ref f) ∧ Fun K "_law_generator" "_law_generator" S__law_generator f fd
  a__law_half : ∃ (f : Addr) (fd : FuncData), mg "_law_half" = some (.ref f) ∧ Fun K "_law_half" "_law_half" S__law_half f fd
  a__law_behind : ∃ (f : Addr) (fd : FuncData), mg "_law_behind" = some (.ref f) ∧ Fun K "_law_behind" "_law_behind" S__law_behind f fd
  a_is_point : ∃ (f : Addr) (fd : FuncData), mg "is_point" = some (.ref f) ∧ Fun K "is_point" "is_point" S_is_point f fd
  a_is_map : ∃ (f : Addr) (fd : FuncData), mg "is_map" = some (.ref f) ∧ Fun K "is_map" "is_map" S_is_map f fd
  a_inner_in : ∃ (f : Addr) (fd : FuncData), mg "inner_in" = some (.ref f) ∧ Fun K "inner_in" "inner_in" S_inner_in f fd
  a_ring_of : ∃ (f : Addr) (fd : FuncData), mg "ring_of" = some (.ref f) ∧ Fun K "ring_of" "ring_of" S_ring_of f fd
  a__law_pick : ∃ (f : Addr) (fd : FuncData), mg "_law_pick" = some (.ref f) ∧ Fun K "_law_pick" "_law_pick" S__law_pick f fd
  a__law_ring : ∃ (f : Addr) (fd : FuncData), mg "_law_ring" = some (.ref f) ∧ Fun K "_law_ring" "_law_ring" S__law_ring f fd
  a__law_drawn_point : ∃ (f : Addr) (fd : FuncData), mg "_law_drawn_point" = some (.ref f) ∧ Fun K "_law_drawn_point" "_law_drawn_point" S__law_drawn_point f fd
  a_are_figure_points : ∃ (f : Addr) (fd : FuncData), mg "are_figure_points" = some (.ref f) ∧ Fun K "are_figure_points" "are_figure_points" S_are_figure_points f fd
  a_check_point : ∃ (f : Addr) (fd : FuncData), mg "check_point" = some (.ref f) ∧ Fun K "check_point" "check_point" S_check_point f fd
  a_check_map : ∃ (f : Addr) (fd : FuncData), mg "check_map" = some (.ref f) ∧ Fun K "check_map" "check_map" S_check_map f fd
  a_moved_in : ∃ (f : Addr) (fd : FuncData), mg "moved_in" = some (.ref f) ∧ Fun K "moved_in" "moved_in" S_moved_in f fd
  a__law_figure : ∃ (f : Addr) (fd : FuncData), mg "_law_figure" = some (.ref f) ∧ Fun K "_law_figure" "_law_figure" S__law_figure f fd
  a__law_map : ∃ (f : Addr) (fd : FuncData), mg "_law_map" = some (.ref f) ∧ Fun K "_law_map" "_law_map" S__law_map f fd
  a_is_figure : ∃ (f : Addr) (fd : FuncData), mg "is_figure" = some (.ref f) ∧ Fun K "is_figure" "is_figure" S_is_figure f fd
  a_moved_point : ∃ (f : Addr) (fd : FuncData), mg "moved_point" = some (.ref f) ∧ Fun K "moved_point" "moved_point" S_moved_point f fd
  a_one_behind : ∃ (f : Addr) (fd : FuncData), mg "one_behind" = some (.ref f) ∧ Fun K "one_behind" "one_behind" S_one_behind f fd
  a_back_of : ∃ (f : Addr) (fd : FuncData), mg "back_of" = some (.ref f) ∧ Fun K "back_of" "back_of" S_back_of f fd
  a_is_turned_over : ∃ (f : Addr) (fd : FuncData), mg "is_turned_over" = some (.ref f) ∧ Fun K "is_turned_over" "is_turned_over" S_is_turned_over f fd
  a_check_figure : ∃ (f : Addr) (fd : FuncData), mg "check_figure" = some (.ref f) ∧ Fun K "check_figure" "check_figure" S_check_figure f fd
  a_twice_area : ∃ (f : Addr) (fd : FuncData), mg "twice_area" = some (.ref f) ∧ Fun K "twice_area" "twice_area" S_twice_area f fd
  a_rim_count : ∃ (f : Addr) (fd : FuncData), mg "rim_count" = some (.ref f) ∧ Fun K "rim_count" "rim_count" S_rim_count f fd
  a_inner_count : ∃ (f : Addr) (fd : FuncData), mg "inner_count" = some (.ref f) ∧ Fun K "inner_count" "inner_count" S_inner_count f fd
  a_moved : ∃ (f : Addr) (fd : FuncData), mg "moved" = some (.ref f) ∧ Fun K "moved" "moved" S_moved f fd
  a__law_exact : ∃ (f : Addr) (fd : FuncData), mg "_law_exact" = some (.ref f) ∧ Fun K "_law_exact" "_law_exact" S__law_exact f fd
  a__law_copied : ∃ (f : Addr) (fd : FuncData), mg "_law_copied" = some (.ref f) ∧ Fun K "_law_copied" "_law_copied" S__law_copied f fd
  a__law_maps_right : ∃ (f : Addr) (fd : FuncData), mg "_law_maps_right" = some (.ref f) ∧ Fun K "_law_maps_right" "_law_maps_right" S__law_maps_right f fd
  a__law_figures_right : ∃ (f : Addr) (fd : FuncData), mg "_law_figures_right" = some (.ref f) ∧ Fun K "_law_figures_right" "_law_figures_right" S__law_figures_right f fd
def Tq (ta : Ta) : TL := []
structure Ts (base : Heap) (mg : Str → Option Value) (ta : Ta) : Prop where

  nd : ((Tq ta).map (·.1)).Nodup
section
variable {P : Program} {w : World} {K : PySem.W.Frag} {mg : Str → Option Value} {base : Heap} {ad : Ad} {ta : Ta}
theorem sc_is_whole : FnScope ["value"] ["value"] (defScope S_is_whole) := ⟨rfl, rfl, rfl, by decide +kernel, rfl, by decide +kernel, by decide +kernel⟩
def m_is_whole (ad : Ad) : Fn := mkFn 1 1 (mRet (xAnd (xIsi (fun t => isTy t .int) (xVar 0)) (xNot (xIsi (fun t => isTy t .bool) (xVar 0)))))
theorem fd_is_whole (Z : Zs P K mg ad) (A : Fs K mg ta) (Q : Ts base mg ta) : Fd P w K mg base (Tq ta) "is_whole" S_is_whole ["value"] 1 (m_is_whole ad) := by
  obtain ⟨f, fd, hm, F⟩ := A.a_is_whole
  refine ⟨f, fd, hm, F, F.binds fun _ _ _ _ _ _ us hl => match us, hl with | [_], _ => rfl, def_ok F sc_is_whole fun cdv A1 outer s H E B hc hT hr gd => ?_⟩
  
  have sc := sc_is_whole
  have hu := hu_1 hr; have hu1 := hu_2 hr; have hu2 := hu_3 hr
  exact ds_one (ds_ret (de_and (de_isi (T := .int) (de_var (pv 0)) (by rfl) Z.b_isinstance (pe_ty (by rfl) Z.b_int rfl)) (de_one (de_not (de_isi (T := .bool) (de_var (pv 0)) (by rfl) Z.b_isinstance (pe_ty (by rfl) Z.b_bool rfl))))))
theorem sc_turn_at : FnScope ["one", "other", "third"] ["one", "other", "third"] (defScope S_turn_at) := ⟨rfl, rfl, rfl, by decide +kernel, rfl, by decide +kernel, by decide +kernel⟩
def m_turn_at (ad : Ad) : Fn := mkFn 3 3 (mRet (xBin hSub (xBin hMul (xBin hSub (xIxV 1 (xC (.int 0))) (xIxV 0 (xC (.int 0)))) (xBin hSub (xIxV 2 (xC (.int 1))) (xIxV 0 (xC (.int 1))))) (xBin hMul (xBin hSub (xIxV 1 (xC (.int 1))) (xIxV 0 (xC (.int 1)))) (xBin hSub (xIxV 2 (xC (.int 0))) (xIxV 0 (xC (.int 0)))))))
theorem fd_turn_at (Z : Zs P K mg ad) (A : Fs K mg ta) (Q : Ts base mg ta) : Fd P w K mg base (Tq ta) "turn_at" S_turn_at ["one", "other", "third"] 1 (m_turn_at ad) := by
  obtain ⟨f, fd, hm, F⟩ := A.a_turn_at
  refine ⟨f, fd, hm, F, F.binds fun _ _ _ _ _ _ us hl => match us, hl with | [_, _, _], _ => rfl, def_ok F sc_turn_at fun cdv A1 outer s H E B hc hT hr gd => ?_⟩
  
  have sc := sc_turn_at
  have hu := hu_1 hr; have hu1 := hu_2 hr; have hu2 := hu_3 hr
  exact ds_one (ds_ret (de_op op_sub o_sub (de_op op_mulW o_mul (de_op op_sub o_sub (de_ixV (pv 1) (de_int) (by intro _ _; rfl)) (de_ixV (pv 0) (de_int) (by intro _ _; rfl))) (de_op op_sub o_sub (de_ixV (pv 2) (de_int) (by intro _ _; rfl)) (de_ixV (pv 0) (de_int) (by intro _ _; rfl)))) (de_op op_mulW o_mul (de_op op_sub o_sub (de_ixV (pv 1) (de_int) (by intro _ _; rfl)) (de_ixV (pv 0) (de_int) (by intro _ _; rfl))) (de_op op_sub o_sub (de_ixV (pv 2) (de_int) (by intro _ _; rfl)) (de_ixV (pv 0) (de_int) (by intro _ _; rfl))))))
theorem sc_steps_between : FnScope ["one", "other"] ["one", "other"] (defScope S_steps_between) := ⟨rfl, rfl, rfl, by decide +kernel, rfl, by decide +kernel, by decide +kernel⟩
def m_steps_between (ad : Ad) : Fn := mkFn 2 2 (mRet (xCall hGcd (aCons (xBin hSub (xIxV 1 (xC (.int 0))) (xIxV 0 (xC (.int 0)))) (aCons (xBin hSub (xIxV 1 (xC (.int 1))) (xIxV 0 (xC (.int 1)))) (aNil)))))
theorem fd_steps_between (Z : Zs P K mg ad) (A : Fs K mg ta) (Q : Ts base mg ta) : Fd P w K mg base (Tq ta) "steps_between" S_steps_between ["one", "other"] 1 (m_steps_between ad) := by
  obtain ⟨f, fd, hm, F⟩ := A.a_steps_between
  refine ⟨f, fd, hm, F, F.binds fun _ _ _ _ _ _ us hl => match us, hl with | [_, _], _ => rfl, def_ok F sc_steps_between fun cdv A1 outer s H E B hc hT hr gd => ?_⟩
  
  have sc := sc_steps_between
  have hu := hu_1 hr; have hu1 := hu_2 hr; have hu2 := hu_3 hr
  exact ds_one (ds_ret (de_fun cr_gcd (o_num2 _) (by rfl) Z.b_gcd (da_cons (de_op op_sub o_sub (de_ixV (pv 1) (de_int) (by intro _ _; rfl)) (de_ixV (pv 0) (de_int) (by intro _ _; rfl))) (da_cons (de_op op_sub o_sub (de_ixV (pv 1) (de_int) (by intro _ _; rfl)) (de_ixV (pv 0) (de_int) (by intro _ _; rfl))) (da_nil)))))
theorem sc_gone : FnScope ["point", "turning", "a", "b", "c", "d", "e", "f"] ["point", "turning"] (defScope S_gone) := ⟨rfl, rfl, rfl, by decide +kernel, rfl, by decide +kernel, by decide +kernel⟩
def m_gone (ad : Ad) : Fn := mkFn 8 2 (mSeq (mUnp [2, 3, 4, 5, 6, 7] (xVar 1)) (mRet (xTup (aCons (xBin hAdd (xBin hAdd (xBin hMul (xVar 2) (xIxV 0 (xC (.int 0)))) (xBin hMul (xVar 3) (xIxV 0 (xC (.int 1))))) (xVar 6)) (aCons (xBin hAdd (xBin hAdd (xBin hMul (xVar 4) (xIxV 0 (xC (.int 0)))) (xBin hMul (xVar 5) (xIxV 0 (xC (.int 1))))) (xVar 7)) (aNil))))))
theorem fd_gone (Z : Zs P K mg ad) (A : Fs K mg ta) (Q : Ts base mg ta) : Fd P w K mg base (Tq ta) "gone" S_gone ["point", "turning"] 1 (m_gone ad) := by
  obtain ⟨f, fd, hm, F⟩ := A.a_gone
  refine ⟨f, fd, hm, F, F.binds fun _ _ _ _ _ _ us hl => match us, hl with | [_, _], _ => rfl, def_ok F sc_gone fun cdv A1 outer s H E B hc hT hr gd => ?_⟩
  
  have sc := sc_gone
  have hu := hu_1 hr; have hu1 := hu_2 hr; have hu2 := hu_3 hr
  exact ds_cons (ds_unp (n := 6) rfl (de_var (pv 1)) (dg_cons (pg_name (i := 2) sc.nd rfl (by first | exact .inl rfl | exact .inr rfl)) (dg_cons (pg_name (i := 3) sc.nd rfl (by first | exact .inl rfl | exact .inr rfl)) (dg_cons (pg_name (i := 4) sc.nd rfl (by first | exact .inl rfl | exact .inr rfl)) (dg_cons (pg_name (i := 5) sc.nd rfl (by first | exact .inl rfl | exact .inr rfl)) (dg_cons (pg_name (i := 6) sc.nd rfl (by first | exact .inl rfl | exact .inr rfl)) (dg_cons (pg_name (i := 7) sc.nd rfl (by first | exact .inl rfl | exact .inr rfl)) (dg_nil))))))) rfl) (ds_one (ds_ret (de_tup (da_cons (de_op op_addU o_add (de_op op_addU o_add (de_op op_mulW o_mul (de_var (pv 2)) (de_ixV (pv 0) (de_int) (by intro _ _; rfl))) (de_op op_mulW o_mul (de_var (pv 3)) (de_ixV (pv 0) (de_int) (by intro _ _; rfl)))) (de_var (pv 6))) (da_cons (de_op op_addU o_add (de_op op_addU o_add (de_op op_mulW o_mul (de_var (pv 4)) (de_ixV (pv 0) (de_int) (by intro _ _; rfl))) (de_op op_mulW o_mul (de_var (pv 5)) (de_ixV (pv 0) (de_int) (by intro _ _; rfl)))) (de_var (pv 7))) (da_nil))))))
theorem sc_behind_in : FnScope ["turning", "other", "a", "b", "c", "d", "e", "f", "p", "q", "r", "s", "t", "u", "first", "second"] ["turning", "other"] (defScope S_behind_in) := ⟨rfl, rfl, rfl, by decide +kernel, rfl, by decide +kernel, by decide +kernel⟩
def m_behind_in (ad : Ad) : Fn := mkFn 16 2 (mSeq (mUnp [2, 3, 4, 5, 6, 7] (xVar 0)) (mSeq (mUnp [8, 9, 10, 11, 12, 13] (xVar 1)) (mSeq (mSet 14 (xTup (aCons (xBin hAdd (xBin hMul (xVar 8) (xVar 2)) (xBin hMul (xVar 9) (xVar 4))) (aCons (xBin hAdd (xBin hMul (xVar 8) (xVar 3)) (xBin hMul (xVar 9) (xVar 5))) (aNil))))) (mSeq (mSet 15 (xTup (aCons (xBin hAdd (xBin hMul (xVar 10) (xVar 2)) (xBin hMul (xVar 11) (xVar 4))) (aCons (xBin hAdd (xBin hMul (xVar 10) (xVar 3)) (xBin hMul (xVar 11) (xVar 5))) (aNil))))) (mRet (xTup (aCons (xIxV 14 (xC (.int 0))) (aCons (xIxV 14 (xC (.int 1))) (aCons (xIxV 15 (xC (.int 0))) (aCons (xIxV 15 (xC (.int 1))) (aCons (xBin hAdd (xBin hAdd (xBin hMul (xVar 8) (xVar 6)) (xBin hMul (xVar 9) (xVar 7))) (xVar 12)) (aCons (xBin hAdd (xBin hAdd (xBin hMul (xVar 10) (xVar 6)) (xBin hMul (xVar 11) (xVar 7))) (xVar 13)) (aNil)))))))))))))
theorem fd_behind_in (Z : Zs P K mg ad) (A : Fs K mg ta) (Q : Ts base mg ta) : Fd P w K mg base (Tq ta) "behind_in" S_behind_in ["turning", "other"] 1 (m_behind_in ad) := by
  obtain ⟨f, fd, hm, F⟩ := A.a_behind_in
  refine ⟨f, fd, hm, F, F.binds fun _ _ _ _ _ _ us hl => match us, hl with | [_, _], _ => rfl, def_ok F sc_behind_in fun cdv A1 outer s H E B hc hT hr gd => ?_⟩
  
  have sc := sc_behind_in
  have hu := hu_1 hr; have hu1 := hu_2 hr; have hu2 := hu_3 hr
  exact ds_cons (ds_unp (n := 6) rfl (de_var (pv 0)) (dg_cons (pg_name (i := 2) sc.nd rfl (by first | exact .inl rfl | exact .inr rfl)) (dg_cons (pg_name (i := 3) sc.nd rfl (by first | exact .inl rfl | exact .inr rfl)) (dg_cons (pg_name (i := 4) sc.nd rfl (by first | exact .inl rfl | exact .inr rfl)) (dg_cons (pg_name (i := 5) sc.nd rfl (by first | exact .inl rfl | exact .inr rfl)) (dg_cons (pg_name (i := 6) sc.nd rfl (by first | exact .inl rfl | exact .inr rfl)) (dg_cons (pg_name (i := 7) sc.nd rfl (by first | exact .inl rfl | exact .inr rfl)) (dg_nil))))))) rfl) (ds_cons (ds_unp (n := 6) rfl (de_var (pv 1)) (dg_cons (pg_name (i := 8) sc.nd rfl (by first | exact .inl rfl | exact .inr rfl)) (dg_cons (pg_name (i := 9) sc.nd rfl (by first | exact .inl rfl | exact .inr rfl)) (dg_cons (pg_name (i := 10) sc.nd rfl (by first | exact .inl rfl | exact .inr rfl)) (dg_cons (pg_name (i := 11) sc.nd rfl (by first | exact .inl rfl | exact .inr rfl)) (dg_cons (pg_name (i := 12) sc.nd rfl (by first | exact .inl rfl | exact .inr rfl)) (dg_cons (pg_name (i := 13) sc.nd rfl (by first | exact .inl rfl | exact .inr rfl)) (dg_nil))))))) rfl) (ds_cons (ds_set (i := 14) sc.nd rfl (by first | exact .inl rfl | exact .inr rfl) (de_tup (da_cons (de_op op_addU o_add (de_op op_mulW o_mul (de_var (pv 8)) (de_var (pv 2))) (de_op op_mulW o_mul (de_var (pv 9)) (de_var (pv 4)))) (da_cons (de_op op_addU o_add (de_op op_mulW o_mul (de_var (pv 8)) (de_var (pv 3))) (de_op op_mulW o_mul (de_var (pv 9)) (de_var (pv 5)))) (da_nil))))) (ds_cons (ds_set (i := 15) sc.nd rfl (by first | exact .inl rfl | exact .inr rfl) (de_tup (da_cons (de_op op_addU o_add (de_op op_mulW o_mul (de_var (pv 10)) (de_var (pv 2))) (de_op op_mulW o_mul (de_var (pv 11)) (de_var (pv 4)))) (da_cons (de_op op_addU o_add (de_op op_mulW o_mul (de_var (pv 10)) (de_var (pv 3))) (de_op op_mulW o_mul (de_var (pv 11)) (de_var (pv 5)))) (da_nil))))) (ds_one (ds_ret (de_tup (da_cons (de_ixV (pv 14) (de_int) (by intro _ _; rfl)) (da_cons (de_ixV (pv 14) (de_int) (by intro _ _; rfl)) (da_cons (de_ixV (pv 15) (de_int) (by intro _ _; rfl)) (da_cons (de_ixV (pv 15) (de_int) (by intro _ _; rfl)) (da_cons (de_op op_addU o_add (de_op op_addU o_add (de_op op_mulW o_mul (de_var (pv 8)) (de_var (pv 6))) (de_op op_mulW o_mul (de_var (pv 9)) (de_var (pv 7)))) (de_var (pv 12))) (da_cons (de_op op_addU o_add (de_op op_addU o_add (de_op op_mulW o_mul (de_var (pv 10)) (de_var (pv 6))) (de_op op_mulW o_mul (de_var (pv 11)) (de_var (pv 7)))) (de_var (pv 13))) (da_nil)))))))))))))
theorem sc_back_in : FnScope ["turning", "a", "b", "c", "d", "e", "f", "sign", "p", "q", "r", "s"] ["turning"] (defScope S_back_in) := ⟨rfl, rfl, rfl, by decide +kernel, rfl, by decide +kernel, by decide +kernel⟩
def m_back_in (ad : Ad) : Fn := mkFn 12 1 (mSeq (mUnp [1, 2, 3, 4, 5, 6] (xVar 0)) (mSeq (mSet 7 (xBin hSub (xBin hMul (xVar 1) (xVar 4)) (xBin hMul (xVar 2) (xVar 3)))) (mSeq (mUnp [8, 9, 10, 11] (xTup (aCons (xBin hMul (xVar 7) (xVar 4)) (aCons (xBin hMul (xUn hNeg (xVar 7)) (xVar 2)) (aCons (xBin hMul (xUn hNeg (xVar 7)) (xVar 3)) (aCons (xBin hMul (xVar 7) (xVar 1)) (aNil))))))) (mRet (xTup (aCons (xVar 8) (aCons (xVar 9) (aCons (xVar 10) (aCons (xVar 11) (aCons (xUn hNeg (xBin hAdd (xBin hMul (xVar 8) (xVar 5)) (xBin hMul (xVar 9) (xVar 6)))) (aCons (xUn hNeg (xBin hAdd (xBin hMul (xVar 10) (xVar 5)) (xBin hMul (xVar 11) (xVar 6)))) (aNil))))))))))))
theorem fd_back_in (Z : Zs P K mg ad) (A : Fs K mg ta) (Q : Ts base mg ta) : Fd P w K mg base (Tq ta) "back_in" S_back_in ["turning"] 1 (m_back_in ad) := by
  obtain ⟨f, fd, hm, F⟩ := A.a_back_in
  refine ⟨f, fd, hm, F, F.binds fun _ _ _ _ _ _ us hl => match us, hl with | [_], _ => rfl, def_ok F sc_back_in fun cdv A1 outer s H E B hc hT hr gd => ?_⟩
  
  have sc := sc_back_in
  have hu := hu_1 hr; have hu1 := hu_2 hr; have hu2 := hu_3 hr
  exact ds_cons (ds_unp (n := 6) rfl (de_var (pv 0)) (dg_cons (pg_name (i := 1) sc.nd rfl (by first | exact .inl rfl | exact .inr rfl)) (dg_cons (pg_name (i := 2) sc.nd rfl (by first | exact .inl rfl | exact .inr rfl)) (dg_cons (pg_name (i := 3) sc.nd rfl (by first | exact .inl rfl | exact .inr rfl)) (dg_cons (pg_name (i := 4) sc.nd rfl (by first | exact .inl rfl | exact .inr rfl)) (dg_cons (pg_name (i := 5) sc.nd rfl (by first | exact .inl rfl | exact .inr rfl)) (dg_cons (pg_name (i := 6) sc.nd rfl (by first | exact .inl rfl | exact .inr rfl)) (dg_nil))))))) rfl) (ds_cons (ds_set (i := 7) sc.nd rfl (by first | exact .inl rfl | exact .inr rfl) (de_op op_sub o_sub (de_op op_mulW o_mul (de_var (pv 1)) (de_var (pv 4))) (de_op op_mulW o_mul (de_var (pv 2)) (de_var (pv 3))))) (ds_cons (ds_unp (n := 4) rfl (de_tup (da_cons (de_op op_mulW o_mul (de_var (pv 7)) (de_var (pv 4))) (da_cons (de_op op_mulW o_mul (de_un un_neg o_neg (de_var (pv 7))) (de_var (pv 2))) (da_cons (de_op op_mulW o_mul (de_un un_neg o_neg (de_var (pv 7))) (de_var (pv 3))) (da_cons (de_op op_mulW o_mul (de_var (pv 7)) (de_var (pv 1))) (da_nil)))))) (dg_cons (pg_name (i := 8) sc.nd rfl (by first | exact .inl rfl | exact .inr rfl)) (dg_cons (pg_name (i := 9) sc.nd rfl (by first | exact .inl rfl | exact .inr rfl)) (dg_cons (pg_name (i := 10) sc.nd rfl (by first | exact .inl rfl | exact .inr rfl)) (dg_cons (pg_name (i := 11) sc.nd rfl (by first | exact .inl rfl | exact .inr rfl)) (dg_nil))))) rfl) (ds_one (ds_ret (de_tup (da_cons (de_var (pv 8)) (da_cons (de_var (pv 9)) (da_cons (de_var (pv 10)) (da_cons (de_var (pv 11)) (da_cons (de_un un_neg o_neg (de_op op_addU o_add (de_op op_mulW o_mul (de_var (pv 8)) (de_var (pv 5))) (de_op op_mulW o_mul (de_var (pv 9)) (de_var (pv 6))))) (da_cons (de_un un_neg o_neg (de_op op_addU o_add (de_op op_mulW o_mul (de_var (pv 10)) (de_var (pv 5))) (de_op op_mulW o_mul (de_var (pv 11)) (de_var (pv 6))))) (da_nil))))))))))))
theorem sc__law_hash : FnScope ["seed", "index", "mixed"] ["seed", "index"] (defScope S__law_hash) := ⟨rfl, rfl, rfl, by decide +kernel, rfl, by decide +kernel, by decide +kernel⟩
def m__law_hash (ad : Ad) : Fn := mkFn 3 2 (mSeq (mSet 2 (xBin hMod (xCall hInt (aCons (xBin hAdd (xBin hAdd (xBin hAdd (xBin hMul (xVar 0) (xC (.int 1140671))) (xBin hMul (xBin hMul (xC (.int 27644437)) (xVar 1)) (xVar 1))) (xBin hMul (xC (.int 131)) (xVar 1))) (xC (.int 19))) (aNil))) (xC (.int 2147483629)))) (mSeq (mSet 2 (xBin hMod (xCall hInt (aCons (xBin hAdd (xBin hAdd (xBin hMul (xVar 2) (xVar 2)) (xBin hMul (xC (.int 62089)) (xVar 1))) (xC (.int 32416187))) (aNil))) (xC (.int 2147483587)))) (mRet (xBin hMod (xCall hInt (aCons (xBin hMul (xVar 2) (xC (.int 48271))) (aNil))) (xC (.int 2147483647))))))
theorem fd__law_hash (Z : Zs P K mg ad) (A : Fs K mg ta) (Q : Ts base mg ta) : Fd P w K mg base (Tq ta) "_law_hash" S__law_hash ["seed", "index"] 1 (m__law_hash ad) := by
  obtain ⟨f, fd, hm, F⟩ := A.a__law_hash
  refine ⟨f, fd, hm, F, F.binds fun _ _ _ _ _ _ us hl => match us, hl with | [_, _], _ => rfl, def_ok F sc__law_hash fun cdv A1 outer s H E B hc hT hr gd => ?_⟩
  
  have sc := sc__law_hash
  have hu := hu_1 hr; have hu1 := hu_2 hr; have hu2 := hu_3 hr
  exact ds_cons (ds_set (i := 2) sc.nd rfl (by first | exact .inl rfl | exact .inr rfl) (de_op op_modN o_mod (de_callTy call_int1 o_int1 (by rfl) Z.b_int rfl (da_cons (de_op op_addU o_add (de_op op_addU o_add (de_op op_addU o_add (de_op op_mulW o_mul (de_var (pv 0)) (de_int)) (de_op op_mulW o_mul (de_op op_mulW o_mul (de_int) (de_var (pv 1))) (de_var (pv 1)))) (de_op op_mulW o_mul (de_int) (de_var (pv 1)))) (de_int)) (da_nil))) (de_int))) (ds_cons (ds_set (i := 2) sc.nd rfl (by first | exact .inl rfl | exact .inr rfl) (de_op op_modN o_mod (de_callTy call_int1 o_int1 (by rfl) Z.b_int rfl (da_cons (de_op op_addU o_add (de_op op_addU o_add (de_op op_mulW o_mul (de_var (pv 2)) (de_var (pv 2))) (de_op op_mulW o_mul (de_int) (de_var (pv 1)))) (de_int)) (da_nil))) (de_int))) (ds_one (ds_ret (de_op op_modN o_mod (de_callTy call_int1 o_int1 (by rfl) Z.b_int rfl (da_cons (de_op op_mulW o_mul (de_var (pv 2)) (de_int)) (da_nil))) (de_int)))))
theorem sc__law_cell : FnScope ["script", "index"] ["script", "index"] (defScope S__law_cell) := ⟨rfl, rfl, rfl, by decide +kernel, rfl, by decide +kernel, by decide +kernel⟩
def m__law_cell (ad : Ad) : Fn := mkFn 2 2 (mSeq (mIf (xBin hLt (xVar 1) (xCall hLen (aCons (xVar 0) (aNil)))) (mRet (xIxV 0 (xVar 1))) (mNil)) (mRet (xBin hMod (xCall hSum (aCons (xSlice (xVar 0) .no (.ex (xC (.int 1)))) (aNil))) (xC (.int 1000003)))))
theorem fd__law_cell (Z : Zs P K mg ad) (A : Fs K mg ta) (Q : Ts base mg ta) : Fd P w K mg base (Tq ta) "_law_cell" S__law_cell ["script", "index"] 1 (m__law_cell ad) := by
  obtain ⟨f, fd, hm, F⟩ := A.a__law_cell
  refine ⟨f, fd, hm, F, F.binds fun _ _ _ _ _ _ us hl => match us, hl with | [_, _], _ => rfl, def_ok F sc__law_cell fun cdv A1 outer s H E B hc hT hr gd => ?_⟩
  
  have sc := sc__law_cell
  have hu := hu_1 hr; have hu1 := hu_2 hr; have hu2 := hu_3 hr
  exact ds_cons (ds_if (dt_cmp op_lt o_lt (de_var (pv 1)) (de_callB (call_len_seq.or call_len_str) o_len (by rfl) Z.b_len rfl (da_cons (de_var (pv 0)) (da_nil))) rfl) (ds_one (ds_ret (de_ixV (pv 0) (de_var (pv 1)) (by intro _ _; rfl)))) (ds_nil)) (ds_one (ds_ret (de_op op_modN o_mod (de_callB (cr_sum rfl) o_sum (by rfl) Z.b_sum rfl (da_cons (de_slice (de_var (pv 0)) do_none (do_some (de_int))) (da_nil))) (de_int))))
theorem sc__law_turn : FnScope ["one", "other", "third"] ["one", "other", "third"] (defScope S__law_turn) := ⟨rfl, rfl, rfl, by decide +kernel, rfl, by decide +kernel, by decide +kernel⟩
def m__law_turn (ad : Ad) : Fn := mkFn 3 3 (mRet (xBin hSub (xBin hMul (xBin hSub (xIxV 1 (xC (.int 0))) (xIxV 0 (xC (.int 0)))) (xBin hSub (xIxV 2 (xC (.int 1))) (xIxV 0 (xC (.int 1))))) (xBin hMul (xBin hSub (xIxV 1 (xC (.int 1))) (xIxV 0 (xC (.int 1)))) (xBin hSub (xIxV 2 (xC (.int 0))) (xIxV 0 (xC (.int 0)))))))
theorem fd__law_turn (Z : Zs P K mg ad) (A : Fs K mg ta) (Q : Ts base mg ta) : Fd P w K mg base (Tq ta) "_law_turn" S__law_turn ["one", "other", "third"] 1 (m__law_turn ad) := by
  obtain ⟨f, fd, hm, F⟩ := A.a__law_turn
  refine ⟨f, fd, hm, F, F.binds fun _ _ _ _ _ _ us hl => match us, hl with | [_, _, _], _ => rfl, def_ok F sc__law_turn fun cdv A1 outer s H E B hc hT hr gd => ?_⟩
  
  have sc := sc__law_turn
  have hu := hu_1 hr; have hu1 := hu_2 hr; have hu2 := hu_3 hr
  exact ds_one (ds_ret (de_op op_sub o_sub (de_op op_mulW o_mul (de_op op_sub o_sub (de_ixV (pv 1) (de_int) (by intro _ _; rfl)) (de_ixV (pv 0) (de_int) (by intro _ _; rfl))) (de_op op_sub o_sub (de_ixV (pv 2) (de_int) (by intro _ _; rfl)) (de_ixV (pv 0) (de_int) (by intro _ _; rfl)))) (de_op op_mulW o_mul (de_op op_sub o_sub (de_ixV (pv 1) (de_int) (by intro _ _; rfl)) (de_ixV (pv 0) (de_int) (by intro _ _; rfl))) (de_op op_sub o_sub (de_ixV (pv 2) (de_int) (by intro _ _; rfl)) (de_ixV (pv 0) (de_int) (by intro _ _; rfl))))))
theorem sc__law_gone : FnScope ["point", "turning", "a", "b", "c", "d", "e", "f"] ["point", "turning"] (defScope S__law_gone) := ⟨rfl, rfl, rfl, by decide +kernel, rfl, by decide +kernel, by decide +kernel⟩
def m__law_gone (ad : Ad) : Fn := mkFn 8 2 (mSeq (mUnp [2, 3, 4, 5, 6, 7] (xVar 1)) (mRet (xTup (aCons (xBin hAdd (xBin hAdd (xBin hMul (xVar 2) (xIxV 0 (xC (.int 0)))) (xBin hMul (xVar 3) (xIxV 0 (xC (.int 1))))) (xVar 6)) (aCons (xBin hAdd (xBin hAdd (xBin hMul (xVar 4) (xIxV 0 (xC (.int 0)))) (xBin hMul (xVar 5) (xIxV 0 (xC (.int 1))))) (xVar 7)) (aNil))))))
theorem fd__law_gone (Z : Zs P K mg ad) (A : Fs K mg ta) (Q : Ts base mg ta) : Fd P w K mg base (Tq ta) "_law_gone" S__law_gone ["point", "turning"] 1 (m__law_gone ad) := by
  obtain ⟨f, fd, hm, F⟩ := A.a__law_gone
  refine ⟨f, fd, hm, F, F.binds fun _ _ _ _ _ _ us hl => match us, hl with | [_, _], _ => rfl, def_ok F sc__law_gone fun cdv A1 outer s H E B hc hT hr gd => ?_⟩
  
  have sc := sc__law_gone
  have hu := hu_1 hr; have hu1 := hu_2 hr; have hu2 := hu_3 hr
  exact ds_cons (ds_unp (n := 6) rfl (de_var (pv 1)) (dg_cons (pg_name (i := 2) sc.nd rfl (by first | exact .inl rfl | exact .inr rfl)) (dg_cons (pg_name (i := 3) sc.nd rfl (by first | exact .inl rfl | exact .inr rfl)) (dg_cons (pg_name (i := 4) sc.nd rfl (by first | exact .inl rfl | exact .inr rfl)) (dg_cons (pg_name (i := 5) sc.nd rfl (by first | exact .inl rfl | exact .inr rfl)) (dg_cons (pg_name (i := 6) sc.nd rfl (by first | exact .inl rfl | exact .inr rfl)) (dg_cons (pg_name (i := 7) sc.nd rfl (by first | exact .inl rfl | exact .inr rfl)) (dg_nil))))))) rfl) (ds_one (ds_ret (de_tup (da_cons (de_op op_addU o_add (de_op op_addU o_add (de_op op_mulW o_mul (de_var (pv 2)) (de_ixV (pv 0) (de_int) (by intro _ _; rfl))) (de_op op_mulW o_mul (de_var (pv 3)) (de_ixV (pv 0) (de_int) (by intro _ _; rfl)))) (de_var (pv 6))) (da_cons (de_op op_addU o_add (de_op op_addU o_add (de_op op_mulW o_mul (de_var (pv 4)) (de_ixV (pv 0) (de_int) (by intro _ _; rfl))) (de_op op_mulW o_mul (de_var (pv 5)) (de_ixV (pv 0) (de_int) (by intro _ _; rfl)))) (de_var (pv 7))) (da_nil))))))
theorem sc_is_near : FnScope ["value"] ["value"] (defScope S_is_near) := ⟨rfl, rfl, rfl, by decide +kernel, rfl, by decide +kernel, by decide +kernel⟩
def m_is_near (ad : Ad) : Fn := mkFn 1 1 (mRet (xAnd (xUser (m_is_whole ad) 1 (uCons (xVar 0) (uNil))) (xChain hLe hLe (xUn hNeg (xC (.int 1000))) (xVar 0) (xC (.int 1000)))))
theorem fd_is_near (Z : Zs P K mg ad) (A : Fs K mg ta) (Q : Ts base mg ta) : Fd P w K mg base (Tq ta) "is_near" S_is_near ["value"] 2 (m_is_near ad) := by
  obtain ⟨f, fd, hm, F⟩ := A.a_is_near
  refine ⟨f, fd, hm, F, F.binds fun _ _ _ _ _ _ us hl => match us, hl with | [_], _ => rfl, def_ok F sc_is_near fun cdv A1 outer s H E B hc hT hr gd => ?_⟩
  have f_is_whole : Fd P w K mg base (Tq ta) "is_whole" S_is_whole ["value"] 1 (m_is_whole ad) := fd_is_whole Z A Q
  have sc := sc_is_near
  have hu := hu_1 hr; have hu1 := hu_2 hr; have hu2 := hu_3 hr
  exact ds_one (ds_ret (de_and (de_user f_is_whole hT (takes_of rfl rfl rfl rfl) (hr.mono (by decide)) gd (by rfl) (du_cons (de_var (pv 0)) (du_nil))) (de_one (de_chain op_le op_le o_le o_le (de_un un_neg o_neg (de_globE (by rfl) Z.c_MOST_FAR)) (de_var (pv 0)) (de_globE (by rfl) Z.c_MOST_FAR)))))
theorem sc_is_ring_of_corners : FnScope ["value", "at", "one", "other", "third"] ["value"] (defScope S_is_ring_of_corners) := ⟨rfl, rfl, rfl, by decide +kernel, rfl, by decide +kernel, by decide +kernel⟩
def m_is_ring_of_corners (ad : Ad) : Fn := mkFn 5 1 (mSeq (mIf (xBin hNe (xIxV 0 (xC (.int 0))) (xCall hMinG (aCons (xVar 0) (aNil)))) (mRet (xC (.bool false))) (mNil)) (mSeq (mFor (.tp [1, 2]) (xEnum (aCons (xVar 0) (aNil))) (mSeq (mSet 3 (xIxV 0 (xBin hMod (xBin hAdd (xVar 1) (xC (.int 1))) (xCall hLen (aCons (xVar 0) (aNil)))))) (mIf (xBin hNe (xLc (.nm 4) (xSeq (xVar 0)) (some (xAnd (xBin (hInT true) (xVar 4) (xTup (aCons (xVar 2) (aCons (xVar 3) (aNil))))) (xBin hLe (xUser (m_turn_at ad) 3 (uCons (xVar 2) (uCons (xVar 3) (uCons (xVar 4) (uNil))))) (xC (.int 0))))) (xVar 4) [4]) (xLst (aNil))) (mRet (xC (.bool false))) (mNil)))) (mRet (xC (.bool true)))))
theorem fd_is_ring_of_corners (Z : Zs P K mg ad) (A : Fs K mg ta) (Q : Ts base mg ta) : Fd P w K mg base (Tq ta) "is_ring_of_corners" S_is_ring_of_corners ["value"] 2 (m_is_ring_of_corners ad) := by
  obtain ⟨f, fd, hm, F⟩ := A.a_is_ring_of_corners
  refine ⟨f, fd, hm, F, F.binds fun _ _ _ _ _ _ us hl => match us, hl with | [_], _ => rfl, def_ok F sc_is_ring_of_corners fun cdv A1 outer s H E B hc hT hr gd => ?_⟩
  have f_turn_at : Fd P w K mg base (Tq ta) "turn_at" S_turn_at ["one", "other", "third"] 1 (m_turn_at ad) := fd_turn_at Z A Q
  have sc := sc_is_ring_of_corners
  have hu := hu_1 hr; have hu1 := hu_2 hr; have hu2 := hu_3 hr
  exact ds_cons (ds_if (dt_cmp (op_neD hu) o_ne (de_ixV (pv 0) (de_int) (by intro _ _; rfl)) (de_callB ((cr_min rfl).or (cr_minD rfl hu2)) o_minG (by rfl) Z.b_min rfl (da_cons (de_var (pv 0)) (da_nil))) rfl) (ds_one (ds_ret (de_bl))) (ds_nil)) (ds_cons (ds_for (passes_of rfl) rfl (di_enum (by rfl) Z.b_enumerate (da_cons (de_var (pv 0)) (da_nil))) (tg_tp [1, 2] rfl) (pg_tup rfl (dg_cons (pg_name (i := 1) sc.nd rfl (by first | exact .inl rfl | exact .inr rfl)) (dg_cons (pg_name (i := 2) sc.nd rfl (by first | exact .inl rfl | exact .inr rfl)) (dg_nil)))) (ds_cons (ds_set (i := 3) sc.nd rfl (by first | exact .inl rfl | exact .inr rfl) (de_ixV (pv 0) (de_op op_modN o_mod (de_op op_addU o_add (de_var (pv 1)) (de_int)) (de_callB (call_len_seq.or call_len_str) o_len (by rfl) Z.b_len rfl (da_cons (de_var (pv 0)) (da_nil)))) (by intro _ _; rfl))) (ds_one (ds_if (dt_cmp (op_neD hu) o_ne (de_lc (own := [("third", 4)]) rfl sc.nd (di_seq (de_var (pv 0))) (blkOk_by (by first | rfl | kernel_rfl)) (tw_nm (by decide)) (fun _ _ _ _ _ => (pg_name (i := 4) sc.nd rfl (by first | exact .inl rfl | exact .inr rfl))) (fun _ _ _ _ _ => dts_one (fun B' h' => have hT := h'.trans hT; dt_w (dw_and (dt_cmp (op_ninT hu2) o_inT (de_var (pv 4)) (de_tup (da_cons (de_var (pv 2)) (da_cons (de_var (pv 3)) (da_nil)))) rfl) (dw_and1 (dt_cmp op_le o_le (de_user f_turn_at hT tk0 (hr.mono (by decide)) gd (by rfl) (du_cons (de_var (pv 2)) (du_cons (de_var (pv 3)) (du_cons (de_var (pv 4)) (du_nil))))) (de_int) rfl))))) (fun _ _ _ _ _ B' h' => have hT := h'.trans hT; de_var (pv 4))) (de_lst (da_nil)) rfl) (ds_one (ds_ret (de_bl))) (ds_nil))))) (ds_one (ds_ret (de_bl))))
theorem sc_area_in : FnScope ["figure", "at"] ["figure"] (defScope S_area_in) := ⟨rfl, rfl, rfl, by decide +kernel, rfl, by decide +kernel, by decide +kernel⟩
def m_area_in (ad : Ad) : Fn := mkFn 2 1 (mRet (xCall hSum (aCons (xLc (.nm 1) (xRng2 (aCons (xC (.int 2)) (aCons (xCall hLen (aCons (xVar 0) (aNil))) (aNil)))) none (xUser (m_turn_at ad) 3 (uCons (xIxV 0 (xC (.int 0))) (uCons (xIxV 0 (xBin hSub (xVar 1) (xC (.int 1)))) (uCons (xIxV 0 (xVar 1)) (uNil))))) [1]) (aNil))))
theorem fd_area_in (Z : Zs P K mg ad) (A : Fs K mg ta) (Q : Ts base mg ta) : Fd P w K mg base (Tq ta) "area_in" S_area_in ["figure"] 2 (m_area_in ad) := by
  obtain ⟨f, fd, hm, F⟩ := A.a_area_in
  refine ⟨f, fd, hm, F, F.binds fun _ _ _ _ _ _ us hl => match us, hl with | [_], _ => rfl, def_ok F sc_area_in fun cdv A1 outer s H E B hc hT hr gd => ?_⟩
  have f_turn_at : Fd P w K mg base (Tq ta) "turn_at" S_turn_at ["one", "other", "third"] 1 (m_turn_at ad) := fd_turn_at Z A Q
  have sc := sc_area_in
  have hu := hu_1 hr; have hu1 := hu_2 hr; have hu2 := hu_3 hr
  exact ds_one (ds_ret (de_callB (cr_sum rfl) o_sum (by rfl) Z.b_sum rfl (da_cons (de_lc (own := [("at", 1)]) rfl sc.nd (di_rng2 (by rfl) Z.b_range (da_cons (de_int) (da_cons (de_callB (call_len_seq.or call_len_str) o_len (by rfl) Z.b_len rfl (da_cons (de_var (pv 0)) (da_nil))) (da_nil)))) (blkOk_by (by first | rfl | kernel_rfl)) (tw_nm (by decide)) (fun _ _ _ _ _ => (pg_name (i := 1) sc.nd rfl (by first | exact .inl rfl | exact .inr rfl))) (fun _ _ _ _ _ => dts_nil) (fun _ _ _ _ _ B' h' => have hT := h'.trans hT; de_user f_turn_at hT tk0 (hr.mono (by decide)) gd (by rfl) (du_cons (de_ixV (pv 0) (de_int) (by intro _ _; rfl)) (du_cons (de_ixV (pv 0) (de_op op_sub o_sub (de_var (pv 1)) (de_int)) (by intro _ _; rfl)) (du_cons (de_ixV (pv 0) (de_var (pv 1)) (by intro _ _; rfl)) (du_nil)))))) (da_nil))))
theorem sc_rim_in : FnScope ["figure", "at"] ["figure"] (defScope S_rim_in) := ⟨rfl, rfl, rfl, by decide +kernel, rfl, by decide +kernel, by decide +kernel⟩
def m_rim_in (ad : Ad) : Fn := mkFn 2 1 (mSeq (mIf (xBin hLt (xCall hLen (aCons (xVar 0) (aNil))) (xC (.int 3))) (mRet (xBin hAdd (xC (.int 1)) (xUser (m_steps_between ad) 2 (uCons (xIxV 0 (xC (.int 0))) (uCons (xIxV 0 (xUn hNeg (xC (.int 1)))) (uNil)))))) (mNil)) (mRet (xCall hSum (aCons (xLc (.nm 1) (xRng1 (aCons (xCall hLen (aCons (xVar 0) (aNil))) (aNil))) none (xUser (m_steps_between ad) 2 (uCons (xIxV 0 (xBin hSub (xVar 1) (xC (.int 1)))) (uCons (xIxV 0 (xVar 1)) (uNil)))) [1]) (aNil)))))
theorem fd_rim_in (Z : Zs P K mg ad) (A : Fs K mg ta) (Q : Ts base mg ta) : Fd P w K mg base (Tq ta) "rim_in" S_rim_in ["figure"] 2 (m_rim_in ad) := by
  obtain ⟨f, fd, hm, F⟩ := A.a_rim_in
  refine ⟨f, fd, hm, F, F.binds fun _ _ _ _ _ _ us hl => match us, hl with | [_], _ => rfl, def_ok F sc_rim_in fun cdv A1 outer s H E B hc hT hr gd => ?_⟩
  have f_steps_between : Fd P w K mg base (Tq ta) "steps_between" S_steps_between ["one", "other"] 1 (m_steps_between ad) := fd_steps_between Z A Q
  have sc := sc_rim_in
  have hu := hu_1 hr; have hu1 := hu_2 hr; have hu2 := hu_3 hr
  exact ds_cons (ds_if (dt_cmp op_lt o_lt (de_callB (call_len_seq.or call_len_str) o_len (by rfl) Z.b_len rfl (da_cons (de_var (pv 0)) (da_nil))) (de_int) rfl) (ds_one (ds_ret (de_op op_addU o_add (de_int) (de_user f_steps_between hT (takes_of rfl rfl rfl rfl) (hr.mono (by decide)) gd (by rfl) (du_cons (de_ixV (pv 0) (de_int) (by intro _ _; rfl)) (du_cons (de_ixV (pv 0) (de_un un_neg o_neg (de_int)) (by intro _ _; rfl)) (du_nil))))))) (ds_nil)) (ds_one (ds_ret (de_callB (cr_sum rfl) o_sum (by rfl) Z.b_sum rfl (da_cons (de_lc (own := [("at", 1)]) rfl sc.nd (di_rng1 (by rfl) Z.b_range (da_cons (de_callB (call_len_seq.or call_len_str) o_len (by rfl) Z.b_len rfl (da_cons (de_var (pv 0)) (da_nil))) (da_nil))) (blkOk_by (by first | rfl | kernel_rfl)) (tw_nm (by decide)) (fun _ _ _ _ _ => (pg_name (i := 1) sc.nd rfl (by first | exact .inl rfl | exact .inr rfl))) (fun _ _ _ _ _ => dts_nil) (fun _ _ _ _ _ B' h' => have hT := h'.trans hT; de_user f_steps_between hT tk0 (hr.mono (by decide)) gd (by rfl) (du_cons (de_ixV (pv 0) (de_op op_sub o_sub (de_var (pv 1)) (de_int)) (by intro _ _; rfl)) (du_cons (de_ixV (pv 0) (de_var (pv 1)) (by intro _ _; rfl)) (du_nil))))) (da_nil)))))
theorem sc_half_ring : FnScope ["ordered", "told", "point"] ["ordered"] (defScope S_half_ring) := ⟨rfl, rfl, rfl, by decide +kernel, rfl, by decide +kernel, by decide +kernel⟩
def m_half_ring (ad : Ad) : Fn := mkFn 3 1 (mSeq (mSet 1 (xLst (aNil))) (mSeq (mFor (.nm 2) (xSeq (xVar 0)) (mSeq (mWhF (xAnd (xBin hGt (xCall hLen (aCons (xVar 1) (aNil))) (xC (.int 1))) (xBin hLe (xUser (m_turn_at ad) 3 (uCons (xIxV 1 (xUn hNeg (xC (.int 2)))) (uCons (xIxV 1 (xUn hNeg (xC (.int 1)))) (uCons (xVar 2) (uNil))))) (xC (.int 0)))) (mSet 1 (xSlice (xVar 1) .no (.ex (xUn hNeg (xC (.int 1))))))) (mApp 1 (xVar 2)))) (mRet (xSlice (xVar 1) .no (.ex (xUn hNeg (xC (.int 1))))))))
theorem fd_half_ring (Z : Zs P K mg ad) (A : Fs K mg ta) (Q : Ts base mg ta) : Fd P w K mg base (Tq ta) "half_ring" S_half_ring ["ordered"] 2 (m_half_ring ad) := by
  obtain ⟨f, fd, hm, F⟩ := A.a_half_ring
  refine ⟨f, fd, hm, F, F.binds fun _ _ _ _ _ _ us hl => match us, hl with | [_], _ => rfl, def_ok F sc_half_ring fun cdv A1 outer s H E B hc hT hr gd => ?_⟩
  have f_turn_at : Fd P w K mg base (Tq ta) "turn_at" S_turn_at ["one", "other", "third"] 1 (m_turn_at ad) := fd_turn_at Z A Q
  have sc := sc_half_ring
  have hu := hu_1 hr; have hu1 := hu_2 hr; have hu2 := hu_3 hr
  exact ds_cons (ds_set (i := 1) sc.nd rfl (by first | exact .inl rfl | exact .inr rfl) (de_lst (da_nil))) (ds_cons (ds_for (passes_of rfl) rfl (di_seq (de_var (pv 0))) (tg_nm 2) (pg_name (i := 2) sc.nd rfl (by first | exact .inl rfl | exact .inr rfl)) (ds_cons (ds_whileF (passes_of rfl) (dt_w (dw_and (dt_cmp op_gt o_gt (de_callB (call_len_seq.or call_len_str) o_len (by rfl) Z.b_len rfl (da_cons (de_var (pv 1)) (da_nil))) (de_int) rfl) (dw_and1 (dt_cmp op_le o_le (de_user f_turn_at hT (takes_of rfl rfl rfl rfl) (hr.mono (by decide)) gd (by rfl) (du_cons (de_ixV (pv 1) (de_un un_neg o_neg (de_int)) (by intro _ _; rfl)) (du_cons (de_ixV (pv 1) (de_un un_neg o_neg (de_int)) (by intro _ _; rfl)) (du_cons (de_var (pv 2)) (du_nil))))) (de_int) rfl)))) (ds_one (ds_set (i := 1) sc.nd rfl (by first | exact .inl rfl | exact .inr rfl) (de_slice (de_var (pv 1)) do_none (do_some (de_un un_neg o_neg (de_int))))))) (ds_one (ds_app (pv 1) (de_var (pv 2)))))) (ds_one (ds_ret (de_slice (de_var (pv 1)) do_none (do_some (de_un un_neg o_neg (de_int)))))))
theorem sc__law_random : FnScope ["generator", "bound", "picked", "turn"] ["generator", "bound"] (defScope S__law_random) := ⟨rfl, rfl, rfl, by decide +kernel, rfl, by decide +kernel, by decide +kernel⟩
def m__law_random (ad : Ad) : Fn := mkFn 4 2 (mSeq (mIf (xBin hGt (xIxV 0 (xC (.int 0))) (xC (.int 0))) (mSeq (mSet 2 (xBin hMod (xCall hInt (aCons (xIxV 0 (xC (.int 0))) (aNil))) (xVar 1))) (mSeq (mPut 0 (xC (.int 0)) (xBin hFdiv (xIxV 0 (xC (.int 0))) (xVar 1))) (mRetV 2))) (mNil)) (mSeq (mSet 2 (xC (.int 0))) (mSeq (mFor (.nm 3) (xRng1 (aCons (xBin hAdd (xC (.int 1)) (xBin hFdiv (xUn hBits (xVar 1)) (xC (.int 30)))) (aNil))) (mSeq (mPut 0 (xC (.int 2)) (xBin hAdd (xIxV 0 (xC (.int 2))) (xC (.int 1)))) (mSet 2 (xBin hAdd (xBin hMul (xVar 2) (xC (.int 2147483587))) (xUser (m__law_hash ad) 2 (uCons (xIxV 0 (xC (.int 1))) (uCons (xIxV 0 (xC (.int 2))) (uNil)))))))) (mRet (xBin hMod (xCall hInt (aCons (xVar 2) (aNil))) (xVar 1))))))
theorem fd__law_random (Z : Zs P K mg ad) (A : Fs K mg ta) (Q : Ts base mg ta) : Fd P w K mg base (Tq ta) "_law_random" S__law_random ["generator", "bound"] 2 (m__law_random ad) := by
  obtain ⟨f, fd, hm, F⟩ := A.a__law_random
  refine ⟨f, fd, hm, F, F.binds fun _ _ _ _ _ _ us hl => match us, hl with | [_, _], _ => rfl, def_ok F sc__law_random fun cdv A1 outer s H E B hc hT hr gd => ?_⟩
  have f__law_hash : Fd P w K mg base (Tq ta) "_law_hash" S__law_hash ["seed", "index"] 1 (m__law_hash ad) := fd__law_hash Z A Q
  have sc := sc__law_random
  have hu := hu_1 hr; have hu1 := hu_2 hr; have hu2 := hu_3 hr
  exact ds_cons (ds_if (dt_cmp op_gt o_gt (de_ixV (pv 0) (de_int) (by intro _ _; rfl)) (de_int) rfl) (ds_cons (ds_set (i := 2) sc.nd rfl (by first | exact .inl rfl | exact .inr rfl) (de_op op_modN o_mod (de_callTy call_int1 o_int1 (by rfl) Z.b_int rfl (da_cons (de_ixV (pv 0) (de_int) (by intro _ _; rfl)) (da_nil))) (de_var (pv 1)))) (ds_cons (ds_put (pv 0) (de_int) (de_op op_fdivX o_fdiv (de_ixV (pv 0) (de_int) (by intro _ _; rfl)) (de_var (pv 1)))) (ds_one (ds_retV (pv 2))))) (ds_nil)) (ds_cons (ds_set (i := 2) sc.nd rfl (by first | exact .inl rfl | exact .inr rfl) (de_int)) (ds_cons (ds_for (passes_of rfl) rfl (di_rng1 (by rfl) Z.b_range (da_cons (de_op op_addU o_add (de_int) (de_op op_fdivX o_fdiv (de_bits (de_var (pv 1))) (de_int))) (da_nil))) (tg_nm 3) (pg_name (i := 3) sc.nd rfl (by first | exact .inl rfl | exact .inr rfl)) (ds_cons (ds_put (pv 0) (de_int) (de_op op_addU o_add (de_ixV (pv 0) (de_int) (by intro _ _; rfl)) (de_int))) (ds_one (ds_set (i := 2) sc.nd rfl (by first | exact .inl rfl | exact .inr rfl) (de_op op_addU o_add (de_op op_mulW o_mul (de_var (pv 2)) (de_int)) (de_user f__law_hash hT (takes_of rfl rfl rfl rfl) (hr.mono (by decide)) gd (by rfl) (du_cons (de_ixV (pv 0) (de_int) (by intro _ _; rfl)) (du_cons (de_ixV (pv 0) (de_int) (by intro _ _; rfl)) (du_nil))))))))) (ds_one (ds_ret (de_op op_modN o_mod (de_callTy call_int1 o_int1 (by rfl) Z.b_int rfl (da_cons (de_var (pv 2)) (da_nil))) (de_var (pv 1)))))))
theorem sc__law_generator : FnScope ["script", "index", "seed"] ["script", "index"] (defScope S__law_generator) := ⟨rfl, rfl, rfl, by decide +kernel, rfl, by decide +kernel, by decide +kernel⟩
def m__law_generator (ad : Ad) : Fn := mkFn 3 2 (mSeq (mSet 2 (xUser (m__law_cell ad) 2 (uCons (xVar 0) (uCons (xVar 1) (uNil))))) (mRet (xLst (aCons (xBin hMod (xCall hInt (aCons (xCall hMax2 (aCons (xBin hSub (xVar 2) (xBin hPow (xC (.int 10)) (xC (.int 18)))) (aCons (xC (.int 0)) (aNil)))) (aNil))) (xBin hPow (xBin hPow (xC (.int 10)) (xC (.int 60))) (xC (.int 10)))) (aCons (xBin hMod (xCall hInt (aCons (xVar 2) (aNil))) (xC (.int 2147483647))) (aCons (xBin hMul (xC (.int 1000)) (xVar 1)) (aNil)))))))
theorem fd__law_generator (Z : Zs P K mg ad) (A : Fs K mg ta) (Q : Ts base mg ta) : Fd P w K mg base (Tq ta) "_law_generator" S__law_generator ["script", "index"] 2 (m__law_generator ad) := by
  obtain ⟨f, fd, hm, F⟩ := A.a__law_generator
  refine ⟨f, fd, hm, F, F.binds fun _ _ _ _ _ _ us hl => match us, hl with | [_, _], _ => rfl, def_ok F sc__law_generator fun cdv A1 outer s H E B hc hT hr gd => ?_⟩
  have f__law_cell : Fd P w K mg base (Tq ta) "_law_cell" S__law_cell ["script", "index"] 1 (m__law_cell ad) := fd__law_cell Z A Q
  have sc := sc__law_generator
  have hu := hu_1 hr; have hu1 := hu_2 hr; have hu2 := hu_3 hr
  exact ds_cons (ds_set (i := 2) sc.nd rfl (by first | exact .inl rfl | exact .inr rfl) (de_user f__law_cell hT (takes_of rfl rfl rfl rfl) (hr.mono (by decide)) gd (by rfl) (du_cons (de_var (pv 0)) (du_cons (de_var (pv 1)) (du_nil))))) (ds_one (ds_ret (de_lst (da_cons (de_op op_modN o_mod (de_callTy call_int1 o_int1 (by rfl) Z.b_int rfl (da_cons (de_callB (call_max2 rfl) (o_num2 _) (by rfl) Z.b_max rfl (da_cons (de_op op_sub o_sub (de_var (pv 2)) (de_op op_powX o_pow (de_int) (de_int))) (da_cons (de_int) (da_nil)))) (da_nil))) (de_op op_powX o_pow (de_op op_powX o_pow (de_int) (de_int)) (de_int))) (da_cons (de_op op_modN o_mod (de_callTy call_int1 o_int1 (by rfl) Z.b_int rfl (da_cons (de_var (pv 2)) (da_nil))) (de_int)) (da_cons (de_op op_mulW o_mul (de_int) (de_var (pv 1))) (da_nil)))))))
theorem sc__law_half : FnScope ["points", "found", "point"] ["points"] (defScope S__law_half) := ⟨rfl, rfl, rfl, by decide +kernel, rfl, by decide +kernel, by decide +kernel⟩
def m__law_half (ad : Ad) : Fn := mkFn 3 1 (mSeq (mSet 1 (xLst (aNil))) (mSeq (mFor (.nm 2) (xSeq (xVar 0)) (mSeq (mWhF (xAnd (xBin hGt (xCall hLen (aCons (xVar 1) (aNil))) (xC (.int 1))) (xBin hLe (xUser (m__law_turn ad) 3 (uCons (xIxV 1 (xUn hNeg (xC (.int 2)))) (uCons (xIxV 1 (xUn hNeg (xC (.int 1)))) (uCons (xVar 2) (uNil))))) (xC (.int 0)))) (mSet 1 (xSlice (xVar 1) .no (.ex (xUn hNeg (xC (.int 1))))))) (mApp 1 (xVar 2)))) (mRet (xSlice (xVar 1) .no (.ex (xUn hNeg (xC (.int 1))))))))
theorem fd__law_half (Z : Zs P K mg ad) (A : Fs K mg ta) (Q : Ts base mg ta) : Fd P w K mg base (Tq ta) "_law_half" S__law_half ["points"] 2 (m__law_half ad) := by
  obtain ⟨f, fd, hm, F⟩ := A.a__law_half
  refine ⟨f, fd, hm, F, F.binds fun _ _ _ _ _ _ us hl => match us, hl with | [_], _ => rfl, def_ok F sc__law_half fun cdv A1 outer s H E B hc hT hr gd => ?_⟩
  have f__law_turn : Fd P w K mg base (Tq ta) "_law_turn" S__law_turn ["one", "other", "third"] 1 (m__law_turn ad) := fd__law_turn Z A Q
  have sc := sc__law_half
  have hu := hu_1 hr; have hu1 := hu_2 hr; have hu2 := hu_3 hr
  exact ds_cons (ds_set (i := 1) sc.nd rfl (by first | exact .inl rfl | exact .inr rfl) (de_lst (da_nil))) (ds_cons (ds_for (passes_of rfl) rfl (di_seq (de_var (pv 0))) (tg_nm 2) (pg_name (i := 2) sc.nd rfl (by first | exact .inl rfl | exact .inr rfl)) (ds_cons (ds_whileF (passes_of rfl) (dt_w (dw_and (dt_cmp op_gt o_gt (de_callB (call_len_seq.or call_len_str) o_len (by rfl) Z.b_len rfl (da_cons (de_var (pv 1)) (da_nil))) (de_int) rfl) (dw_and1 (dt_cmp op_le o_le (de_user f__law_turn hT (takes_of rfl rfl rfl rfl) (hr.mono (by decide)) gd (by rfl) (du_cons (de_ixV (pv 1) (de_un un_neg o_neg (de_int)) (by intro _ _; rfl)) (du_cons (de_ixV (pv 1) (de_un un_neg o_neg (de_int)) (by intro _ _; rfl)) (du_cons (de_var (pv 2)) (du_nil))))) (de_int) rfl)))) (ds_one (ds_set (i := 1) sc.nd rfl (by first | exact .inl rfl | exact .inr rfl) (de_slice (de_var (pv 1)) do_none (do_some (de_un un_neg o_neg (de_int))))))) (ds_one (ds_app (pv 1) (de_var (pv 2)))))) (ds_one (ds_ret (de_slice (de_var (pv 1)) do_none (do_some (de_un un_neg o_neg (de_int)))))))
theorem sc__law_behind : FnScope ["one", "other", "ends", "point", "start"] ["one", "other"] (defScope S__law_behind) := ⟨rfl, rfl, rfl, by decide +kernel, rfl, by decide +kernel, by decide +kernel⟩
def m__law_behind (ad : Ad) : Fn := mkFn 5 2 (mSeq (mSet 2 (xLc (.nm 3) (xSeq (xLst (aCons (xTup (aCons (xC (.int 0)) (aCons (xC (.int 0)) (aNil)))) (aCons (xTup (aCons (xC (.int 1)) (aCons (xC (.int 0)) (aNil)))) (aCons (xTup (aCons (xC (.int 0)) (aCons (xC (.int 1)) (aNil)))) (aNil)))))) none (xUser (m__law_gone ad) 2 (uCons (xUser (m__law_gone ad) 2 (uCons (xVar 3) (uCons (xVar 0) (uNil)))) (uCons (xVar 1) (uNil)))) [3])) (mSeq (mSet 4 (xIxV 2 (xC (.int 0)))) (mRet (xTup (aCons (xBin hSub (xBin hIx (xIxV 2 (xC (.int 1))) (xC (.int 0))) (xIxV 4 (xC (.int 0)))) (aCons (xBin hSub (xBin hIx (xIxV 2 (xC (.int 2))) (xC (.int 0))) (xIxV 4 (xC (.int 0)))) (aCons (xBin hSub (xBin hIx (xIxV 2 (xC (.int 1))) (xC (.int 1))) (xIxV 4 (xC (.int 1)))) (aCons (xBin hSub (xBin hIx (xIxV 2 (xC (.int 2))) (xC (.int 1))) (xIxV 4 (xC (.int 1)))) (aCons (xIxV 4 (xC (.int 0))) (aCons (xIxV 4 (xC (.int 1))) (aNil)))))))))))
theorem fd__law_behind (Z : Zs P K mg ad) (A : Fs K mg ta) (Q : Ts base mg ta) : Fd P w K mg base (Tq ta) "_law_behind" S__law_behind ["one", "other"] 2 (m__law_behind ad) := by
  obtain ⟨f, fd, hm, F⟩ := A.a__law_behind
  refine ⟨f, fd, hm, F, F.binds fun _ _ _ _ _ _ us hl => match us, hl with | [_, _], _ => rfl, def_ok F sc__law_behind fun cdv A1 outer s H E B hc hT hr gd => ?_⟩
  have f__law_gone : Fd P w K mg base (Tq ta) "_law_gone" S__law_gone ["point", "turning"] 1 (m__law_gone ad) := fd__law_gone Z A Q
  have sc := sc__law_behind
  have hu := hu_1 hr; have hu1 := hu_2 hr; have hu2 := hu_3 hr
  exact ds_cons (ds_setLc (i := 2) (own := [("point", 3)]) rfl sc.nd rfl rfl (di_seq (de_lst (da_cons (de_tup (da_cons (de_int) (da_cons (de_int) (da_nil)))) (da_cons (de_tup (da_cons (de_int) (da_cons (de_int) (da_nil)))) (da_cons (de_tup (da_cons (de_int) (da_cons (de_int) (da_nil)))) (da_nil)))))) (blkOk_by (by first | rfl | kernel_rfl)) (tw_nm (by decide)) (fun _ _ _ _ _ => (pg_name (i := 3) sc.nd rfl (by first | exact .inl rfl | exact .inr rfl))) (fun _ _ _ _ _ => dts_nil) (fun _ _ _ _ _ B' h' => have hT := h'.trans hT; de_user f__law_gone hT tk0 (hr.mono (by decide)) gd (by rfl) (du_cons (de_user f__law_gone hT tk0 (hr.mono (by decide)) gd (by rfl) (du_cons (de_var (pv 3)) (du_cons (de_var (pv 0)) (du_nil)))) (du_cons (de_var (pv 1)) (du_nil))))) (ds_cons (ds_set (i := 4) sc.nd rfl (by first | exact .inl rfl | exact .inr rfl) (de_ixV (pv 2) (de_int) (by intro _ _; rfl))) (ds_one (ds_ret (de_tup (da_cons (de_op op_sub o_sub (de_ix (de_ixV (pv 2) (de_int) (by intro _ _; rfl)) (de_int) (by intro _ _; rfl)) (de_ixV (pv 4) (de_int) (by intro _ _; rfl))) (da_cons (de_op op_sub o_sub (de_ix (de_ixV (pv 2) (de_int) (by intro _ _; rfl)) (de_int) (by intro _ _; rfl)) (de_ixV (pv 4) (de_int) (by intro _ _; rfl))) (da_cons (de_op op_sub o_sub (de_ix (de_ixV (pv 2) (de_int) (by intro _ _; rfl)) (de_int) (by intro _ _; rfl)) (de_ixV (pv 4) (de_int) (by intro _ _; rfl))) (da_cons (de_op op_sub o_sub (de_ix (de_ixV (pv 2) (de_int) (by intro _ _; rfl)) (de_int) (by intro _ _; rfl)) (de_ixV (pv 4) (de_int) (by intro _ _; rfl))) (da_cons (de_ixV (pv 4) (de_int) (by intro _ _; rfl)) (da_cons (de_ixV (pv 4) (de_int) (by intro _ _; rfl)) (da_nil)))))))))))
theorem sc_is_point : FnScope ["value"] ["value"] (defScope S_is_point) := ⟨rfl, rfl, rfl, by decide +kernel, rfl, by decide +kernel, by decide +kernel⟩
def m_is_point (ad : Ad) : Fn := mkFn 1 1 (mRet (xAnd (xIsi (fun t => isTy t .tuple) (xVar 0)) (xAnd (xBin hEq (xCall hLen (aCons (xVar 0) (aNil))) (xC (.int 2))) (xAnd (xUser (m_is_near ad) 1 (uCons (xIxV 0 (xC (.int 0))) (uNil))) (xUser (m_is_near ad) 1 (uCons (xIxV 0 (xC (.int 1))) (uNil)))))))
theorem fd_is_point (Z : Zs P K mg ad) (A : Fs K mg ta) (Q : Ts base mg ta) : Fd P w K mg base (Tq ta) "is_point" S_is_point ["value"] 3 (m_is_point ad) := by
  obtain ⟨f, fd, hm, F⟩ := A.a_is_point
  refine ⟨f, fd, hm, F, F.binds fun _ _ _ _ _ _ us hl => match us, hl with | [_], _ => rfl, def_ok F sc_is_point fun cdv A1 outer s H E B hc hT hr gd => ?_⟩
  have f_is_near : Fd P w K mg base (Tq ta) "is_near" S_is_near ["value"] 2 (m_is_near ad) := fd_is_near Z A Q
  have sc := sc_is_point
  have hu := hu_1 hr; have hu1 := hu_2 hr; have hu2 := hu_3 hr
  exact ds_one (ds_ret (de_and (de_isi (T := .tuple) (de_var (pv 0)) (by rfl) Z.b_isinstance (pe_ty (by rfl) Z.b_tuple rfl)) (de_and (de_cmp (op_eqD hu) o_eq (de_callB (call_len_seq.or call_len_str) o_len (by rfl) Z.b_len rfl (da_cons (de_var (pv 0)) (da_nil))) (de_int) rfl) (de_and (de_user f_is_near hT (takes_of rfl rfl rfl rfl) (hr.mono (by decide)) gd (by rfl) (du_cons (de_ixV (pv 0) (de_int) (by intro _ _; rfl)) (du_nil))) (de_one (de_user f_is_near hT (takes_of rfl rfl rfl rfl) (hr.mono (by decide)) gd (by rfl) (du_cons (de_ixV (pv 0) (de_int) (by intro _ _; rfl)) (du_nil))))))))
theorem sc_is_map : FnScope ["value", "one"] ["value"] (defScope S_is_map) := ⟨rfl, rfl, rfl, by decide +kernel, rfl, by decide +kernel, by decide +kernel⟩
def m_is_map (ad : Ad) : Fn := mkFn 2 1 (mSeq (mIf (xOr (xNot (xIsi (fun t => isTy t .tuple) (xVar 0))) (xOr (xBin hNe (xCall hLen (aCons (xVar 0) (aNil))) (xC (.int 6))) (xBin hNe (xLc (.nm 1) (xSeq (xVar 0)) (some (xNot (xUser (m_is_near ad) 1 (uCons (xVar 1) (uNil))))) (xVar 1) [1]) (xLst (aNil))))) (mRet (xC (.bool false))) (mNil)) (mRet (xBin (hIn false) (xBin hSub (xBin hMul (xIxV 0 (xC (.int 0))) (xIxV 0 (xC (.int 3)))) (xBin hMul (xIxV 0 (xC (.int 1))) (xIxV 0 (xC (.int 2))))) (xTup (aCons (xC (.int 1)) (aCons (xUn hNeg (xC (.int 1))) (aNil)))))))
theorem fd_is_map (Z : Zs P K mg ad) (A : Fs K mg ta) (Q : Ts base mg ta) : Fd P w K mg base (Tq ta) "is_map" S_is_map ["value"] 3 (m_is_map ad) := by
  obtain ⟨f, fd, hm, F⟩ := A.a_is_map
  refine ⟨f, fd, hm, F, F.binds fun _ _ _ _ _ _ us hl => match us, hl with | [_], _ => rfl, def_ok F sc_is_map fun cdv A1 outer s H E B hc hT hr gd => ?_⟩
  have f_is_near : Fd P w K mg base (Tq ta) "is_near" S_is_near ["value"] 2 (m_is_near ad) := fd_is_near Z A Q
  have sc := sc_is_map
  have hu := hu_1 hr; have hu1 := hu_2 hr; have hu2 := hu_3 hr
  exact ds_cons (ds_if (dt_w (dw_or (dt_not (dt_val (de_isi (T := .tuple) (de_var (pv 0)) (by rfl) Z.b_isinstance (pe_ty (by rfl) Z.b_tuple rfl)))) (dw_or (dt_cmp (op_neD hu) o_ne (de_callB (call_len_seq.or call_len_str) o_len (by rfl) Z.b_len rfl (da_cons (de_var (pv 0)) (da_nil))) (de_int) rfl) (dw_or1 (dt_cmp (op_neD hu) o_ne (de_lc (own := [("one", 1)]) rfl sc.nd (di_seq (de_var (pv 0))) (blkOk_by (by first | rfl | kernel_rfl)) (tw_nm (by decide)) (fun _ _ _ _ _ => (pg_name (i := 1) sc.nd rfl (by first | exact .inl rfl | exact .inr rfl))) (fun _ _ _ _ _ => dts_one (fun B' h' => have hT := h'.trans hT; dt_not (dt_val (de_user f_is_near hT tk0 (hr.mono (by decide)) gd (by rfl) (du_cons (de_var (pv 1)) (du_nil)))))) (fun _ _ _ _ _ B' h' => have hT := h'.trans hT; de_var (pv 1))) (de_lst (da_nil)) rfl))))) (ds_one (ds_ret (de_bl))) (ds_nil)) (ds_one (ds_ret (de_cmp (op_inU hu2) o_in (de_op op_sub o_sub (de_op op_mulW o_mul (de_ixV (pv 0) (de_int) (by intro _ _; rfl)) (de_ixV (pv 0) (de_int) (by intro _ _; rfl))) (de_op op_mulW o_mul (de_ixV (pv 0) (de_int) (by intro _ _; rfl)) (de_ixV (pv 0) (de_int) (by intro _ _; rfl)))) (de_tup (da_cons (de_int) (da_cons (de_un un_neg o_neg (de_int)) (da_nil)))) rfl)))
theorem sc_inner_in : FnScope ["figure"] ["figure"] (defScope S_inner_in) := ⟨rfl, rfl, rfl, by decide +kernel, rfl, by decide +kernel, by decide +kernel⟩
def m_inner_in (ad : Ad) : Fn := mkFn 1 1 (mRet (xIf (xBin hGt (xCall hLen (aCons (xVar 0) (aNil))) (xC (.int 2))) (xBin hFdiv (xBin hAdd (xBin hSub (xUser (m_area_in ad) 1 (uCons (xVar 0) (uNil))) (xUser (m_rim_in ad) 1 (uCons (xVar 0) (uNil)))) (xC (.int 2))) (xC (.int 2))) (xC (.int 0))))
theorem fd_inner_in (Z : Zs P K mg ad) (A : Fs K mg ta) (Q : Ts base mg ta) : Fd P w K mg base (Tq ta) "inner_in" S_inner_in ["figure"] 3 (m_inner_in ad) := by
  obtain ⟨f, fd, hm, F⟩ := A.a_inner_in
  refine ⟨f, fd, hm, F, F.binds fun _ _ _ _ _ _ us hl => match us, hl with | [_], _ => rfl, def_ok F sc_inner_in fun cdv A1 outer s H E B hc hT hr gd => ?_⟩
  have f_area_in : Fd P w K mg base (Tq ta) "area_in" S_area_in ["figure"] 2 (m_area_in ad) := fd_area_in Z A Q
  have f_rim_in : Fd P w K mg base (Tq ta) "rim_in" S_rim_in ["figure"] 2 (m_rim_in ad) := fd_rim_in Z A Q
  have sc := sc_inner_in
  have hu := hu_1 hr; have hu1 := hu_2 hr; have hu2 := hu_3 hr
  exact ds_one (ds_ret (de_if (dt_cmp op_gt o_gt (de_callB (call_len_seq.or call_len_str) o_len (by rfl) Z.b_len rfl (da_cons (de_var (pv 0)) (da_nil))) (de_int) rfl) (de_op op_fdivX o_fdiv (de_op op_addU o_add (de_op op_sub o_sub (de_user f_area_in hT (takes_of rfl rfl rfl rfl) (hr.mono (by decide)) gd (by rfl) (du_cons (de_var (pv 0)) (du_nil))) (de_user f_rim_in hT (takes_of rfl rfl rfl rfl) (hr.mono (by decide)) gd (by rfl) (du_cons (de_var (pv 0)) (du_nil)))) (de_int)) (de_int)) (de_int)))
theorem sc_ring_of : FnScope ["points", "ordered"] ["points"] (defScope S_ring_of) := ⟨rfl, rfl, rfl, by decide +kernel, rfl, by decide +kernel, by decide +kernel⟩
def m_ring_of (ad : Ad) : Fn := mkFn 2 1 (mSeq (mSet 1 (xSSet (xVar 0))) (mSeq (mIf (xBin hLt (xCall hLen (aCons (xVar 1) (aNil))) (xC (.int 3))) (mRetV 1) (mNil)) (mRet (xBin hAdd (xUser (m_half_ring ad) 1 (uCons (xVar 1) (uNil))) (xUser (m_half_ring ad) 1 (uCons (xRev (xVar 1)) (uNil)))))))
theorem fd_ring_of (Z : Zs P K mg ad) (A : Fs K mg ta) (Q : Ts base mg ta) : Fd P w K mg base (Tq ta) "ring_of" S_ring_of ["points"] 3 (m_ring_of ad) := by
  obtain ⟨f, fd, hm, F⟩ := A.a_ring_of
  refine ⟨f, fd, hm, F, F.binds fun _ _ _ _ _ _ us hl => match us, hl with | [_], _ => rfl, def_ok F sc_ring_of fun cdv A1 outer s H E B hc hT hr gd => ?_⟩
  have f_half_ring : Fd P w K mg base (Tq ta) "half_ring" S_half_ring ["ordered"] 2 (m_half_ring ad) := fd_half_ring Z A Q
  have sc := sc_ring_of
  have hu := hu_1 hr; have hu1 := hu_2 hr; have hu2 := hu_3 hr
  exact ds_cons (ds_set (i := 1) sc.nd rfl (by first | exact .inl rfl | exact .inr rfl) (de_sset rfl hu2 (by rfl) Z.b_sorted (by rfl) Z.b_set (de_var (pv 0)))) (ds_cons (ds_if (dt_cmp op_lt o_lt (de_callB (call_len_seq.or call_len_str) o_len (by rfl) Z.b_len rfl (da_cons (de_var (pv 1)) (da_nil))) (de_int) rfl) (ds_one (ds_retV (pv 1))) (ds_nil)) (ds_one (ds_ret (de_op op_addU o_add (de_user f_half_ring hT (takes_of rfl rfl rfl rfl) (hr.mono (by decide)) gd (by rfl) (du_cons (de_var (pv 1)) (du_nil))) (de_user f_half_ring hT (takes_of rfl rfl rfl rfl) (hr.mono (by decide)) gd (by rfl) (du_cons (de_rev (de_var (pv 1))) (du_nil)))))))
theorem sc__law_pick : FnScope ["generator", "things"] ["generator", "things"] (defScope S__law_pick) := ⟨rfl, rfl, rfl, by decide +kernel, rfl, by decide +kernel, by decide +kernel⟩
def m__law_pick (ad : Ad) : Fn := mkFn 2 2 (mRet (xIxV 1 (xUser (m__law_random ad) 2 (uGen 0 (uCons (xCall hLen (aCons (xVar 1) (aNil))) (uNil))))))
theorem fd__law_pick (Z : Zs P K mg ad) (A : Fs K mg ta) (Q : Ts base mg ta) : Fd P w K mg base (Tq ta) "_law_pick" S__law_pick ["generator", "things"] 3 (m__law_pick ad) := by
  obtain ⟨f, fd, hm, F⟩ := A.a__law_pick
  refine ⟨f, fd, hm, F, F.binds fun _ _ _ _ _ _ us hl => match us, hl with | [_, _], _ => rfl, def_ok F sc__law_pick fun cdv A1 outer s H E B hc hT hr gd => ?_⟩
  have f__law_random : Fd P w K mg base (Tq ta) "_law_random" S__law_random ["generator", "bound"] 2 (m__law_random ad) := fd__law_random Z A Q
  have sc := sc__law_pick
  have hu := hu_1 hr; have hu1 := hu_2 hr; have hu2 := hu_3 hr
  exact ds_one (ds_ret (de_ixV (pv 1) (de_user f__law_random hT (takes_of rfl rfl rfl rfl) (hr.mono (by decide)) gd (by rfl) (du_gen (pv 0) (du_cons (de_callB (call_len_seq.or call_len_str) o_len (by rfl) Z.b_len rfl (da_cons (de_var (pv 1)) (da_nil))) (du_nil)))) (by intro _ _; rfl)))
theorem sc__law_ring : FnScope ["points", "told"] ["points"] (defScope S__law_ring) := ⟨rfl, rfl, rfl, by decide +kernel, rfl, by decide +kernel, by decide +kernel⟩
def m__law_ring (ad : Ad) : Fn := mkFn 2 1 (mSeq (mSet 1 (xSSet (xVar 0))) (mRet (xIf (xBin hLt (xCall hLen (aCons (xVar 1) (aNil))) (xC (.int 3))) (xVar 1) (xBin hAdd (xUser (m__law_half ad) 1 (uCons (xVar 1) (uNil))) (xUser (m__law_half ad) 1 (uCons (xRev (xVar 1)) (uNil)))))))
theorem fd__law_ring (Z : Zs P K mg ad) (A : Fs K mg ta) (Q : Ts base mg ta) : Fd P w K mg base (Tq ta) "_law_ring" S__law_ring ["points"] 3 (m__law_ring ad) := by
  obtain ⟨f, fd, hm, F⟩ := A.a__law_ring
  refine ⟨f, fd, hm, F, F.binds fun _ _ _ _ _ _ us hl => match us, hl with | [_], _ => rfl, def_ok F sc__law_ring fun cdv A1 outer s H E B hc hT hr gd => ?_⟩
  have f__law_half : Fd P w K mg base (Tq ta) "_law_half" S__law_half ["points"] 2 (m__law_half ad) := fd__law_half Z A Q
  have sc := sc__law_ring
  have hu := hu_1 hr; have hu1 := hu_2 hr; have hu2 := hu_3 hr
  exact ds_cons (ds_set (i := 1) sc.nd rfl (by first | exact .inl rfl | exact .inr rfl) (de_sset rfl hu2 (by rfl) Z.b_sorted (by rfl) Z.b_set (de_var (pv 0)))) (ds_one (ds_ret (de_if (dt_cmp op_lt o_lt (de_callB (call_len_seq.or call_len_str) o_len (by rfl) Z.b_len rfl (da_cons (de_var (pv 1)) (da_nil))) (de_int) rfl) (de_var (pv 1)) (de_op op_addU o_add (de_user f__law_half hT (takes_of rfl rfl rfl rfl) (hr.mono (by decide)) gd (by rfl) (du_cons (de_var (pv 1)) (du_nil))) (de_user f__law_half hT (takes_of rfl rfl rfl rfl) (hr.mono (by decide)) gd (by rfl) (du_cons (de_rev (de_var (pv 1))) (du_nil)))))))
theorem sc__law_drawn_point : FnScope ["generator", "far"] ["generator", "far"] (defScope S__law_drawn_point) := ⟨rfl, rfl, rfl, by decide +kernel, rfl, by decide +kernel, by decide +kernel⟩
def m__law_drawn_point (ad : Ad) : Fn := mkFn 2 2 (mRet (xTup (aCons (xBin hSub (xUser (m__law_random ad) 2 (uGen 0 (uCons (xBin hAdd (xBin hMul (xC (.int 2)) (xVar 1)) (xC (.int 1))) (uNil)))) (xVar 1)) (aCons (xBin hSub (xUser (m__law_random ad) 2 (uGen 0 (uCons (xBin hAdd (xBin hMul (xC (.int 2)) (xVar 1)) (xC (.int 1))) (uNil)))) (xVar 1)) (aNil)))))
theorem fd__law_drawn_point (Z : Zs P K mg ad) (A : Fs K mg ta) (Q : Ts base mg ta) : Fd P w K mg base (Tq ta) "_law_drawn_point" S__law_drawn_point ["generator", "far"] 3 (m__law_drawn_point ad) := by
  obtain ⟨f, fd, hm, F⟩ := A.a__law_drawn_point
  refine ⟨f, fd, hm, F, F.binds fun _ _ _ _ _ _ us hl => match us, hl with | [_, _], _ => rfl, def_ok F sc__law_drawn_point fun cdv A1 outer s H E B hc hT hr gd => ?_⟩
  have f__law_random : Fd P w K mg base (Tq ta) "_law_random" S__law_random ["generator", "bound"] 2 (m__law_random ad) := fd__law_random Z A Q
  have sc := sc__law_drawn_point
  have hu := hu_1 hr; have hu1 := hu_2 hr; have hu2 := hu_3 hr
  exact ds_one (ds_ret (de_tup (da_cons (de_op op_sub o_sub (de_user f__law_random hT (takes_of rfl rfl rfl rfl) (hr.mono (by decide)) gd (by rfl) (du_gen (pv 0) (du_cons (de_op op_addU o_add (de_op op_mulW o_mul (de_int) (de_var (pv 1))) (de_int)) (du_nil)))) (de_var (pv 1))) (da_cons (de_op op_sub o_sub (de_user f__law_random hT (takes_of rfl rfl rfl rfl) (hr.mono (by decide)) gd (by rfl) (du_gen (pv 0) (du_cons (de_op op_addU o_add (de_op op_mulW o_mul (de_int) (de_var (pv 1))) (de_int)) (du_nil)))) (de_var (pv 1))) (da_nil)))))
theorem sc_are_figure_points : FnScope ["value", "point"] ["value"] (defScope S_are_figure_points) := ⟨rfl, rfl, rfl, by decide +kernel, rfl, by decide +kernel, by decide +kernel⟩
def m_are_figure_points (ad : Ad) : Fn := mkFn 2 1 (mSeq (mIf (xOr (xNot (xIsi (fun t => isTy t .list) (xVar 0))) (xNot (xChain hLe hLe (xC (.int 1)) (xCall hLen (aCons (xVar 0) (aNil))) (xC (.int 12))))) (mRet (xC (.bool false))) (mNil)) (mRet (xAnd (xBin hEq (xLc (.nm 1) (xSeq (xVar 0)) (some (xNot (xUser (m_is_point ad) 1 (uCons (xVar 1) (uNil))))) (xVar 1) [1]) (xLst (aNil))) (xBin hEq (xLSet (xVar 0)) (xCall hLen (aCons (xVar 0) (aNil)))))))
theorem fd_are_figure_points (Z : Zs P K mg ad) (A : Fs K mg ta) (Q : Ts base mg ta) : Fd P w K mg base (Tq ta) "are_figure_points" S_are_figure_points ["value"] 4 (m_are_figure_points ad) := by
  obtain ⟨f, fd, hm, F⟩ := A.a_are_figure_points
  refine ⟨f, fd, hm, F, F.binds fun _ _ _ _ _ _ us hl => match us, hl with | [_], _ => rfl, def_ok F sc_are_figure_points fun cdv A1 outer s H E B hc hT hr gd => ?_⟩
  have f_is_point : Fd P w K mg base (Tq ta) "is_point" S_is_point ["value"] 3 (m_is_point ad) := fd_is_point Z A Q
  have sc := sc_are_figure_points
  have hu := hu_1 hr; have hu1 := hu_2 hr; have hu2 := hu_3 hr
  exact ds_cons (ds_if (dt_w (dw_or (dt_not (dt_val (de_isi (T := .list) (de_var (pv 0)) (by rfl) Z.b_isinstance (pe_ty (by rfl) Z.b_list rfl)))) (dw_or1 (dt_not (dt_chain op_le op_le o_le o_le (de_int) (de_callB (call_len_seq.or call_len_str) o_len (by rfl) Z.b_len rfl (da_cons (de_var (pv 0)) (da_nil))) (de_globE (by rfl) Z.c_MOST_CORNERS)))))) (ds_one (ds_ret (de_bl))) (ds_nil)) (ds_one (ds_ret (de_and (de_cmp (op_eqD hu) o_eq (de_lc (own := [("point", 1)]) rfl sc.nd (di_seq (de_var (pv 0))) (blkOk_by (by first | rfl | kernel_rfl)) (tw_nm (by decide)) (fun _ _ _ _ _ => (pg_name (i := 1) sc.nd rfl (by first | exact .inl rfl | exact .inr rfl))) (fun _ _ _ _ _ => dts_one (fun B' h' => have hT := h'.trans hT; dt_not (dt_val (de_user f_is_point hT tk0 (hr.mono (by decide)) gd (by rfl) (du_cons (de_var (pv 1)) (du_nil)))))) (fun _ _ _ _ _ B' h' => have hT := h'.trans hT; de_var (pv 1))) (de_lst (da_nil)) rfl) (de_one (de_cmp (op_eqD hu) o_eq (de_lset rfl hu2 (by rfl) Z.b_len (by rfl) Z.b_set (de_var (pv 0))) (de_callB (call_len_seq.or call_len_str) o_len (by rfl) Z.b_len rfl (da_cons (de_var (pv 0)) (da_nil))) rfl)))))
theorem sc_check_point : FnScope ["point"] ["point"] (defScope S_check_point) := ⟨rfl, rfl, rfl, by decide +kernel, rfl, by decide +kernel, by decide +kernel⟩
def m_check_point (ad : Ad) : Fn := mkFn 1 1 (mIf (xNot (xUser (m_is_point ad) 1 (uCons (xVar 0) (uNil)))) (mRaise ad.InvalidPoint (xVar 0)) (mNil))
theorem fd_check_point (Z : Zs P K mg ad) (A : Fs K mg ta) (Q : Ts base mg ta) : Fd P w K mg base (Tq ta) "check_point" S_check_point ["point"] 4 (m_check_point ad) := by
  obtain ⟨f, fd, hm, F⟩ := A.a_check_point
  refine ⟨f, fd, hm, F, F.binds fun _ _ _ _ _ _ us hl => match us, hl with | [_], _ => rfl, def_ok F sc_check_point fun cdv A1 outer s H E B hc hT hr gd => ?_⟩
  have f_is_point : Fd P w K mg base (Tq ta) "is_point" S_is_point ["value"] 3 (m_is_point ad) := fd_is_point Z A Q
  have sc := sc_check_point
  have hu := hu_1 hr; have hu1 := hu_2 hr; have hu2 := hu_3 hr
  exact ds_one (ds_if (dt_not (dt_val (de_user f_is_point hT (takes_of rfl rfl rfl rfl) (hr.mono (by decide)) gd (by rfl) (du_cons (de_var (pv 0)) (du_nil))))) (ds_one (ds_raiseE rfl (takes_of rfl rfl rfl rfl) Z.e_InvalidPoint hr (by rfl) Z.g_InvalidPoint (de_var (pv 0)))) (ds_nil))
theorem sc_check_map : FnScope ["turning"] ["turning"] (defScope S_check_map) := ⟨rfl, rfl, rfl, by decide +kernel, rfl, by decide +kernel, by decide +kernel⟩
def m_check_map (ad : Ad) : Fn := mkFn 1 1 (mIf (xNot (xUser (m_is_map ad) 1 (uCons (xVar 0) (uNil)))) (mRaise ad.InvalidMap (xVar 0)) (mNil))
theorem fd_check_map (Z : Zs P K mg ad) (A : Fs K mg ta) (Q : Ts base mg ta) : Fd P w K mg base (Tq ta) "check_map" S_check_map ["turning"] 4 (m_check_map ad) := by
  obtain ⟨f, fd, hm, F⟩ := A.a_check_map
  refine ⟨f, fd, hm, F, F.binds fun _ _ _ _ _ _ us hl => match us, hl with | [_], _ => rfl, def_ok F sc_check_map fun cdv A1 outer s H E B hc hT hr gd => ?_⟩
  have f_is_map : Fd P w K mg base (Tq ta) "is_map" S_is_map ["value"] 3 (m_is_map ad) := fd_is_map Z A Q
  have sc := sc_check_map
  have hu := hu_1 hr; have hu1 := hu_2 hr; have hu2 := hu_3 hr
  exact ds_one (ds_if (dt_not (dt_val (de_user f_is_map hT (takes_of rfl rfl rfl rfl) (hr.mono (by decide)) gd (by rfl) (du_cons (de_var (pv 0)) (du_nil))))) (ds_one (ds_raiseE rfl (takes_of rfl rfl rfl rfl) Z.e_InvalidMap hr (by rfl) Z.g_InvalidMap (de_var (pv 0)))) (ds_nil))
theorem sc_moved_in : FnScope ["figure", "turning", "point"] ["figure", "turning"] (defScope S_moved_in) := ⟨rfl, rfl, rfl, by decide +kernel, rfl, by decide +kernel, by decide +kernel⟩
def m_moved_in (ad : Ad) : Fn := mkFn 3 2 (mRet (xUser (m_ring_of ad) 1 (uCons (xLc (.nm 2) (xSeq (xVar 0)) none (xUser (m_gone ad) 2 (uCons (xVar 2) (uCons (xVar 1) (uNil)))) [2]) (uNil))))
theorem fd_moved_in (Z : Zs P K mg ad) (A : Fs K mg ta) (Q : Ts base mg ta) : Fd P w K mg base (Tq ta) "moved_in" S_moved_in ["figure", "turning"] 4 (m_moved_in ad) := by
  obtain ⟨f, fd, hm, F⟩ := A.a_moved_in
  refine ⟨f, fd, hm, F, F.binds fun _ _ _ _ _ _ us hl => match us, hl with | [_, _], _ => rfl, def_ok F sc_moved_in fun cdv A1 outer s H E B hc hT hr gd => ?_⟩
  have f_gone : Fd P w K mg base (Tq ta) "gone" S_gone ["point", "turning"] 1 (m_gone ad) := fd_gone Z A Q
  have f_ring_of : Fd P w K mg base (Tq ta) "ring_of" S_ring_of ["points"] 3 (m_ring_of ad) := fd_ring_of Z A Q
  have sc := sc_moved_in
  have hu := hu_1 hr; have hu1 := hu_2 hr; have hu2 := hu_3 hr
  exact ds_one (ds_ret (de_user f_ring_of hT (takes_of rfl rfl rfl rfl) (hr.mono (by decide)) gd (by rfl) (du_cons (de_lc (own := [("point", 2)]) rfl sc.nd (di_seq (de_var (pv 0))) (blkOk_by (by first | rfl | kernel_rfl)) (tw_nm (by decide)) (fun _ _ _ _ _ => (pg_name (i := 2) sc.nd rfl (by first | exact .inl rfl | exact .inr rfl))) (fun _ _ _ _ _ => dts_nil) (fun _ _ _ _ _ B' h' => have hT := h'.trans hT; de_user f_gone hT tk0 (hr.mono (by decide)) gd (by rfl) (du_cons (de_var (pv 2)) (du_cons (de_var (pv 1)) (du_nil))))) (du_nil))))
theorem sc__law_figure : FnScope ["generator", "far", "many", "found", "turning"] ["generator", "far", "many"] (defScope S__law_figure) := ⟨rfl, rfl, rfl, by decide +kernel, rfl, by decide +kernel, by decide +kernel⟩
def m__law_figure (ad : Ad) : Fn := mkFn 5 3 (mSeq (mSet 3 (xUser (m__law_ring ad) 1 (uCons (xLc (.nm 4) (xRng1 (aCons (xBin hAdd (xC (.int 1)) (xUser (m__law_random ad) 2 (uGen 0 (uCons (xVar 2) (uNil))))) (aNil))) none (xUser (m__law_drawn_point ad) 2 (uGen 0 (uCons (xVar 1) (uNil)))) [4]) (uNil)))) (mRet (xIf (xBin hLt (xCall hLen (aCons (xVar 3) (aNil))) (xC (.int 13))) (xVar 3) (xUser (m__law_ring ad) 1 (uCons (xSlice (xVar 3) .no (.ex (xC (.int 12)))) (uNil))))))
theorem fd__law_figure (Z : Zs P K mg ad) (A : Fs K mg ta) (Q : Ts base mg ta) : Fd P w K mg base (Tq ta) "_law_figure" S__law_figure ["generator", "far", "many"] 4 (m__law_figure ad) := by
  obtain ⟨f, fd, hm, F⟩ := A.a__law_figure
  refine ⟨f, fd, hm, F, F.binds fun _ _ _ _ _ _ us hl => match us, hl with | [_, _, _], _ => rfl, def_ok F sc__law_figure fun cdv A1 outer s H E B hc hT hr gd => ?_⟩
  have f__law_drawn_point : Fd P w K mg base (Tq ta) "_law_drawn_point" S__law_drawn_point ["generator", "far"] 3 (m__law_drawn_point ad) := fd__law_drawn_point Z A Q
  have f__law_random : Fd P w K mg base (Tq ta) "_law_random" S__law_random ["generator", "bound"] 2 (m__law_random ad) := fd__law_random Z A Q
  have f__law_ring : Fd P w K mg base (Tq ta) "_law_ring" S__law_ring ["points"] 3 (m__law_ring ad) := fd__law_ring Z A Q
  have sc := sc__law_figure
  have hu := hu_1 hr; have hu1 := hu_2 hr; have hu2 := hu_3 hr
  exact ds_cons (ds_set (i := 3) sc.nd rfl (by first | exact .inl rfl | exact .inr rfl) (de_user f__law_ring hT (takes_of rfl rfl rfl rfl) (hr.mono (by decide)) gd (by rfl) (du_cons (de_lc (own := [("turning", 4)]) rfl sc.nd (di_rng1 (by rfl) Z.b_range (da_cons (de_op op_addU o_add (de_int) (de_user f__law_random hT (takes_of rfl rfl rfl rfl) (hr.mono (by decide)) gd (by rfl) (du_gen (pv 0) (du_cons (de_var (pv 2)) (du_nil))))) (da_nil))) (blkOk_by (by first | rfl | kernel_rfl)) (tw_nm (by decide)) (fun _ _ _ _ _ => (pg_name (i := 4) sc.nd rfl (by first | exact .inl rfl | exact .inr rfl))) (fun _ _ _ _ _ => dts_nil) (fun _ _ _ _ _ B' h' => have hT := h'.trans hT; de_user f__law_drawn_point hT tk0 (hr.mono (by decide)) gd (by rfl) (du_gen (pv 0) (du_cons (de_var (pv 1)) (du_nil))))) (du_nil)))) (ds_one (ds_ret (de_if (dt_cmp op_lt o_lt (de_callB (call_len_seq.or call_len_str) o_len (by rfl) Z.b_len rfl (da_cons (de_var (pv 3)) (da_nil))) (de_int) rfl) (de_var (pv 3)) (de_user f__law_ring hT (takes_of rfl rfl rfl rfl) (hr.mono (by decide)) gd (by rfl) (du_cons (de_slice (de_var (pv 3)) do_none (do_some (de_int))) (du_nil))))))
theorem sc__law_map : FnScope ["generator", "found", "turning", "k", "a", "b", "c", "d", "e", "f"] ["generator"] (defScope S__law_map) := ⟨rfl, rfl, rfl, by decide +kernel, rfl, by decide +kernel, by decide +kernel⟩
def m__law_map (ad : Ad) : Fn := mkFn 10 1 (mSeq (mSet 1 (xTup (aCons (xC (.int 1)) (aCons (xC (.int 0)) (aCons (xC (.int 0)) (aCons (xC (.int 1)) (aCons (xBin hSub (xUser (m__law_random ad) 2 (uGen 0 (uCons (xC (.int 13)) (uNil)))) (xC (.int 6))) (aCons (xBin hSub (xUser (m__law_random ad) 2 (uGen 0 (uCons (xC (.int 13)) (uNil)))) (xC (.int 6))) (aNil))))))))) (mSeq (mFor (.nm 2) (xRng1 (aCons (xUser (m__law_random ad) 2 (uGen 0 (uCons (xC (.int 4)) (uNil)))) (aNil))) (mSeq (mUnp [4, 5, 6, 7, 8, 9] (xVar 1)) (mSeq (mSet 3 (xBin hSub (xUser (m__law_random ad) 2 (uGen 0 (uCons (xC (.int 5)) (uNil)))) (xC (.int 2)))) (mSet 1 (xUser (m__law_pick ad) 2 (uGen 0 (uCons (xLst (aCons (xTup (aCons (xBin hAdd (xVar 4) (xBin hMul (xVar 3) (xVar 6))) (aCons (xBin hAdd (xVar 5) (xBin hMul (xVar 3) (xVar 7))) (aCons (xVar 6) (aCons (xVar 7) (aCons (xVar 8) (aCons (xVar 9) (aNil)))))))) (aCons (xTup (aCons (xVar 4) (aCons (xVar 5) (aCons (xBin hAdd (xVar 6) (xBin hMul (xVar 3) (xVar 4))) (aCons (xBin hAdd (xVar 7) (xBin hMul (xVar 3) (xVar 5))) (aCons (xVar 8) (aCons (xVar 9) (aNil)))))))) (aCons (xTup (aCons (xVar 6) (aCons (xVar 7) (aCons (xVar 4) (aCons (xVar 5) (aCons (xVar 8) (aCons (xVar 9) (aNil)))))))) (aCons (xTup (aCons (xBin hSub (xC (.int 0)) (xVar 4)) (aCons (xBin hSub (xC (.int 0)) (xVar 5)) (aCons (xVar 6) (aCons (xVar 7) (aCons (xVar 8) (aCons (xVar 9) (aNil)))))))) (aNil)))))) (uNil)))))))) (mRetV 1)))
theorem fd__law_map (Z : Zs P K mg ad) (A : Fs K mg ta) (Q : Ts base mg ta) : Fd P w K mg base (Tq ta) "_law_map" S__law_map ["generator"] 4 (m__law_map ad) := by
  obtain ⟨f, fd, hm, F⟩ := A.a__law_map
  refine ⟨f, fd, hm, F, F.binds fun _ _ _ _ _ _ us hl => match us, hl with | [_], _ => rfl, def_ok F sc__law_map fun cdv A1 outer s H E B hc hT hr gd => ?_⟩
  have f__law_pick : Fd P w K mg base (Tq ta) "_law_pick" S__law_pick ["generator", "things"] 3 (m__law_pick ad) := fd__law_pick Z A Q
  have f__law_random : Fd P w K mg base (Tq ta) "_law_random" S__law_random ["generator", "bound"] 2 (m__law_random ad) := fd__law_random Z A Q
  have sc := sc__law_map
  have hu := hu_1 hr; have hu1 := hu_2 hr; have hu2 := hu_3 hr
  exact ds_cons (ds_set (i := 1) sc.nd rfl (by first | exact .inl rfl | exact .inr rfl) (de_tup (da_cons (de_int) (da_cons (de_int) (da_cons (de_int) (da_cons (de_int) (da_cons (de_op op_sub o_sub (de_user f__law_random hT (takes_of rfl rfl rfl rfl) (hr.mono (by decide)) gd (by rfl) (du_gen (pv 0) (du_cons (de_int) (du_nil)))) (de_int)) (da_cons (de_op op_sub o_sub (de_user f__law_random hT (takes_of rfl rfl rfl rfl) (hr.mono (by decide)) gd (by rfl) (du_gen (pv 0) (du_cons (de_int) (du_nil)))) (de_int)) (da_nil))))))))) (ds_cons (ds_for (passes_of rfl) rfl (di_rng1 (by rfl) Z.b_range (da_cons (de_user f__law_random hT (takes_of rfl rfl rfl rfl) (hr.mono (by decide)) gd (by rfl) (du_gen (pv 0) (du_cons (de_int) (du_nil)))) (da_nil))) (tg_nm 2) (pg_name (i := 2) sc.nd rfl (by first | exact .inl rfl | exact .inr rfl)) (ds_cons (ds_unp (n := 6) rfl (de_var (pv 1)) (dg_cons (pg_name (i := 4) sc.nd rfl (by first | exact .inl rfl | exact .inr rfl)) (dg_cons (pg_name (i := 5) sc.nd rfl (by first | exact .inl rfl | exact .inr rfl)) (dg_cons (pg_name (i := 6) sc.nd rfl (by first | exact .inl rfl | exact .inr rfl)) (dg_cons (pg_name (i := 7) sc.nd rfl (by first | exact .inl rfl | exact .inr rfl)) (dg_cons (pg_name (i := 8) sc.nd rfl (by first | exact .inl rfl | exact .inr rfl)) (dg_cons (pg_name (i := 9) sc.nd rfl (by first | exact .inl rfl | exact .inr rfl)) (dg_nil))))))) rfl) (ds_cons (ds_set (i := 3) sc.nd rfl (by first | exact .inl rfl | exact .inr rfl) (de_op op_sub o_sub (de_user f__law_random hT (takes_of rfl rfl rfl rfl) (hr.mono (by decide)) gd (by rfl) (du_gen (pv 0) (du_cons (de_int) (du_nil)))) (de_int))) (ds_one (ds_set (i := 1) sc.nd rfl (by first | exact .inl rfl | exact .inr rfl) (de_user f__law_pick hT (takes_of rfl rfl rfl rfl) (hr.mono (by decide)) gd (by rfl) (du_gen (pv 0) (du_cons (de_lst (da_cons (de_tup (da_cons (de_op op_addU o_add (de_var (pv 4)) (de_op op_mulW o_mul (de_var (pv 3)) (de_var (pv 6)))) (da_cons (de_op op_addU o_add (de_var (pv 5)) (de_op op_mulW o_mul (de_var (pv 3)) (de_var (pv 7)))) (da_cons (de_var (pv 6)) (da_cons (de_var (pv 7)) (da_cons (de_var (pv 8)) (da_cons (de_var (pv 9)) (da_nil)))))))) (da_cons (de_tup (da_cons (de_var (pv 4)) (da_cons (de_var (pv 5)) (da_cons (de_op op_addU o_add (de_var (pv 6)) (de_op op_mulW o_mul (de_var (pv 3)) (de_var (pv 4)))) (da_cons (de_op op_addU o_add (de_var (pv 7)) (de_op op_mulW o_mul (de_var (pv 3)) (de_var (pv 5)))) (da_cons (de_var (pv 8)) (da_cons (de_var (pv 9)) (da_nil)))))))) (da_cons (de_tup (da_cons (de_var (pv 6)) (da_cons (de_var (pv 7)) (da_cons (de_var (pv 4)) (da_cons (de_var (pv 5)) (da_cons (de_var (pv 8)) (da_cons (de_var (pv 9)) (da_nil)))))))) (da_cons (de_tup (da_cons (de_op op_sub o_sub (de_int) (de_var (pv 4))) (da_cons (de_op op_sub o_sub (de_int) (de_var (pv 5))) (da_cons (de_var (pv 6)) (da_cons (de_var (pv 7)) (da_cons (de_var (pv 8)) (da_cons (de_var (pv 9)) (da_nil)))))))) (da_nil)))))) (du_nil))))))))) (ds_one (ds_retV (pv 1))))
theorem sc_is_figure : FnScope ["value"] ["value"] (defScope S_is_figure) := ⟨rfl, rfl, rfl, by decide +kernel, rfl, by decide +kernel, by decide +kernel⟩
def m_is_figure (ad : Ad) : Fn := mkFn 1 1 (mSeq (mIf (xNot (xUser (m_are_figure_points ad) 1 (uCons (xVar 0) (uNil)))) (mRet (xC (.bool false))) (mNil)) (mRet (xIf (xBin hLt (xCall hLen (aCons (xVar 0) (aNil))) (xC (.int 3))) (xBin hEq (xVar 0) (xCall hSort (aCons (xVar 0) (aNil)))) (xUser (m_is_ring_of_corners ad) 1 (uCons (xVar 0) (uNil))))))
theorem fd_is_figure (Z : Zs P K mg ad) (A : Fs K mg ta) (Q : Ts base mg ta) : Fd P w K mg base (Tq ta) "is_figure" S_is_figure ["value"] 5 (m_is_figure ad) := by
  obtain ⟨f, fd, hm, F⟩ := A.a_is_figure
  refine ⟨f, fd, hm, F, F.binds fun _ _ _ _ _ _ us hl => match us, hl with | [_], _ => rfl, def_ok F sc_is_figure fun cdv A1 outer s H E B hc hT hr gd => ?_⟩
  have f_are_figure_points : Fd P w K mg base (Tq ta) "are_figure_points" S_are_figure_points ["value"] 4 (m_are_figure_points ad) := fd_are_figure_points Z A Q
  have f_is_ring_of_corners : Fd P w K mg base (Tq ta) "is_ring_of_corners" S_is_ring_of_corners ["value"] 2 (m_is_ring_of_corners ad) := fd_is_ring_of_corners Z A Q
  have sc := sc_is_figure
  have hu := hu_1 hr; have hu1 := hu_2 hr; have hu2 := hu_3 hr
  exact ds_cons (ds_if (dt_not (dt_val (de_user f_are_figure_points hT (takes_of rfl rfl rfl rfl) (hr.mono (by decide)) gd (by rfl) (du_cons (de_var (pv 0)) (du_nil))))) (ds_one (ds_ret (de_bl))) (ds_nil)) (ds_one (ds_ret (de_if (dt_cmp op_lt o_lt (de_callB (call_len_seq.or call_len_str) o_len (by rfl) Z.b_len rfl (da_cons (de_var (pv 0)) (da_nil))) (de_int) rfl) (de_cmp (op_eqD hu) o_eq (de_var (pv 0)) (de_callB (cr_sortD hu2) o_sort (by rfl) Z.b_sorted rfl (da_cons (de_var (pv 0)) (da_nil))) rfl) (de_user f_is_ring_of_corners hT (takes_of rfl rfl rfl rfl) (hr.mono (by decide)) gd (by rfl) (du_cons (de_var (pv 0)) (du_nil))))))
theorem sc_moved_point : FnScope ["point", "turning"] ["point", "turning"] (defScope S_moved_point) := ⟨rfl, rfl, rfl, by decide +kernel, rfl, by decide +kernel, by decide +kernel⟩
def m_moved_point (ad : Ad) : Fn := mkFn 2 2 (mSeq (mDrop (xUser (m_check_point ad) 1 (uCons (xVar 0) (uNil)))) (mSeq (mDrop (xUser (m_check_map ad) 1 (uCons (xVar 1) (uNil)))) (mRet (xUser (m_gone ad) 2 (uCons (xVar 0) (uCons (xVar 1) (uNil)))))))
theorem fd_moved_point (Z : Zs P K mg ad) (A : Fs K mg ta) (Q : Ts base mg ta) : Fd P w K mg base (Tq ta) "moved_point" S_moved_point ["point", "turning"] 5 (m_moved_point ad) := by
  obtain ⟨f, fd, hm, F⟩ := A.a_moved_point
  refine ⟨f, fd, hm, F, F.binds fun _ _ _ _ _ _ us hl => match us, hl with | [_, _], _ => rfl, def_ok F sc_moved_point fun cdv A1 outer s H E B hc hT hr gd => ?_⟩
  have f_check_map : Fd P w K mg base (Tq ta) "check_map" S_check_map ["turning"] 4 (m_check_map ad) := fd_check_map Z A Q
  have f_check_point : Fd P w K mg base (Tq ta) "check_point" S_check_point ["point"] 4 (m_check_point ad) := fd_check_point Z A Q
  have f_gone : Fd P w K mg base (Tq ta) "gone" S_gone ["point", "turning"] 1 (m_gone ad) := fd_gone Z A Q
  have sc := sc_moved_point
  have hu := hu_1 hr; have hu1 := hu_2 hr; have hu2 := hu_3 hr
  exact ds_cons (ds_expr (de_user f_check_point hT (takes_of rfl rfl rfl rfl) (hr.mono (by decide)) gd (by rfl) (du_cons (de_var (pv 0)) (du_nil)))) (ds_cons (ds_expr (de_user f_check_map hT (takes_of rfl rfl rfl rfl) (hr.mono (by decide)) gd (by rfl) (du_cons (de_var (pv 1)) (du_nil)))) (ds_one (ds_ret (de_user f_gone hT (takes_of rfl rfl rfl rfl) (hr.mono (by decide)) gd (by rfl) (du_cons (de_var (pv 0)) (du_cons (de_var (pv 1)) (du_nil)))))))
theorem sc_one_behind : FnScope ["turning", "other_turning"] ["turning", "other_turning"] (defScope S_one_behind) := ⟨rfl, rfl, rfl, by decide +kernel, rfl, by decide +kernel, by decide +kernel⟩
def m_one_behind (ad : Ad) : Fn := mkFn 2 2 (mSeq (mDrop (xUser (m_check_map ad) 1 (uCons (xVar 0) (uNil)))) (mSeq (mDrop (xUser (m_check_map ad) 1 (uCons (xVar 1) (uNil)))) (mRet (xUser (m_behind_in ad) 2 (uCons (xVar 0) (uCons (xVar 1) (uNil)))))))
theorem fd_one_behind (Z : Zs P K mg ad) (A : Fs K mg ta) (Q : Ts base mg ta) : Fd P w K mg base (Tq ta) "one_behind" S_one_behind ["turning", "other_turning"] 5 (m_one_behind ad) := by
  obtain ⟨f, fd, hm, F⟩ := A.a_one_behind
  refine ⟨f, fd, hm, F, F.binds fun _ _ _ _ _ _ us hl => match us, hl with | [_, _], _ => rfl, def_ok F sc_one_behind fun cdv A1 outer s H E B hc hT hr gd => ?_⟩
  have f_behind_in : Fd P w K mg base (Tq ta) "behind_in" S_behind_in ["turning", "other"] 1 (m_behind_in ad) := fd_behind_in Z A Q
  have f_check_map : Fd P w K mg base (Tq ta) "check_map" S_check_map ["turning"] 4 (m_check_map ad) := fd_check_map Z A Q
  have sc := sc_one_behind
  have hu := hu_1 hr; have hu1 := hu_2 hr; have hu2 := hu_3 hr
  exact ds_cons (ds_expr (de_user f_check_map hT (takes_of rfl rfl rfl rfl) (hr.mono (by decide)) gd (by rfl) (du_cons (de_var (pv 0)) (du_nil)))) (ds_cons (ds_expr (de_user f_check_map hT (takes_of rfl rfl rfl rfl) (hr.mono (by decide)) gd (by rfl) (du_cons (de_var (pv 1)) (du_nil)))) (ds_one (ds_ret (de_user f_behind_in hT (takes_of rfl rfl rfl rfl) (hr.mono (by decide)) gd (by rfl) (du_cons (de_var (pv 0)) (du_cons (de_var (pv 1)) (du_nil)))))))
theorem sc_back_of : FnScope ["turning"] ["turning"] (defScope S_back_of) := ⟨rfl, rfl, rfl, by decide +kernel, rfl, by decide +kernel, by decide +kernel⟩
def m_back_of (ad : Ad) : Fn := mkFn 1 1 (mSeq (mDrop (xUser (m_check_map ad) 1 (uCons (xVar 0) (uNil)))) (mRet (xUser (m_back_in ad) 1 (uCons (xVar 0) (uNil)))))
theorem fd_back_of (Z : Zs P K mg ad) (A : Fs K mg ta) (Q : Ts base mg ta) : Fd P w K mg base (Tq ta) "back_of" S_back_of ["turning"] 5 (m_back_of ad) := by
  obtain ⟨f, fd, hm, F⟩ := A.a_back_of
  refine ⟨f, fd, hm, F, F.binds fun _ _ _ _ _ _ us hl => match us, hl with | [_], _ => rfl, def_ok F sc_back_of fun cdv A1 outer s H E B hc hT hr gd => ?_⟩
  have f_back_in : Fd P w K mg base (Tq ta) "back_in" S_back_in ["turning"] 1 (m_back_in ad) := fd_back_in Z A Q
  have f_check_map : Fd P w K mg base (Tq ta) "check_map" S_check_map ["turning"] 4 (m_check_map ad) := fd_check_map Z A Q
  have sc := sc_back_of
  have hu := hu_1 hr; have hu1 := hu_2 hr; have hu2 := hu_3 hr
  exact ds_cons (ds_expr (de_user f_check_map hT (takes_of rfl rfl rfl rfl) (hr.mono (by decide)) gd (by rfl) (du_cons (de_var (pv 0)) (du_nil)))) (ds_one (ds_ret (de_user f_back_in hT (takes_of rfl rfl rfl rfl) (hr.mono (by decide)) gd (by rfl) (du_cons (de_var (pv 0)) (du_nil)))))
theorem sc_is_turned_over : FnScope ["turning"] ["turning"] (defScope S_is_turned_over) := ⟨rfl, rfl, rfl, by decide +kernel, rfl, by decide +kernel, by decide +kernel⟩
def m_is_turned_over (ad : Ad) : Fn := mkFn 1 1 (mSeq (mDrop (xUser (m_check_map ad) 1 (uCons (xVar 0) (uNil)))) (mRet (xBin hEq (xBin hSub (xBin hMul (xIxV 0 (xC (.int 0))) (xIxV 0 (xC (.int 3)))) (xBin hMul (xIxV 0 (xC (.int 1))) (xIxV 0 (xC (.int 2))))) (xUn hNeg (xC (.int 1))))))
theorem fd_is_turned_over (Z : Zs P K mg ad) (A : Fs K mg ta) (Q : Ts base mg ta) : Fd P w K mg base (Tq ta) "is_turned_over" S_is_turned_over ["turning"] 5 (m_is_turned_over ad) := by
  obtain ⟨f, fd, hm, F⟩ := A.a_is_turned_over
  refine ⟨f, fd, hm, F, F.binds fun _ _ _ _ _ _ us hl => match us, hl with | [_], _ => rfl, def_ok F sc_is_turned_over fun cdv A1 outer s H E B hc hT hr gd => ?_⟩
  have f_check_map : Fd P w K mg base (Tq ta) "check_map" S_check_map ["turning"] 4 (m_check_map ad) := fd_check_map Z A Q
  have sc := sc_is_turned_over
  have hu := hu_1 hr; have hu1 := hu_2 hr; have hu2 := hu_3 hr
  exact ds_cons (ds_expr (de_user f_check_map hT (takes_of rfl rfl rfl rfl) (hr.mono (by decide)) gd (by rfl) (du_cons (de_var (pv 0)) (du_nil)))) (ds_one (ds_ret (de_cmp (op_eqD hu) o_eq (de_op op_sub o_sub (de_op op_mulW o_mul (de_ixV (pv 0) (de_int) (by intro _ _; rfl)) (de_ixV (pv 0) (de_int) (by intro _ _; rfl))) (de_op op_mulW o_mul (de_ixV (pv 0) (de_int) (by intro _ _; rfl)) (de_ixV (pv 0) (de_int) (by intro _ _; rfl)))) (de_un un_neg o_neg (de_int)) rfl)))
theorem sc_check_figure : FnScope ["figure"] ["figure"] (defScope S_check_figure) := ⟨rfl, rfl, rfl, by decide +kernel, rfl, by decide +kernel, by decide +kernel⟩
def m_check_figure (ad : Ad) : Fn := mkFn 1 1 (mIf (xNot (xUser (m_is_figure ad) 1 (uCons (xVar 0) (uNil)))) (mRaise ad.InvalidFigure (xVar 0)) (mNil))
theorem fd_check_figure (Z : Zs P K mg ad) (A : Fs K mg ta) (Q : Ts base mg ta) : Fd P w K mg base (Tq ta) "check_figure" S_check_figure ["figure"] 6 (m_check_figure ad) := by
  obtain ⟨f, fd, hm, F⟩ := A.a_check_figure
  refine ⟨f, fd, hm, F, F.binds fun _ _ _ _ _ _ us hl => match us, hl with | [_], _ => rfl, def_ok F sc_check_figure fun cdv A1 outer s H E B hc hT hr gd => ?_⟩
  have f_is_figure : Fd P w K mg base (Tq ta) "is_figure" S_is_figure ["value"] 5 (m_is_figure ad) := fd_is_figure Z A Q
  have sc := sc_check_figure
  have hu := hu_1 hr; have hu1 := hu_2 hr; have hu2 := hu_3 hr
  exact ds_one (ds_if (dt_not (dt_val (de_user f_is_figure hT (takes_of rfl rfl rfl rfl) (hr.mono (by decide)) gd (by rfl) (du_cons (de_var (pv 0)) (du_nil))))) (ds_one (ds_raiseE rfl (takes_of rfl rfl rfl rfl) Z.e_InvalidFigure hr (by rfl) Z.g_InvalidFigure (de_var (pv 0)))) (ds_nil))
theorem sc_twice_area : FnScope ["figure"] ["figure"] (defScope S_twice_area) := ⟨rfl, rfl, rfl, by decide +kernel, rfl, by decide +kernel, by decide +kernel⟩
def m_twice_area (ad : Ad) : Fn := mkFn 1 1 (mSeq (mDrop (xUser (m_check_figure ad) 1 (uCons (xVar 0) (uNil)))) (mRet (xUser (m_area_in ad) 1 (uCons (xVar 0) (uNil)))))
theorem fd_twice_area (Z : Zs P K mg ad) (A : Fs K mg ta) (Q : Ts base mg ta) : Fd P w K mg base (Tq ta) "twice_area" S_twice_area ["figure"] 7 (m_twice_area ad) := by
  obtain ⟨f, fd, hm, F⟩ := A.a_twice_area
  refine ⟨f, fd, hm, F, F.binds fun _ _ _ _ _ _ us hl => match us, hl with | [_], _ => rfl, def_ok F sc_twice_area fun cdv A1 outer s H E B hc hT hr gd => ?_⟩
  have f_area_in : Fd P w K mg base (Tq ta) "area_in" S_area_in ["figure"] 2 (m_area_in ad) := fd_area_in Z A Q
  have f_check_figure : Fd P w K mg base (Tq ta) "check_figure" S_check_figure ["figure"] 6 (m_check_figure ad) := fd_check_figure Z A Q
  have sc := sc_twice_area
  have hu := hu_1 hr; have hu1 := hu_2 hr; have hu2 := hu_3 hr
  exact ds_cons (ds_expr (de_user f_check_figure hT (takes_of rfl rfl rfl rfl) (hr.mono (by decide)) gd (by rfl) (du_cons (de_var (pv 0)) (du_nil)))) (ds_one (ds_ret (de_user f_area_in hT (takes_of rfl rfl rfl rfl) (hr.mono (by decide)) gd (by rfl) (du_cons (de_var (pv 0)) (du_nil)))))
theorem sc_rim_count : FnScope ["figure"] ["figure"] (defScope S_rim_count) := ⟨rfl, rfl, rfl, by decide +kernel, rfl, by decide +kernel, by decide +kernel⟩
def m_rim_count (ad : Ad) : Fn := mkFn 1 1 (mSeq (mDrop (xUser (m_check_figure ad) 1 (uCons (xVar 0) (uNil)))) (mRet (xUser (m_rim_in ad) 1 (uCons (xVar 0) (uNil)))))
theorem fd_rim_count (Z : Zs P K mg ad) (A : Fs K mg ta) (Q : Ts base mg ta) : Fd P w K mg base (Tq ta) "rim_count" S_rim_count ["figure"] 7 (m_rim_count ad) := by
  obtain ⟨f, fd, hm, F⟩ := A.a_rim_count
  refine ⟨f, fd, hm, F, F.binds fun _ _ _ _ _ _ us hl => match us, hl with | [_], _ => rfl, def_ok F sc_rim_count fun cdv A1 outer s H E B hc hT hr gd => ?_⟩
  have f_check_figure : Fd P w K mg base (Tq ta) "check_figure" S_check_figure ["figure"] 6 (m_check_figure ad) := fd_check_figure Z A Q
  have f_rim_in : Fd P w K mg base (Tq ta) "rim_in" S_rim_in ["figure"] 2 (m_rim_in ad) := fd_rim_in Z A Q
  have sc := sc_rim_count
  have hu := hu_1 hr; have hu1 := hu_2 hr; have hu2 := hu_3 hr
  exact ds_cons (ds_expr (de_user f_check_figure hT (takes_of rfl rfl rfl rfl) (hr.mono (by decide)) gd (by rfl) (du_cons (de_var (pv 0)) (du_nil)))) (ds_one (ds_ret (de_user f_rim_in hT (takes_of rfl rfl rfl rfl) (hr.mono (by decide)) gd (by rfl) (du_cons (de_var (pv 0)) (du_nil)))))
theorem sc_inner_count : FnScope ["figure"] ["figure"] (defScope S_inner_count) := ⟨rfl, rfl, rfl, by decide +kernel, rfl, by decide +kernel, by decide +kernel⟩
def m_inner_count (ad : Ad) : Fn := mkFn 1 1 (mSeq (mDrop (xUser (m_check_figure ad) 1 (uCons (xVar 0) (uNil)))) (mRet (xUser (m_inner_in ad) 1 (uCons (xVar 0) (uNil)))))
theorem fd_inner_count (Z : Zs P K mg ad) (A : Fs K mg ta) (Q : Ts base mg ta) : Fd P w K mg base (Tq ta) "inner_count" S_inner_count ["figure"] 7 (m_inner_count ad) := by
  obtain ⟨f, fd, hm, F⟩ := A.a_inner_count
  refine ⟨f, fd, hm, F, F.binds fun _ _ _ _ _ _ us hl => match us, hl with | [_], _ => rfl, def_ok F sc_inner_count fun cdv A1 outer s H E B hc hT hr gd => ?_⟩
  have f_check_figure : Fd P w K mg base (Tq ta) "check_figure" S_check_figure ["figure"] 6 (m_check_figure ad) := fd_check_figure Z A Q
  have f_inner_in : Fd P w K mg base (Tq ta) "inner_in" S_inner_in ["figure"] 3 (m_inner_in ad) := fd_inner_in Z A Q
  have sc := sc_inner_count
  have hu := hu_1 hr; have hu1 := hu_2 hr; have hu2 := hu_3 hr
  exact ds_cons (ds_expr (de_user f_check_figure hT (takes_of rfl rfl rfl rfl) (hr.mono (by decide)) gd (by rfl) (du_cons (de_var (pv 0)) (du_nil)))) (ds_one (ds_ret (de_user f_inner_in hT (takes_of rfl rfl rfl rfl) (hr.mono (by decide)) gd (by rfl) (du_cons (de_var (pv 0)) (du_nil)))))
theorem sc_moved : FnScope ["figure", "turning"] ["figure", "turning"] (defScope S_moved) := ⟨rfl, rfl, rfl, by decide +kernel, rfl, by decide +kernel, by decide +kernel⟩
def m_moved (ad : Ad) : Fn := mkFn 2 2 (mSeq (mDrop (xUser (m_check_figure ad) 1 (uCons (xVar 0) (uNil)))) (mSeq (mDrop (xUser (m_check_map ad) 1 (uCons (xVar 1) (uNil)))) (mRet (xUser (m_moved_in ad) 2 (uCons (xVar 0) (uCons (xVar 1) (uNil)))))))
theorem fd_moved (Z : Zs P K mg ad) (A : Fs K mg ta) (Q : Ts base mg ta) : Fd P w K mg base (Tq ta) "moved" S_moved ["figure", "turning"] 7 (m_moved ad) := by
  obtain ⟨f, fd, hm, F⟩ := A.a_moved
  refine ⟨f, fd, hm, F, F.binds fun _ _ _ _ _ _ us hl => match us, hl with | [_, _], _ => rfl, def_ok F sc_moved fun cdv A1 outer s H E B hc hT hr gd => ?_⟩
  have f_check_figure : Fd P w K mg base (Tq ta) "check_figure" S_check_figure ["figure"] 6 (m_check_figure ad) := fd_check_figure Z A Q
  have f_check_map : Fd P w K mg base (Tq ta) "check_map" S_check_map ["turning"] 4 (m_check_map ad) := fd_check_map Z A Q
  have f_moved_in : Fd P w K mg base (Tq ta) "moved_in" S_moved_in ["figure", "turning"] 4 (m_moved_in ad) := fd_moved_in Z A Q
  have sc := sc_moved
  have hu := hu_1 hr; have hu1 := hu_2 hr; have hu2 := hu_3 hr
  exact ds_cons (ds_expr (de_user f_check_figure hT (takes_of rfl rfl rfl rfl) (hr.mono (by decide)) gd (by rfl) (du_cons (de_var (pv 0)) (du_nil)))) (ds_cons (ds_expr (de_user f_check_map hT (takes_of rfl rfl rfl rfl) (hr.mono (by decide)) gd (by rfl) (du_cons (de_var (pv 1)) (du_nil)))) (ds_one (ds_ret (de_user f_moved_in hT (takes_of rfl rfl rfl rfl) (hr.mono (by decide)) gd (by rfl) (du_cons (de_var (pv 0)) (du_cons (de_var (pv 1)) (du_nil)))))))
theorem sc__law_exact : FnScope ["told", "due", "at", "part"] ["told", "due"] (defScope S__law_exact) := ⟨rfl, rfl, rfl, by decide +kernel, rfl, by decide +kernel, by decide +kernel⟩
def m__law_exact (ad : Ad) : Nat → Fn
  | 0 => fBad
  | i + 1 => mkFn 4 2 (mSeq (mIf (xIsi (fun t => isTy t .list || isTy t .tuple) (xVar 1)) (mSeq (mIf (xOr (xBin hNe (xIsi (fun t => isTy t .list) (xVar 0)) (xIsi (fun t => isTy t .list) (xVar 1))) (xBin hNe (xIsi (fun t => isTy t .tuple) (xVar 0)) (xIsi (fun t => isTy t .tuple) (xVar 1)))) (mRet (xC (.bool false))) (mNil)) (mRet (xAnd (xBin hEq (xCall hLen (aCons (xVar 0) (aNil))) (xCall hLen (aCons (xVar 1) (aNil)))) (xCall hAll (aCons (xLc (.tp [2, 3]) (xEnumB (aCons (xVar 1) (aNil))) none (xUser (m__law_exact ad i) 2 (uCons (xIxV 0 (xVar 2)) (uCons (xVar 3) (uNil)))) [2, 3]) (aNil)))))) (mNil)) (mSeq (mIf (xIsi (fun t => isTy t .str) (xVar 1)) (mRet (xAnd (xIsi (fun t => isTy t .str) (xVar 0)) (xBin hEq (xVar 0) (xVar 1)))) (mNil)) (mSeq (mIf (xIsi (fun t => isTy t .bool) (xVar 1)) (mRet (xAnd (xIsi (fun t => isTy t .bool) (xVar 0)) (xBin hEq (xVar 0) (xVar 1)))) (mNil)) (mSeq (mIf (xIsi (fun t => isTy t .int) (xVar 1)) (mRet (xAnd (xIsi (fun t => isTy t .int) (xVar 0)) (xAnd (xNot (xIsi (fun t => isTy t .bool) (xVar 0))) (xBin hEq (xVar 0) (xVar 1))))) (mNil)) (mRet (xAnd (xBin hIs (xVar 0) (xC .none)) (xBin hIs (xVar 1) (xC .none))))))))
theorem fd__law_exact (Z : Zs P K mg ad) (A : Fs K mg ta) (Q : Ts base mg ta) : ∀ i : Nat, Fd P w K mg base (Tq ta) "_law_exact" S__law_exact ["told", "due"] (1 + i) (m__law_exact ad i)
  | 0 => by
    obtain ⟨f, fd, hm, F⟩ := A.a__law_exact
    exact ⟨f, fd, hm, F, F.binds fun _ _ _ _ _ _ us hl => match us, hl with | [_, _], _ => rfl, fnG_bad rfl⟩
  | i + 1 => by
    obtain ⟨f, fd, hm, F⟩ := A.a__law_exact
    refine ⟨f, fd, hm, F, F.binds fun _ _ _ _ _ _ us hl => match us, hl with | [_, _], _ => rfl, def_ok F sc__law_exact fun cdv A1 outer s H E B hc hT hr gd => ?_⟩
    have f__law_exact : Fd P w K mg base (Tq ta) "_law_exact" S__law_exact ["told", "due"] (1 + i) (m__law_exact ad i) := fd__law_exact Z A Q i
    have sc := sc__law_exact
    have hu := hu_1 hr; have hu1 := hu_2 hr; have hu2 := hu_3 hr
    exact ds_cons (ds_if (dt_val (de_isi2 (T := .list) (U := .tuple) (de_var (pv 1)) (by rfl) Z.b_isinstance (pe_ty (by rfl) Z.b_list rfl) (pe_ty (by rfl) Z.b_tuple rfl))) (ds_cons (ds_if (dt_w (dw_or (dt_cmp (op_neD hu) o_ne (de_isi (T := .list) (de_var (pv 0)) (by rfl) Z.b_isinstance (pe_ty (by rfl) Z.b_list rfl)) (de_isi (T := .list) (de_var (pv 1)) (by rfl) Z.b_isinstance (pe_ty (by rfl) Z.b_list rfl)) rfl) (dw_or1 (dt_cmp (op_neD hu) o_ne (de_isi (T := .tuple) (de_var (pv 0)) (by rfl) Z.b_isinstance (pe_ty (by rfl) Z.b_tuple rfl)) (de_isi (T := .tuple) (de_var (pv 1)) (by rfl) Z.b_isinstance (pe_ty (by rfl) Z.b_tuple rfl)) rfl)))) (ds_one (ds_ret (de_bl))) (ds_nil)) (ds_one (ds_ret (de_and (de_cmp (op_eqD hu) o_eq (de_callB (call_len_seq.or call_len_str) o_len (by rfl) Z.b_len rfl (da_cons (de_var (pv 0)) (da_nil))) (de_callB (call_len_seq.or call_len_str) o_len (by rfl) Z.b_len rfl (da_cons (de_var (pv 1)) (da_nil))) rfl) (de_one (de_callB (cr_all rfl) o_all (by rfl) Z.b_all rfl (da_cons (de_lc (own := [("at", 2), ("part", 3)]) rfl sc.nd (di_enumB (by rfl) Z.b_enumerate (da_cons (de_var (pv 1)) (da_nil))) (blkOk_by (by first | rfl | kernel_rfl)) (tw_tp rfl (by decide)) (fun _ _ _ _ _ => (pg_tup rfl (dg_cons (pg_name (i := 2) sc.nd rfl (by first | exact .inl rfl | exact .inr rfl)) (dg_cons (pg_name (i := 3) sc.nd rfl (by first | exact .inl rfl | exact .inr rfl)) (dg_nil))))) (fun _ _ _ _ _ => dts_nil) (fun _ _ _ _ _ B' h' => have hT := h'.trans hT; de_user f__law_exact hT tk0 (hr.mono (by show _ ≤ 1 + i; omega)) gd (by rfl) (du_cons (de_ixV (pv 0) (de_var (pv 2)) (by intro _ _; rfl)) (du_cons (de_var (pv 3)) (du_nil))))) (da_nil)))))))) (ds_nil)) (ds_cons (ds_if (dt_val (de_isi (T := .str) (de_var (pv 1)) (by rfl) Z.b_isinstance (pe_ty (by rfl) Z.b_str rfl))) (ds_one (ds_ret (de_and (de_isi (T := .str) (de_var (pv 0)) (by rfl) Z.b_isinstance (pe_ty (by rfl) Z.b_str rfl)) (de_one (de_cmp (op_eqD hu) o_eq (de_var (pv 0)) (de_var (pv 1)) rfl))))) (ds_nil)) (ds_cons (ds_if (dt_val (de_isi (T := .bool) (de_var (pv 1)) (by rfl) Z.b_isinstance (pe_ty (by rfl) Z.b_bool rfl))) (ds_one (ds_ret (de_and (de_isi (T := .bool) (de_var (pv 0)) (by rfl) Z.b_isinstance (pe_ty (by rfl) Z.b_bool rfl)) (de_one (de_cmp (op_eqD hu) o_eq (de_var (pv 0)) (de_var (pv 1)) rfl))))) (ds_nil)) (ds_cons (ds_if (dt_val (de_isi (T := .int) (de_var (pv 1)) (by rfl) Z.b_isinstance (pe_ty (by rfl) Z.b_int rfl))) (ds_one (ds_ret (de_and (de_isi (T := .int) (de_var (pv 0)) (by rfl) Z.b_isinstance (pe_ty (by rfl) Z.b_int rfl)) (de_and (de_not (de_isi (T := .bool) (de_var (pv 0)) (by rfl) Z.b_isinstance (pe_ty (by rfl) Z.b_bool rfl))) (de_one (de_cmp (op_eqD hu) o_eq (de_var (pv 0)) (de_var (pv 1)) rfl)))))) (ds_nil)) (ds_one (ds_ret (de_and (de_cmp op_isL o_is (de_var (pv 0)) (de_non) rfl) (de_one (de_cmp op_isL o_is (de_var (pv 1)) (de_non) rfl))))))))
theorem sc__law_copied : FnScope ["thing", "part"] ["thing"] (defScope S__law_copied) := ⟨rfl, rfl, rfl, by decide +kernel, rfl, by decide +kernel, by decide +kernel⟩
def m__law_copied (ad : Ad) : Nat → Fn
  | 0 => fBad
  | i + 1 => mkFn 2 1 (mSeq (mIf (xIsi (fun t => isTy t .list) (xVar 0)) (mRet (xLc (.nm 1) (xSeq (xVar 0)) none (xUser (m__law_copied ad i) 1 (uCons (xVar 1) (uNil))) [1])) (mNil)) (mRet (xIf (xIsi (fun t => isTy t .tuple) (xVar 0)) (xCall hTup1 (aCons (xLc (.nm 1) (xSeq (xVar 0)) none (xUser (m__law_copied ad i) 1 (uCons (xVar 1) (uNil))) [1]) (aNil))) (xVar 0))))
theorem fd__law_copied (Z : Zs P K mg ad) (A : Fs K mg ta) (Q : Ts base mg ta) : ∀ i : Nat, Fd P w K mg base (Tq ta) "_law_copied" S__law_copied ["thing"] (1 + i) (m__law_copied ad i)
  | 0 => by
    obtain ⟨f, fd, hm, F⟩ := A.a__law_copied
    exact ⟨f, fd, hm, F, F.binds fun _ _ _ _ _ _ us hl => match us, hl with | [_], _ => rfl, fnG_bad rfl⟩
  | i + 1 => by
    obtain ⟨f, fd, hm, F⟩ := A.a__law_copied
    refine ⟨f, fd, hm, F, F.binds fun _ _ _ _ _ _ us hl => match us, hl with | [_], _ => rfl, def_ok F sc__law_copied fun cdv A1 outer s H E B hc hT hr gd => ?_⟩
    have f__law_copied : Fd P w K mg base (Tq ta) "_law_copied" S__law_copied ["thing"] (1 + i) (m__law_copied ad i) := fd__law_copied Z A Q i
    have sc := sc__law_copied
    have hu := hu_1 hr; have hu1 := hu_2 hr; have hu2 := hu_3 hr
    exact ds_cons (ds_if (dt_val (de_isi (T := .list) (de_var (pv 0)) (by rfl) Z.b_isinstance (pe_ty (by rfl) Z.b_list rfl))) (ds_one (ds_ret (de_lc (own := [("part", 1)]) rfl sc.nd (di_seq (de_var (pv 0))) (blkOk_by (by first | rfl | kernel_rfl)) (tw_nm (by decide)) (fun _ _ _ _ _ => (pg_name (i := 1) sc.nd rfl (by first | exact .inl rfl | exact .inr rfl))) (fun _ _ _ _ _ => dts_nil) (fun _ _ _ _ _ B' h' => have hT := h'.trans hT; de_user f__law_copied hT tk0 (hr.mono (by show _ ≤ 1 + i; omega)) gd (by rfl) (du_cons (de_var (pv 1)) (du_nil)))))) (ds_nil)) (ds_one (ds_ret (de_if (dt_val (de_isi (T := .tuple) (de_var (pv 0)) (by rfl) Z.b_isinstance (pe_ty (by rfl) Z.b_tuple rfl))) (de_callTy call_tuple_of o_tup1 (by rfl) Z.b_tuple rfl (da_cons (de_lc (own := [("part", 1)]) rfl sc.nd (di_seq (de_var (pv 0))) (blkOk_by (by first | rfl | kernel_rfl)) (tw_nm (by decide)) (fun _ _ _ _ _ => (pg_name (i := 1) sc.nd rfl (by first | exact .inl rfl | exact .inr rfl))) (fun _ _ _ _ _ => dts_nil) (fun _ _ _ _ _ B' h' => have hT := h'.trans hT; de_user f__law_copied hT tk0 (hr.mono (by show _ ≤ 1 + i; omega)) gd (by rfl) (du_cons (de_var (pv 1)) (du_nil)))) (da_nil))) (de_var (pv 0)))))
theorem sc__law_maps_right : FnScope ["generator", "one", "other", "third", "both", "back", "signs", "turning", "far", "point"] ["generator"] (defScope S__law_maps_right) := ⟨rfl, rfl, rfl, by decide +kernel, rfl, by decide +kernel, by decide +kernel⟩
def m__law_maps_right (ad : Ad) : Fn := mkFn 10 1 (mSeq (mPar3 1 2 3 (aCons (xUser (m__law_map ad) 1 (uGen 0 (uNil))) (aCons (xUser (m__law_map ad) 1 (uGen 0 (uNil))) (aCons (xUser (m__law_map ad) 1 (uGen 0 (uNil))) (aNil))))) (mSeq (mPar 4 5 (aCons (xUser (m_one_behind ad) 2 (uCons (xVar 1) (uCons (xVar 2) (uNil)))) (aCons (xUser (m_back_of ad) 1 (uCons (xVar 1) (uNil))) (aNil)))) (mSeq (mIf (xNot (xUser (m__law_exact ad 8) 2 (uCons (xLst (aCons (xVar 4) (aCons (xUserK (m_one_behind ad) 2 [1, 0] (aCons (xVar 2) (aCons (xVar 1) (aNil)))) (aCons (xUserK (m_back_of ad) 1 [0] (aCons (xVar 1) (aNil))) (aNil))))) (uCons (xLst (aCons (xUser (m__law_behind ad) 2 (uCons (xVar 1) (uCons (xVar 2) (uNil)))) (aCons (xUser (m__law_behind ad) 2 (uCons (xVar 1) (uCons (xVar 2) (uNil)))) (aCons (xVar 5) (aNil))))) (uNil))))) (mRet (xC (.bool false))) (mNil)) (mSeq (mIf (xOr (xBin hNe (xUser (m__law_behind ad) 2 (uCons (xVar 1) (uCons (xVar 5) (uNil)))) (xTup (aCons (xC (.int 1)) (aCons (xC (.int 0)) (aCons (xC (.int 0)) (aCons (xC (.int 1)) (aCons (xC (.int 0)) (aCons (xC (.int 0)) (aNil))))))))) (xOr (xBin hNe (xUser (m__law_behind ad) 2 (uCons (xVar 5) (uCons (xVar 1) (uNil)))) (xTup (aCons (xC (.int 1)) (aCons (xC (.int 0)) (aCons (xC (.int 0)) (aCons (xC (.int 1)) (aCons (xC (.int 0)) (aCons (xC (.int 0)) (aNil))))))))) (xNot (xUser (m__law_exact ad 8) 2 (uCons (xUser (m__law_behind ad) 2 (uCons (xVar 4) (uCons (xVar 3) (uNil)))) (uCons (xUser (m__law_behind ad) 2 (uCons (xVar 1) (uCons (xUser (m_one_behind ad) 2 (uCons (xVar 2) (uCons (xVar 3) (uNil)))) (uNil)))) (uNil))))))) (mRet (xC (.bool false))) (mNil)) (mSeq (mSet 6 (xLc (.nm 7) (xSeq (xTup (aCons (xVar 1) (aCons (xVar 2) (aCons (xVar 4) (aNil)))))) none (xBin hLt (xBin hSub (xBin hMul (xIxV 7 (xC (.int 0))) (xIxV 7 (xC (.int 3)))) (xBin hMul (xIxV 7 (xC (.int 1))) (xIxV 7 (xC (.int 2))))) (xC (.int 0))) [7])) (mSeq (mIf (xOr (xNot (xUser (m__law_exact ad 8) 2 (uCons (xLst (aCons (xUser (m_is_turned_over ad) 1 (uCons (xVar 1) (uNil))) (aCons (xUserK (m_is_turned_over ad) 1 [0] (aCons (xVar 2) (aNil))) (aNil)))) (uCons (xSlice (xVar 6) .no (.ex (xC (.int 2)))) (uNil))))) (xBin hNe (xIxV 6 (xC (.int 2))) (xBin hNe (xIxV 6 (xC (.int 0))) (xIxV 6 (xC (.int 1)))))) (mRet (xC (.bool false))) (mNil)) (mSeq (mFor (.nm 8) (xSeq (xTup (aCons (xC (.int 9)) (aCons (xC (.int 1000)) (aNil))))) (mSeq (mSet 9 (xUser (m__law_drawn_point ad) 2 (uGen 0 (uCons (xVar 8) (uNil))))) (mIf (xOr (xNot (xUser (m__law_exact ad 8) 2 (uCons (xLst (aCons (xUser (m_moved_point ad) 2 (uCons (xVar 9) (uCons (xVar 1) (uNil)))) (aCons (xUserK (m_moved_point ad) 2 [1, 0] (aCons (xVar 1) (aCons (xVar 9) (aNil)))) (aNil)))) (uCons (xLst (aCons (xUser (m__law_gone ad) 2 (uCons (xVar 9) (uCons (xVar 1) (uNil)))) (aCons (xUser (m__law_gone ad) 2 (uCons (xVar 9) (uCons (xVar 1) (uNil)))) (aNil)))) (uNil))))) (xBin hNe (xUser (m__law_gone ad) 2 (uCons (xUser (m_moved_point ad) 2 (uCons (xVar 9) (uCons (xVar 1) (uNil)))) (uCons (xVar 5) (uNil)))) (xVar 9))) (mRet (xC (.bool false))) (mNil)))) (mRet (xC (.bool true))))))))))
theorem fd__law_maps_right (Z : Zs P K mg ad) (A : Fs K mg ta) (Q : Ts base mg ta) : Fd P w K mg base (Tq ta) "_law_maps_right" S__law_maps_right ["generator"] 11 (m__law_maps_right ad) := by
  obtain ⟨f, fd, hm, F⟩ := A.a__law_maps_right
  refine ⟨f, fd, hm, F, F.binds fun _ _ _ _ _ _ us hl => match us, hl with | [_], _ => rfl, def_ok F sc__law_maps_right fun cdv A1 outer s H E B hc hT hr gd => ?_⟩
  have f__law_behind : Fd P w K mg base (Tq ta) "_law_behind" S__law_behind ["one", "other"] 2 (m__law_behind ad) := fd__law_behind Z A Q
  have f__law_drawn_point : Fd P w K mg base (Tq ta) "_law_drawn_point" S__law_drawn_point ["generator", "far"] 3 (m__law_drawn_point ad) := fd__law_drawn_point Z A Q
  have f__law_exact : Fd P w K mg base (Tq ta) "_law_exact" S__law_exact ["told", "due"] 9 (m__law_exact ad 8) := fd__law_exact Z A Q 8
  have f__law_gone : Fd P w K mg base (Tq ta) "_law_gone" S__law_gone ["point", "turning"] 1 (m__law_gone ad) := fd__law_gone Z A Q
  have f__law_map : Fd P w K mg base (Tq ta) "_law_map" S__law_map ["generator"] 4 (m__law_map ad) := fd__law_map Z A Q
  have f_back_of : Fd P w K mg base (Tq ta) "back_of" S_back_of ["turning"] 5 (m_back_of ad) := fd_back_of Z A Q
  have f_is_turned_over : Fd P w K mg base (Tq ta) "is_turned_over" S_is_turned_over ["turning"] 5 (m_is_turned_over ad) := fd_is_turned_over Z A Q
  have f_moved_point : Fd P w K mg base (Tq ta) "moved_point" S_moved_point ["point", "turning"] 5 (m_moved_point ad) := fd_moved_point Z A Q
  have f_one_behind : Fd P w K mg base (Tq ta) "one_behind" S_one_behind ["turning", "other_turning"] 5 (m_one_behind ad) := fd_one_behind Z A Q
  have sc := sc__law_maps_right
  have hu := hu_1 hr; have hu1 := hu_2 hr; have hu2 := hu_3 hr
  exact ds_cons (ds_par3 (i := 1) (j := 2) (l := 3) rfl sc.nd rfl rfl rfl (by decide) (by decide) (by decide) rfl rfl rfl (da_cons (de_user f__law_map hT (takes_of rfl rfl rfl rfl) (hr.mono (by decide)) gd (by rfl) (du_gen (pv 0) (du_nil))) (da_cons (de_user f__law_map hT (takes_of rfl rfl rfl rfl) (hr.mono (by decide)) gd (by rfl) (du_gen (pv 0) (du_nil))) (da_cons (de_user f__law_map hT (takes_of rfl rfl rfl rfl) (hr.mono (by decide)) gd (by rfl) (du_gen (pv 0) (du_nil))) (da_nil))))) (ds_cons (ds_par (i := 4) (j := 5) rfl sc.nd rfl rfl (by decide) rfl rfl (da_cons (de_user f_one_behind hT (takes_of rfl rfl rfl rfl) (hr.mono (by decide)) gd (by rfl) (du_cons (de_var (pv 1)) (du_cons (de_var (pv 2)) (du_nil)))) (da_cons (de_user f_back_of hT (takes_of rfl rfl rfl rfl) (hr.mono (by decide)) gd (by rfl) (du_cons (de_var (pv 1)) (du_nil))) (da_nil)))) (ds_cons (ds_if (dt_not (dt_val (de_user f__law_exact hT (takes_of rfl rfl rfl rfl) (hr.mono (by decide)) gd (by rfl) (du_cons (de_lst (da_cons (de_var (pv 4)) (da_cons (de_userK (ks := ["other_turning", "turning"]) (pm := [1, 0]) f_one_behind hT (takes_of rfl rfl rfl rfl) (hr.mono (by decide)) gd (by rfl) (dk_cons (de_var (pv 2)) (dk_cons (de_var (pv 1)) (dk_nil))) (fun _ _ _ _ _ _ ws hl => match ws, hl with | [_, _], _ => rfl) rfl) (da_cons (de_userK (ks := ["turning"]) (pm := [0]) f_back_of hT (takes_of rfl rfl rfl rfl) (hr.mono (by decide)) gd (by rfl) (dk_cons (de_var (pv 1)) (dk_nil)) (fun _ _ _ _ _ _ ws hl => match ws, hl with | [_], _ => rfl) rfl) (da_nil))))) (du_cons (de_lst (da_cons (de_user f__law_behind hT (takes_of rfl rfl rfl rfl) (hr.mono (by decide)) gd (by rfl) (du_cons (de_var (pv 1)) (du_cons (de_var (pv 2)) (du_nil)))) (da_cons (de_user f__law_behind hT (takes_of rfl rfl rfl rfl) (hr.mono (by decide)) gd (by rfl) (du_cons (de_var (pv 1)) (du_cons (de_var (pv 2)) (du_nil)))) (da_cons (de_var (pv 5)) (da_nil))))) (du_nil)))))) (ds_one (ds_ret (de_bl))) (ds_nil)) (ds_cons (ds_if (dt_w (dw_or (dt_cmp (op_neD hu) o_ne (de_user f__law_behind hT (takes_of rfl rfl rfl rfl) (hr.mono (by decide)) gd (by rfl) (du_cons (de_var (pv 1)) (du_cons (de_var (pv 5)) (du_nil)))) (de_tup (da_cons (de_int) (da_cons (de_int) (da_cons (de_int) (da_cons (de_int) (da_cons (de_int) (da_cons (de_int) (da_nil)))))))) rfl) (dw_or (dt_cmp (op_neD hu) o_ne (de_user f__law_behind hT (takes_of rfl rfl rfl rfl) (hr.mono (by decide)) gd (by rfl) (du_cons (de_var (pv 5)) (du_cons (de_var (pv 1)) (du_nil)))) (de_tup (da_cons (de_int) (da_cons (de_int) (da_cons (de_int) (da_cons (de_int) (da_cons (de_int) (da_cons (de_int) (da_nil)))))))) rfl) (dw_or1 (dt_not (dt_val (de_user f__law_exact hT (takes_of rfl rfl rfl rfl) (hr.mono (by decide)) gd (by rfl) (du_cons (de_user f__law_behind hT (takes_of rfl rfl rfl rfl) (hr.mono (by decide)) gd (by rfl) (du_cons (de_var (pv 4)) (du_cons (de_var (pv 3)) (du_nil)))) (du_cons (de_user f__law_behind hT (takes_of rfl rfl rfl rfl) (hr.mono (by decide)) gd (by rfl) (du_cons (de_var (pv 1)) (du_cons (de_user f_one_behind hT (takes_of rfl rfl rfl rfl) (hr.mono (by decide)) gd (by rfl) (du_cons (de_var (pv 2)) (du_cons (de_var (pv 3)) (du_nil)))) (du_nil)))) (du_nil)))))))))) (ds_one (ds_ret (de_bl))) (ds_nil)) (ds_cons (ds_setLc (i := 6) (own := [("turning", 7)]) rfl sc.nd rfl rfl (di_seq (de_tup (da_cons (de_var (pv 1)) (da_cons (de_var (pv 2)) (da_cons (de_var (pv 4)) (da_nil)))))) (blkOk_by (by first | rfl | kernel_rfl)) (tw_nm (by decide)) (fun _ _ _ _ _ => (pg_name (i := 7) sc.nd rfl (by first | exact .inl rfl | exact .inr rfl))) (fun _ _ _ _ _ => dts_nil) (fun _ _ _ _ _ B' h' => have hT := h'.trans hT; de_cmp op_lt o_lt (de_op op_sub o_sub (de_op op_mulW o_mul (de_ixV (pv 7) (de_int) (by intro _ _; rfl)) (de_ixV (pv 7) (de_int) (by intro _ _; rfl))) (de_op op_mulW o_mul (de_ixV (pv 7) (de_int) (by intro _ _; rfl)) (de_ixV (pv 7) (de_int) (by intro _ _; rfl)))) (de_int) rfl)) (ds_cons (ds_if (dt_w (dw_or (dt_not (dt_val (de_user f__law_exact hT (takes_of rfl rfl rfl rfl) (hr.mono (by decide)) gd (by rfl) (du_cons (de_lst (da_cons (de_user f_is_turned_over hT (takes_of rfl rfl rfl rfl) (hr.mono (by decide)) gd (by rfl) (du_cons (de_var (pv 1)) (du_nil))) (da_cons (de_userK (ks := ["turning"]) (pm := [0]) f_is_turned_over hT (takes_of rfl rfl rfl rfl) (hr.mono (by decide)) gd (by rfl) (dk_cons (de_var (pv 2)) (dk_nil)) (fun _ _ _ _ _ _ ws hl => match ws, hl with | [_], _ => rfl) rfl) (da_nil)))) (du_cons (de_slice (de_var (pv 6)) do_none (do_some (de_int))) (du_nil)))))) (dw_or1 (dt_cmp (op_neD hu) o_ne (de_ixV (pv 6) (de_int) (by intro _ _; rfl)) (de_cmp (op_neD hu) o_ne (de_ixV (pv 6) (de_int) (by intro _ _; rfl)) (de_ixV (pv 6) (de_int) (by intro _ _; rfl)) rfl) rfl)))) (ds_one (ds_ret (de_bl))) (ds_nil)) (ds_cons (ds_for (passes_of rfl) rfl (di_seq (de_tup (da_cons (de_int) (da_cons (de_int) (da_nil))))) (tg_nm 8) (pg_name (i := 8) sc.nd rfl (by first | exact .inl rfl | exact .inr rfl)) (ds_cons (ds_set (i := 9) sc.nd rfl (by first | exact .inl rfl | exact .inr rfl) (de_user f__law_drawn_point hT (takes_of rfl rfl rfl rfl) (hr.mono (by decide)) gd (by rfl) (du_gen (pv 0) (du_cons (de_var (pv 8)) (du_nil))))) (ds_one (ds_if (dt_w (dw_or (dt_not (dt_val (de_user f__law_exact hT (takes_of rfl rfl rfl rfl) (hr.mono (by decide)) gd (by rfl) (du_cons (de_lst (da_cons (de_user f_moved_point hT (takes_of rfl rfl rfl rfl) (hr.mono (by decide)) gd (by rfl) (du_cons (de_var (pv 9)) (du_cons (de_var (pv 1)) (du_nil)))) (da_cons (de_userK (ks := ["turning", "point"]) (pm := [1, 0]) f_moved_point hT (takes_of rfl rfl rfl rfl) (hr.mono (by decide)) gd (by rfl) (dk_cons (de_var (pv 1)) (dk_cons (de_var (pv 9)) (dk_nil))) (fun _ _ _ _ _ _ ws hl => match ws, hl with | [_, _], _ => rfl) rfl) (da_nil)))) (du_cons (de_lst (da_cons (de_user f__law_gone hT (takes_of rfl rfl rfl rfl) (hr.mono (by decide)) gd (by rfl) (du_cons (de_var (pv 9)) (du_cons (de_var (pv 1)) (du_nil)))) (da_cons (de_user f__law_gone hT (takes_of rfl rfl rfl rfl) (hr.mono (by decide)) gd (by rfl) (du_cons (de_var (pv 9)) (du_cons (de_var (pv 1)) (du_nil)))) (da_nil)))) (du_nil)))))) (dw_or1 (dt_cmp (op_neD hu) o_ne (de_user f__law_gone hT (takes_of rfl rfl rfl rfl) (hr.mono (by decide)) gd (by rfl) (du_cons (de_user f_moved_point hT (takes_of rfl rfl rfl rfl) (hr.mono (by decide)) gd (by rfl) (du_cons (de_var (pv 9)) (du_cons (de_var (pv 1)) (du_nil)))) (du_cons (de_var (pv 5)) (du_nil)))) (de_var (pv 9)) rfl)))) (ds_one (ds_ret (de_bl))) (ds_nil))))) (ds_one (ds_ret (de_bl)))))))))
theorem sc__law_figures_right : FnScope ["generator", "figure", "turning", "noted", "due", "told", "point", "back", "number"] ["generator", "figure"] (defScope S__law_figures_right) := ⟨rfl, rfl, rfl, by decide +kernel, rfl, by decide +kernel, by decide +kernel⟩
def m__law_figures_right (ad : Ad) : Fn := mkFn 9 2 (mSeq (mUnp [2, 3] (xTup (aCons (xUser (m__law_map ad) 1 (uGen 0 (uNil))) (aCons (xUser (m__law_copied ad 8) 1 (uCons (xVar 1) (uNil))) (aNil))))) (mSeq (mPar2L 4 5 (xUser (m__law_ring ad) 1 (uCons (xLc (.nm 6) (xSeq (xVar 1)) none (xUser (m__law_gone ad) 2 (uCons (xVar 6) (uCons (xVar 2) (uNil)))) [6]) (uNil))) (xUser (m_moved ad) 2 (uCons (xVar 1) (uCons (xVar 2) (uNil))))) (mSeq (mIf (xOr (xNot (xUser (m__law_exact ad 8) 2 (uCons (xLst (aCons (xVar 5) (aCons (xUserK (m_moved ad) 2 [1, 0] (aCons (xVar 2) (aCons (xVar 1) (aNil)))) (aCons (xVar 1) (aNil))))) (uCons (xLst (aCons (xVar 4) (aCons (xVar 4) (aCons (xVar 3) (aNil))))) (uNil))))) (xBin hNe (xCall hLen (aCons (xVar 5) (aNil))) (xCall hLen (aCons (xVar 1) (aNil))))) (mRet (xC (.bool false))) (mNil)) (mSeq (mIf (xNot (xUser (m__law_exact ad 8) 2 (uCons (xLst (aCons (xUser (m_twice_area ad) 1 (uCons (xVar 5) (uNil))) (aCons (xUser (m_rim_count ad) 1 (uCons (xVar 5) (uNil))) (aCons (xUser (m_inner_count ad) 1 (uCons (xVar 5) (uNil))) (aNil))))) (uCons (xLst (aCons (xUser (m_twice_area ad) 1 (uCons (xVar 1) (uNil))) (aCons (xUser (m_rim_count ad) 1 (uCons (xVar 1) (uNil))) (aCons (xUser (m_inner_count ad) 1 (uCons (xVar 1) (uNil))) (aNil))))) (uNil))))) (mRet (xC (.bool false))) (mNil)) (mSeq (mSet 7 (xUser (m_back_of ad) 1 (uCons (xVar 2) (uNil)))) (mSeq (mIf (xAnd (xBin hLt (xCall hMaxG (aCons (xLc (.nm 8) (xSeq (xVar 7)) none (xCall hAbs (aCons (xVar 8) (aNil))) [8]) (aNil))) (xC (.int 1001))) (xNot (xUser (m__law_exact ad 8) 2 (uCons (xUser (m_moved ad) 2 (uCons (xVar 4) (uCons (xVar 7) (uNil)))) (uCons (xVar 3) (uNil)))))) (mRet (xC (.bool false))) (mNil)) (mSeq (mApp 5 (xC (.int 0))) (mRet (xUser (m__law_exact ad 8) 2 (uCons (xLst (aCons (xUser (m_moved ad) 2 (uCons (xVar 1) (uCons (xVar 2) (uNil)))) (aCons (xVar 1) (aNil)))) (uCons (xLst (aCons (xVar 4) (aCons (xVar 3) (aNil)))) (uNil))))))))))))
theorem fd__law_figures_right (Z : Zs P K mg ad) (A : Fs K mg ta) (Q : Ts base mg ta) : Fd P w K mg base (Tq ta) "_law_figures_right" S__law_figures_right ["generator", "figure"] 11 (m__law_figures_right ad) := by
  obtain ⟨f, fd, hm, F⟩ := A.a__law_figures_right
  refine ⟨f, fd, hm, F, F.binds fun _ _ _ _ _ _ us hl => match us, hl with | [_, _], _ => rfl, def_ok F sc__law_figures_right fun cdv A1 outer s H E B hc hT hr gd => ?_⟩
  have f__law_copied : Fd P w K mg base (Tq ta) "_law_copied" S__law_copied ["thing"] 9 (m__law_copied ad 8) := fd__law_copied Z A Q 8
  have f__law_exact : Fd P w K mg base (Tq ta) "_law_exact" S__law_exact ["told", "due"] 9 (m__law_exact ad 8) := fd__law_exact Z A Q 8
  have f__law_gone : Fd P w K mg base (Tq ta) "_law_gone" S__law_gone ["point", "turning"] 1 (m__law_gone ad) := fd__law_gone Z A Q
  have f__law_map : Fd P w K mg base (Tq ta) "_law_map" S__law_map ["generator"] 4 (m__law_map ad) := fd__law_map Z A Q
  have f__law_ring : Fd P w K mg base (Tq ta) "_law_ring" S__law_ring ["points"] 3 (m__law_ring ad) := fd__law_ring Z A Q
  have f_back_of : Fd P w K mg base (Tq ta) "back_of" S_back_of ["turning"] 5 (m_back_of ad) := fd_back_of Z A Q
  have f_inner_count : Fd P w K mg base (Tq ta) "inner_count" S_inner_count ["figure"] 7 (m_inner_count ad) := fd_inner_count Z A Q
  have f_moved : Fd P w K mg base (Tq ta) "moved" S_moved ["figure", "turning"] 7 (m_moved ad) := fd_moved Z A Q
  have f_rim_count : Fd P w K mg base (Tq ta) "rim_count" S_rim_count ["figure"] 7 (m_rim_count ad) := fd_rim_count Z A Q
  have f_twice_area : Fd P w K mg base (Tq ta) "twice_area" S_twice_area ["figure"] 7 (m_twice_area ad) := fd_twice_area Z A Q
  have sc := sc__law_figures_right
  have hu := hu_1 hr; have hu1 := hu_2 hr; have hu2 := hu_3 hr
  exact ds_cons (ds_unp (n := 2) rfl (de_tup (da_cons (de_user f__law_map hT (takes_of rfl rfl rfl rfl) (hr.mono (by decide)) gd (by rfl) (du_gen (pv 0) (du_nil))) (da_cons (de_user f__law_copied hT (takes_of rfl rfl rfl rfl) (hr.mono (by decide)) gd (by rfl) (du_cons (de_var (pv 1)) (du_nil))) (da_nil)))) (dg_cons (pg_name (i := 2) sc.nd rfl (by first | exact .inl rfl | exact .inr rfl)) (dg_cons (pg_name (i := 3) sc.nd rfl (by first | exact .inl rfl | exact .inr rfl)) (dg_nil))) rfl) (ds_cons (ds_par2L (i := 4) (j := 5) rfl sc.nd rfl rfl (by decide) rfl rfl (de_user f__law_ring hT (takes_of rfl rfl rfl rfl) (hr.mono (by decide)) gd (by rfl) (du_cons (de_lc (own := [("point", 6)]) rfl sc.nd (di_seq (de_var (pv 1))) (blkOk_by (by first | rfl | kernel_rfl)) (tw_nm (by decide)) (fun _ _ _ _ _ => (pg_name (i := 6) sc.nd rfl (by first | exact .inl rfl | exact .inr rfl))) (fun _ _ _ _ _ => dts_nil) (fun _ _ _ _ _ B' h' => have hT := h'.trans hT; de_user f__law_gone hT tk0 (hr.mono (by decide)) gd (by rfl) (du_cons (de_var (pv 6)) (du_cons (de_var (pv 2)) (du_nil))))) (du_nil))) (de_user f_moved hT (takes_of rfl rfl rfl rfl) (hr.mono (by decide)) gd (by rfl) (du_cons (de_var (pv 1)) (du_cons (de_var (pv 2)) (du_nil))))) (ds_cons (ds_if (dt_w (dw_or (dt_not (dt_val (de_user f__law_exact hT (takes_of rfl rfl rfl rfl) (hr.mono (by decide)) gd (by rfl) (du_cons (de_lst (da_cons (de_var (pv 5)) (da_cons (de_userK (ks := ["turning", "figure"]) (pm := [1, 0]) f_moved hT (takes_of rfl rfl rfl rfl) (hr.mono (by decide)) gd (by rfl) (dk_cons (de_var (pv 2)) (dk_cons (de_var (pv 1)) (dk_nil))) (fun _ _ _ _ _ _ ws hl => match ws, hl with | [_, _], _ => rfl) rfl) (da_cons (de_var (pv 1)) (da_nil))))) (du_cons (de_lst (da_cons (de_var (pv 4)) (da_cons (de_var (pv 4)) (da_cons (de_var (pv 3)) (da_nil))))) (du_nil)))))) (dw_or1 (dt_cmp (op_neD hu) o_ne (de_callB (call_len_seq.or call_len_str) o_len (by rfl) Z.b_len rfl (da_cons (de_var (pv 5)) (da_nil))) (de_callB (call_len_seq.or call_len_str) o_len (by rfl) Z.b_len rfl (da_cons (de_var (pv 1)) (da_nil))) rfl)))) (ds_one (ds_ret (de_bl))) (ds_nil)) (ds_cons (ds_if (dt_not (dt_val (de_user f__law_exact hT (takes_of rfl rfl rfl rfl) (hr.mono (by decide)) gd (by rfl) (du_cons (de_lst (da_cons (de_user f_twice_area hT (takes_of rfl rfl rfl rfl) (hr.mono (by decide)) gd (by rfl) (du_cons (de_var (pv 5)) (du_nil))) (da_cons (de_user f_rim_count hT (takes_of rfl rfl rfl rfl) (hr.mono (by decide)) gd (by rfl) (du_cons (de_var (pv 5)) (du_nil))) (da_cons (de_user f_inner_count hT (takes_of rfl rfl rfl rfl) (hr.mono (by decide)) gd (by rfl) (du_cons (de_var (pv 5)) (du_nil))) (da_nil))))) (du_cons (de_lst (da_cons (de_user f_twice_area hT (takes_of rfl rfl rfl rfl) (hr.mono (by decide)) gd (by rfl) (du_cons (de_var (pv 1)) (du_nil))) (da_cons (de_user f_rim_count hT (takes_of rfl rfl rfl rfl) (hr.mono (by decide)) gd (by rfl) (du_cons (de_var (pv 1)) (du_nil))) (da_cons (de_user f_inner_count hT (takes_of rfl rfl rfl rfl) (hr.mono (by decide)) gd (by rfl) (du_cons (de_var (pv 1)) (du_nil))) (da_nil))))) (du_nil)))))) (ds_one (ds_ret (de_bl))) (ds_nil)) (ds_cons (ds_set (i := 7) sc.nd rfl (by first | exact .inl rfl | exact .inr rfl) (de_user f_back_of hT (takes_of rfl rfl rfl rfl) (hr.mono (by decide)) gd (by rfl) (du_cons (de_var (pv 2)) (du_nil)))) (ds_cons (ds_if (dt_w (dw_and (dt_cmp op_lt o_lt (de_callB ((cr_max rfl).or (cr_maxD' rfl hu2)) o_maxG (by rfl) Z.b_max rfl (da_cons (de_lc (own := [("number", 8)]) rfl sc.nd (di_seq (de_var (pv 7))) (blkOk_by (by first | rfl | kernel_rfl)) (tw_nm (by decide)) (fun _ _ _ _ _ => (pg_name (i := 8) sc.nd rfl (by first | exact .inl rfl | exact .inr rfl))) (fun _ _ _ _ _ => dts_nil) (fun _ _ _ _ _ B' h' => have hT := h'.trans hT; de_callB call_abs o_abs (by rfl) Z.b_abs rfl (da_cons (de_var (pv 8)) (da_nil)))) (da_nil))) (de_int) rfl) (dw_and1 (dt_not (dt_val (de_user f__law_exact hT (takes_of rfl rfl rfl rfl) (hr.mono (by decide)) gd (by rfl) (du_cons (de_user f_moved hT (takes_of rfl rfl rfl rfl) (hr.mono (by decide)) gd (by rfl) (du_cons (de_var (pv 4)) (du_cons (de_var (pv 7)) (du_nil)))) (du_cons (de_var (pv 3)) (du_nil))))))))) (ds_one (ds_ret (de_bl))) (ds_nil)) (ds_cons (ds_app (pv 5) (de_int)) (ds_one (ds_ret (de_user f__law_exact hT (takes_of rfl rfl rfl rfl) (hr.mono (by decide)) gd (by rfl) (du_cons (de_lst (da_cons (de_user f_moved hT (takes_of rfl rfl rfl rfl) (hr.mono (by decide)) gd (by rfl) (du_cons (de_var (pv 1)) (du_cons (de_var (pv 2)) (du_nil)))) (da_cons (de_var (pv 1)) (da_nil)))) (du_cons (de_lst (da_cons (de_var (pv 4)) (da_cons (de_var (pv 3)) (da_nil)))) (du_nil))))))))))))
theorem sc_law : FnScope ["script", "generator", "turning", "three", "told"] ["script"] (defScope S_law) := ⟨rfl, rfl, rfl, by decide +kernel, rfl, by decide +kernel, by decide +kernel⟩
def m_law (ad : Ad) : Fn := mkFn0 5 1 (mSeq (mGen 1 (xUser (m__law_generator ad) 2 (uCons (xVar 0) (uCons (xC (.int 0)) (uNil))))) (mSeq (mFor (.nm 2) (xRng1 (aCons (xC (.int 4)) (aNil))) (mIf (xOr (xNot (xUser (m__law_maps_right ad) 1 (uGen 1 (uNil)))) (xNot (xUser (m__law_figures_right ad) 2 (uGen 1 (uCons (xUser (m__law_figure ad) 3 (uGen 1 (uCons (xC (.int 9)) (uCons (xBin hIx (xLst (aCons (xC (.int 12)) (aCons (xC (.int 2)) (aCons (xC (.int 4)) (aCons (xC (.int 20)) (aNil)))))) (xVar 2)) (uNil))))) (uNil)))))) (mRet (xC (.bool false))) (mNil))) (mSeq (mSet 3 (xLst (aCons (xTup (aCons (xC (.int 0)) (aCons (xC (.int 0)) (aNil)))) (aCons (xTup (aCons (xC (.int 2)) (aCons (xC (.int 0)) (aNil)))) (aCons (xTup (aCons (xC (.int 0)) (aCons (xC (.int 1)) (aNil)))) (aNil)))))) (mSeq (mSet 4 (xLst (aCons (xUser (m_moved_point ad) 2 (uCons (xTup (aCons (xC (.int 3)) (aCons (xC (.int 1)) (aNil)))) (uCons (xTup (aCons (xC (.int 1)) (aCons (xC (.int 2)) (aCons (xC (.int 0)) (aCons (xC (.int 1)) (aCons (xC (.int 5)) (aCons (xC (.int 0)) (aNil)))))))) (uNil)))) (aCons (xUser (m_moved ad) 2 (uCons (xVar 3) (uCons (xTup (aCons (xC (.int 0)) (aCons (xC (.int 1)) (aCons (xC (.int 1)) (aCons (xC (.int 0)) (aCons (xC (.int 0)) (aCons (xC (.int 0)) (aNil)))))))) (uNil)))) (aCons (xUser (m_one_behind ad) 2 (uCons (xTup (aCons (xC (.int 1)) (aCons (xC (.int 1)) (aCons (xC (.int 0)) (aCons (xC (.int 1)) (aCons (xC (.int 0)) (aCons (xC (.int 0)) (aNil)))))))) (uCons (xTup (aCons (xC (.int 0)) (aCons (xC (.int 1)) (aCons (xC (.int 1)) (aCons (xC (.int 0)) (aCons (xC (.int 2)) (aCons (xC (.int 0)) (aNil)))))))) (uNil)))) (aCons (xUser (m_back_of ad) 1 (uCons (xTup (aCons (xC (.int 1)) (aCons (xC (.int 2)) (aCons (xC (.int 0)) (aCons (xC (.int 1)) (aCons (xC (.int 5)) (aCons (xC (.int 0)) (aNil)))))))) (uNil))) (aCons (xUser (m_is_turned_over ad) 1 (uCons (xTup (aCons (xC (.int 0)) (aCons (xC (.int 1)) (aCons (xC (.int 1)) (aCons (xC (.int 0)) (aCons (xC (.int 0)) (aCons (xC (.int 0)) (aNil)))))))) (uNil))) (aCons (xUser (m_moved ad) 2 (uCons (xLst (aCons (xTup (aCons (xC (.int 5)) (aCons (xC (.int 5)) (aNil)))) (aNil))) (uCons (xTup (aCons (xC (.int 0)) (aCons (xC (.int 1)) (aCons (xC (.int 1)) (aCons (xC (.int 0)) (aCons (xC (.int 1)) (aCons (xC (.int 0)) (aNil)))))))) (uNil)))) (aNil))))))))) (mRet (xUser (m__law_exact ad 8) 2 (uCons (xVar 4) (uCons (xLst (aCons (xTup (aCons (xC (.int 10)) (aCons (xC (.int 1)) (aNil)))) (aCons (xLst (aCons (xTup (aCons (xC (.int 0)) (aCons (xC (.int 0)) (aNil)))) (aCons (xTup (aCons (xC (.int 1)) (aCons (xC (.int 0)) (aNil)))) (aCons (xTup (aCons (xC (.int 0)) (aCons (xC (.int 2)) (aNil)))) (aNil))))) (aCons (xTup (aCons (xC (.int 0)) (aCons (xC (.int 1)) (aCons (xC (.int 1)) (aCons (xC (.int 1)) (aCons (xC (.int 2)) (aCons (xC (.int 0)) (aNil)))))))) (aCons (xTup (aCons (xC (.int 1)) (aCons (xUn hNeg (xC (.int 2))) (aCons (xC (.int 0)) (aCons (xC (.int 1)) (aCons (xUn hNeg (xC (.int 5))) (aCons (xC (.int 0)) (aNil)))))))) (aCons (xC (.bool true)) (aCons (xLst (aCons (xTup (aCons (xC (.int 6)) (aCons (xC (.int 5)) (aNil)))) (aNil))) (aNil)))))))) (uNil)))))))))
theorem fn_law (Z : Zs P K mg ad) (A : Fs K mg ta) (Q : Ts base mg ta) {f : Addr} {fd : FuncData} (F : Fun K "law" "law" S_law f fd) : FnG P w K mg base 12 f fd ["script"] (spD K (Tq ta) (m_law ad) 1) :=
  def_ok0 F sc_law fun cdv A1 outer s H E B hc hT hB hr gd => by
    have f__law_exact : Fd P w K mg base (Tq ta) "_law_exact" S__law_exact ["told", "due"] 9 (m__law_exact ad 8) := fd__law_exact Z A Q 8
    have f__law_figure : Fd P w K mg base (Tq ta) "_law_figure" S__law_figure ["generator", "far", "many"] 4 (m__law_figure ad) := fd__law_figure Z A Q
    have f__law_figures_right : Fd P w K mg base (Tq ta) "_law_figures_right" S__law_figures_right ["generator", "figure"] 11 (m__law_figures_right ad) := fd__law_figures_right Z A Q
    have f__law_generator : Fd P w K mg base (Tq ta) "_law_generator" S__law_generator ["script", "index"] 2 (m__law_generator ad) := fd__law_generator Z A Q
    have f__law_maps_right : Fd P w K mg base (Tq ta) "_law_maps_right" S__law_maps_right ["generator"] 11 (m__law_maps_right ad) := fd__law_maps_right Z A Q
    have f_back_of : Fd P w K mg base (Tq ta) "back_of" S_back_of ["turning"] 5 (m_back_of ad) := fd_back_of Z A Q
    have f_is_turned_over : Fd P w K mg base (Tq ta) "is_turned_over" S_is_turned_over ["turning"] 5 (m_is_turned_over ad) := fd_is_turned_over Z A Q
    have f_moved : Fd P w K mg base (Tq ta) "moved" S_moved ["figure", "turning"] 7 (m_moved ad) := fd_moved Z A Q
    have f_moved_point : Fd P w K mg base (Tq ta) "moved_point" S_moved_point ["point", "turning"] 5 (m_moved_point ad) := fd_moved_point Z A Q
    have f_one_behind : Fd P w K mg base (Tq ta) "one_behind" S_one_behind ["turning", "other_turning"] 5 (m_one_behind ad) := fd_one_behind Z A Q
    have sc := sc_law
    have hu := hu_1 hr; have hu1 := hu_2 hr; have hu2 := hu_3 hr
    exact ds_cons (ds_gen hB sc.nd rfl (by first | exact .inl rfl | exact .inr rfl) (de_user f__law_generator hT (takes_of rfl rfl rfl rfl) (hr.mono (by decide)) gd (by rfl) (du_cons (de_var (pv 0)) (du_cons (de_int) (du_nil))))) (ds_cons (ds_for (passes_of rfl) rfl (di_rng1 (by rfl) Z.b_range (da_cons (de_int) (da_nil))) (tg_nm 2) (pg_name (i := 2) sc.nd rfl (by first | exact .inl rfl | exact .inr rfl)) (ds_one (ds_if (dt_w (dw_or (dt_not (dt_val (de_user f__law_maps_right hT (takes_of rfl rfl rfl rfl) (hr.mono (by decide)) gd (by rfl) (du_gen (pv 1) (du_nil))))) (dw_or1 (dt_not (dt_val (de_user f__law_figures_right hT (takes_of rfl rfl rfl rfl) (hr.mono (by decide)) gd (by rfl) (du_gen (pv 1) (du_cons (de_user f__law_figure hT (takes_of rfl rfl rfl rfl) (hr.mono (by decide)) gd (by rfl) (du_gen (pv 1) (du_cons (de_int) (du_cons (de_ix (de_lst (da_cons (de_int) (da_cons (de_int) (da_cons (de_int) (da_cons (de_int) (da_nil)))))) (de_var (pv 2)) (by intro _ _; rfl)) (du_nil))))) (du_nil))))))))) (ds_one (ds_ret (de_bl))) (ds_nil)))) (ds_cons (ds_set (i := 3) sc.nd rfl (by first | exact .inl rfl | exact .inr rfl) (de_lst (da_cons (de_tup (da_cons (de_int) (da_cons (de_int) (da_nil)))) (da_cons (de_tup (da_cons (de_int) (da_cons (de_int) (da_nil)))) (da_cons (de_tup (da_cons (de_int) (da_cons (de_int) (da_nil)))) (da_nil)))))) (ds_cons (ds_set (i := 4) sc.nd rfl (by first | exact .inl rfl | exact .inr rfl) (de_lst (da_cons (de_user f_moved_point hT (takes_of rfl rfl rfl rfl) (hr.mono (by decide)) gd (by rfl) (du_cons (de_tup (da_cons (de_int) (da_cons (de_int) (da_nil)))) (du_cons (de_tup (da_cons (de_int) (da_cons (de_int) (da_cons (de_int) (da_cons (de_int) (da_cons (de_int) (da_cons (de_int) (da_nil)))))))) (du_nil)))) (da_cons (de_user f_moved hT (takes_of rfl rfl rfl rfl) (hr.mono (by decide)) gd (by rfl) (du_cons (de_var (pv 3)) (du_cons (de_tup (da_cons (de_int) (da_cons (de_int) (da_cons (de_int) (da_cons (de_int) (da_cons (de_int) (da_cons (de_int) (da_nil)))))))) (du_nil)))) (da_cons (de_user f_one_behind hT (takes_of rfl rfl rfl rfl) (hr.mono (by decide)) gd (by rfl) (du_cons (de_tup (da_cons (de_int) (da_cons (de_int) (da_cons (de_int) (da_cons (de_int) (da_cons (de_int) (da_cons (de_int) (da_nil)))))))) (du_cons (de_tup (da_cons (de_int) (da_cons (de_int) (da_cons (de_int) (da_cons (de_int) (da_cons (de_int) (da_cons (de_int) (da_nil)))))))) (du_nil)))) (da_cons (de_user f_back_of hT (takes_of rfl rfl rfl rfl) (hr.mono (by decide)) gd (by rfl) (du_cons (de_tup (da_cons (de_int) (da_cons (de_int) (da_cons (de_int) (da_cons (de_int) (da_cons (de_int) (da_cons (de_int) (da_nil)))))))) (du_nil))) (da_cons (de_user f_is_turned_over hT (takes_of rfl rfl rfl rfl) (hr.mono (by decide)) gd (by rfl) (du_cons (de_tup (da_cons (de_int) (da_cons (de_int) (da_cons (de_int) (da_cons (de_int) (da_cons (de_int) (da_cons (de_int) (da_nil)))))))) (du_nil))) (da_cons (de_user f_moved hT (takes_of rfl rfl rfl rfl) (hr.mono (by decide)) gd (by rfl) (du_cons (de_lst (da_cons (de_tup (da_cons (de_int) (da_cons (de_int) (da_nil)))) (da_nil))) (du_cons (de_tup (da_cons (de_int) (da_cons (de_int) (da_cons (de_int) (da_cons (de_int) (da_cons (de_int) (da_cons (de_int) (da_nil)))))))) (du_nil)))) (da_nil))))))))) (ds_one (ds_ret (de_user f__law_exact hT (takes_of rfl rfl rfl rfl) (hr.mono (by decide)) gd (by rfl) (du_cons (de_var (pv 4)) (du_cons (de_lst (da_cons (de_tup (da_cons (de_int) (da_cons (de_int) (da_nil)))) (da_cons (de_lst (da_cons (de_tup (da_cons (de_int) (da_cons (de_int) (da_nil)))) (da_cons (de_tup (da_cons (de_int) (da_cons (de_int) (da_nil)))) (da_cons (de_tup (da_cons (de_int) (da_cons (de_int) (da_nil)))) (da_nil))))) (da_cons (de_tup (da_cons (de_int) (da_cons (de_int) (da_cons (de_int) (da_cons (de_int) (da_cons (de_int) (da_cons (de_int) (da_nil)))))))) (da_cons (de_tup (da_cons (de_int) (da_cons (de_un un_neg o_neg (de_int)) (da_cons (de_int) (da_cons (de_int) (da_cons (de_un un_neg o_neg (de_int)) (da_cons (de_int) (da_nil)))))))) (da_cons (de_bl) (da_cons (de_lst (da_cons (de_tup (da_cons (de_int) (da_cons (de_int) (da_nil)))) (da_nil))) (da_nil)))))))) (du_nil)))))))))
end
end K07

set_option Elab.async false
set_option linter.all false
set_option autoImplicit false
set_option maxRecDepth 100000
set_option maxHeartbeats 1000000
namespace K07
open PySem PyProof.Rows L2 LamX DL
variable {ad : Ad}
theorem e_random : m__law_random ad = fRandom := rfl
theorem e_generator : m__law_generator ad = fGenerator := rfl
theorem e_pick : m__law_pick ad = fPick := rfl
theorem e_turn : m_turn_at ad = fTurn := rfl
theorem e_lturn : m__law_turn ad = fTurn := rfl
theorem e_area : m_area_in ad = fAreaIn := rfl
theorem e_half : m_half_ring ad = fHalfA := rfl
theorem e_lhalf : m__law_half ad = fHalfA := rfl
theorem e_lring : m__law_ring ad = fHull fHalfA := rfl
theorem e_chkf : m_check_figure ad = fChkFigure ad.InvalidFigure := rfl
/-- the program's own ring: as the law's, but for how it hands back few points -/
def fRing (h : Fn) : Fn := mkFn 2 1 (mSeq (mSet 1 (xSSet (xVar 0))) (mSeq (mIf (xBin hLt (xCall hLen (aCons (xVar 1) (aNil))) (xC (.int 3))) (mRetV 1) (mNil)) (mRet (xBin hAdd (xUser h 1 (uCons (xVar 1) (uNil))) (xUser h 1 (uCons (xRev (xVar 1)) (uNil)))))))
theorem ringof_ow {h : Fn} {l : List Pt2} (hh : Hf h) (hl : ∀ c ∈ l, Nr 1000000 c) (n : l.length < 64) :
    fRing h [.im (.list (ptsD l))] none = .ok (.ow (ptsD (ringP (psort l)))) none := by
  have ss := sset_pts (g := xVar 0) (s := ⟨[.im (.list (ptsD l)), .un], none⟩) (s1 := ⟨[.im (.list (ptsD l)), .un], none⟩) (rv := .im (.list (ptsD l))) (by simp) rfl n
  have pl := psort_len l
  have hm : ∀ c ∈ psort l, Nr 1000000 c := fun c hc => hl c (mem_psort.mp hc)
  have h1 := hh (psort l) hm (by omega)
  have h2 := hh (psort l).reverse (fun c hc => hm c (List.mem_reverse.mp hc)) (by rw [List.length_reverse]; omega)
  unfold ringP
  have le : ((ptsD (psort l)).length : Int) = (psort l).length := by simp [ptsD]
  by_cases z : (psort l).length < 3
  · rw [if_pos z]
    have z' : decide (((psort l).length : Int) < 3) = true := by rw [decide_eq_true_eq]; omega
    simp [fRing, ↓ss, hLt_i, -hI2, z']
  · rw [if_neg z]
    have z' : decide (((psort l).length : Int) < 3) = false := by rw [decide_eq_false_iff_not]; omega
    have hh2 : ∀ m : List Pt2, (half m).length ≤ m.length := fun m => by
      have : ∀ (k S : List Pt2), (k.foldl push S).length ≤ S.length + k.length := by
        intro k
        induction k with
        | nil => intro S; simp
        | cons p k ih =>
          intro S
          have i := ih (push S p)
          have := popW_len p S
          have e : (push S p).length = (popW p S).length + 1 := rfl
          rw [List.foldl_cons, List.length_cons]
          omega
      have := this m []
      unfold half chain
      simp at *
      omega
    have l1 := hh2 (psort l)
    have l2 := hh2 (psort l).reverse
    rw [List.length_reverse] at l2
    have sz : (ptsD (half (psort l))).length + (ptsD (half (psort l).reverse)).length ≤ 1000000 := by
      simp [ptsD]; omega
    have rv : (ptsD (psort l)).reverse = ptsD (psort l).reverse := by simp [ptsD]
    have aa := hAdd_l sz
    rw [show ptsD (half (psort l) ++ half (psort l).reverse) = ptsD (half (psort l)) ++ ptsD (half (psort l).reverse) from by simp [ptsD]]
    generalize hA : ptsD (half (psort l)) = A at *
    generalize hB : ptsD (half (psort l).reverse) = B at *
    generalize hP : ptsD (psort l).reverse = P at *
    generalize hQ : ptsD (psort l) = Q at *
    simp [fRing, ↓ss, hLt_i, -hI2, le, z', h1, xRev, rv, h2, aa]
theorem e_ring : m_ring_of ad = fRing fHalfA := rfl
end K07

set_option Elab.async false
set_option linter.all false
set_option autoImplicit false
set_option maxRecDepth 100000
set_option maxHeartbeats 1000000
namespace K07
open PySem PyProof.Rows L2 LamX DL
variable {ad : Ad}
/-! told is exactly due -/
theorem enumD_rng : ∀ (k : Nat) (ds : List PyData), enumD k ds = (List.range ds.length).map fun i => .tuple [.int ((k + i : Nat) : Int), ds.getD i .none]
  | _, [] => rfl
  | k, d :: ds => by
    unfold enumD
    rw [enumD_rng (k + 1) ds, List.length_cons, List.range_succ_eq_map, List.map_cons, List.map_map]
    congr 1
    refine List.map_congr_left fun i _ => ?_
    show PyData.tuple [.int ((k + 1 + i : Nat) : Int), ds.getD i .none] = .tuple [.int ((k + (i + 1) : Nat) : Int), (d :: ds).getD (i + 1) .none]
    rw [show k + 1 + i = k + (i + 1) from by omega]
    rfl
def exL (EX : Fn) : DX := xLc (.tp [2, 3]) (xEnumB (aCons (xVar 1) (aNil))) none (xUser EX 2 (uCons (xIxV 0 (xVar 2)) (uCons (xVar 3) (uNil)))) [2, 3]
def exM (L : DX) : Fn := mkFn 4 2 (mSeq (mIf (xIsi (fun t => isTy t .list || isTy t .tuple) (xVar 1)) (mSeq (mIf (xOr (xBin hNe (xIsi (fun t => isTy t .list) (xVar 0)) (xIsi (fun t => isTy t .list) (xVar 1))) (xBin hNe (xIsi (fun t => isTy t .tuple) (xVar 0)) (xIsi (fun t => isTy t .tuple) (xVar 1)))) (mRet (xC (.bool false))) (mNil)) (mRet (xAnd (xBin hEq (xCall hLen (aCons (xVar 0) (aNil))) (xCall hLen (aCons (xVar 1) (aNil)))) (xCall hAll (aCons L (aNil)))))) (mNil)) (mSeq (mIf (xIsi (fun t => isTy t .str) (xVar 1)) (mRet (xAnd (xIsi (fun t => isTy t .str) (xVar 0)) (xBin hEq (xVar 0) (xVar 1)))) (mNil)) (mSeq (mIf (xIsi (fun t => isTy t .bool) (xVar 1)) (mRet (xAnd (xIsi (fun t => isTy t .bool) (xVar 0)) (xBin hEq (xVar 0) (xVar 1)))) (mNil)) (mSeq (mIf (xIsi (fun t => isTy t .int) (xVar 1)) (mRet (xAnd (xIsi (fun t => isTy t .int) (xVar 0)) (xAnd (xNot (xIsi (fun t => isTy t .bool) (xVar 0))) (xBin hEq (xVar 0) (xVar 1))))) (mNil)) (mRet (xAnd (xBin hIs (xVar 0) (xC .none)) (xBin hIs (xVar 1) (xC .none))))))))
theorem ex_eq (i : Nat) : m__law_exact ad (i + 1) = exM (exL (m__law_exact ad i)) := rfl
theorem hAll_true (n : Nat) : hAll [.list ((List.range n).map fun _ => PyData.bool true)] = some (.im (.bool true)) := by
  have key : ∀ l : List Nat, boolsOf (l.map fun _ => PyData.bool true) = some (l.map fun _ => true) := by
    intro l
    induction l with
    | nil => rfl
    | cons a l ih => rw [List.map_cons, List.map_cons]; unfold boolsOf; rw [ih]; rfl
  show (boolsOf _).map (fun bs => Rv.im (.bool (bs.all id))) = _
  rw [key]
  simp
theorem exL_ok {EX : Fn} {T : PyData} {ds : List PyData} (hT : T = .list ds ∨ T = .tuple ds) (n : ds.length ≤ 1000000) (h : ∀ d ∈ ds, EX [.im d, .im d] none = .ok (.im (.bool true)) none) :
    exL EX ⟨[.im T, .im T, .un, .un], none⟩ = .ok (.ow ((List.range ds.length).map fun _ => .bool true)) ⟨[.im T, .im T, .un, .un], none⟩ := by
  have hx : ∀ i, i < ds.length → hIx T (.int (i : Int)) = some (.im (ds.getD i .none)) := fun i hi => by
    have e : atI ds (i : Int) = some (ds.getD i .none) := DL.atI_nat (by rw [List.getD_eq_getElem?_getD, List.getElem?_eq_getElem hi]; rfl)
    rcases hT with rfl | rfl <;> exact congrArg (Option.map Rv.im) e
  unfold exL
  refine xLc_gen (l := List.range ds.length) (fun i : Nat => PyData.tuple [.int ((0 + i : Nat) : Int), ds.getD i .none]) (fun _ => .bool true) ?_ rfl (by rw [List.length_range]; exact n) rfl ?_
  · rw [← enumD_rng 0 ds]
    rcases hT with rfl | rfl
    · simp [xEnumB]
    · simp [xEnumB]
  · intro i hi
    have il := List.mem_range.mp hi
    have hd : ds.getD i .none ∈ ds := by
      rw [List.getD_eq_getElem?_getD, List.getElem?_eq_getElem il]
      exact List.getElem_mem il
    have k := h _ hd
    have x := hx i il
    refine ⟨⟨[.im T, .im T, .im (.int ((0 + i : Nat) : Int)), .im (ds.getD i .none)], none⟩, ⟨[.im T, .im T, .im (.int ((0 + i : Nat) : Int)), .im (ds.getD i .none)], none⟩, rfl, ?_, rfl⟩
    rw [Nat.zero_add]
    generalize ds.getD i .none = E at *
    simp [k, x, -hI2, -hIx]
def Exk : Nat → PyData → Prop
  | 0, d => (∃ i, d = .int i) ∨ ∃ b, d = .bool b
  | n + 1, d => (∃ i, d = .int i) ∨ (∃ b, d = .bool b) ∨ ∃ ds, (d = .list ds ∨ d = .tuple ds) ∧ ds.length ≤ 1000000 ∧ ∀ x ∈ ds, Exk n x
theorem exM_int {L : DX} (i : Int) : exM L [.im (.int i), .im (.int i)] none = .ok (.im (.bool true)) none := by
  have e := hEq_self (Pl.int (n := 0) i).shaped
  simp [exM, e, -hI2]
theorem exM_bool {L : DX} (b : Bool) : exM L [.im (.bool b), .im (.bool b)] none = .ok (.im (.bool true)) none := by
  have e := hEq_self (Pl.bool (n := 0) b).shaped
  simp [exM, e, -hI2]
theorem exM_list {L : DX} {ds : List PyData} (h : L ⟨[.im (.list ds), .im (.list ds), .un, .un], none⟩ = .ok (.ow ((List.range ds.length).map fun _ => .bool true)) ⟨[.im (.list ds), .im (.list ds), .un, .un], none⟩) : exM L [.im (.list ds), .im (.list ds)] none = .ok (.im (.bool true)) none := by
  have a := hAll_true ds.length
  have n1 : hNe (.bool true) (.bool true) = some (.im (.bool false)) := rfl
  have n2 : hNe (.bool false) (.bool false) = some (.im (.bool false)) := rfl
  have e := hEq_self (Pl.int (n := 0) (ds.length : Int)).shaped
  generalize (List.range ds.length).map (fun _ => PyData.bool true) = W at *
  simp [exM, h, a, n1, n2, e, -hI2]
theorem exM_tup {L : DX} {ds : List PyData} (h : L ⟨[.im (.tuple ds), .im (.tuple ds), .un, .un], none⟩ = .ok (.ow ((List.range ds.length).map fun _ => .bool true)) ⟨[.im (.tuple ds), .im (.tuple ds), .un, .un], none⟩) : exM L [.im (.tuple ds), .im (.tuple ds)] none = .ok (.im (.bool true)) none := by
  have a := hAll_true ds.length
  have n1 : hNe (.bool true) (.bool true) = some (.im (.bool false)) := rfl
  have n2 : hNe (.bool false) (.bool false) = some (.im (.bool false)) := rfl
  have e := hEq_self (Pl.int (n := 0) (ds.length : Int)).shaped
  generalize (List.range ds.length).map (fun _ => PyData.bool true) = W at *
  simp [exM, h, a, n1, n2, e, -hI2]
theorem exact_ok : ∀ (n : Nat) {d : PyData} {k : Nat}, Exk n d → n < k → m__law_exact ad k [.im d, .im d] none = .ok (.im (.bool true)) none
  | _, _, 0, _, h => absurd h (Nat.not_lt_zero _)
  | 0, d, k + 1, h, _ => by
    rw [ex_eq]
    rcases h with ⟨i, rfl⟩ | ⟨b, rfl⟩
    · exact exM_int i
    · exact exM_bool b
  | n + 1, d, k + 1, h, l => by
    rw [ex_eq]
    rcases h with ⟨i, rfl⟩ | ⟨b, rfl⟩ | ⟨ds, hd, n1, q⟩
    · exact exM_int i
    · exact exM_bool b
    · have lo := exL_ok (EX := m__law_exact ad k) hd n1 fun x hx => exact_ok n (q x hx) (by omega)
      rcases hd with rfl | rfl
      · exact exM_list lo
      · exact exM_tup lo
theorem Exk.up : ∀ {n : Nat} {d : PyData}, Exk n d → Exk (n + 1) d
  | 0, d, h => by
    rcases h with h | h
    · exact .inl h
    · exact .inr (.inl h)
  | n + 1, d, h => by
    rcases h with h | h | ⟨ds, hd, n1, q⟩
    · exact .inl h
    · exact .inr (.inl h)
    · exact .inr (.inr ⟨ds, hd, n1, fun x hx => (q x hx).up⟩)
theorem Exk.int {n : Nat} (i : Int) : Exk n (.int i) := by cases n <;> exact .inl ⟨i, rfl⟩
theorem Exk.bool {n : Nat} (b : Bool) : Exk n (.bool b) := by
  cases n
  · exact .inr ⟨b, rfl⟩
  · exact .inr (.inl ⟨b, rfl⟩)
theorem Exk.lst {n : Nat} {ds : List PyData} (h : ds.length ≤ 1000000) (q : ∀ x ∈ ds, Exk n x) : Exk (n + 1) (.list ds) := .inr (.inr ⟨ds, .inl rfl, h, q⟩)
theorem Exk.tup {n : Nat} {ds : List PyData} (h : ds.length ≤ 1000000) (q : ∀ x ∈ ds, Exk n x) : Exk (n + 1) (.tuple ds) := .inr (.inr ⟨ds, .inr rfl, h, q⟩)
theorem exk_pt (p : Pt2) : Exk 1 (ptD p) := .tup (by simp) (fun x hx => by
  simp only [List.mem_cons, List.not_mem_nil, or_false] at hx
  rcases hx with rfl | rfl <;> exact .int _)
theorem exk_pts {l : List Pt2} (n : l.length ≤ 1000) : Exk 2 (.list (ptsD l)) := .lst (by simp; omega) fun x hx => by
  obtain ⟨p, _, rfl⟩ := List.mem_map.mp hx
  exact exk_pt p
end K07

set_option Elab.async false
set_option linter.all false
set_option autoImplicit false
set_option maxRecDepth 100000
set_option maxHeartbeats 1000000
namespace K07
open PySem PyProof.Rows L2 LamX DL
variable {ad : Ad}
abbrev D6 (m : Mp) : PyData := .tuple [.int m.a, .int m.b, .int m.c, .int m.d, .int m.e, .int m.f]
structure Mb (n k : Nat) (m : Mp) : Prop where
  a : m.a.natAbs ≤ n
  b : m.b.natAbs ≤ n
  c : m.c.natAbs ≤ n
  d : m.d.natAbs ≤ n
  e : m.e.natAbs ≤ k
  f : m.f.natAbs ≤ k
theorem Mb.up {n k n' k' : Nat} {m : Mp} (h : Mb n k m) (l1 : n ≤ n') (l2 : k ≤ k') : Mb n' k' m :=
  ⟨Nat.le_trans h.a l1, Nat.le_trans h.b l1, Nat.le_trans h.c l1, Nat.le_trans h.d l1, Nat.le_trans h.e l2, Nat.le_trans h.f l2⟩
theorem hAdd_i (i j : Int) : hAdd (.int i) (.int j) = some (.im (.int (i + j))) := rfl
theorem two_at {x y : PyData} : hIx (.tuple [x, y]) (.int 0) = some (.im x) ∧ hIx (.tuple [x, y]) (.int 1) = some (.im y) := ⟨rfl, rfl⟩
theorem gone_ok {m : Mp} {p : Pt2} (hm : Mb 1000000 1000000000 m) (hp : Nr 100000000 p) : m_gone ad [.im (ptD p), .im (D6 m)] none = .ok (.im (ptD (m.app p))) none := by
  have m1 := hMul_sm (i := m.a) (j := p.1) (sm_le hm.a) (sm_le hp.1)
  have m2 := hMul_sm (i := m.b) (j := p.2) (sm_le hm.b) (sm_le hp.2)
  have m3 := hMul_sm (i := m.c) (j := p.1) (sm_le hm.c) (sm_le hp.1)
  have m4 := hMul_sm (i := m.d) (j := p.2) (sm_le hm.d) (sm_le hp.2)
  simp [m_gone, two_at, m1, m2, m3, m4, hAdd_i, Mp.app, -hI2, -hIx]
theorem lgone_ok {m : Mp} {p : Pt2} (hm : Mb 1000000 1000000000 m) (hp : Nr 100000000 p) : m__law_gone ad [.im (ptD p), .im (D6 m)] none = .ok (.im (ptD (m.app p))) none := gone_ok (ad := ad) hm hp
theorem dot2 {a b x y : Int} {n k : Nat} (ha : a.natAbs ≤ n) (hb : b.natAbs ≤ n) (hx : x.natAbs ≤ k) (hy : y.natAbs ≤ k) : (a * x + b * y).natAbs ≤ 2 * (n * k) := by
  have h1 := Nat.mul_le_mul ha hx
  have h2 := Nat.mul_le_mul hb hy
  rw [← Int.natAbs_mul] at h1 h2
  omega
theorem app_le {n k j : Nat} {m : Mp} {p : Pt2} (hm : Mb n k m) (hp : Nr j p) : Nr (2 * (n * j) + k) (m.app p) := by
  have h1 := dot2 hm.a hm.b hp.1 hp.2
  have h2 := dot2 hm.c hm.d hp.1 hp.2
  have h3 := hm.e
  have h4 := hm.f
  unfold Nr Mp.app
  dsimp only
  omega
def comp (m n : Mp) : Mp := ⟨n.a * m.a + n.b * m.c, n.a * m.b + n.b * m.d, n.c * m.a + n.d * m.c, n.c * m.b + n.d * m.d, n.a * m.e + n.b * m.f + n.e, n.c * m.e + n.d * m.f + n.f⟩
theorem comp_le {n k n' k' : Nat} {x y : Mp} (hx : Mb n k x) (hy : Mb n' k' y) : Mb (2 * (n' * n)) (2 * (n' * k) + k') (comp x y) := by
  have h1 := dot2 hy.a hy.b hx.a hx.c
  have h2 := dot2 hy.a hy.b hx.b hx.d
  have h3 := dot2 hy.c hy.d hx.a hx.c
  have h4 := dot2 hy.c hy.d hx.b hx.d
  have h5 := dot2 hy.a hy.b hx.e hx.f
  have h6 := dot2 hy.c hy.d hx.e hx.f
  have h7 := hy.e
  have h8 := hy.f
  exact ⟨h1, h2, h3, h4, by unfold comp; dsimp only; omega, by unfold comp; dsimp only; omega⟩
theorem comp_app (x y : Mp) (p : Pt2) : (comp x y).app p = y.app (x.app p) := by
  unfold comp Mp.app
  refine Prod.ext ?_ ?_ <;> (dsimp only; grind)
theorem comp_assoc (x y z : Mp) : comp (comp x y) z = comp x (comp y z) := by
  unfold comp
  congr 1 <;> (dsimp only; grind)
theorem comp_det (x y : Mp) : (comp x y).det = x.det * y.det := by unfold comp Mp.det; grind
theorem comp_uni {x y : Mp} (hx : x.Uni) (hy : y.Uni) : (comp x y).Uni := by
  unfold Mp.Uni
  rw [comp_det]
  rcases hx with h | h <;> rcases hy with k | k <;> rw [h, k] <;> decide
theorem behind_ok {x y : Mp} (hx : Mb 1000000 1000000000 x) (hy : Mb 1000000 1000000000 y) : m_behind_in ad [.im (D6 x), .im (D6 y)] none = .ok (.im (D6 (comp x y))) none := by
  have m1 := hMul_sm (i := y.a) (j := x.a) (sm_le hy.a) (sm_le hx.a)
  have m2 := hMul_sm (i := y.b) (j := x.c) (sm_le hy.b) (sm_le hx.c)
  have m3 := hMul_sm (i := y.a) (j := x.b) (sm_le hy.a) (sm_le hx.b)
  have m4 := hMul_sm (i := y.b) (j := x.d) (sm_le hy.b) (sm_le hx.d)
  have m5 := hMul_sm (i := y.c) (j := x.a) (sm_le hy.c) (sm_le hx.a)
  have m6 := hMul_sm (i := y.d) (j := x.c) (sm_le hy.d) (sm_le hx.c)
  have m7 := hMul_sm (i := y.c) (j := x.b) (sm_le hy.c) (sm_le hx.b)
  have m8 := hMul_sm (i := y.d) (j := x.d) (sm_le hy.d) (sm_le hx.d)
  have m9 := hMul_sm (i := y.a) (j := x.e) (sm_le hy.a) (sm_le hx.e)
  have m10 := hMul_sm (i := y.b) (j := x.f) (sm_le hy.b) (sm_le hx.f)
  have m11 := hMul_sm (i := y.c) (j := x.e) (sm_le hy.c) (sm_le hx.e)
  have m12 := hMul_sm (i := y.d) (j := x.f) (sm_le hy.d) (sm_le hx.f)
  simp [m_behind_in, two_at, m1, m2, m3, m4, m5, m6, m7, m8, m9, m10, m11, m12, hAdd_i, comp, -hI2, -hIx]
/-- the law's own -/
def lbL (GO : Fn) : DX := xLc (.nm 3) (xSeq (xLst (aCons (xTup (aCons (xC (.int 0)) (aCons (xC (.int 0)) (aNil)))) (aCons (xTup (aCons (xC (.int 1)) (aCons (xC (.int 0)) (aNil)))) (aCons (xTup (aCons (xC (.int 0)) (aCons (xC (.int 1)) (aNil)))) (aNil)))))) none (xUser GO 2 (uCons (xUser GO 2 (uCons (xVar 3) (uCons (xVar 0) (uNil)))) (uCons (xVar 1) (uNil)))) [3]
def lbM (L : DX) : Fn := mkFn 5 2 (mSeq (mSet 2 L) (mSeq (mSet 4 (xIxV 2 (xC (.int 0)))) (mRet (xTup (aCons (xBin hSub (xBin hIx (xIxV 2 (xC (.int 1))) (xC (.int 0))) (xIxV 4 (xC (.int 0)))) (aCons (xBin hSub (xBin hIx (xIxV 2 (xC (.int 2))) (xC (.int 0))) (xIxV 4 (xC (.int 0)))) (aCons (xBin hSub (xBin hIx (xIxV 2 (xC (.int 1))) (xC (.int 1))) (xIxV 4 (xC (.int 1)))) (aCons (xBin hSub (xBin hIx (xIxV 2 (xC (.int 2))) (xC (.int 1))) (xIxV 4 (xC (.int 1)))) (aCons (xIxV 4 (xC (.int 0))) (aCons (xIxV 4 (xC (.int 1))) (aNil)))))))))))
theorem lb_eq : m__law_behind ad = lbM (lbL (m__law_gone ad)) := rfl
theorem lbL_ok {GO : Fn} {x y : PyData} {f : Pt2 → Pt2} (h : ∀ p ∈ [((0 : Int), (0 : Int)), (1, 0), (0, 1)], ∃ q, GO [.im (ptD p), .im x] none = .ok (.im (ptD q)) none ∧ GO [.im (ptD q), .im y] none = .ok (.im (ptD (f p))) none) :
    lbL GO ⟨[.im x, .im y, .un, .un, .un], none⟩ = .ok (.ow (ptsD [f (0, 0), f (1, 0), f (0, 1)])) ⟨[.im x, .im y, .un, .un, .un], none⟩ := by
  unfold lbL
  refine xLc_gen (l := [((0 : Int), (0 : Int)), (1, 0), (0, 1)]) ptD (fun p => ptD (f p)) (by simp [xSeq]) rfl (by simp) rfl ?_
  intro p hp
  obtain ⟨q, h1, h2⟩ := h p hp
  refine ⟨⟨[.im x, .im y, .un, .im (ptD p), .un], none⟩, ⟨[.im x, .im y, .un, .im (ptD p), .un], none⟩, rfl, ?_, rfl⟩
  simp [h1, h2, -hI2]
theorem lbM_ok {L : DX} {x y : PyData} {a b c : Pt2} (h : L ⟨[.im x, .im y, .un, .un, .un], none⟩ = .ok (.ow (ptsD [a, b, c])) ⟨[.im x, .im y, .un, .un, .un], none⟩) :
    lbM L [.im x, .im y] none = .ok (.im (.tuple [.int (b.1 - a.1), .int (c.1 - a.1), .int (b.2 - a.2), .int (c.2 - a.2), .int a.1, .int a.2])) none := by
  have i3 : ∀ u v w : PyData, hIx (.list [u, v, w]) (.int 0) = some (.im u) ∧ hIx (.list [u, v, w]) (.int 1) = some (.im v) ∧ hIx (.list [u, v, w]) (.int 2) = some (.im w) := fun u v w => ⟨rfl, rfl, rfl⟩
  simp [lbM, h, i3, two_at, hSub_i, -hI2, -hIx]
theorem lbehind_ok {x y : Mp} (hx : Mb 10000 1000000 x) (hy : Mb 1000000 1000000000 y) : m__law_behind ad [.im (D6 x), .im (D6 y)] none = .ok (.im (D6 (comp x y))) none := by
  rw [lb_eq, lbM_ok (lbL_ok (f := fun p => y.app (x.app p)) (fun p hp => ⟨x.app p, lgone_ok (hx.up (by decide) (by decide)) (by
    simp only [List.mem_cons, List.not_mem_nil, or_false] at hp
    rcases hp with rfl | rfl | rfl <;> (unfold Nr; decide)), lgone_ok hy (by
    have : Nr 1 p := by
      simp only [List.mem_cons, List.not_mem_nil, or_false] at hp
      rcases hp with rfl | rfl | rfl <;> (unfold Nr; decide)
    exact nr_up (app_le hx this) (by decide))⟩))]
  congr 3
  unfold comp Mp.app
  dsimp only
  simp only [List.cons.injEq, PyData.int.injEq, and_true]
  refine ⟨?_, ?_, ?_, ?_, ?_, ?_⟩ <;> grind
/-! what maps are -/
theorem near_ok {c : Int} (h : c.natAbs ≤ 1000) : m_is_near ad [.im (.int c)] none = .ok (.im (.bool true)) none := by
  have w : m_is_whole ad [.im (.int c)] none = .ok (.im (.bool true)) none := rfl
  have z1 : (-1000 : Int) ≤ c := by omega
  have z2 : c ≤ (1000 : Int) := by omega
  have ng : hNeg (.int 1000) = some (.im (.int (-1000))) := rfl
  simp [m_is_near, w, ng, -hI2, xChain, hLe_i, z1, z2]
def imL (NE : Fn) : DX := xLc (.nm 1) (xSeq (xVar 0)) (some (xNot (xUser NE 1 (uCons (xVar 1) (uNil))))) (xVar 1) [1]
def imM (L : DX) : Fn := mkFn 2 1 (mSeq (mIf (xOr (xNot (xIsi (fun t => isTy t .tuple) (xVar 0))) (xOr (xBin hNe (xCall hLen (aCons (xVar 0) (aNil))) (xC (.int 6))) (xBin hNe L (xLst (aNil))))) (mRet (xC (.bool false))) (mNil)) (mRet (xBin (hIn false) (xBin hSub (xBin hMul (xIxV 0 (xC (.int 0))) (xIxV 0 (xC (.int 3)))) (xBin hMul (xIxV 0 (xC (.int 1))) (xIxV 0 (xC (.int 2))))) (xTup (aCons (xC (.int 1)) (aCons (xUn hNeg (xC (.int 1))) (aNil)))))))
theorem im_eq : m_is_map ad = imM (imL (m_is_near ad)) := rfl
theorem imL_ok {NE : Fn} {ds : List PyData} (n : ds.length ≤ 1000) (h : ∀ d ∈ ds, NE [.im d] none = .ok (.im (.bool true)) none) : imL NE ⟨[.im (.tuple ds), .un], none⟩ = .ok (.ow []) ⟨[.im (.tuple ds), .un], none⟩ := by
  have lc := xLc_flt (v := 1) (gi := xSeq (xVar 0)) (c := xNot (xUser NE 1 (uCons (xVar 1) (uNil)))) (s := ⟨[.im (.tuple ds), .un], none⟩) (ds := ds) (fun _ => false) (by simp [xSeq]) rfl (by simp) (by omega) (fun d hd => by
    have := h d hd
    simp [this, -hI2])
  rw [show ds.filter (fun _ => false) = [] from List.filter_eq_nil_iff.mpr (by simp)] at lc
  exact lc
theorem six_at {a b c d e f : PyData} : hIx (.tuple [a, b, c, d, e, f]) (.int 0) = some (.im a) ∧ hIx (.tuple [a, b, c, d, e, f]) (.int 1) = some (.im b) ∧ hIx (.tuple [a, b, c, d, e, f]) (.int 2) = some (.im c) ∧ hIx (.tuple [a, b, c, d, e, f]) (.int 3) = some (.im d) := ⟨rfl, rfl, rfl, rfl⟩
theorem imM_ok {L : DX} {m : Mp} (hm : Mb 1000000 1000000000 m) (u : m.Uni) (h : L ⟨[.im (D6 m), .un], none⟩ = .ok (.ow []) ⟨[.im (D6 m), .un], none⟩) : imM L [.im (D6 m)] none = .ok (.im (.bool true)) none := by
  have m1 := hMul_sm (i := m.a) (j := m.d) (sm_le hm.a) (sm_le hm.d)
  have m2 := hMul_sm (i := m.b) (j := m.c) (sm_le hm.b) (sm_le hm.c)
  have n0 : hNe (.list []) (.list []) = some (.im (.bool false)) := rfl
  have n6 : hNe (.int 6) (.int 6) = some (.im (.bool false)) := rfl
  have ng : hNeg (.int 1) = some (.im (.int (-1))) := rfl
  have l6 : hLen [D6 m] = some (.im (.int 6)) := rfl
  have e : hSub (.int (m.a * m.d)) (.int (m.b * m.c)) = some (.im (.int m.det)) := rfl
  have i : hIn false (.int m.det) (.tuple [.int 1, .int (-1)]) = some (.im (.bool true)) := by rcases u with z | z <;> rw [z] <;> rfl
  simp [imM, h, six_at, m1, m2, n0, n6, ng, l6, e, i, -hI2, -hIx, -hLen]
theorem chkmap_ok {m : Mp} (hm : Mb 1000 1000 m) (u : m.Uni) : m_check_map ad [.im (D6 m)] none = .ok (.im .none) none := by
  have i : m_is_map ad [.im (D6 m)] none = .ok (.im (.bool true)) none := by
    rw [im_eq]
    refine imM_ok (hm.up (by decide) (by decide)) u (imL_ok (by simp) fun d hd => ?_)
    simp only [List.mem_cons, List.not_mem_nil, or_false] at hd
    rcases hd with rfl | rfl | rfl | rfl | rfl | rfl
    · exact near_ok hm.a
    · exact near_ok hm.b
    · exact near_ok hm.c
    · exact near_ok hm.d
    · exact near_ok hm.e
    · exact near_ok hm.f
  simp [m_check_map, i, -hI2]
theorem onebehind_ok {x y : Mp} (hx : Mb 1000 1000 x) (hy : Mb 1000 1000 y) (ux : x.Uni) (uy : y.Uni) : m_one_behind ad [.im (D6 x), .im (D6 y)] none = .ok (.im (D6 (comp x y))) none := by
  have c1 := chkmap_ok (ad := ad) hx ux
  have c2 := chkmap_ok (ad := ad) hy uy
  have b := behind_ok (ad := ad) (hx.up (by decide) (by decide)) (hy.up (by decide) (by decide))
  simp [m_one_behind, c1, c2, b, -hI2]
def back (m : Mp) : Mp := ⟨m.det * m.d, -m.det * m.b, -m.det * m.c, m.det * m.a, -(m.det * m.d * m.e + -m.det * m.b * m.f), -(-m.det * m.c * m.e + m.det * m.a * m.f)⟩
theorem back_le {n k : Nat} {m : Mp} (h : Mb n k m) (u : m.Uni) : Mb n (2 * (n * k)) (back m) := by
  have h5 := dot2 h.d h.b h.e h.f
  have h5' := dot2 (a := m.d) (b := -m.b) h.d (by rw [Int.natAbs_neg]; exact h.b) h.e h.f
  have h6' := dot2 (a := -m.c) (b := m.a) (by rw [Int.natAbs_neg]; exact h.c) h.a h.e h.f
  obtain ⟨h1, h2, h3, h4, _, _⟩ := h
  have e5 : m.d * m.e + -m.b * m.f = m.d * m.e - m.b * m.f := by grind
  have e6 : -m.c * m.e + m.a * m.f = m.a * m.f - m.c * m.e := by grind
  rw [e5] at h5'
  rw [e6] at h6'
  unfold back
  rcases u with z | z
  · rw [z]
    refine ⟨?_, ?_, ?_, ?_, ?_, ?_⟩ <;> dsimp only
    · omega
    · rw [show -1 * m.b = -m.b by omega]; omega
    · rw [show -1 * m.c = -m.c by omega]; omega
    · omega
    · rw [show -(1 * m.d * m.e + -1 * m.b * m.f) = -(m.d * m.e - m.b * m.f) by grind]; omega
    · rw [show -(-1 * m.c * m.e + 1 * m.a * m.f) = -(m.a * m.f - m.c * m.e) by grind]; omega
  · rw [z]
    refine ⟨?_, ?_, ?_, ?_, ?_, ?_⟩ <;> dsimp only
    · omega
    · rw [show - -1 * m.b = m.b by omega]; omega
    · rw [show - -1 * m.c = m.c by omega]; omega
    · omega
    · rw [show -(-1 * m.d * m.e + - -1 * m.b * m.f) = m.d * m.e - m.b * m.f by grind]; omega
    · rw [show -(- -1 * m.c * m.e + -1 * m.a * m.f) = m.a * m.f - m.c * m.e by grind]; omega
theorem back_det (m : Mp) (u : m.Uni) : (back m).det = m.det := by
  have s := Mp.det_sq u
  have : (back m).det = m.det * m.det * m.det := by
    have : (back m).det = m.det * m.det * (m.a * m.d - m.b * m.c) := by unfold back Mp.det; grind
    rw [this]; rfl
  rw [this, s, Int.one_mul]
def idM : Mp := ⟨1, 0, 0, 1, 0, 0⟩
theorem Mp.ext' {x y : Mp} (h1 : x.a = y.a) (h2 : x.b = y.b) (h3 : x.c = y.c) (h4 : x.d = y.d) (h5 : x.e = y.e) (h6 : x.f = y.f) : x = y := by
  cases x; cases y; simp_all
theorem comp_back (m : Mp) (u : m.Uni) : comp m (back m) = idM ∧ comp (back m) m = idM := by
  have s := Mp.det_sq u
  have s' : (m.a * m.d - m.b * m.c) * (m.a * m.d - m.b * m.c) = 1 := s
  constructor
  · refine Mp.ext' ?_ ?_ ?_ ?_ ?_ ?_ <;> (unfold comp back idM Mp.det; dsimp only; grind)
  · refine Mp.ext' ?_ ?_ ?_ ?_ ?_ ?_ <;> (unfold comp back idM Mp.det; dsimp only; grind)
theorem back_app (m : Mp) (u : m.Uni) (p : Pt2) : (back m).app (m.app p) = p := by
  rw [← comp_app, (comp_back m u).1]
  unfold idM Mp.app
  refine Prod.ext ?_ ?_ <;> (dsimp only; omega)
end K07

set_option Elab.async false
set_option linter.all false
set_option autoImplicit false
set_option maxRecDepth 100000
set_option maxHeartbeats 1000000
namespace K07
open PySem PyProof.Rows L2 LamX DL
variable {ad : Ad}
theorem backin_ok {m : Mp} (hm : Mb 1000 1000 m) (u : m.Uni) : m_back_in ad [.im (D6 m)] none = .ok (.im (D6 (back m))) none := by
  have hd : m.det.natAbs ≤ 1 := by rcases u with z | z <;> rw [z] <;> decide
  have m1 := hMul_sm (i := m.a) (j := m.d) (sm_le hm.a) (sm_le hm.d)
  have m2 := hMul_sm (i := m.b) (j := m.c) (sm_le hm.b) (sm_le hm.c)
  have e : hSub (.int (m.a * m.d)) (.int (m.b * m.c)) = some (.im (.int m.det)) := rfl
  have hn : (-m.det).natAbs ≤ 1 := by rw [Int.natAbs_neg]; exact hd
  have m3 := hMul_sm (i := m.det) (j := m.d) (sm_le hd) (sm_le hm.d)
  have m4 := hMul_sm (i := -m.det) (j := m.b) (sm_le hn) (sm_le hm.b)
  have m5 := hMul_sm (i := -m.det) (j := m.c) (sm_le hn) (sm_le hm.c)
  have m6 := hMul_sm (i := m.det) (j := m.a) (sm_le hd) (sm_le hm.a)
  have t : ∀ {x y : Int}, x.natAbs ≤ 1 → y.natAbs ≤ 1000 → (x * y).natAbs ≤ 1000 := fun {x y} h k => by
    rw [Int.natAbs_mul]; have := Nat.mul_le_mul h k; omega
  have m7 := hMul_sm (i := m.det * m.d) (j := m.e) (sm_le (t hd hm.d)) (sm_le hm.e)
  have m8 := hMul_sm (i := -m.det * m.b) (j := m.f) (sm_le (t hn hm.b)) (sm_le hm.f)
  have m9 := hMul_sm (i := -m.det * m.c) (j := m.e) (sm_le (t hn hm.c)) (sm_le hm.e)
  have m10 := hMul_sm (i := m.det * m.a) (j := m.f) (sm_le (t hd hm.a)) (sm_le hm.f)
  have ng : ∀ i : Int, hNeg (.int i) = some (.im (.int (-i))) := fun _ => rfl
  unfold back
  generalize hD : m.det = D at *
  generalize hN : -D = N at *
  generalize h1 : D * m.d = P at *
  generalize h2 : N * m.b = Q at *
  generalize h3 : N * m.c = R at *
  generalize h4 : D * m.a = S at *
  have nD := ng D
  rw [hN] at nD
  simp [m_back_in, m1, m2, e, m3, m4, m5, m6, m7, m8, m9, m10, nD, ng, hAdd_i, -hI2, -hIx, -hNeg]
theorem backof_ok {m : Mp} (hm : Mb 1000 1000 m) (u : m.Uni) : m_back_of ad [.im (D6 m)] none = .ok (.im (D6 (back m))) none := by
  have c1 := chkmap_ok (ad := ad) hm u
  have b := backin_ok (ad := ad) hm u
  simp [m_back_of, c1, b, -hI2]
theorem over_ok {m : Mp} (hm : Mb 1000 1000 m) (u : m.Uni) : m_is_turned_over ad [.im (D6 m)] none = .ok (.im (.bool (decide (m.det < 0)))) none := by
  have c1 := chkmap_ok (ad := ad) hm u
  have m1 := hMul_sm (i := m.a) (j := m.d) (sm_le hm.a) (sm_le hm.d)
  have m2 := hMul_sm (i := m.b) (j := m.c) (sm_le hm.b) (sm_le hm.c)
  have e : hSub (.int (m.a * m.d)) (.int (m.b * m.c)) = some (.im (.int m.det)) := rfl
  have q : hEq (.int m.det) (.int (-1)) = some (.im (.bool (decide (m.det < 0)))) := by rcases u with z | z <;> rw [z] <;> rfl
  have ng : hNeg (.int 1) = some (.im (.int (-1))) := rfl
  simp [m_is_turned_over, c1, six_at, m1, m2, e, q, ng, -hI2, -hIx]
theorem chkpt_ok {p : Pt2} (h : Nr 1000 p) : m_check_point ad [.im (ptD p)] none = .ok (.im .none) none := by
  have n1 := near_ok (ad := ad) h.1
  have n2 := near_ok (ad := ad) h.2
  have i : m_is_point ad [.im (ptD p)] none = .ok (.im (.bool true)) none := by
    have l2 : hLen [ptD p] = some (.im (.int 2)) := rfl
    simp [m_is_point, n1, n2, l2, two_at, -hI2, -hIx, -hLen]
  simp [m_check_point, i, -hI2]
theorem movedpt_ok {m : Mp} {p : Pt2} (hm : Mb 1000 1000 m) (u : m.Uni) (hp : Nr 1000 p) : m_moved_point ad [.im (ptD p), .im (D6 m)] none = .ok (.im (ptD (m.app p))) none := by
  have c1 := chkpt_ok (ad := ad) hp
  have c2 := chkmap_ok (ad := ad) hm u
  have g := gone_ok (ad := ad) (hm.up (by decide) (by decide)) (nr_up hp (by decide))
  simp [m_moved_point, c1, c2, g, -hI2]
/-! drawing -/
theorem drawpt_ok {f : Int} {n : Nat} {l : List Int} (f0 : 0 ≤ f) (f1 : f ≤ 1000) (hn : n ≤ 900000000) (G : Gen n l) : ∃ (p : Pt2) (l' : List Int), m__law_drawn_point ad [.gn, .im (.int f)] (some l) = .ok (.im (ptD p)) (some l') ∧ p.1.natAbs ≤ f.natAbs ∧ p.2.natAbs ≤ f.natAbs ∧ Gen (n + 2) l' := by
  have mm : hMul (.int 2) (.int f) = some (.im (.int (2 * f))) := hMul_sm (sm_of (by decide) (by decide)) (sm_of (by omega) (by omega))
  obtain ⟨x1, g1, u1, u2, u3, G1⟩ := rand_ok (bound := 2 * f + 1) (by omega) (by omega) (by omega) G
  obtain ⟨x2, g2, v1, v2, v3, G2⟩ := rand_ok (bound := 2 * f + 1) (by omega) (by omega) (by omega) G1
  refine ⟨(x1 - f, x2 - f), g2, ?_, by dsimp only; omega, by dsimp only; omega, G2⟩
  simp [m__law_drawn_point, e_random, mm, hAdd_i, u1, v1, hSub_i, -hI2]
def lmB (RA PI : Fn) : DM := (mSeq (mUnp [4, 5, 6, 7, 8, 9] (xVar 1)) (mSeq (mSet 3 (xBin hSub (xUser RA 2 (uGen 0 (uCons (xC (.int 5)) (uNil)))) (xC (.int 2)))) (mSet 1 (xUser PI 2 (uGen 0 (uCons (xLst (aCons (xTup (aCons (xBin hAdd (xVar 4) (xBin hMul (xVar 3) (xVar 6))) (aCons (xBin hAdd (xVar 5) (xBin hMul (xVar 3) (xVar 7))) (aCons (xVar 6) (aCons (xVar 7) (aCons (xVar 8) (aCons (xVar 9) (aNil)))))))) (aCons (xTup (aCons (xVar 4) (aCons (xVar 5) (aCons (xBin hAdd (xVar 6) (xBin hMul (xVar 3) (xVar 4))) (aCons (xBin hAdd (xVar 7) (xBin hMul (xVar 3) (xVar 5))) (aCons (xVar 8) (aCons (xVar 9) (aNil)))))))) (aCons (xTup (aCons (xVar 6) (aCons (xVar 7) (aCons (xVar 4) (aCons (xVar 5) (aCons (xVar 8) (aCons (xVar 9) (aNil)))))))) (aCons (xTup (aCons (xBin hSub (xC (.int 0)) (xVar 4)) (aCons (xBin hSub (xC (.int 0)) (xVar 5)) (aCons (xVar 6) (aCons (xVar 7) (aCons (xVar 8) (aCons (xVar 9) (aNil)))))))) (aNil)))))) (uNil)))))))
def lmM (RA : Fn) (B : DM) : Fn := mkFn 10 1 (mSeq (mSet 1 (xTup (aCons (xC (.int 1)) (aCons (xC (.int 0)) (aCons (xC (.int 0)) (aCons (xC (.int 1)) (aCons (xBin hSub (xUser RA 2 (uGen 0 (uCons (xC (.int 13)) (uNil)))) (xC (.int 6))) (aCons (xBin hSub (xUser RA 2 (uGen 0 (uCons (xC (.int 13)) (uNil)))) (xC (.int 6))) (aNil))))))))) (mSeq (mFor (.nm 2) (xRng1 (aCons (xUser RA 2 (uGen 0 (uCons (xC (.int 4)) (uNil)))) (aNil))) B) (mRetV 1)))
theorem lm_eq : m__law_map ad = lmM fRandom (lmB fRandom fPick) := rfl
theorem lmB_ok {m : Mp} {n k : Nat} {l : List Int} {s2 s3 s4 s5 s6 s7 s8 s9 : Sl} (hn : n ≤ 900000000) (G : Gen n l) (hm : Mb k 6 m) (hk : k ≤ 1000) (u : m.Uni) :
    ∃ (m' : Mp) (l' : List Int) (t3 t4 t5 t6 t7 t8 t9 : Sl), lmB fRandom fPick ⟨[.gn, .im (D6 m), s2, s3, s4, s5, s6, s7, s8, s9], some l⟩ = .nx ⟨[.gn, .im (D6 m'), s2, t3, t4, t5, t6, t7, t8, t9], some l'⟩ ∧ Mb (3 * k) 6 m' ∧ m'.Uni ∧ Gen (n + 2) l' := by
  obtain ⟨x, l1, h1, x0, x1, G1⟩ := rand_ok (bound := 5) (by decide) (by decide) (by omega) G
  have hx : (x - 2).natAbs ≤ 2 := by omega
  have m1 := hMul_sm (i := x - 2) (j := m.c) (sm_le hx) (sm_le (Nat.le_trans hm.c hk))
  have m2 := hMul_sm (i := x - 2) (j := m.d) (sm_le hx) (sm_le (Nat.le_trans hm.d hk))
  have m3 := hMul_sm (i := x - 2) (j := m.a) (sm_le hx) (sm_le (Nat.le_trans hm.a hk))
  have m4 := hMul_sm (i := x - 2) (j := m.b) (sm_le hx) (sm_le (Nat.le_trans hm.b hk))
  have bd : ∀ {y : Int}, y.natAbs ≤ k → ((x - 2) * y).natAbs ≤ 2 * k := fun {y} h => by rw [Int.natAbs_mul]; exact Nat.mul_le_mul hx h
  have b1 := bd hm.a
  have b2 := bd hm.b
  have b3 := bd hm.c
  have b4 := bd hm.d
  obtain ⟨d, l2, h2, dm, G2⟩ := pick_ok (ds := [D6 ⟨m.a + (x - 2) * m.c, m.b + (x - 2) * m.d, m.c, m.d, m.e, m.f⟩, D6 ⟨m.a, m.b, m.c + (x - 2) * m.a, m.d + (x - 2) * m.b, m.e, m.f⟩, D6 ⟨m.c, m.d, m.a, m.b, m.e, m.f⟩, D6 ⟨0 - m.a, 0 - m.b, m.c, m.d, m.e, m.f⟩]) (by simp) (by simp) (by omega) G1
  obtain ⟨m', rfl, q1, q2⟩ : ∃ m' : Mp, d = D6 m' ∧ Mb (3 * k) 6 m' ∧ m'.Uni := by
    obtain ⟨a1, a2, a3, a4, a5, a6⟩ := hm
    unfold Mp.Uni Mp.det at *
    simp only [List.mem_cons, List.not_mem_nil, or_false] at dm
    rcases dm with z | z | z | z
    · exact ⟨_, z, ⟨by dsimp only; omega, by dsimp only; omega, by dsimp only; omega, by dsimp only; omega, a5, a6⟩, by
        have : (m.a + (x - 2) * m.c) * m.d - (m.b + (x - 2) * m.d) * m.c = m.a * m.d - m.b * m.c := by grind
        dsimp only; rw [this]; exact u⟩
    · exact ⟨_, z, ⟨by dsimp only; omega, by dsimp only; omega, by dsimp only; omega, by dsimp only; omega, a5, a6⟩, by
        have : m.a * (m.d + (x - 2) * m.b) - m.b * (m.c + (x - 2) * m.a) = m.a * m.d - m.b * m.c := by grind
        dsimp only; rw [this]; exact u⟩
    · exact ⟨_, z, ⟨by dsimp only; omega, by dsimp only; omega, by dsimp only; omega, by dsimp only; omega, a5, a6⟩, by
        have : m.c * m.b - m.d * m.a = -(m.a * m.d - m.b * m.c) := by grind
        dsimp only; rw [this]; rcases u with h | h <;> rw [h] <;> decide⟩
    · exact ⟨_, z, ⟨by dsimp only; omega, by dsimp only; omega, by dsimp only; omega, by dsimp only; omega, a5, a6⟩, by
        have : (0 - m.a) * m.d - (0 - m.b) * m.c = -(m.a * m.d - m.b * m.c) := by grind
        dsimp only; rw [this]; rcases u with h | h <;> rw [h] <;> decide⟩
  refine ⟨m', l2, .im (.int (x - 2)), .im (.int m.a), .im (.int m.b), .im (.int m.c), .im (.int m.d), .im (.int m.e), .im (.int m.f), ?_, q1, q2, G2⟩
  have e0 : ∀ y : Int, hSub (.int 0) (.int y) = some (.im (.int (0 - y))) := fun _ => rfl
  simp only [D6] at h2
  simp [lmB, h1, hSub_i, m1, m2, m3, m4, hAdd_i, h2, -hI2, -Int.zero_sub]
end K07

set_option Elab.async false
set_option linter.all false
set_option autoImplicit false
set_option maxRecDepth 100000
set_option maxHeartbeats 1000000
namespace K07
open PySem PyProof.Rows L2 LamX DL
variable {ad : Ad}
def mr0 (F__law_map : Fn) : DM := mPar3 1 2 3 (aCons (xUser (F__law_map) 1 (uGen 0 (uNil))) (aCons (xUser (F__law_map) 1 (uGen 0 (uNil))) (aCons (xUser (F__law_map) 1 (uGen 0 (uNil))) (aNil))))
def mr1 (F_one_behind : Fn) (F_back_of : Fn) : DM := mPar 4 5 (aCons (xUser (F_one_behind) 2 (uCons (xVar 1) (uCons (xVar 2) (uNil)))) (aCons (xUser (F_back_of) 1 (uCons (xVar 1) (uNil))) (aNil)))
def mr2 (F__law_exact : Fn) (F_one_behind : Fn) (F_back_of : Fn) (F__law_behind : Fn) : DM := mIf (xNot (xUser (F__law_exact) 2 (uCons (xLst (aCons (xVar 4) (aCons (xUserK (F_one_behind) 2 [1, 0] (aCons (xVar 2) (aCons (xVar 1) (aNil)))) (aCons (xUserK (F_back_of) 1 [0] (aCons (xVar 1) (aNil))) (aNil))))) (uCons (xLst (aCons (xUser (F__law_behind) 2 (uCons (xVar 1) (uCons (xVar 2) (uNil)))) (aCons (xUser (F__law_behind) 2 (uCons (xVar 1) (uCons (xVar 2) (uNil)))) (aCons (xVar 5) (aNil))))) (uNil))))) (mRet (xC (.bool false))) (mNil)
def mr3 (F__law_behind : Fn) (F__law_exact : Fn) (F_one_behind : Fn) : DM := mIf (xOr (xBin hNe (xUser (F__law_behind) 2 (uCons (xVar 1) (uCons (xVar 5) (uNil)))) (xTup (aCons (xC (.int 1)) (aCons (xC (.int 0)) (aCons (xC (.int 0)) (aCons (xC (.int 1)) (aCons (xC (.int 0)) (aCons (xC (.int 0)) (aNil))))))))) (xOr (xBin hNe (xUser (F__law_behind) 2 (uCons (xVar 5) (uCons (xVar 1) (uNil)))) (xTup (aCons (xC (.int 1)) (aCons (xC (.int 0)) (aCons (xC (.int 0)) (aCons (xC (.int 1)) (aCons (xC (.int 0)) (aCons (xC (.int 0)) (aNil))))))))) (xNot (xUser (F__law_exact) 2 (uCons (xUser (F__law_behind) 2 (uCons (xVar 4) (uCons (xVar 3) (uNil)))) (uCons (xUser (F__law_behind) 2 (uCons (xVar 1) (uCons (xUser (F_one_behind) 2 (uCons (xVar 2) (uCons (xVar 3) (uNil)))) (uNil)))) (uNil))))))) (mRet (xC (.bool false))) (mNil)
def mr4 : DM := mSet 6 (xLc (.nm 7) (xSeq (xTup (aCons (xVar 1) (aCons (xVar 2) (aCons (xVar 4) (aNil)))))) none (xBin hLt (xBin hSub (xBin hMul (xIxV 7 (xC (.int 0))) (xIxV 7 (xC (.int 3)))) (xBin hMul (xIxV 7 (xC (.int 1))) (xIxV 7 (xC (.int 2))))) (xC (.int 0))) [7])
def mr5 (F__law_exact : Fn) (F_is_turned_over : Fn) : DM := mIf (xOr (xNot (xUser (F__law_exact) 2 (uCons (xLst (aCons (xUser (F_is_turned_over) 1 (uCons (xVar 1) (uNil))) (aCons (xUserK (F_is_turned_over) 1 [0] (aCons (xVar 2) (aNil))) (aNil)))) (uCons (xSlice (xVar 6) .no (.ex (xC (.int 2)))) (uNil))))) (xBin hNe (xIxV 6 (xC (.int 2))) (xBin hNe (xIxV 6 (xC (.int 0))) (xIxV 6 (xC (.int 1)))))) (mRet (xC (.bool false))) (mNil)
def mr6B (F__law_drawn_point : Fn) (F__law_exact : Fn) (F_moved_point : Fn) (F__law_gone : Fn) : DM := (mSeq (mSet 9 (xUser (F__law_drawn_point) 2 (uGen 0 (uCons (xVar 8) (uNil))))) (mIf (xOr (xNot (xUser (F__law_exact) 2 (uCons (xLst (aCons (xUser (F_moved_point) 2 (uCons (xVar 9) (uCons (xVar 1) (uNil)))) (aCons (xUserK (F_moved_point) 2 [1, 0] (aCons (xVar 1) (aCons (xVar 9) (aNil)))) (aNil)))) (uCons (xLst (aCons (xUser (F__law_gone) 2 (uCons (xVar 9) (uCons (xVar 1) (uNil)))) (aCons (xUser (F__law_gone) 2 (uCons (xVar 9) (uCons (xVar 1) (uNil)))) (aNil)))) (uNil))))) (xBin hNe (xUser (F__law_gone) 2 (uCons (xUser (F_moved_point) 2 (uCons (xVar 9) (uCons (xVar 1) (uNil)))) (uCons (xVar 5) (uNil)))) (xVar 9))) (mRet (xC (.bool false))) (mNil)))
def mr6 (F__law_drawn_point : Fn) (F__law_exact : Fn) (F_moved_point : Fn) (F__law_gone : Fn) : DM := mFor (.nm 8) (xSeq (xTup (aCons (xC (.int 9)) (aCons (xC (.int 1000)) (aNil))))) (mr6B F__law_drawn_point F__law_exact F_moved_point F__law_gone)
def mr7 : DM := mRet (xC (.bool true))
theorem mr_eq : m__law_maps_right ad = mkFn 10 1 (mSeq (mr0 (m__law_map ad)) (mSeq (mr1 (m_one_behind ad) (m_back_of ad)) (mSeq (mr2 (m__law_exact ad 8) (m_one_behind ad) (m_back_of ad) (m__law_behind ad)) (mSeq (mr3 (m__law_behind ad) (m__law_exact ad 8) (m_one_behind ad)) (mSeq (mr4) (mSeq (mr5 (m__law_exact ad 8) (m_is_turned_over ad)) (mSeq (mr6 (m__law_drawn_point ad) (m__law_exact ad 8) (m_moved_point ad) (m__law_gone ad)) (mr7)))))))) := rfl
theorem lawmap_ok {n : Nat} {l : List Int} (hn : n ≤ 800000000) (G : Gen n l) : ∃ (m : Mp) (l' : List Int), m__law_map ad [.gn] (some l) = .ok (.im (D6 m)) (some l') ∧ Mb 27 6 m ∧ m.Uni ∧ Gen (n + 9) l' := by
  obtain ⟨x, l1, h1, x0, x1, G1⟩ := rand_ok (bound := 13) (by decide) (by decide) (by omega) G
  obtain ⟨y, l2, h2, y0, y1, G2⟩ := rand_ok (bound := 13) (by decide) (by decide) (by omega) G1
  obtain ⟨r, l3, h3, r0, r1, G3⟩ := rand_ok (bound := 4) (by decide) (by decide) (by omega) G2
  have q1 : -1000000 < r ∧ r < 1000000 := by omega
  obtain ⟨s', e, m, l', s2, s3, s4, s5, s6, s7, s8, s9, hs, q2, q3, q4⟩ := forM_idx (t := .nm 2) (b := lmB fRandom fPick) (fun k s => ∃ (m : Mp) (l' : List Int) (s2 s3 s4 s5 s6 s7 s8 s9 : Sl), s = ⟨[.gn, .im (D6 m), s2, s3, s4, s5, s6, s7, s8, s9], some l'⟩ ∧ Mb (3 ^ k) 6 m ∧ m.Uni ∧ Gen (n + 3 + 2 * k) l') (l := rngD 0 r.toNat) (k := 0) (s := ⟨[.gn, .im (D6 ⟨1, 0, 0, 1, x - 6, y - 6⟩), .un, .un, .un, .un, .un, .un, .un, .un], some l3⟩)
    ⟨_, _, _, _, _, _, _, _, _, _, rfl, ⟨by simp, by simp, by simp, by simp, by dsimp only; omega, by dsimp only; omega⟩, .inl (by simp [Mp.det]), G3⟩ (fun j v s hv ⟨m, l', s2, s3, s4, s5, s6, s7, s8, s9, hs, b1, b2, b3⟩ => by
      subst hs
      obtain ⟨jr, rfl⟩ := rng_get hv
      have kb : 3 ^ (0 + j) ≤ 1000 := by
        have : 3 ^ (0 + j) ≤ 3 ^ 3 := Nat.pow_le_pow_right (by decide) (by omega)
        omega
      obtain ⟨m', l2', t3, t4, t5, t6, t7, t8, t9, k1, k2, k3, k4⟩ := lmB_ok (s2 := .im (.int (0 + (j : Int)))) (s3 := s3) (s4 := s4) (s5 := s5) (s6 := s6) (s7 := s7) (s8 := s8) (s9 := s9) (by omega) b3 b1 kb b2
      exact ⟨_, _, rfl, k1, m', l2', _, _, _, _, _, _, _, _, rfl, by rw [Nat.pow_succ, Nat.mul_comm]; exact k2, k3, k4.up (by omega)⟩)
  have rl : (rngD 0 r.toNat).length = r.toNat := by simp [rngD]
  rw [rl, Nat.zero_add] at q2 q4
  refine ⟨m, l', ?_, q2.up (by
    have : 3 ^ r.toNat ≤ 3 ^ 3 := Nat.pow_le_pow_right (by decide) (by omega)
    exact this) (Nat.le_refl _), q3, q4.up (by omega)⟩
  subst hs
  rw [lm_eq]
  generalize lmB fRandom fPick = B at *
  have rg := xRng1_ok (t := aCons (xUser fRandom 2 (uGen 0 (uCons (xC (.int 4)) (uNil)))) aNil) (s := ⟨[.gn, .im (D6 ⟨1, 0, 0, 1, x - 6, y - 6⟩), .un, .un, .un, .un, .un, .un, .un, .un], some l2⟩) (s1 := ⟨[.gn, .im (D6 ⟨1, 0, 0, 1, x - 6, y - 6⟩), .un, .un, .un, .un, .un, .un, .un, .un], some l3⟩) (j := r) (by simp [h3, -hI2]) q1 rfl
  have fo := mFor_ok rg e
  simp only [D6] at fo
  simp [lmM, h1, h2, hSub_i, fo, -hI2]
/-! all maps -/
theorem mr0_ok {LM : Fn} {o t h : PyData} {l l1 l2 l3 : List Int} (e1 : LM [.gn] (some l) = .ok (.im o) (some l1)) (e2 : LM [.gn] (some l1) = .ok (.im t) (some l2)) (e3 : LM [.gn] (some l2) = .ok (.im h) (some l3)) :
    mr0 LM ⟨[.gn, .un, .un, .un, .un, .un, .un, .un, .un, .un], some l⟩ = .nx ⟨[.gn, .im o, .im t, .im h, .un, .un, .un, .un, .un, .un], some l3⟩ := by
  by_cases f : (flat o && flat t && flat h) = true
  · simp [mr0, e1, e2, e3, f]
  · simp [mr0, e1, e2, e3, f]
theorem mr1_ok {OB BO : Fn} {o t h b k : PyData} {g : Option (List Int)} (e1 : OB [.im o, .im t] none = .ok (.im b) none) (e2 : BO [.im o] none = .ok (.im k) none) :
    mr1 OB BO ⟨[.gn, .im o, .im t, .im h, .un, .un, .un, .un, .un, .un], g⟩ = .nx ⟨[.gn, .im o, .im t, .im h, .im b, .im k, .un, .un, .un, .un], g⟩ := by
  by_cases f : (flat b && flat k) = true
  · simp [mr1, e1, e2, f]
  · simp [mr1, e1, e2, f]
theorem mr2_ok {EX OB BO LB : Fn} {o t h b k : PyData} {g : Option (List Int)} (e1 : OB [.im o, .im t] none = .ok (.im b) none) (e2 : BO [.im o] none = .ok (.im k) none) (e3 : LB [.im o, .im t] none = .ok (.im b) none) (x : EX [.im (.list [b, b, k]), .im (.list [b, b, k])] none = .ok (.im (.bool true)) none) :
    mr2 EX OB BO LB ⟨[.gn, .im o, .im t, .im h, .im b, .im k, .un, .un, .un, .un], g⟩ = .nx ⟨[.gn, .im o, .im t, .im h, .im b, .im k, .un, .un, .un, .un], g⟩ := by
  simp [mr2, e1, e2, e3, x, reord, -hI2]
theorem mr3_ok {EX OB LB : Fn} {o t h b k c d : PyData} {g : Option (List Int)} (e1 : LB [.im o, .im k] none = .ok (.im (D6 idM)) none) (e2 : LB [.im k, .im o] none = .ok (.im (D6 idM)) none) (e3 : LB [.im b, .im h] none = .ok (.im c) none) (e4 : OB [.im t, .im h] none = .ok (.im d) none) (e5 : LB [.im o, .im d] none = .ok (.im c) none) (x : EX [.im c, .im c] none = .ok (.im (.bool true)) none) :
    mr3 LB EX OB ⟨[.gn, .im o, .im t, .im h, .im b, .im k, .un, .un, .un, .un], g⟩ = .nx ⟨[.gn, .im o, .im t, .im h, .im b, .im k, .un, .un, .un, .un], g⟩ := by
  have n : hNe (D6 idM) (.tuple [.int 1, .int 0, .int 0, .int 1, .int 0, .int 0]) = some (.im (.bool false)) := rfl
  simp [mr3, e1, e2, e3, e4, e5, x, n, -hI2]
def mrL : DX := xLc (.nm 7) (xSeq (xTup (aCons (xVar 1) (aCons (xVar 2) (aCons (xVar 4) (aNil)))))) none (xBin hLt (xBin hSub (xBin hMul (xIxV 7 (xC (.int 0))) (xIxV 7 (xC (.int 3)))) (xBin hMul (xIxV 7 (xC (.int 1))) (xIxV 7 (xC (.int 2))))) (xC (.int 0))) [7]
theorem mr4_eq : mr4 = mSet 6 mrL := rfl
theorem mrL_ok {m1 m2 m3 : Mp} {h k : PyData} {g : Option (List Int)} (b1 : Mb 1000000 1000000000 m1) (b2 : Mb 1000000 1000000000 m2) (b3 : Mb 1000000 1000000000 m3) :
    mrL ⟨[.gn, .im (D6 m1), .im (D6 m2), .im h, .im (D6 m3), .im k, .un, .un, .un, .un], g⟩ = .ok (.ow [.bool (decide (m1.det < 0)), .bool (decide (m2.det < 0)), .bool (decide (m3.det < 0))]) ⟨[.gn, .im (D6 m1), .im (D6 m2), .im h, .im (D6 m3), .im k, .un, .un, .un, .un], g⟩ := by
  unfold mrL
  refine xLc_gen (l := [m1, m2, m3]) D6 (fun m => .bool (decide (m.det < 0))) (by simp [xSeq]) rfl (by simp) rfl ?_
  intro m hm
  have bm : Mb 1000000 1000000000 m := by
    simp only [List.mem_cons, List.not_mem_nil, or_false] at hm
    rcases hm with rfl | rfl | rfl <;> assumption
  have p1 := hMul_sm (i := m.a) (j := m.d) (sm_le bm.a) (sm_le bm.d)
  have p2 := hMul_sm (i := m.b) (j := m.c) (sm_le bm.b) (sm_le bm.c)
  have e : hSub (.int (m.a * m.d)) (.int (m.b * m.c)) = some (.im (.int m.det)) := rfl
  refine ⟨⟨[.gn, .im (D6 m1), .im (D6 m2), .im h, .im (D6 m3), .im k, .un, .im (D6 m), .un, .un], g⟩, ⟨[.gn, .im (D6 m1), .im (D6 m2), .im h, .im (D6 m3), .im k, .un, .im (D6 m), .un, .un], g⟩, rfl, ?_, rfl⟩
  simp [six_at, p1, p2, e, hLt_i, -hI2, -hIx]
theorem mr4_ok {s : Sd} {ds : List PyData} (h : mrL s = .ok (.ow ds) s) : mr4 s = .nx ⟨s.σ.set 6 (.ow ds), s.g⟩ := by
  rw [mr4_eq]
  generalize mrL = L at *
  simp [h]
theorem mr5_ok {EX IO : Fn} {o t h b k : PyData} {b1 b2 b3 : Bool} {g : Option (List Int)} (e1 : IO [.im o] none = .ok (.im (.bool b1)) none) (e2 : IO [.im t] none = .ok (.im (.bool b2)) none) (x : EX [.im (.list [.bool b1, .bool b2]), .im (.list [.bool b1, .bool b2])] none = .ok (.im (.bool true)) none) (hb : b3 = (b1 != b2)) :
    mr5 EX IO ⟨[.gn, .im o, .im t, .im h, .im b, .im k, .ow [.bool b1, .bool b2, .bool b3], .un, .un, .un], g⟩ = .nx ⟨[.gn, .im o, .im t, .im h, .im b, .im k, .ow [.bool b1, .bool b2, .bool b3], .un, .un, .un], g⟩ := by
  have c : hSl (.list [.bool b1, .bool b2, .bool b3]) none (some 2) = some (.ow [.bool b1, .bool b2]) := rfl
  have i3 : ∀ u v w : PyData, hIx (.list [u, v, w]) (.int 0) = some (.im u) ∧ hIx (.list [u, v, w]) (.int 1) = some (.im v) ∧ hIx (.list [u, v, w]) (.int 2) = some (.im w) := fun u v w => ⟨rfl, rfl, rfl⟩
  have n1 : ∀ u v : Bool, hNe (.bool u) (.bool v) = some (.im (.bool (u != v))) := fun u v => by cases u <;> cases v <;> rfl
  subst hb
  have z : ((b1 != b2) != (b1 != b2)) = false := by cases b1 <;> cases b2 <;> rfl
  simp [mr5, e1, e2, reord, xSlice, SlP.k, c, x, i3, n1, -hI2, -hIx]
theorem mr6B_ok {DP EX MP GO : Fn} {o t h b k : PyData} {p q : Pt2} {f : Int} {s6 s7 s9 : Sl} {l l1 : List Int} (e1 : DP [.gn, .im (.int f)] (some l) = .ok (.im (ptD p)) (some l1)) (e2 : MP [.im (ptD p), .im o] none = .ok (.im (ptD q)) none) (e3 : GO [.im (ptD p), .im o] none = .ok (.im (ptD q)) none) (e4 : GO [.im (ptD q), .im k] none = .ok (.im (ptD p)) none) (x : EX [.im (.list [ptD q, ptD q]), .im (.list [ptD q, ptD q])] none = .ok (.im (.bool true)) none) (n : hNe (ptD p) (ptD p) = some (.im (.bool false))) :
    mr6B DP EX MP GO ⟨[.gn, .im o, .im t, .im h, .im b, .im k, s6, s7, .im (.int f), s9], some l⟩ = .nx ⟨[.gn, .im o, .im t, .im h, .im b, .im k, s6, s7, .im (.int f), .im (ptD p)], some l1⟩ := by
  simp [mr6B, e1, e2, e3, e4, x, n, reord, -hI2]
theorem mr6_ok {DP EX MP GO : Fn} {o t h b k : PyData} {s6 : Sl} {n : Nat} {l : List Int} (G : Gen n l) (hn : n ≤ 800000000)
    (F : ∀ (f : Int) (n : Nat) (l : List Int), (f = 9 ∨ f = 1000) → n ≤ 900000000 → Gen n l → ∃ (p q : Pt2) (l1 : List Int), DP [.gn, .im (.int f)] (some l) = .ok (.im (ptD p)) (some l1) ∧ MP [.im (ptD p), .im o] none = .ok (.im (ptD q)) none ∧ GO [.im (ptD p), .im o] none = .ok (.im (ptD q)) none ∧ GO [.im (ptD q), .im k] none = .ok (.im (ptD p)) none ∧ EX [.im (.list [ptD q, ptD q]), .im (.list [ptD q, ptD q])] none = .ok (.im (.bool true)) none ∧ Gen (n + 2) l1) :
    ∃ (l' : List Int) (t8 t9 : Sl), mr6 DP EX MP GO ⟨[.gn, .im o, .im t, .im h, .im b, .im k, s6, .un, .un, .un], some l⟩ = .nx ⟨[.gn, .im o, .im t, .im h, .im b, .im k, s6, .un, t8, t9], some l'⟩ ∧ Gen (n + 4) l' := by
  obtain ⟨p, q, l1, a1, a2, a3, a4, a5, G1⟩ := F 9 n l (.inl rfl) (by omega) G
  obtain ⟨p', q', l2, b1, b2, b3, b4, b5, G2⟩ := F 1000 (n + 2) l1 (.inr rfl) (by omega) G1
  refine ⟨l2, .im (.int 1000), .im (ptD p'), ?_, G2⟩
  have c1 := mr6B_ok (t := t) (h := h) (b := b) (s6 := s6) (s7 := .un) (s9 := .un) a1 a2 a3 a4 a5 (hNe_self (pl_pt p).shaped)
  have c2 := mr6B_ok (t := t) (h := h) (b := b) (s6 := s6) (s7 := .un) (s9 := .im (ptD p)) b1 b2 b3 b4 b5 (hNe_self (pl_pt p').shaped)
  unfold mr6
  refine mFor_ok (s1 := ⟨[.gn, .im o, .im t, .im h, .im b, .im k, s6, .un, .un, .un], some l⟩) (ds := [.int 9, .int 1000]) (by simp [xSeq]) ?_
  generalize mr6B DP EX MP GO = B at *
  simp only [DL.forM, Tg.put]
  simp [c1, c2]
theorem mrfin {A B C D E F H : DM} {s1 s2 s3 s4 s5 s6 : Sd} {σ7 : List Sl} {l l' : List Int} (a0 : A ⟨[.gn, .un, .un, .un, .un, .un, .un, .un, .un, .un], some l⟩ = .nx s1) (a1 : B s1 = .nx s2) (a2 : C s2 = .nx s3) (a3 : D s3 = .nx s4) (a4 : E s4 = .nx s5) (a5 : F s5 = .nx s6) (a6 : H s6 = .nx ⟨σ7, some l'⟩) :
    mkFn 10 1 (mSeq A (mSeq B (mSeq C (mSeq D (mSeq E (mSeq F (mSeq H mr7))))))) [.gn] (some l) = .ok (.im (.bool true)) (some l') := by
  simp [mkFn, hasGn, a0, a1, a2, a3, a4, a5, a6, mr7]
theorem mapsright_ok {n : Nat} {l : List Int} (hn : n ≤ 700000000) (G : Gen n l) : ∃ l', m__law_maps_right ad [.gn] (some l) = .ok (.im (.bool true)) (some l') ∧ Gen (n + 31) l' := by
  obtain ⟨o, l1, e1, o1, o2, G1⟩ := lawmap_ok (ad := ad) (by omega) G
  obtain ⟨t, l2, e2, t1, t2, G2⟩ := lawmap_ok (ad := ad) (by omega) G1
  obtain ⟨h, l3, e3, h1, h2, G3⟩ := lawmap_ok (ad := ad) (by omega) G2
  have o3 : Mb 1000 1000 o := o1.up (by decide) (by decide)
  have t3 : Mb 1000 1000 t := t1.up (by decide) (by decide)
  have h3 : Mb 1000 1000 h := h1.up (by decide) (by decide)
  have cb : Mb 1458 330 (comp o t) := comp_le o1 t1
  have ck : Mb 27 324 (back o) := back_le o1 o2
  have ct : Mb 1458 330 (comp t h) := comp_le t1 h1
  have q1 := onebehind_ok (ad := ad) o3 t3 o2 t2
  have q2 := backof_ok (ad := ad) o3 o2
  have q3 := lbehind_ok (ad := ad) (x := o) (y := t) (o1.up (by decide) (by decide)) (t1.up (by decide) (by decide))
  have x6 : ∀ m : Mp, Exk 1 (D6 m) := fun m => .tup (by simp) (fun x hx => by
    simp only [List.mem_cons, List.not_mem_nil, or_false] at hx
    rcases hx with rfl | rfl | rfl | rfl | rfl | rfl <;> exact .int _)
  have x1 := exact_ok (ad := ad) (k := 8) 2 (d := .list [D6 (comp o t), D6 (comp o t), D6 (back o)]) (.lst (by simp) (fun x hx => by
    simp only [List.mem_cons, List.not_mem_nil, or_false] at hx
    rcases hx with rfl | rfl | rfl <;> exact x6 _)) (by decide)
  have r1 := lbehind_ok (ad := ad) (x := o) (y := back o) (o1.up (by decide) (by decide)) (ck.up (by decide) (by decide))
  have r2 := lbehind_ok (ad := ad) (x := back o) (y := o) (ck.up (by decide) (by decide)) (o1.up (by decide) (by decide))
  rw [(comp_back o o2).1] at r1
  rw [(comp_back o o2).2] at r2
  have r3 := lbehind_ok (ad := ad) (x := comp o t) (y := h) (cb.up (by decide) (by decide)) (h1.up (by decide) (by decide))
  have r4 := onebehind_ok (ad := ad) t3 h3 t2 h2
  have r5 := lbehind_ok (ad := ad) (x := o) (y := comp t h) (o1.up (by decide) (by decide)) (ct.up (by decide) (by decide))
  rw [← comp_assoc] at r5
  have x2 := exact_ok (ad := ad) (k := 8) 1 (x6 (comp (comp o t) h)) (by decide)
  have v1 := over_ok (ad := ad) o3 o2
  have v2 := over_ok (ad := ad) t3 t2
  have x3 := exact_ok (ad := ad) (k := 8) 1 (d := .list [.bool (decide (o.det < 0)), .bool (decide (t.det < 0))]) (.lst (by simp) (fun x hx => by
    simp only [List.mem_cons, List.not_mem_nil, or_false] at hx
    rcases hx with rfl | rfl <;> exact .bool _)) (by decide)
  have sg : decide ((comp o t).det < 0) = (decide (o.det < 0) != decide (t.det < 0)) := by
    rw [comp_det]
    rcases o2 with z | z <;> rcases t2 with y | y <;> rw [z, y] <;> rfl
  have a0 := mr0_ok e1 e2 e3
  have a1 := mr1_ok (h := D6 h) (g := some l3) q1 q2
  have a2 := mr2_ok (h := D6 h) (g := some l3) q1 q2 q3 x1
  have a3 := mr3_ok (g := some l3) r1 r2 r3 r4 r5 x2
  have a4 := mr4_ok (mrL_ok (m1 := o) (m2 := t) (m3 := comp o t) (h := D6 h) (k := D6 (back o)) (g := some l3) (o1.up (by decide) (by decide)) (t1.up (by decide) (by decide)) (cb.up (by decide) (by decide)))
  have a5 := mr5_ok (h := D6 h) (b := D6 (comp o t)) (k := D6 (back o)) (g := some l3) v1 v2 x3 sg
  obtain ⟨l', t8, t9, a6, G4⟩ := mr6_ok (DP := m__law_drawn_point ad) (EX := m__law_exact ad 8) (MP := m_moved_point ad) (GO := m__law_gone ad) (o := D6 o) (t := D6 t) (h := D6 h) (b := D6 (comp o t)) (k := D6 (back o)) (s6 := .ow [.bool (decide (o.det < 0)), .bool (decide (t.det < 0)), .bool (decide ((comp o t).det < 0))]) G3 (by omega) (fun f n l hf hn G => by
    obtain ⟨p, l1, d1, d2, d3, d4⟩ := drawpt_ok (ad := ad) (f := f) (by omega) (by omega) hn G
    have np : Nr 1000 p := by rcases hf with rfl | rfl <;> exact ⟨by omega, by omega⟩
    have nq : Nr 54006 (o.app p) := app_le o1 np
    refine ⟨p, o.app p, l1, d1, movedpt_ok o3 o2 np, lgone_ok (o1.up (by decide) (by decide)) (nr_up np (by decide)), ?_, exact_ok 2 (.lst (by simp) (fun x hx => by
      simp only [List.mem_cons, List.not_mem_nil, or_false] at hx
      rcases hx with rfl | rfl <;> exact exk_pt _)) (by decide), d4⟩
    have := lgone_ok (ad := ad) (m := back o) (p := o.app p) (ck.up (by decide) (by decide)) (nr_up nq (by decide))
    rw [back_app o o2] at this
    exact this)
  refine ⟨l', ?_, G4.up (by omega)⟩
  rw [mr_eq]
  exact mrfin a0 a1 a2 a3 a4 a5 a6
end K07

set_option Elab.async false
set_option linter.all false
set_option autoImplicit false
set_option maxRecDepth 100000
set_option maxHeartbeats 1000000
namespace K07
open PySem PyProof.Rows L2 LamX DL
variable {ad : Ad}
def fr0 (F__law_map : Fn) (F__law_copied : Fn) : DM := mUnp [2, 3] (xTup (aCons (xUser (F__law_map) 1 (uGen 0 (uNil))) (aCons (xUser (F__law_copied) 1 (uCons (xVar 1) (uNil))) (aNil))))
def fr1 (F__law_ring : Fn) (F__law_gone : Fn) (F_moved : Fn) : DM := mPar2L 4 5 (xUser (F__law_ring) 1 (uCons (xLc (.nm 6) (xSeq (xVar 1)) none (xUser (F__law_gone) 2 (uCons (xVar 6) (uCons (xVar 2) (uNil)))) [6]) (uNil))) (xUser (F_moved) 2 (uCons (xVar 1) (uCons (xVar 2) (uNil))))
def fr2 (F__law_exact : Fn) (F_moved : Fn) : DM := mIf (xOr (xNot (xUser (F__law_exact) 2 (uCons (xLst (aCons (xVar 5) (aCons (xUserK (F_moved) 2 [1, 0] (aCons (xVar 2) (aCons (xVar 1) (aNil)))) (aCons (xVar 1) (aNil))))) (uCons (xLst (aCons (xVar 4) (aCons (xVar 4) (aCons (xVar 3) (aNil))))) (uNil))))) (xBin hNe (xCall hLen (aCons (xVar 5) (aNil))) (xCall hLen (aCons (xVar 1) (aNil))))) (mRet (xC (.bool false))) (mNil)
def fr3 (F__law_exact : Fn) (F_twice_area : Fn) (F_rim_count : Fn) (F_inner_count : Fn) : DM := mIf (xNot (xUser (F__law_exact) 2 (uCons (xLst (aCons (xUser (F_twice_area) 1 (uCons (xVar 5) (uNil))) (aCons (xUser (F_rim_count) 1 (uCons (xVar 5) (uNil))) (aCons (xUser (F_inner_count) 1 (uCons (xVar 5) (uNil))) (aNil))))) (uCons (xLst (aCons (xUser (F_twice_area) 1 (uCons (xVar 1) (uNil))) (aCons (xUser (F_rim_count) 1 (uCons (xVar 1) (uNil))) (aCons (xUser (F_inner_count) 1 (uCons (xVar 1) (uNil))) (aNil))))) (uNil))))) (mRet (xC (.bool false))) (mNil)
def fr4 (F_back_of : Fn) : DM := mSet 7 (xUser (F_back_of) 1 (uCons (xVar 2) (uNil)))
def fr5 (F__law_exact : Fn) (F_moved : Fn) : DM := mIf (xAnd (xBin hLt (xCall hMaxG (aCons (xLc (.nm 8) (xSeq (xVar 7)) none (xCall hAbs (aCons (xVar 8) (aNil))) [8]) (aNil))) (xC (.int 1001))) (xNot (xUser (F__law_exact) 2 (uCons (xUser (F_moved) 2 (uCons (xVar 4) (uCons (xVar 7) (uNil)))) (uCons (xVar 3) (uNil)))))) (mRet (xC (.bool false))) (mNil)
def fr6 : DM := mApp 5 (xC (.int 0))
def fr7 (F__law_exact : Fn) (F_moved : Fn) : DM := mRet (xUser (F__law_exact) 2 (uCons (xLst (aCons (xUser (F_moved) 2 (uCons (xVar 1) (uCons (xVar 2) (uNil)))) (aCons (xVar 1) (aNil)))) (uCons (xLst (aCons (xVar 4) (aCons (xVar 3) (aNil)))) (uNil))))
theorem fr_eq : m__law_figures_right ad = mkFn 9 2 (mSeq (fr0 (m__law_map ad) (m__law_copied ad 8)) (mSeq (fr1 (m__law_ring ad) (m__law_gone ad) (m_moved ad)) (mSeq (fr2 (m__law_exact ad 8) (m_moved ad)) (mSeq (fr3 (m__law_exact ad 8) (m_twice_area ad) (m_rim_count ad) (m_inner_count ad)) (mSeq (fr4 (m_back_of ad)) (mSeq (fr5 (m__law_exact ad 8) (m_moved ad)) (mSeq (fr6) (fr7 (m__law_exact ad 8) (m_moved ad))))))))) := rfl
theorem e_step : m_steps_between ad = fStep := rfl
theorem e_rim : m_rim_in ad = fRim := rfl
theorem e_inner : m_inner_in ad = fInner fAreaIn fRim := rfl
theorem near9 {l : List Pt2} (h : ∀ c ∈ l, Nr 9 c) : ∀ c ∈ l, Nr 1000000 c := fun c hc => nr_up (h c hc) (by decide)
theorem fig_near {l : List Pt2} (f : Fig l) : ∀ c ∈ l, Nr 1000000 c := fun c hc => nr_up (f.1.near c hc) (by decide)
theorem chkfig_ok {l : List Pt2} (f : Fig l) : m_check_figure ad [.im (.list (ptsD l))] none = .ok (.im .none) none := chkFigure_ok f
theorem two3_gen {CF AR RI IN : Fn} {D : PyData} {a r i : Int} (c : CF [.im D] none = .ok (.im .none) none) (h : AR [.im D] none = .ok (.im (.int a)) none) : mkFn 1 1 (mSeq (mDrop (xUser CF 1 (uCons (xVar 0) (uNil)))) (mRet (xUser AR 1 (uCons (xVar 0) (uNil))))) [.im D] none = .ok (.im (.int a)) none := by
  simp [c, h, -hI2]
theorem twice_ok {l : List Pt2} (f : Fig l) : m_twice_area ad [.im (.list (ptsD l))] none = .ok (.im (.int (areaV l))) none :=
  two3_gen (CF := m_check_figure ad) (AR := fAreaIn) (RI := fRim) (IN := fRim) (r := 0) (i := 0) (chkfig_ok f) (areaV_ok f.1.one f.1.most (fig_near f))
theorem rimc_ok {l : List Pt2} (f : Fig l) : m_rim_count ad [.im (.list (ptsD l))] none = .ok (.im (.int (rimV l))) none :=
  two3_gen (CF := m_check_figure ad) (AR := fRim) (RI := fRim) (IN := fRim) (r := 0) (i := 0) (chkfig_ok f) (rim_ok f.1.one f.1.most)
theorem innc_ok {l : List Pt2} (f : Fig l) : m_inner_count ad [.im (.list (ptsD l))] none = .ok (.im (.int (innV l))) none :=
  two3_gen (CF := m_check_figure ad) (AR := fInner fAreaIn fRim) (RI := fRim) (IN := fRim) (r := 0) (i := 0) (chkfig_ok f) (inner_ok f.1.one f.1.most (fig_near f))
/-! moved -/
def mvL (GO : Fn) : DX := xLc (.nm 2) (xSeq (xVar 0)) none (xUser GO 2 (uCons (xVar 2) (uCons (xVar 1) (uNil)))) [2]
def mvM (RO : Fn) (L : DX) : Fn := mkFn 3 2 (mRet (xUser RO 1 (uCons L (uNil))))
theorem mv_eq : m_moved_in ad = mvM (m_ring_of ad) (mvL (m_gone ad)) := rfl
theorem mvL_ok {GO : Fn} {l : List Pt2} {t : PyData} {f : Pt2 → Pt2} (n : l.length ≤ 1000) (h : ∀ p ∈ l, GO [.im (ptD p), .im t] none = .ok (.im (ptD (f p))) none) : mvL GO ⟨[.im (.list (ptsD l)), .im t, .un], none⟩ = .ok (.ow (ptsD (l.map f))) ⟨[.im (.list (ptsD l)), .im t, .un], none⟩ := by
  have e : ptsD (l.map f) = l.map fun p => ptD (f p) := by unfold ptsD; rw [List.map_map]; rfl
  rw [e]
  unfold mvL
  refine xLc_gen (l := l) ptD (fun p => ptD (f p)) (by simp [xSeq]) rfl (by omega) rfl ?_
  intro p hp
  have k := h p hp
  refine ⟨⟨[.im (.list (ptsD l)), .im t, .im (ptD p)], none⟩, ⟨[.im (.list (ptsD l)), .im t, .im (ptD p)], none⟩, rfl, ?_, rfl⟩
  generalize ptsD l = D
  simp [k, -hI2]
theorem mvM_ok {RO : Fn} {L : DX} {D t : PyData} {X Y : List PyData} (e : L ⟨[.im D, .im t, .un], none⟩ = .ok (.ow X) ⟨[.im D, .im t, .un], none⟩) (r : RO [.im (.list X)] none = .ok (.ow Y) none) : mvM RO L [.im D, .im t] none = .ok (.ow Y) none := by
  simp [mvM, e, r, -hI2]
theorem movedin_ok {m : Mp} {l : List Pt2} (hm : Mb 1000 1000 m) (f : Fig l) (im : ∀ c ∈ l.map m.app, Nr 1000000 c) : m_moved_in ad [.im (.list (ptsD l)), .im (D6 m)] none = .ok (.ow (ptsD (mvd m l))) none := by
  rw [mv_eq]
  exact mvM_ok (mvL_ok (by have := f.1.most; omega) (fun p hp => gone_ok (hm.up (by decide) (by decide)) (nr_up (f.1.near p hp) (by decide)))) (ringof_ow (h := fHalfA) hf_a im (by rw [List.length_map]; have := f.1.most; omega))
theorem moved_gen {CF CM MI : Fn} {D t : PyData} {Y : List PyData} (c1 : CF [.im D] none = .ok (.im .none) none) (c2 : CM [.im t] none = .ok (.im .none) none) (h : MI [.im D, .im t] none = .ok (.ow Y) none) : mkFn 2 2 (mSeq (mDrop (xUser CF 1 (uCons (xVar 0) (uNil)))) (mSeq (mDrop (xUser CM 1 (uCons (xVar 1) (uNil)))) (mRet (xUser MI 2 (uCons (xVar 0) (uCons (xVar 1) (uNil))))))) [.im D, .im t] none = .ok (.ow Y) none := by
  simp [c1, c2, h, -hI2]
theorem moved_ok {m : Mp} {l : List Pt2} (hm : Mb 1000 1000 m) (u : m.Uni) (f : Fig l) (im : ∀ c ∈ l.map m.app, Nr 1000000 c) : m_moved ad [.im (.list (ptsD l)), .im (D6 m)] none = .ok (.ow (ptsD (mvd m l))) none :=
  moved_gen (CF := m_check_figure ad) (CM := m_check_map ad) (MI := m_moved_in ad) (chkfig_ok f) (chkmap_ok hm u) (movedin_ok hm f im)
/-! copies -/
def cpL (CP : Fn) : DX := xLc (.nm 1) (xSeq (xVar 0)) none (xUser CP 1 (uCons (xVar 1) (uNil))) [1]
def cpM (L : DX) : Fn := mkFn 2 1 (mSeq (mIf (xIsi (fun t => isTy t .list) (xVar 0)) (mRet L) (mNil)) (mRet (xIf (xIsi (fun t => isTy t .tuple) (xVar 0)) (xCall hTup1 (aCons L (aNil))) (xVar 0))))
theorem cp_eq (i : Nat) : m__law_copied ad (i + 1) = cpM (cpL (m__law_copied ad i)) := rfl
theorem cpM_int {L : DX} (i : Int) : cpM L [.im (.int i)] none = .ok (.im (.int i)) none := by simp [cpM, -hI2]
theorem cpL_ok {CP : Fn} {T : PyData} {ds : List PyData} (hT : T = .list ds ∨ T = .tuple ds) (n : ds.length ≤ 1000) (h : ∀ d ∈ ds, CP [.im d] none = .ok (.im d) none) : cpL CP ⟨[.im T, .un], none⟩ = .ok (.ow ds) ⟨[.im T, .un], none⟩ := by
  have e := xLc_gen (t := .nm 1) (gi := xSeq (xVar 0)) (e := xUser CP 1 (uCons (xVar 1) (uNil))) (vs := [1]) (s0 := ⟨[.im T, .un], none⟩) (s := ⟨[.im T, .un], none⟩) (l := ds) id id (by rcases hT with rfl | rfl <;> simp [xSeq]) rfl (by omega) rfl (fun d hd => by
    have k := h d hd
    refine ⟨⟨[.im T, .im d], none⟩, ⟨[.im T, .im d], none⟩, rfl, by simp [k, -hI2], ?_⟩
    unfold afterV
    split <;> rfl)
  rw [List.map_id] at e
  exact e
theorem cpM_tup {L : DX} {ds : List PyData} (e : L ⟨[.im (.tuple ds), .un], none⟩ = .ok (.ow ds) ⟨[.im (.tuple ds), .un], none⟩) : cpM L [.im (.tuple ds)] none = .ok (.im (.tuple ds)) none := by simp [cpM, e, -hI2]
theorem cpM_lst {L : DX} {ds : List PyData} (e : L ⟨[.im (.list ds), .un], none⟩ = .ok (.ow ds) ⟨[.im (.list ds), .un], none⟩) : cpM L [.im (.list ds)] none = .ok (.ow ds) none := by simp [cpM, e, -hI2]
theorem cp_int (k : Nat) (i : Int) : m__law_copied ad (k + 1) [.im (.int i)] none = .ok (.im (.int i)) none := by rw [cp_eq]; exact cpM_int i
theorem cp_pt (k : Nat) (p : Pt2) : m__law_copied ad (k + 2) [.im (ptD p)] none = .ok (.im (ptD p)) none := by
  rw [cp_eq]
  refine cpM_tup (cpL_ok (.inr rfl) (by simp) fun d hd => ?_)
  simp only [List.mem_cons, List.not_mem_nil, or_false] at hd
  rcases hd with rfl | rfl <;> exact cp_int k _
theorem cp_pts (k : Nat) {l : List Pt2} (n : l.length ≤ 1000) : m__law_copied ad (k + 3) [.im (.list (ptsD l))] none = .ok (.ow (ptsD l)) none := by
  rw [cp_eq]
  refine cpM_lst (cpL_ok (.inl rfl) (by simp; omega) fun d hd => ?_)
  obtain ⟨p, _, rfl⟩ := List.mem_map.mp hd
  exact cp_pt k p
/-! one figure -/
theorem fr0_ok {LM CP : Fn} {D : List PyData} {m : Mp} {l l1 : List Int} (e1 : LM [.gn] (some l) = .ok (.im (D6 m)) (some l1)) (e2 : CP [.im (.list D)] none = .ok (.ow D) none) :
    fr0 LM CP ⟨[.gn, .im (.list D), .un, .un, .un, .un, .un, .un, .un], some l⟩ = .nx ⟨[.gn, .im (.list D), .im (D6 m), .im (.list D), .un, .un, .un, .un, .un], some l1⟩ := by
  simp [fr0, e1, e2, -hI2]
def frL (GO : Fn) : DX := xLc (.nm 6) (xSeq (xVar 1)) none (xUser GO 2 (uCons (xVar 6) (uCons (xVar 2) (uNil)))) [6]
def fr1L (LR MV : Fn) (L : DX) : DM := mPar2L 4 5 (xUser LR 1 (uCons L (uNil))) (xUser MV 2 (uCons (xVar 1) (uCons (xVar 2) (uNil))))
theorem fr1_eq {LR GO MV : Fn} : fr1 LR GO MV = fr1L LR MV (frL GO) := rfl
theorem frL_ok {GO : Fn} {l : List Pt2} {t k : PyData} {f : Pt2 → Pt2} {g : Option (List Int)} (n : l.length ≤ 1000) (h : ∀ p ∈ l, GO [.im (ptD p), .im t] none = .ok (.im (ptD (f p))) none) : frL GO ⟨[.gn, .im (.list (ptsD l)), .im t, .im k, .un, .un, .un, .un, .un], g⟩ = .ok (.ow (ptsD (l.map f))) ⟨[.gn, .im (.list (ptsD l)), .im t, .im k, .un, .un, .un, .un, .un], g⟩ := by
  have e : ptsD (l.map f) = l.map fun p => ptD (f p) := by unfold ptsD; rw [List.map_map]; rfl
  rw [e]
  unfold frL
  refine xLc_gen (l := l) ptD (fun p => ptD (f p)) (by simp [xSeq]) rfl (by omega) rfl ?_
  intro p hp
  have k' := h p hp
  refine ⟨⟨[.gn, .im (.list (ptsD l)), .im t, .im k, .un, .un, .im (ptD p), .un, .un], g⟩, ⟨[.gn, .im (.list (ptsD l)), .im t, .im k, .un, .un, .im (ptD p), .un, .un], g⟩, rfl, ?_, rfl⟩
  generalize ptsD l = D
  simp [k', -hI2]
theorem fr1L_ok {LR MV : Fn} {L : DX} {D t k : PyData} {X T : List PyData} {rv : Rv} {g : Option (List Int)} (e : L ⟨[.gn, .im D, .im t, .im k, .un, .un, .un, .un, .un], g⟩ = .ok (.ow X) ⟨[.gn, .im D, .im t, .im k, .un, .un, .un, .un, .un], g⟩) (r : LR [.im (.list X)] none = .ok rv none) (hd : rv.d = .list T) (mv : MV [.im D, .im t] none = .ok (.ow T) none) :
    fr1L LR MV L ⟨[.gn, .im D, .im t, .im k, .un, .un, .un, .un, .un], g⟩ = .nx ⟨[.gn, .im D, .im t, .im k, .im (.list T), .ow T, .un, .un, .un], g⟩ := by
  cases rv with
  | im d =>
    have hd : d = .list T := hd
    subst hd
    simp [fr1L, e, r, mv, -hI2]
  | ow ds =>
    have hd : PyData.list ds = .list T := hd
    cases hd
    simp [fr1L, e, r, mv, -hI2]
theorem fr2_ok {EX MV : Fn} {D T : List PyData} {t : PyData} {g : Option (List Int)} (mv : MV [.im (.list D), .im t] none = .ok (.ow T) none) (x : EX [.im (.list [.list T, .list T, .list D]), .im (.list [.list T, .list T, .list D])] none = .ok (.im (.bool true)) none) (n : (T.length : Int) = D.length) :
    fr2 EX MV ⟨[.gn, .im (.list D), .im t, .im (.list D), .im (.list T), .ow T, .un, .un, .un], g⟩ = .nx ⟨[.gn, .im (.list D), .im t, .im (.list D), .im (.list T), .ow T, .un, .un, .un], g⟩ := by
  have e := hNe_self (Pl.int (n := 0) (D.length : Int)).shaped
  simp [fr2, mv, x, reord, n, e, -hI2]
theorem fr3_ok {EX TA RC IC : Fn} {D T : List PyData} {t : PyData} {a r i : Int} {g : Option (List Int)} (t1 : TA [.im (.list T)] none = .ok (.im (.int a)) none) (t2 : RC [.im (.list T)] none = .ok (.im (.int r)) none) (t3 : IC [.im (.list T)] none = .ok (.im (.int i)) none)
    (d1 : TA [.im (.list D)] none = .ok (.im (.int a)) none) (d2 : RC [.im (.list D)] none = .ok (.im (.int r)) none) (d3 : IC [.im (.list D)] none = .ok (.im (.int i)) none) (x : EX [.im (.list [.int a, .int r, .int i]), .im (.list [.int a, .int r, .int i])] none = .ok (.im (.bool true)) none) :
    fr3 EX TA RC IC ⟨[.gn, .im (.list D), .im t, .im (.list D), .im (.list T), .ow T, .un, .un, .un], g⟩ = .nx ⟨[.gn, .im (.list D), .im t, .im (.list D), .im (.list T), .ow T, .un, .un, .un], g⟩ := by
  simp [fr3, t1, t2, t3, d1, d2, d3, x, -hI2]
theorem fr4_ok {BO : Fn} {D T : List PyData} {m k : Mp} {g : Option (List Int)} (e : BO [.im (D6 m)] none = .ok (.im (D6 k)) none) :
    fr4 BO ⟨[.gn, .im (.list D), .im (D6 m), .im (.list D), .im (.list T), .ow T, .un, .un, .un], g⟩ = .nx ⟨[.gn, .im (.list D), .im (D6 m), .im (.list D), .im (.list T), .ow T, .un, .im (D6 k), .un], g⟩ := by
  simp [fr4, e, -hI2]
def f5L : DX := xLc (.nm 8) (xSeq (xVar 7)) none (xCall hAbs (aCons (xVar 8) (aNil))) [8]
def f5M (EX MV : Fn) (L : DX) : DM := mIf (xAnd (xBin hLt (xCall hMaxG (aCons L (aNil))) (xC (.int 1001))) (xNot (xUser EX 2 (uCons (xUser MV 2 (uCons (xVar 4) (uCons (xVar 7) (uNil)))) (uCons (xVar 3) (uNil)))))) (mRet (xC (.bool false))) (mNil)
theorem f5_eq {EX MV : Fn} : fr5 EX MV = f5M EX MV f5L := rfl
theorem f5L_ok {D T : List PyData} {m k : Mp} {g : Option (List Int)} : f5L ⟨[.gn, .im (.list D), .im (D6 m), .im (.list D), .im (.list T), .ow T, .un, .im (D6 k), .un], g⟩ = .ok (.ow ([(k.a.natAbs : Int), k.b.natAbs, k.c.natAbs, k.d.natAbs, k.e.natAbs, k.f.natAbs].map .int)) ⟨[.gn, .im (.list D), .im (D6 m), .im (.list D), .im (.list T), .ow T, .un, .im (D6 k), .un], g⟩ := by
  have e := xLc_gen (t := .nm 8) (gi := xSeq (xVar 7)) (e := xCall hAbs (aCons (xVar 8) (aNil))) (vs := [8]) (s0 := ⟨[.gn, .im (.list D), .im (D6 m), .im (.list D), .im (.list T), .ow T, .un, .im (D6 k), .un], g⟩) (s := ⟨[.gn, .im (.list D), .im (D6 m), .im (.list D), .im (.list T), .ow T, .un, .im (D6 k), .un], g⟩) (l := [k.a, k.b, k.c, k.d, k.e, k.f]) .int (fun i => .int (i.natAbs : Int)) (by simp [xSeq]) rfl (by simp) rfl (fun i _ => by
    have a := hAbs_i i
    refine ⟨⟨[.gn, .im (.list D), .im (D6 m), .im (.list D), .im (.list T), .ow T, .un, .im (D6 k), .im (.int i)], g⟩, ⟨[.gn, .im (.list D), .im (D6 m), .im (.list D), .im (.list T), .ow T, .un, .im (D6 k), .im (.int i)], g⟩, rfl, by simp [a, -hI2], rfl⟩)
  exact e
theorem max_le {ls : List Int} (ne : ls ≠ []) (h : ∀ i ∈ ls, i ≤ 1000) : ∃ m : Int, m ≤ 1000 ∧ hMaxG [.list (ls.map .int)] = some (.im (.int m)) := by
  cases ls with
  | nil => exact absurd rfl ne
  | cons n l =>
    have mm : maxI n l ∈ n :: l := by
      rcases (maxI_mem l n).1 with h | h
      · rw [h]; exact List.mem_cons_self
      · exact List.mem_cons_of_mem _ h
    refine ⟨maxI n l, h _ mm, ?_⟩
    have e1 : hMaxL [.list ((n :: l).map .int)] = some (.im (.int (maxI n l))) := by
      show (match intsOf ((n :: l).map .int) with | some (n :: l) => some (Rv.im (.int (maxI n l))) | _ => none) = _
      rw [intsOf_map]
    show orN hMaxL (hBest PySem.W.maxD) _ = _
    unfold orN
    rw [e1]
theorem f5M_ok {EX MV : Fn} {L : DX} {D T X : List PyData} {t k : PyData} {v : Int} {g : Option (List Int)} (e : L ⟨[.gn, .im (.list D), .im t, .im (.list D), .im (.list T), .ow T, .un, .im k, .un], g⟩ = .ok (.ow X) ⟨[.gn, .im (.list D), .im t, .im (.list D), .im (.list T), .ow T, .un, .im k, .un], g⟩) (mx : hMaxG [.list X] = some (.im (.int v))) (hv : v ≤ 1000)
    (mv : MV [.im (.list T), .im k] none = .ok (.ow D) none) (x : EX [.im (.list D), .im (.list D)] none = .ok (.im (.bool true)) none) :
    f5M EX MV L ⟨[.gn, .im (.list D), .im t, .im (.list D), .im (.list T), .ow T, .un, .im k, .un], g⟩ = .nx ⟨[.gn, .im (.list D), .im t, .im (.list D), .im (.list T), .ow T, .un, .im k, .un], g⟩ := by
  have z : v < 1001 := by omega
  simp [f5M, e, mx, hLt_i, z, mv, x, -hI2]
theorem fr67_ok {EX MV : Fn} {D T : List PyData} {t k : PyData} {g : Option (List Int)} (n : T.length ≤ 1000000) (mv : MV [.im (.list D), .im t] none = .ok (.ow T) none) (x : EX [.im (.list [.list T, .list D]), .im (.list [.list T, .list D])] none = .ok (.im (.bool true)) none) :
    mSeq fr6 (fr7 EX MV) ⟨[.gn, .im (.list D), .im t, .im (.list D), .im (.list T), .ow T, .un, .im k, .un], g⟩ = .rt (.im (.bool true)) ⟨[.gn, .im (.list D), .im t, .im (.list D), .im (.list T), .ow (T ++ [.int 0]), .un, .im k, .un], g⟩ := by
  simp [fr6, fr7, mv, x, n, -hI2]
end K07

set_option Elab.async false
set_option linter.all false
set_option autoImplicit false
set_option maxRecDepth 100000
set_option maxHeartbeats 1000000
namespace K07
open PySem PyProof.Rows L2 LamX DL
variable {ad : Ad}
theorem frfin {A B C D E F H I : DM} {s1 s2 s3 s4 s5 s6 : Sd} {σ7 : List Sl} {d : PyData} {l l' : List Int} (a0 : A ⟨[.gn, .im d, .un, .un, .un, .un, .un, .un, .un], some l⟩ = .nx s1) (a1 : B s1 = .nx s2) (a2 : C s2 = .nx s3) (a3 : D s3 = .nx s4) (a4 : E s4 = .nx s5) (a5 : F s5 = .nx s6) (a6 : mSeq H I s6 = .rt (.im (.bool true)) ⟨σ7, some l'⟩) :
    mkFn 9 2 (mSeq A (mSeq B (mSeq C (mSeq D (mSeq E (mSeq F (mSeq H I))))))) [.gn, .im d] (some l) = .ok (.im (.bool true)) (some l') := by
  obtain ⟨J, hJ⟩ : ∃ J, J = mSeq H I := ⟨_, rfl⟩
  rw [← hJ] at a6 ⊢
  simp [mkFn, hasGn, a0, a1, a2, a3, a4, a5, a6]
theorem hull_fig2 {l : List Pt2} (n : l ≠ []) (n2 : (ringP (psort l)).length ≤ 12) (hl : ∀ c ∈ l, Nr 1000 c) : Fig (ringP (psort l)) := by
  obtain ⟨h1, h2, h3⟩ := ring_len n
  refine ⟨⟨h1, n2, h3, fun c hc => hl c (h2 c hc)⟩, fun z => ?_, fun z => ?_⟩
  · unfold ringP at *
    by_cases y : (psort l).length < 3
    · rw [if_pos y]
      exact psort_asc l
    · rw [if_neg y] at *
      have r := ring_ok (l := psort l) (by omega) (psort_asc l)
      generalize half (psort l) ++ half (psort l).reverse = R at *
      match R, r with
      | [], r => have := r.two; simp at this
      | [_], r => have := r.two; simp at this
      | [a, b], r =>
        have : a = a → b ≠ a := fun _ e => by have := r.nd; simp [e] at this
        have q := (r.hd b (r.sub b (by simp))).resolve_left (by simpa using this rfl)
        simpa using q
      | _ :: _ :: _ :: _, _ => simp at z; omega
  · unfold ringP at *
    by_cases y : (psort l).length < 3
    · rw [if_pos y] at z; omega
    · rw [if_neg y] at *
      have r := ring_ok (l := psort l) (by omega) (psort_asc l)
      exact ⟨fun c hc => r.hd c (r.sub c hc), r.st⟩
theorem figuresright_ok {n : Nat} {g : List Int} (hn : n ≤ 700000000) (G : Gen n g) {l : List Pt2} (f : Fig l) (h9 : ∀ c ∈ l, Nr 9 c) : ∃ g', m__law_figures_right ad [.gn, .im (.list (ptsD l))] (some g) = .ok (.im (.bool true)) (some g') ∧ Gen (n + 9) g' := by
  obtain ⟨m, g1, e1, m1, u, G1⟩ := lawmap_ok (ad := ad) (by omega) G
  have m3 : Mb 1000 1000 m := m1.up (by decide) (by decide)
  have bk : Mb 27 324 (back m) := back_le m1 u
  have b3 : Mb 1000 1000 (back m) := bk.up (by decide) (by decide)
  have ub : (back m).Uni := by unfold Mp.Uni; rw [back_det m u]; exact u
  have most := f.1.most
  have im : ∀ c ∈ l.map m.app, Nr 492 c := fun c hc => by
    obtain ⟨p, hp, rfl⟩ := List.mem_map.mp hc
    exact app_le m1 (h9 p hp)
  have tn : ∀ c ∈ mvd m l, Nr 492 c := fun c hc => im c ((mvd_mem u f).mp hc)
  have ft : Fig (mvd m l) := mvd_fig u f fun c hc => nr_up (im c hc) (by decide)
  obtain ⟨s1, s2, s3⟩ := mvd_same u f
  have s4 := mvd_inn u f
  have mb := mvd_back (k := back m) u f (back_app m u)
  have im2 : ∀ c ∈ (mvd m l).map (back m).app, Nr 1000000 c := fun c hc => by
    obtain ⟨p, hp, rfl⟩ := List.mem_map.mp hc
    exact nr_up (app_le bk (tn p hp)) (by decide)
  have mv := moved_ok (ad := ad) m3 u f fun c hc => nr_up (im c hc) (by decide)
  have mv2 := moved_ok (ad := ad) b3 ub ft im2
  rw [mb] at mv2
  have len1 : l.length ≤ 1000 := by omega
  have len2 : (mvd m l).length ≤ 1000 := by omega
  have c0 := cp_pts (ad := ad) 5 len1
  have a0 := fr0_ok (CP := m__law_copied ad 8) e1 c0
  obtain ⟨rv, r1, r2⟩ := hull_ok hf_a (l := l.map m.app) (fun c hc => nr_up (im c hc) (by decide)) (by rw [List.length_map]; omega)
  have r1 : m__law_ring ad [.im (.list (ptsD (l.map m.app)))] none = .ok rv none := r1
  have a1 := fr1L_ok (LR := m__law_ring ad) (MV := m_moved ad) (frL_ok (GO := m__law_gone ad) (l := l) (t := D6 m) (k := .list (ptsD l)) (f := m.app) (g := some g1) len1 fun p hp => lgone_ok (m1.up (by decide) (by decide)) (nr_up (h9 p hp) (by decide))) r1 r2 mv
  rw [← fr1_eq] at a1
  have x2 := exact_ok (ad := ad) (k := 8) 3 (d := .list [.list (ptsD (mvd m l)), .list (ptsD (mvd m l)), .list (ptsD l)]) (.lst (by simp) (fun x hx => by
    simp only [List.mem_cons, List.not_mem_nil, or_false] at hx
    rcases hx with rfl | rfl | rfl
    · exact exk_pts len2
    · exact exk_pts len2
    · exact exk_pts len1)) (by decide)
  have a2 := fr2_ok (g := some g1) mv x2 (by rw [len_of, len_of, s1])
  have x3 := exact_ok (ad := ad) (k := 8) 1 (d := .list [.int (areaV l), .int (rimV l), .int (innV l)]) (.lst (by simp) (fun x hx => by
    simp only [List.mem_cons, List.not_mem_nil, or_false] at hx
    rcases hx with rfl | rfl | rfl <;> exact .int _)) (by decide)
  have t1 := twice_ok (ad := ad) ft
  have t2 := rimc_ok (ad := ad) ft
  have t3 := innc_ok (ad := ad) ft
  rw [s2] at t1
  rw [s3] at t2
  rw [s4] at t3
  have a3 := fr3_ok (t := D6 m) (g := some g1) t1 t2 t3 (twice_ok f) (rimc_ok f) (innc_ok f) x3
  have a4 := fr4_ok (D := ptsD l) (T := ptsD (mvd m l)) (g := some g1) (backof_ok (ad := ad) m3 u)
  obtain ⟨v, hv, mx⟩ := max_le (ls := [((back m).a.natAbs : Int), (back m).b.natAbs, (back m).c.natAbs, (back m).d.natAbs, (back m).e.natAbs, (back m).f.natAbs]) (by simp) (fun i hi => by
    obtain ⟨q1, q2, q3, q4, q5, q6⟩ := b3
    simp only [List.mem_cons, List.not_mem_nil, or_false] at hi
    rcases hi with rfl | rfl | rfl | rfl | rfl | rfl <;> omega)
  have x5 := exact_ok (ad := ad) (k := 8) 2 (exk_pts len1) (by decide)
  have a5 := f5M_ok (EX := m__law_exact ad 8) (MV := m_moved ad) (f5L_ok (D := ptsD l) (T := ptsD (mvd m l)) (m := m) (k := back m) (g := some g1)) mx hv mv2 x5
  rw [← f5_eq] at a5
  have x6 := exact_ok (ad := ad) (k := 8) 3 (d := .list [.list (ptsD (mvd m l)), .list (ptsD l)]) (.lst (by simp) (fun x hx => by
    simp only [List.mem_cons, List.not_mem_nil, or_false] at hx
    rcases hx with rfl | rfl
    · exact exk_pts len2
    · exact exk_pts len1)) (by decide)
  have a6 := fr67_ok (k := D6 (back m)) (g := some g1) (by simp; omega) mv x6
  refine ⟨g1, ?_, G1⟩
  rw [fr_eq]
  exact frfin a0 a1 a2 a3 a4 a5 a6
/-! figures drawn -/
def lfL (RA DP : Fn) : DX := xLc (.nm 4) (xRng1 (aCons (xBin hAdd (xC (.int 1)) (xUser RA 2 (uGen 0 (uCons (xVar 2) (uNil))))) (aNil))) none (xUser DP 2 (uGen 0 (uCons (xVar 1) (uNil)))) [4]
def lfM (LR : Fn) (L : DX) : Fn := mkFn 5 3 (mSeq (mSet 3 (xUser LR 1 (uCons L (uNil)))) (mRet (xIf (xBin hLt (xCall hLen (aCons (xVar 3) (aNil))) (xC (.int 13))) (xVar 3) (xUser LR 1 (uCons (xSlice (xVar 3) .no (.ex (xC (.int 12)))) (uNil))))))
theorem lf_eq : m__law_figure ad = lfM (m__law_ring ad) (lfL fRandom (m__law_drawn_point ad)) := rfl
theorem lfL_ok {k : Int} {n : Nat} {l : List Int} (k0 : 0 < k) (k1 : k ≤ 20) (hn : n ≤ 700000000) (G : Gen n l) : ∃ (ps : List Pt2) (l' : List Int), lfL fRandom (m__law_drawn_point ad) ⟨[.gn, .im (.int 9), .im (.int k), .un, .un], some l⟩ = .ok (.ow (ptsD ps)) ⟨[.gn, .im (.int 9), .im (.int k), .un, .un], some l'⟩ ∧ ps ≠ [] ∧ ps.length ≤ 20 ∧ (∀ c ∈ ps, Nr 9 c) ∧ Gen (n + 41) l' := by
  obtain ⟨r, l1, h1, r0, r1, G1⟩ := rand_ok (bound := k) k0 (by omega) (by omega) G
  have q1 : -1000000 < 1 + r ∧ 1 + r < 1000000 := by omega
  obtain ⟨rs, l3, e3, n3, p3, G3⟩ := xLc_draw (v := 4) (gi := xRng1 (aCons (xBin hAdd (xC (.int 1)) (xUser fRandom 2 (uGen 0 (uCons (xVar 2) (uNil))))) (aNil))) (e := xUser (m__law_drawn_point ad) 2 (uGen 0 (uCons (xVar 1) (uNil)))) (s0 := ⟨[.gn, .im (.int 9), .im (.int k), .un, .un], some l⟩) (σ := [.gn, .im (.int 9), .im (.int k), .un, .un]) (g := l1) (ds := rngD 0 (1 + r).toNat)
    (fun j g => Gen (n + 1 + 2 * j) g) (fun d => ∃ p, d = ptD p ∧ Nr 9 p) (xRng1_ok (j := 1 + r) (by simp [h1, hAdd_i, -hI2]) q1 rfl) rfl (by simp) (by simp [rngD]; omega) G1 (fun x hx j g hj G => by
      rw [show (rngD 0 (1 + r).toNat).length = (1 + r).toNat from by simp [rngD]] at hj
      obtain ⟨p, g1, u1, u2, u3, G1⟩ := drawpt_ok (ad := ad) (f := 9) (by decide) (by decide) (by omega) G
      refine ⟨ptD p, g1, rfl, ?_, ⟨_, rfl, ⟨u2, u3⟩⟩, G1⟩
      simp [u1, -hI2])
  obtain ⟨ps, rfl, hp⟩ := pts_of p3
  have n4 : ps.length = (1 + r).toNat := by simpa [rngD, ptsD] using n3
  refine ⟨ps, l3, e3, fun z => ?_, by omega, hp, G3.up (by simp [rngD]; omega)⟩
  rw [z] at n4
  simp at n4
  omega
theorem cut12 (l : List Pt2) : hSl (.list (ptsD l)) none (some 12) = some (.ow (ptsD (l.take 12))) := by
  show some (Rv.ow (DL.cutD (l.map ptD) none (some 12))) = _
  unfold DL.cutD
  have e2 : HT.sIx (l.map ptD).length 0 none = 0 := rfl
  have e1 : HT.sIx (l.map ptD).length (l.map ptD).length (some 12) = min 12 (l.map ptD).length := HT.sIx_nat _ _ 12
  rw [e1, e2, List.drop_zero, Nat.sub_zero, ← List.map_take]
  congr 3
  rw [List.length_map]
  by_cases z : 12 ≤ l.length
  · rw [Nat.min_eq_left z]
  · rw [Nat.min_eq_right (by omega), List.take_of_length_le (Nat.le_refl _), List.take_of_length_le (by omega)]
theorem lfM_few {LR : Fn} {L : DX} {X R : List PyData} {k : PyData} {rv : Rv} {l l' : List Int} (e : L ⟨[.gn, .im (.int 9), .im k, .un, .un], some l⟩ = .ok (.ow X) ⟨[.gn, .im (.int 9), .im k, .un, .un], some l'⟩) (r : LR [.im (.list X)] none = .ok rv none) (hd : rv.d = .list R) (n : (R.length : Int) < 13) :
    lfM LR L [.gn, .im (.int 9), .im k] (some l) = .ok (.im (.list R)) (some l') := by
  cases rv with
  | im d =>
    have hd : d = .list R := hd
    subst hd
    simp [lfM, e, r, hLt_i, n, -hI2]
  | ow ds =>
    have hd : PyData.list ds = .list R := hd
    cases hd
    simp [lfM, e, r, hLt_i, n, -hI2]
theorem lfM_far {LR : Fn} {L : DX} {X R C : List PyData} {k : PyData} {rv rv2 : Rv} {l l' : List Int} (e : L ⟨[.gn, .im (.int 9), .im k, .un, .un], some l⟩ = .ok (.ow X) ⟨[.gn, .im (.int 9), .im k, .un, .un], some l'⟩) (r : LR [.im (.list X)] none = .ok rv none) (hd : rv.d = .list R) (n : ¬ (R.length : Int) < 13) (c : hSl (.list R) none (some 12) = some (.ow C)) (r2 : LR [.im (.list C)] none = .ok rv2 none) :
    lfM LR L [.gn, .im (.int 9), .im k] (some l) = .ok rv2 (some l') := by
  cases rv with
  | im d =>
    have hd : d = .list R := hd
    subst hd
    simp [lfM, e, r, hLt_i, n, xSlice, SlP.k, c, r2, -hI2]
  | ow ds =>
    have hd : PyData.list ds = .list R := hd
    cases hd
    simp [lfM, e, r, hLt_i, n, xSlice, SlP.k, c, r2, -hI2]
theorem lawfig_ok {k : Int} {n : Nat} {l : List Int} (k0 : 0 < k) (k1 : k ≤ 20) (hn : n ≤ 700000000) (G : Gen n l) : ∃ (rv : Rv) (F : List Pt2) (l' : List Int), m__law_figure ad [.gn, .im (.int 9), .im (.int k)] (some l) = .ok rv (some l') ∧ rv.d = .list (ptsD F) ∧ Fig F ∧ (∀ c ∈ F, Nr 9 c) ∧ Gen (n + 41) l' := by
  obtain ⟨ps, l', e, ne, n20, n9, G'⟩ := lfL_ok (ad := ad) k0 k1 hn G
  obtain ⟨rv, r1, r2⟩ := hull_ok hf_a (l := ps) (fun c hc => nr_up (n9 c hc) (by decide)) (by omega)
  obtain ⟨w1, w2, w3⟩ := ring_len ne
  have r1 : m__law_ring ad [.im (.list (ptsD ps))] none = .ok rv none := r1
  have len := len_of (l := ringP (psort ps))
  by_cases z : (ringP (psort ps)).length < 13
  · have t := lfM_few e r1 r2 (by rw [len]; omega)
    exact ⟨_, ringP (psort ps), l', t, rfl, hull_fig2 ne (by omega) (fun c hc => nr_up (n9 c hc) (by decide)), fun c hc => n9 c (w2 c hc), G'⟩
  · have m12 : ∀ c ∈ (ringP (psort ps)).take 12, Nr 9 c := fun c hc => n9 c (w2 c (List.mem_of_mem_take hc))
    have l12 : ((ringP (psort ps)).take 12).length = 12 := by rw [List.length_take]; omega
    have ne12 : (ringP (psort ps)).take 12 ≠ [] := fun y => by rw [y] at l12; simp at l12
    obtain ⟨rv2, q1, q2⟩ := hull_ok hf_a (l := (ringP (psort ps)).take 12) (fun c hc => nr_up (m12 c hc) (by decide)) (by omega)
    have t := lfM_far e r1 r2 (by rw [len]; omega) (cut12 _) q1
    exact ⟨rv2, ringP (psort ((ringP (psort ps)).take 12)), l', t, q2, hull_fig ne12 (by omega) (fun c hc => nr_up (m12 c hc) (by decide)), fun c hc => m12 c ((ring_len ne12).2.1 c hc), G'⟩
end K07

set_option Elab.async false
set_option linter.all false
set_option autoImplicit false
set_option maxRecDepth 100000
set_option maxHeartbeats 1000000
namespace K07
open PySem PyProof.Rows L2 LamX DL
variable {ad : Ad}
def lw0 (F__law_generator : Fn) : DM := mGen 1 (xUser (F__law_generator) 2 (uCons (xVar 0) (uCons (xC (.int 0)) (uNil))))
def lw1B (F__law_maps_right : Fn) (F__law_figures_right : Fn) (F__law_figure : Fn) : DM := (mIf (xOr (xNot (xUser (F__law_maps_right) 1 (uGen 1 (uNil)))) (xNot (xUser (F__law_figures_right) 2 (uGen 1 (uCons (xUser (F__law_figure) 3 (uGen 1 (uCons (xC (.int 9)) (uCons (xBin hIx (xLst (aCons (xC (.int 12)) (aCons (xC (.int 2)) (aCons (xC (.int 4)) (aCons (xC (.int 20)) (aNil)))))) (xVar 2)) (uNil))))) (uNil)))))) (mRet (xC (.bool false))) (mNil))
def lw1 (F__law_maps_right : Fn) (F__law_figures_right : Fn) (F__law_figure : Fn) : DM := mFor (.nm 2) (xRng1 (aCons (xC (.int 4)) (aNil))) (lw1B F__law_maps_right F__law_figures_right F__law_figure)
def lw2 : DM := mSet 3 (xLst (aCons (xTup (aCons (xC (.int 0)) (aCons (xC (.int 0)) (aNil)))) (aCons (xTup (aCons (xC (.int 2)) (aCons (xC (.int 0)) (aNil)))) (aCons (xTup (aCons (xC (.int 0)) (aCons (xC (.int 1)) (aNil)))) (aNil)))))
def lw3 (F_moved_point : Fn) (F_moved : Fn) (F_one_behind : Fn) (F_back_of : Fn) (F_is_turned_over : Fn) : DM := mSet 4 (xLst (aCons (xUser (F_moved_point) 2 (uCons (xTup (aCons (xC (.int 3)) (aCons (xC (.int 1)) (aNil)))) (uCons (xTup (aCons (xC (.int 1)) (aCons (xC (.int 2)) (aCons (xC (.int 0)) (aCons (xC (.int 1)) (aCons (xC (.int 5)) (aCons (xC (.int 0)) (aNil)))))))) (uNil)))) (aCons (xUser (F_moved) 2 (uCons (xVar 3) (uCons (xTup (aCons (xC (.int 0)) (aCons (xC (.int 1)) (aCons (xC (.int 1)) (aCons (xC (.int 0)) (aCons (xC (.int 0)) (aCons (xC (.int 0)) (aNil)))))))) (uNil)))) (aCons (xUser (F_one_behind) 2 (uCons (xTup (aCons (xC (.int 1)) (aCons (xC (.int 1)) (aCons (xC (.int 0)) (aCons (xC (.int 1)) (aCons (xC (.int 0)) (aCons (xC (.int 0)) (aNil)))))))) (uCons (xTup (aCons (xC (.int 0)) (aCons (xC (.int 1)) (aCons (xC (.int 1)) (aCons (xC (.int 0)) (aCons (xC (.int 2)) (aCons (xC (.int 0)) (aNil)))))))) (uNil)))) (aCons (xUser (F_back_of) 1 (uCons (xTup (aCons (xC (.int 1)) (aCons (xC (.int 2)) (aCons (xC (.int 0)) (aCons (xC (.int 1)) (aCons (xC (.int 5)) (aCons (xC (.int 0)) (aNil)))))))) (uNil))) (aCons (xUser (F_is_turned_over) 1 (uCons (xTup (aCons (xC (.int 0)) (aCons (xC (.int 1)) (aCons (xC (.int 1)) (aCons (xC (.int 0)) (aCons (xC (.int 0)) (aCons (xC (.int 0)) (aNil)))))))) (uNil))) (aCons (xUser (F_moved) 2 (uCons (xLst (aCons (xTup (aCons (xC (.int 5)) (aCons (xC (.int 5)) (aNil)))) (aNil))) (uCons (xTup (aCons (xC (.int 0)) (aCons (xC (.int 1)) (aCons (xC (.int 1)) (aCons (xC (.int 0)) (aCons (xC (.int 1)) (aCons (xC (.int 0)) (aNil)))))))) (uNil)))) (aNil))))))))
def lw4 (F__law_exact : Fn) : DM := mRet (xUser (F__law_exact) 2 (uCons (xVar 4) (uCons (xLst (aCons (xTup (aCons (xC (.int 10)) (aCons (xC (.int 1)) (aNil)))) (aCons (xLst (aCons (xTup (aCons (xC (.int 0)) (aCons (xC (.int 0)) (aNil)))) (aCons (xTup (aCons (xC (.int 1)) (aCons (xC (.int 0)) (aNil)))) (aCons (xTup (aCons (xC (.int 0)) (aCons (xC (.int 2)) (aNil)))) (aNil))))) (aCons (xTup (aCons (xC (.int 0)) (aCons (xC (.int 1)) (aCons (xC (.int 1)) (aCons (xC (.int 1)) (aCons (xC (.int 2)) (aCons (xC (.int 0)) (aNil)))))))) (aCons (xTup (aCons (xC (.int 1)) (aCons (xUn hNeg (xC (.int 2))) (aCons (xC (.int 0)) (aCons (xC (.int 1)) (aCons (xUn hNeg (xC (.int 5))) (aCons (xC (.int 0)) (aNil)))))))) (aCons (xC (.bool true)) (aCons (xLst (aCons (xTup (aCons (xC (.int 6)) (aCons (xC (.int 5)) (aNil)))) (aNil))) (aNil)))))))) (uNil))))
theorem lw_eq : m_law ad = mkFn0 5 1 (mSeq (lw0 (m__law_generator ad)) (mSeq (lw1 (m__law_maps_right ad) (m__law_figures_right ad) (m__law_figure ad)) (mSeq (lw2) (mSeq (lw3 (m_moved_point ad) (m_moved ad) (m_one_behind ad) (m_back_of ad) (m_is_turned_over ad)) (lw4 (m__law_exact ad 8)))))) := rfl
theorem lw0_ok {GE : Fn} {V : PyData} {l : List Int} (h : GE [.im V, .im (.int 0)] none = .ok (.ow (l.map .int)) none) : lw0 GE ⟨[.im V, .un, .un, .un, .un], none⟩ = .nx ⟨[.im V, .gn, .un, .un, .un], some l⟩ := by
  simp [lw0, h, intsOf_map, dropGn]
theorem lw1B_ok {MR FR LF : Fn} {V D : PyData} {j : Int} {many : PyData} {rv : Rv} {l l1 l2 l3 : List Int} {s3 s4 : Sl} (hs3 : s3 = .un) (hs4 : s4 = .un) (hi : hIx (.list [.int 12, .int 2, .int 4, .int 20]) (.int j) = some (.im many)) (e1 : MR [.gn] (some l) = .ok (.im (.bool true)) (some l1)) (e2 : LF [.gn, .im (.int 9), .im many] (some l1) = .ok rv (some l2)) (hd : rv.d = D) (e3 : FR [.gn, .im D] (some l2) = .ok (.im (.bool true)) (some l3)) :
    lw1B MR FR LF ⟨[.im V, .gn, .im (.int j), s3, s4], some l⟩ = .nx ⟨[.im V, .gn, .im (.int j), s3, s4], some l3⟩ := by
  subst hs3 hs4
  cases rv with
  | im d =>
    have hd : d = D := hd
    subst hd
    simp [lw1B, e1, hi, e2, e3, -hI2, -hIx]
  | ow ds =>
    have hd : PyData.list ds = D := hd
    subst hd
    simp [lw1B, e1, hi, e2, e3, -hI2, -hIx]
theorem lw1_ok {V : PyData} {l : List Int} (G : Gen 0 l) : ∃ (s2 : Sl) (l' : List Int), lw1 (m__law_maps_right ad) (m__law_figures_right ad) (m__law_figure ad) ⟨[.im V, .gn, .un, .un, .un], some l⟩ = .nx ⟨[.im V, .gn, s2, .un, .un], some l'⟩ := by
  obtain ⟨s', e, s2, l', hs, _⟩ := forM_idx (t := .nm 2) (b := lw1B (m__law_maps_right ad) (m__law_figures_right ad) (m__law_figure ad)) (fun k s => ∃ (s2 : Sl) (l' : List Int), s = ⟨[.im V, .gn, s2, .un, .un], some l'⟩ ∧ Gen (100 * k) l') (l := rngD 0 4) (k := 0) (s := ⟨[.im V, .gn, .un, .un, .un], some l⟩) ⟨_, _, rfl, G⟩ (fun j v s hv ⟨s2, l, hs, G⟩ => by
    subst hs
    obtain ⟨j4, rfl⟩ := rng_get hv
    have many : ∃ k : Int, 0 < k ∧ k ≤ 20 ∧ hIx (.list [.int 12, .int 2, .int 4, .int 20]) (.int (j : Int)) = some (.im (.int k)) := by
      have : j = 0 ∨ j = 1 ∨ j = 2 ∨ j = 3 := by omega
      rcases this with rfl | rfl | rfl | rfl
      · exact ⟨12, by decide, by decide, rfl⟩
      · exact ⟨2, by decide, by decide, rfl⟩
      · exact ⟨4, by decide, by decide, rfl⟩
      · exact ⟨20, by decide, by decide, rfl⟩
    obtain ⟨k, k0, k1, hi⟩ := many
    obtain ⟨l1, e1, G1⟩ := mapsright_ok (ad := ad) (by omega) G
    obtain ⟨rv, F, l2, e2, hd, f, h9, G2⟩ := lawfig_ok (ad := ad) k0 k1 (by omega) G1
    obtain ⟨l3, e3, G3⟩ := figuresright_ok (ad := ad) (by omega) G2 f h9
    have t := lw1B_ok (V := V) (s3 := .un) (s4 := .un) rfl rfl hi e1 e2 hd e3
    rw [Int.zero_add]
    exact ⟨_, _, rfl, t, _, _, rfl, G3.up (by omega)⟩)
  refine ⟨s2, l', ?_⟩
  rw [← hs, ← e]
  exact mFor_ok (xRng1_ok (j := 4) rfl (by decide) rfl) rfl
abbrev three : List PyData := [T2 0 0, T2 2 0, T2 0 1]
theorem lw2_ok {a0 a1 a2 a3 a4 : Sl} {g : Option (List Int)} : lw2 ⟨[a0, a1, a2, a3, a4], g⟩ = .nx ⟨[a0, a1, a2, .ow three, a4], g⟩ := by
  simp [lw2]
abbrev dueL : List PyData := [T2 10 1, .list [T2 0 0, T2 1 0, T2 0 2], D6 ⟨0, 1, 1, 1, 2, 0⟩, D6 ⟨1, -2, 0, 1, -5, 0⟩, .bool true, .list [T2 6 5]]
theorem lw3_ok {MP MV OB BO IO : Fn} {a0 a1 a2 a4 : Sl} {g : Option (List Int)} (d1 : MP [.im (T2 3 1), .im (D6 ⟨1, 2, 0, 1, 5, 0⟩)] none = .ok (.im (T2 10 1)) none) (d2 : MV [.im (.list three), .im (D6 ⟨0, 1, 1, 0, 0, 0⟩)] none = .ok (.ow [T2 0 0, T2 1 0, T2 0 2]) none) (d3 : OB [.im (D6 ⟨1, 1, 0, 1, 0, 0⟩), .im (D6 ⟨0, 1, 1, 0, 2, 0⟩)] none = .ok (.im (D6 ⟨0, 1, 1, 1, 2, 0⟩)) none)
    (d4 : BO [.im (D6 ⟨1, 2, 0, 1, 5, 0⟩)] none = .ok (.im (D6 ⟨1, -2, 0, 1, -5, 0⟩)) none) (d5 : IO [.im (D6 ⟨0, 1, 1, 0, 0, 0⟩)] none = .ok (.im (.bool true)) none) (d6 : MV [.im (.list [T2 5 5]), .im (D6 ⟨0, 1, 1, 0, 1, 0⟩)] none = .ok (.ow [T2 6 5]) none) :
    lw3 MP MV OB BO IO ⟨[a0, a1, a2, .ow three, a4], g⟩ = .nx ⟨[a0, a1, a2, .im (.list three), .ow dueL], g⟩ := by
  simp [lw3, d1, d2, d3, d4, d5, d6, -hI2]
theorem lw4_ok {EX : Fn} {a0 a1 a2 a3 : Sl} {g : Option (List Int)} (x : EX [.im (.list dueL), .im (.list dueL)] none = .ok (.im (.bool true)) none) :
    ∃ s', lw4 EX ⟨[a0, a1, a2, a3, .ow dueL], g⟩ = .rt (.im (.bool true)) ⟨s', g⟩ := by
  refine ⟨[a0, a1, a2, a3, .im (.list dueL)], ?_⟩
  simp [lw4, x, -hI2]
theorem rg_three : Rg [((0 : Int), (0 : Int)), (2, 0), (0, 1)] := ⟨by decide, by decide⟩
theorem rg_moved : Rg [((0 : Int), (0 : Int)), (1, 0), (0, 2)] := ⟨by decide, by decide⟩
theorem fig_three : Fig [((0 : Int), (0 : Int)), (2, 0), (0, 1)] := ⟨⟨by decide, by decide, by decide, fun c hc => by
  simp only [List.mem_cons, List.not_mem_nil, or_false] at hc
  rcases hc with rfl | rfl | rfl <;> (unfold Nr; decide)⟩, fun z => absurd z (by decide), fun _ => rg_three⟩
theorem fig_55 : Fig [((5 : Int), (5 : Int))] := ⟨⟨by decide, by decide, by decide, fun c hc => by
  simp only [List.mem_cons, List.not_mem_nil, or_false] at hc
  subst hc
  unfold Nr; decide⟩, fun _ => by simp, fun z => absurd z (by decide)⟩
theorem mv_three : m_moved ad [.im (.list three), .im (D6 ⟨0, 1, 1, 0, 0, 0⟩)] none = .ok (.ow [T2 0 0, T2 1 0, T2 0 2]) none := by
  have h := moved_ok (ad := ad) (m := ⟨0, 1, 1, 0, 0, 0⟩) (l := [((0 : Int), (0 : Int)), (2, 0), (0, 1)]) ⟨by decide, by decide, by decide, by decide, by decide, by decide⟩ (.inr (by decide)) fig_three (fun c hc => by
    simp only [List.map_cons, List.map_nil, List.mem_cons, List.not_mem_nil, or_false] at hc
    rcases hc with rfl | rfl | rfl <;> (unfold Nr Mp.app; decide))
  have e : mvd ⟨0, 1, 1, 0, 0, 0⟩ [((0 : Int), (0 : Int)), (2, 0), (0, 1)] = [((0 : Int), (0 : Int)), (1, 0), (0, 2)] := by
    refine hull_of_set (by decide) (fun z => absurd z (by decide)) (fun _ => rg_moved) fun c => ?_
    have : [((0 : Int), (0 : Int)), (2, 0), (0, 1)].map (Mp.app ⟨0, 1, 1, 0, 0, 0⟩) = [((0 : Int), (0 : Int)), (0, 2), (1, 0)] := by decide
    rw [this]
    simp only [List.mem_cons, List.not_mem_nil, or_false]
    constructor
    · rintro (h | h | h)
      · exact .inl h
      · exact .inr (.inr h)
      · exact .inr (.inl h)
    · rintro (h | h | h)
      · exact .inl h
      · exact .inr (.inr h)
      · exact .inr (.inl h)
  rw [e] at h
  exact h
theorem mv_55 : m_moved ad [.im (.list [T2 5 5]), .im (D6 ⟨0, 1, 1, 0, 1, 0⟩)] none = .ok (.ow [T2 6 5]) none := by
  have h := moved_ok (ad := ad) (m := ⟨0, 1, 1, 0, 1, 0⟩) (l := [((5 : Int), (5 : Int))]) ⟨by decide, by decide, by decide, by decide, by decide, by decide⟩ (.inr (by decide)) fig_55 (fun c hc => by
    simp only [List.map_cons, List.map_nil, List.mem_cons, List.not_mem_nil, or_false] at hc
    subst hc
    unfold Nr Mp.app; decide)
  have e : mvd ⟨0, 1, 1, 0, 1, 0⟩ [((5 : Int), (5 : Int))] = [((6 : Int), (5 : Int))] := by
    refine hull_of_set (by decide) (fun _ => by simp) (fun z => absurd z (by decide)) fun c => ?_
    have : [((5 : Int), (5 : Int))].map (Mp.app ⟨0, 1, 1, 0, 1, 0⟩) = [((6 : Int), (5 : Int))] := by decide
    rw [this]
  rw [e] at h
  exact h
theorem finL {A B C D E : DM} {V : PyData} {s1 s2 s3 s4 s5 : Sd} (e0 : A ⟨[.im V, .un, .un, .un, .un], none⟩ = .nx s1) (e1 : B s1 = .nx s2) (e2 : C s2 = .nx s3) (e3 : D s3 = .nx s4) (e4 : E s4 = .rt (.im (.bool true)) s5) : mkFn0 5 1 (mSeq A (mSeq B (mSeq C (mSeq D E)))) [.im V] none = .ok (.im (.bool true)) none := by
  simp [mkFn0, e0, e1, e2, e3, e4]
theorem law_true {ad : Ad} (nd : (all_ ad).Nodup) (ns : List Int) (h1 : ns.length ≤ 63) (h2 : ∀ z ∈ ns, Builtin.Int.intBits z ≤ 1048576) : ∃ g', m_law ad [.im (.list (ns.map PyData.int))] none = .ok (.im (.bool true)) g' := by
  obtain ⟨l, hl, G⟩ := generator_ok ns 0 (by decide)
  have hl' : m__law_generator ad [.im (.list (ns.map .int)), .im (.int 0)] none = .ok (.ow (l.map .int)) none := hl
  have e0 := lw0_ok hl'
  obtain ⟨s2, l', e1⟩ := lw1_ok (ad := ad) (V := .list (ns.map .int)) G
  have e2 := lw2_ok (a0 := .im (.list (ns.map .int))) (a1 := .gn) (a2 := s2) (a3 := .un) (a4 := .un) (g := some l')
  have nr31 : Nr 1000 (3, 1) := by unfold Nr; decide
  have m1 : Mb 1000 1000 ⟨1, 2, 0, 1, 5, 0⟩ := ⟨by decide, by decide, by decide, by decide, by decide, by decide⟩
  have m2 : Mb 1000 1000 ⟨1, 1, 0, 1, 0, 0⟩ := ⟨by decide, by decide, by decide, by decide, by decide, by decide⟩
  have m3 : Mb 1000 1000 ⟨0, 1, 1, 0, 2, 0⟩ := ⟨by decide, by decide, by decide, by decide, by decide, by decide⟩
  have m4 : Mb 1000 1000 ⟨0, 1, 1, 0, 0, 0⟩ := ⟨by decide, by decide, by decide, by decide, by decide, by decide⟩
  have d1 := movedpt_ok (ad := ad) (p := (3, 1)) m1 (.inl (by decide)) nr31
  have d3 := onebehind_ok (ad := ad) m2 m3 (.inl (by decide)) (.inr (by decide))
  have d4 := backof_ok (ad := ad) m1 (.inl (by decide))
  have d5 := over_ok (ad := ad) m4 (.inr (by decide))
  have e3 := lw3_ok (MP := m_moved_point ad) (MV := m_moved ad) (OB := m_one_behind ad) (BO := m_back_of ad) (IO := m_is_turned_over ad) (a0 := .im (.list (ns.map .int))) (a1 := .gn) (a2 := s2) (a4 := .un) (g := some l') d1 mv_three d3 d4 d5 mv_55
  have x6 : ∀ m : Mp, Exk 2 (D6 m) := fun m => Exk.up (.tup (by simp) (fun x hx => by
    simp only [List.mem_cons, List.not_mem_nil, or_false] at hx
    rcases hx with rfl | rfl | rfl | rfl | rfl | rfl <;> exact .int _))
  have x := exact_ok (ad := ad) (k := 8) 3 (d := .list dueL) (.lst (by simp) (fun x hx => by
    simp only [dueL, List.mem_cons, List.not_mem_nil, or_false] at hx
    rcases hx with rfl | rfl | rfl | rfl | rfl | rfl
    · exact (exk_pt (10, 1)).up
    · exact exk_pts (l := [(0, 0), (1, 0), (0, 2)]) (by simp)
    · exact x6 _
    · exact x6 _
    · exact .bool _
    · exact exk_pts (l := [(6, 5)]) (by simp))) (by decide)
  obtain ⟨s', e4⟩ := lw4_ok (a0 := .im (.list (ns.map .int))) (a1 := .gn) (a2 := s2) (a3 := .im (.list three)) (g := some l') x
  refine ⟨none, ?_⟩
  rw [lw_eq]
  exact finL e0 e1 e2 e3 e4
end K07

set_option Elab.async false
set_option linter.all false
set_option autoImplicit false
set_option maxRecDepth 100000
set_option maxHeartbeats 1000000
set_option exponentiation.threshold 3000
set_option pp.maxSteps 400
set_option pp.deepTerms false

namespace K07
open PySem PyProof.Rows L2 LamX DL
theorem fin {l : PySem.W.OpenLaw} {w : World} {K : PySem.W.Frag} {h : Heap} {mg : Str → Option Value} {fa : Addr} {AInvalidFigure AInvalidMap AInvalidPoint AGridError : Addr} {t_MOST_CORNERS : Tok} {t_MOST_FAR : Tok} (hl : l.prog = PW) (KX : K.In h) (G : h.Ns mainGlobals mg) (hmg : mg "law" = some (.ref fa))
    (b_abs : PySem.W.nsIn K mainGlobals "abs" = some none)
    (b_all : PySem.W.nsIn K mainGlobals "all" = some none)
    (b_bool : PySem.W.nsIn K mainGlobals "bool" = some none)
    (b_enumerate : PySem.W.nsIn K mainGlobals "enumerate" = some none)
    (b_gcd : PySem.W.nsIn K mainGlobals "gcd" = some (some (.builtin "math.gcd")))
    (b_int : PySem.W.nsIn K mainGlobals "int" = some none)
    (b_isinstance : PySem.W.nsIn K mainGlobals "isinstance" = some none)
    (b_len : PySem.W.nsIn K mainGlobals "len" = some none)
    (b_list : PySem.W.nsIn K mainGlobals "list" = some none)
    (b_max : PySem.W.nsIn K mainGlobals "max" = some none)
    (b_min : PySem.W.nsIn K mainGlobals "min" = some none)
    (b_range : PySem.W.nsIn K mainGlobals "range" = some none)
    (b_set : PySem.W.nsIn K mainGlobals "set" = some none)
    (b_sorted : PySem.W.nsIn K mainGlobals "sorted" = some none)
    (b_str : PySem.W.nsIn K mainGlobals "str" = some none)
    (b_sum : PySem.W.nsIn K mainGlobals "sum" = some none)
    (b_tuple : PySem.W.nsIn K mainGlobals "tuple" = some none)
    (c_MOST_CORNERS : PySem.W.nsIn K mainGlobals "MOST_CORNERS" = some (some (.int 12 t_MOST_CORNERS)))
    (c_MOST_FAR : PySem.W.nsIn K mainGlobals "MOST_FAR" = some (some (.int 1000 t_MOST_FAR)))
    (g_InvalidFigure : PySem.W.nsIn K mainGlobals "InvalidFigure" = some (some (.ref AInvalidFigure)))
    (e_InvalidFigure : ∃ fI cc cda qn, ETxt l.prog K mg AInvalidFigure fI cc cda qn)
    (k_InvalidFigure : ExcOk K AInvalidFigure)
    (g_InvalidMap : PySem.W.nsIn K mainGlobals "InvalidMap" = some (some (.ref AInvalidMap)))
    (e_InvalidMap : ∃ fI cc cda qn, ETxt l.prog K mg AInvalidMap fI cc cda qn)
    (k_InvalidMap : ExcOk K AInvalidMap)
    (g_InvalidPoint : PySem.W.nsIn K mainGlobals "InvalidPoint" = some (some (.ref AInvalidPoint)))
    (e_InvalidPoint : ∃ fI cc cda qn, ETxt l.prog K mg AInvalidPoint fI cc cda qn)
    (k_InvalidPoint : ExcOk K AInvalidPoint)
    (g_GridError : PySem.W.nsIn K mainGlobals "GridError" = some (some (.ref AGridError)))
    (x_InvalidFigure : PySem.W.exmOne K (.ref AInvalidFigure) (.ref AGridError) = some true)
    (i_InvalidFigure_InvalidFigure : PySem.W.kitOne K (.ref AInvalidFigure) (.ref AInvalidFigure) = some true)
    (i_InvalidMap_InvalidFigure : PySem.W.kitOne K (.ref AInvalidMap) (.ref AInvalidFigure) = some false)
    (i_InvalidPoint_InvalidFigure : PySem.W.kitOne K (.ref AInvalidPoint) (.ref AInvalidFigure) = some false)
    (x_InvalidMap : PySem.W.exmOne K (.ref AInvalidMap) (.ref AGridError) = some true)
    (i_InvalidFigure_InvalidMap : PySem.W.kitOne K (.ref AInvalidFigure) (.ref AInvalidMap) = some false)
    (i_InvalidMap_InvalidMap : PySem.W.kitOne K (.ref AInvalidMap) (.ref AInvalidMap) = some true)
    (i_InvalidPoint_InvalidMap : PySem.W.kitOne K (.ref AInvalidPoint) (.ref AInvalidMap) = some false)
    (x_InvalidPoint : PySem.W.exmOne K (.ref AInvalidPoint) (.ref AGridError) = some true)
    (i_InvalidFigure_InvalidPoint : PySem.W.kitOne K (.ref AInvalidFigure) (.ref AInvalidPoint) = some false)
    (i_InvalidMap_InvalidPoint : PySem.W.kitOne K (.ref AInvalidMap) (.ref AInvalidPoint) = some false)
    (i_InvalidPoint_InvalidPoint : PySem.W.kitOne K (.ref AInvalidPoint) (.ref AInvalidPoint) = some true)
    (nd : ([AInvalidFigure, AInvalidMap, AInvalidPoint] : List Addr).Nodup)
    (a_is_whole : ∃ (f : Addr) (fd : FuncData), mg "is_whole" = some (.ref f) ∧ Fun K "is_whole" "is_whole" S_is_whole f fd)
    (a_turn_at : ∃ (f : Addr) (fd : FuncData), mg "turn_at" = some (.ref f) ∧ Fun K "turn_at" "turn_at" S_turn_at f fd)
    (a_steps_between : ∃ (f : Addr) (fd : FuncData), mg "steps_between" = some (.ref f) ∧ Fun K "steps_between" "steps_between" S_steps_between f fd)
    (a_gone : ∃ (f : Addr) (fd : FuncData), mg "gone" = some (.ref f) ∧ Fun K "gone" "gone" S_gone f fd)
    (a_behind_in : ∃ (f : Addr) (fd : FuncData), mg "behind_in" = some (.ref f) ∧ Fun K "behind_in" "behind_in" S_behind_in f fd)
    (a_back_in : ∃ (f : Addr) (fd : FuncData), mg "back_in" = some (.ref f) ∧ Fun K "back_in" "back_in" S_back_in f fd)
    (a__law_hash : ∃ (f : Addr) (fd : FuncData), mg "_law_hash" = some (.ref f) ∧ Fun K "_law_hash" "_law_hash" S__law_hash f fd)
    (a__law_cell : ∃ (f : Addr) (fd : FuncData), mg "_law_cell" = some (.ref f) ∧ Fun K "_law_cell" "_law_cell" S__law_cell f fd)
    (a__law_turn : ∃ (f : Addr) (fd : FuncData), mg "_law_turn" = some (.ref f) ∧ Fun K "_law_turn" "_law_turn" S__law_turn f fd)
    (a__law_gone : ∃ (f : Addr) (fd : FuncData), mg "_law_gone" = some (.ref f) ∧ Fun K "_law_gone" "_law_gone" S__law_gone f fd)
    (a_is_near : ∃ (f : Addr) (fd : FuncData), mg "is_near" = some (.ref f) ∧ Fun K "is_near" "is_near" S_is_near f fd)
    (a_is_ring_of_corners : ∃ (f : Addr) (fd : FuncData), mg "is_ring_of_corners" = some (.ref f) ∧ Fun K "is_ring_of_corners" "is_ring_of_corners" S_is_ring_of_corners f fd)
    (a_area_in : ∃ (f : Addr) (fd : FuncData), mg "area_in" = some (.ref f) ∧ Fun K "area_in" "area_in" S_area_in f fd)
    (a_rim_in : ∃ (f : Addr) (fd : FuncData), mg "rim_in" = some (.ref f) ∧ Fun K "rim_in" "rim_in" S_rim_in f fd)
    (a_half_ring : ∃ (f : Addr) (fd : FuncData), mg "half_ring" = some (.ref f) ∧ Fun K "half_ring" "half_ring" S_half_ring f fd)
    (a__law_random : ∃ (f : Addr) (fd : FuncData), mg "_law_random" = some (.ref f) ∧ Fun K "_law_random" "_law_random" S__law_random f fd)
    (a__law_generator : ∃ (f : Addr) (fd : FuncData), mg "_law_generator" = some (.ref f) ∧ Fun K "_law_generator" "_law_generator" S__law_generator f fd)
    (a__law_half : ∃ (f : Addr) (fd : FuncData), mg "_law_half" = some (.ref f) ∧ Fun K "_law_half" "_law_half" S__law_half f fd)
    (a__law_behind : ∃ (f : Addr) (fd : FuncData), mg "_law_behind" = some (.ref f) ∧ Fun K "_law_behind" "_law_behind" S__law_behind f fd)
    (a_is_point : ∃ (f : Addr) (fd : FuncData), mg "is_point" = some (.ref f) ∧ Fun K "is_point" "is_point" S_is_point f fd)
    (a_is_map : ∃ (f : Addr) (fd : FuncData), mg "is_map" = some (.ref f) ∧ Fun K "is_map" "is_map" S_is_map f fd)
    (a_inner_in : ∃ (f : Addr) (fd : FuncData), mg "inner_in" = some (.ref f) ∧ Fun K "inner_in" "inner_in" S_inner_in f fd)
    (a_ring_of : ∃ (f : Addr) (fd : FuncData), mg "ring_of" = some (.ref f) ∧ Fun K "ring_of" "ring_of" S_ring_of f fd)
    (a__law_pick : ∃ (f : Addr) (fd : FuncData), mg "_law_pick" = some (.ref f) ∧ Fun K "_law_pick" "_law_pick" S__law_pick f fd)
    (a__law_ring : ∃ (f : Addr) (fd : FuncData), mg "_law_ring" = some (.ref f) ∧ Fun K "_law_ring" "_law_ring" S__law_ring f fd)
    (a__law_drawn_point : ∃ (f : Addr) (fd : FuncData), mg "_law_drawn_point" = some (.ref f) ∧ Fun K "_law_drawn_point" "_law_drawn_point" S__law_drawn_point f fd)
    (a_are_figure_points : ∃ (f : Addr) (fd : FuncData), mg "are_figure_points" = some (.ref f) ∧ Fun K "are_figure_points" "are_figure_points" S_are_figure_points f fd)
    (a_check_point : ∃ (f : Addr) (fd : FuncData), mg "check_point" = some (.ref f) ∧ Fun K "check_point" "check_point" S_check_point f fd)
    (a_check_map : ∃ (f : Addr) (fd : FuncData), mg "check_map" = some (.ref f) ∧ Fun K "check_map" "check_map" S_check_map f fd)
    (a_moved_in : ∃ (f : Addr) (fd : FuncData), mg "moved_in" = some (.ref f) ∧ Fun K "moved_in" "moved_in" S_moved_in f fd)
    (a__law_figure : ∃ (f : Addr) (fd : FuncData), mg "_law_figure" = some (.ref f) ∧ Fun K "_law_figure" "_law_figure" S__law_figure f fd)
    (a__law_map : ∃ (f : Addr) (fd : FuncData), mg "_law_map" = some (.ref f) ∧ Fun K "_law_map" "_law_map" S__law_map f fd)
    (a_is_figure : ∃ (f : Addr) (fd : FuncData), mg "is_figure" = some (.ref f) ∧ Fun K "is_figure" "is_figure" S_is_figure f fd)
    (a_moved_point : ∃ (f : Addr) (fd : FuncData), mg "moved_point" = some (.ref f) ∧ Fun K "moved_point" "moved_point" S_moved_point f fd)
    (a_one_behind : ∃ (f : Addr) (fd : FuncData), mg "one_behind" = some (.ref f) ∧ Fun K "one_behind" "one_behind" S_one_behind f fd)
    (a_back_of : ∃ (f : Addr) (fd : FuncData), mg "back_of" = some (.ref f) ∧ Fun K "back_of" "back_of" S_back_of f fd)
    (a_is_turned_over : ∃ (f : Addr) (fd : FuncData), mg "is_turned_over" = some (.ref f) ∧ Fun K "is_turned_over" "is_turned_over" S_is_turned_over f fd)
    (a_check_figure : ∃ (f : Addr) (fd : FuncData), mg "check_figure" = some (.ref f) ∧ Fun K "check_figure" "check_figure" S_check_figure f fd)
    (a_twice_area : ∃ (f : Addr) (fd : FuncData), mg "twice_area" = some (.ref f) ∧ Fun K "twice_area" "twice_area" S_twice_area f fd)
    (a_rim_count : ∃ (f : Addr) (fd : FuncData), mg "rim_count" = some (.ref f) ∧ Fun K "rim_count" "rim_count" S_rim_count f fd)
    (a_inner_count : ∃ (f : Addr) (fd : FuncData), mg "inner_count" = some (.ref f) ∧ Fun K "inner_count" "inner_count" S_inner_count f fd)
    (a_moved : ∃ (f : Addr) (fd : FuncData), mg "moved" = some (.ref f) ∧ Fun K "moved" "moved" S_moved f fd)
    (a__law_exact : ∃ (f : Addr) (fd : FuncData), mg "_law_exact" = some (.ref f) ∧ Fun K "_law_exact" "_law_exact" S__law_exact f fd)
    (a__law_copied : ∃ (f : Addr) (fd : FuncData), mg "_law_copied" = some (.ref f) ∧ Fun K "_law_copied" "_law_copied" S__law_copied f fd)
    (a__law_maps_right : ∃ (f : Addr) (fd : FuncData), mg "_law_maps_right" = some (.ref f) ∧ Fun K "_law_maps_right" "_law_maps_right" S__law_maps_right f fd)
    (a__law_figures_right : ∃ (f : Addr) (fd : FuncData), mg "_law_figures_right" = some (.ref f) ∧ Fun K "_law_figures_right" "_law_figures_right" S__law_figures_right f fd)
    (a_law : ∃ (f : Addr) (fd : FuncData), mg "law" = some (.ref f) ∧ Fun K "law" "law" S_law f fd)
    (np : ([] : List Addr).Nodup) : LawD l w K 12 63 "script" mg fa h := by
  have Z : Zs l.prog K mg ⟨AInvalidFigure, AInvalidMap, AInvalidPoint, AGridError⟩ := ⟨PySem.W.mg_none_of KX G b_abs, PySem.W.mg_none_of KX G b_all, PySem.W.mg_none_of KX G b_bool, PySem.W.mg_none_of KX G b_enumerate, PySem.W.mg_of KX G b_gcd, PySem.W.mg_none_of KX G b_int, PySem.W.mg_none_of KX G b_isinstance, PySem.W.mg_none_of KX G b_len, PySem.W.mg_none_of KX G b_list, PySem.W.mg_none_of KX G b_max, PySem.W.mg_none_of KX G b_min, PySem.W.mg_none_of KX G b_range, PySem.W.mg_none_of KX G b_set, PySem.W.mg_none_of KX G b_sorted, PySem.W.mg_none_of KX G b_str, PySem.W.mg_none_of KX G b_sum, PySem.W.mg_none_of KX G b_tuple, ⟨_, PySem.W.mg_of KX G c_MOST_CORNERS⟩, ⟨_, PySem.W.mg_of KX G c_MOST_FAR⟩, e_InvalidFigure, PySem.W.mg_of KX G g_InvalidFigure, tab_of (List.forall_mem_cons.mpr ⟨⟨k_InvalidFigure, i_InvalidFigure_InvalidFigure⟩, List.forall_mem_cons.mpr ⟨⟨k_InvalidMap, i_InvalidMap_InvalidFigure⟩, List.forall_mem_cons.mpr ⟨⟨k_InvalidPoint, i_InvalidPoint_InvalidFigure⟩, fun _ h => nomatch h⟩⟩⟩), e_InvalidMap, PySem.W.mg_of KX G g_InvalidMap, tab_of (List.forall_mem_cons.mpr ⟨⟨k_InvalidFigure, i_InvalidFigure_InvalidMap⟩, List.forall_mem_cons.mpr ⟨⟨k_InvalidMap, i_InvalidMap_InvalidMap⟩, List.forall_mem_cons.mpr ⟨⟨k_InvalidPoint, i_InvalidPoint_InvalidMap⟩, fun _ h => nomatch h⟩⟩⟩), e_InvalidPoint, PySem.W.mg_of KX G g_InvalidPoint, tab_of (List.forall_mem_cons.mpr ⟨⟨k_InvalidFigure, i_InvalidFigure_InvalidPoint⟩, List.forall_mem_cons.mpr ⟨⟨k_InvalidMap, i_InvalidMap_InvalidPoint⟩, List.forall_mem_cons.mpr ⟨⟨k_InvalidPoint, i_InvalidPoint_InvalidPoint⟩, fun _ h => nomatch h⟩⟩⟩), PySem.W.mg_of KX G g_GridError, all_of (List.forall_mem_cons.mpr ⟨x_InvalidFigure, List.forall_mem_cons.mpr ⟨x_InvalidMap, List.forall_mem_cons.mpr ⟨x_InvalidPoint, fun _ h => nomatch h⟩⟩⟩), all_of (List.forall_mem_cons.mpr ⟨k_InvalidFigure, List.forall_mem_cons.mpr ⟨k_InvalidMap, List.forall_mem_cons.mpr ⟨k_InvalidPoint, fun _ h => nomatch h⟩⟩⟩), nd⟩
  have A : Fs K mg ⟨()⟩ := ⟨a_is_whole, a_turn_at, a_steps_between, a_gone, a_behind_in, a_back_in, a__law_hash, a__law_cell, a__law_turn, a__law_gone, a_is_near, a_is_ring_of_corners, a_area_in, a_rim_in, a_half_ring, a__law_random, a__law_generator, a__law_half, a__law_behind, a_is_point, a_is_map, a_inner_in, a_ring_of, a__law_pick, a__law_ring, a__law_drawn_point, a_are_figure_points, a_check_point, a_check_map, a_moved_in, a__law_figure, a__law_map, a_is_figure, a_moved_point, a_one_behind, a_back_of, a_is_turned_over, a_check_figure, a_twice_area, a_rim_count, a_inner_count, a_moved, a__law_exact, a__law_copied, a__law_maps_right, a__law_figures_right⟩
  obtain ⟨f, fd, hm, F⟩ := a_law
  cases hmg.symm.trans hm
  refine ⟨fd, [], Tq ⟨()⟩, m_law ⟨AInvalidFigure, AInvalidMap, AInvalidPoint, AGridError⟩, fun _ h => (by cases h), ?_, ?_, fun ns h1 h2 => law_true (ad := ⟨AInvalidFigure, AInvalidMap, AInvalidPoint, AGridError⟩) nd ns h1 h2, fun base Kb Gb TB => ?_⟩
  · unfold Tq
    simp
  · obtain ⟨oc, od, kV, doc, pm, an, cdv, ct, osl, rfl, lk, hcd⟩ := F.ex
    exact fun s v => .of_eq rfl
  · exact fn_law Z A ⟨np⟩ F
end K07
open PySem PySem.W PyProof.Rows
set_option maxRecDepth 100000 in
set_option maxHeartbeats 0 in
theorem PySem.Challenge.cw_gridpolygons_k07_whole_maps_of_points_holds : PySem.Challenge.rw_gridpolygons_k07_whole_maps_of_points.Holds := by
  w_on; o_law; k_head; (case hw => w_witness2)
  k_fill
  refine DL.dl_walk (l := PySem.Challenge.rw_gridpolygons_k07_whole_maps_of_points) (n := 63) (k := 12) (x := "script") rfl (by decide) rfl ⟨rfl, by decide, by decide⟩ (fun w h Y => PySem.W.kIn_of Y) (fun w => by rfl) ?F
  case F =>
    intro w mg fa h Y KX G hmg
    refine' K07.fin rfl KX G hmg ?b_abs ?b_all ?b_bool ?b_enumerate ?b_gcd ?b_int ?b_isinstance ?b_len ?b_list ?b_max ?b_min ?b_range ?b_set ?b_sorted ?b_str ?b_sum ?b_tuple ?c_MOST_CORNERS ?c_MOST_FAR ?g_InvalidFigure ?e_InvalidFigure ?k_InvalidFigure ?g_InvalidMap ?e_InvalidMap ?k_InvalidMap ?g_InvalidPoint ?e_InvalidPoint ?k_InvalidPoint ?g_GridError ?x_InvalidFigure ?i_InvalidFigure_InvalidFigure ?i_InvalidMap_InvalidFigure ?i_InvalidPoint_InvalidFigure ?x_InvalidMap ?i_InvalidFigure_InvalidMap ?i_InvalidMap_InvalidMap ?i_InvalidPoint_InvalidMap ?x_InvalidPoint ?i_InvalidFigure_InvalidPoint ?i_InvalidMap_InvalidPoint ?i_InvalidPoint_InvalidPoint ?nd ?a_is_whole ?a_turn_at ?a_steps_between ?a_gone ?a_behind_in ?a_back_in ?a__law_hash ?a__law_cell ?a__law_turn ?a__law_gone ?a_is_near ?a_is_ring_of_corners ?a_area_in ?a_rim_in ?a_half_ring ?a__law_random ?a__law_generator ?a__law_half ?a__law_behind ?a_is_point ?a_is_map ?a_inner_in ?a_ring_of ?a__law_pick ?a__law_ring ?a__law_drawn_point ?a_are_figure_points ?a_check_point ?a_check_map ?a_moved_in ?a__law_figure ?a__law_map ?a_is_figure ?a_moved_point ?a_one_behind ?a_back_of ?a_is_turned_over ?a_check_figure ?a_twice_area ?a_rim_count ?a_inner_count ?a_moved ?a__law_exact ?a__law_copied ?a__law_maps_right ?a__law_figures_right ?a_law ?np
    (case b_abs => k_is)
    (case b_all => k_is)
    (case b_bool => k_is)
    (case b_enumerate => k_is)
    (case b_gcd => k_is)
    (case b_int => k_is)
    (case b_isinstance => k_is)
    (case b_len => k_is)
    (case b_list => k_is)
    (case b_max => k_is)
    (case b_min => k_is)
    (case b_range => k_is)
    (case b_set => k_is)
    (case b_sorted => k_is)
    (case b_str => k_is)
    (case b_sum => k_is)
    (case b_tuple => k_is)
    (case c_MOST_CORNERS => k_is)
    (case c_MOST_FAR => k_is)
    (case g_InvalidFigure => k_is)
    (case e_InvalidFigure => (refine' ⟨_, _, _, _, ⟨⟨_, _, _, _, _, _, _, _, _, _, _, _, _, _, _, ?ea, ?eb⟩, ?ec, ?ed, ?ee, ?ef, ?eg, ?eh, ?ei, ?ej, ?ek, ?el, ?em, ⟨_, _, _, _, _, _, _, _, _, _, _, _, _, _, _, _, _, _, _, _, _, _, _, ?en, _, _, _, _, ?eo, ?ep, ?eq, ?er, ?es⟩, ?et, ⟨_, _, _, _, _, _, ?eu, ?ev, ?ew⟩, ⟨_, _, _, ?ex⟩, ?ey, ?ez⟩⟩; (case ea => first | rfl | (conv => lhs; whnf)); (case eb => rfl); (case ec => k_is); (case ed => k_is); (case ee => k_is); (case ef => k_is); (case eg => k_is); (case eh => k_is); (case ei => k_is); (case ej => k_is); (case ek => k_is); (case el => rfl); (case em => k_is); (case en => first | rfl | (conv => lhs; whnf)); (case eo => rfl); (case ep => first | rfl | (conv => lhs; whnf)); (case eq => rfl); (case er => exact fun _ => ⟨_, rfl⟩); (case es => exact fun _ => rfl); (case et => k_is); (case eu => first | rfl | (conv => lhs; whnf)); (case ev => rfl); (case ew => rfl); (case ex => first | rfl | (conv => lhs; whnf)); (case ey => exact PySem.W.mg_none_of KX G (by k_is)); (case ez => rfl)))
    (case k_InvalidFigure => (refine' ⟨?qqa, ?qqb, ?qqc, ?qqd, ?qqe, ?qqf, ?qqg, ?qqh, ?qqi, ?qqj⟩; (case qqa => first | k_is | rfl); (case qqb => first | k_is | rfl); (case qqc => first | k_is | rfl); (case qqd => first | k_is | rfl); (case qqe => first | k_is | rfl); (case qqf => first | k_is | rfl); (case qqg => first | k_is | rfl); (case qqh => first | k_is | rfl); (case qqi => first | k_is | rfl); (case qqj => first | k_is | rfl)))
    (case g_InvalidMap => k_is)
    (case e_InvalidMap => (refine' ⟨_, _, _, _, ⟨⟨_, _, _, _, _, _, _, _, _, _, _, _, _, _, _, ?ea, ?eb⟩, ?ec, ?ed, ?ee, ?ef, ?eg, ?eh, ?ei, ?ej, ?ek, ?el, ?em, ⟨_, _, _, _, _, _, _, _, _, _, _, _, _, _, _, _, _, _, _, _, _, _, _, ?en, _, _, _, _, ?eo, ?ep, ?eq, ?er, ?es⟩, ?et, ⟨_, _, _, _, _, _, ?eu, ?ev, ?ew⟩, ⟨_, _, _, ?ex⟩, ?ey, ?ez⟩⟩; (case ea => first | rfl | (conv => lhs; whnf)); (case eb => rfl); (case ec => k_is); (case ed => k_is); (case ee => k_is); (case ef => k_is); (case eg => k_is); (case eh => k_is); (case ei => k_is); (case ej => k_is); (case ek => k_is); (case el => rfl); (case em => k_is); (case en => first | rfl | (conv => lhs; whnf)); (case eo => rfl); (case ep => first | rfl | (conv => lhs; whnf)); (case eq => rfl); (case er => exact fun _ => ⟨_, rfl⟩); (case es => exact fun _ => rfl); (case et => k_is); (case eu => first | rfl | (conv => lhs; whnf)); (case ev => rfl); (case ew => rfl); (case ex => first | rfl | (conv => lhs; whnf)); (case ey => exact PySem.W.mg_none_of KX G (by k_is)); (case ez => rfl)))
    (case k_InvalidMap => (refine' ⟨?qqa, ?qqb, ?qqc, ?qqd, ?qqe, ?qqf, ?qqg, ?qqh, ?qqi, ?qqj⟩; (case qqa => first | k_is | rfl); (case qqb => first | k_is | rfl); (case qqc => first | k_is | rfl); (case qqd => first | k_is | rfl); (case qqe => first | k_is | rfl); (case qqf => first | k_is | rfl); (case qqg => first | k_is | rfl); (case qqh => first | k_is | rfl); (case qqi => first | k_is | rfl); (case qqj => first | k_is | rfl)))
    (case g_InvalidPoint => k_is)
    (case e_InvalidPoint => (refine' ⟨_, _, _, _, ⟨⟨_, _, _, _, _, _, _, _, _, _, _, _, _, _, _, ?ea, ?eb⟩, ?ec, ?ed, ?ee, ?ef, ?eg, ?eh, ?ei, ?ej, ?ek, ?el, ?em, ⟨_, _, _, _, _, _, _, _, _, _, _, _, _, _, _, _, _, _, _, _, _, _, _, ?en, _, _, _, _, ?eo, ?ep, ?eq, ?er, ?es⟩, ?et, ⟨_, _, _, _, _, _, ?eu, ?ev, ?ew⟩, ⟨_, _, _, ?ex⟩, ?ey, ?ez⟩⟩; (case ea => first | rfl | (conv => lhs; whnf)); (case eb => rfl); (case ec => k_is); (case ed => k_is); (case ee => k_is); (case ef => k_is); (case eg => k_is); (case eh => k_is); (case ei => k_is); (case ej => k_is); (case ek => k_is); (case el => rfl); (case em => k_is); (case en => first | rfl | (conv => lhs; whnf)); (case eo => rfl); (case ep => first | rfl | (conv => lhs; whnf)); (case eq => rfl); (case er => exact fun _ => ⟨_, rfl⟩); (case es => exact fun _ => rfl); (case et => k_is); (case eu => first | rfl | (conv => lhs; whnf)); (case ev => rfl); (case ew => rfl); (case ex => first | rfl | (conv => lhs; whnf)); (case ey => exact PySem.W.mg_none_of KX G (by k_is)); (case ez => rfl)))
    (case k_InvalidPoint => (refine' ⟨?qqa, ?qqb, ?qqc, ?qqd, ?qqe, ?qqf, ?qqg, ?qqh, ?qqi, ?qqj⟩; (case qqa => first | k_is | rfl); (case qqb => first | k_is | rfl); (case qqc => first | k_is | rfl); (case qqd => first | k_is | rfl); (case qqe => first | k_is | rfl); (case qqf => first | k_is | rfl); (case qqg => first | k_is | rfl); (case qqh => first | k_is | rfl); (case qqi => first | k_is | rfl); (case qqj => first | k_is | rfl)))
    (case g_GridError => k_is)
    (case x_InvalidFigure => rfl)
    (case i_InvalidFigure_InvalidFigure => rfl)
    (case i_InvalidMap_InvalidFigure => rfl)
    (case i_InvalidPoint_InvalidFigure => rfl)
    (case x_InvalidMap => rfl)
    (case i_InvalidFigure_InvalidMap => rfl)
    (case i_InvalidMap_InvalidMap => rfl)
    (case i_InvalidPoint_InvalidMap => rfl)
    (case x_InvalidPoint => rfl)
    (case i_InvalidFigure_InvalidPoint => rfl)
    (case i_InvalidMap_InvalidPoint => rfl)
    (case i_InvalidPoint_InvalidPoint => rfl)
    (case nd => decide)
    (case a_is_whole => (refine' DL.at_ (st := K07.S_is_whole) KX G ?fa ?fl ?fc ?fk; (case fa => k_is); (case fl => k_is); (case fc => k_is); (case fk => k_is)))
    (case a_turn_at => (refine' DL.at_ (st := K07.S_turn_at) KX G ?fa ?fl ?fc ?fk; (case fa => k_is); (case fl => k_is); (case fc => k_is); (case fk => k_is)))
    (case a_steps_between => (refine' DL.at_ (st := K07.S_steps_between) KX G ?fa ?fl ?fc ?fk; (case fa => k_is); (case fl => k_is); (case fc => k_is); (case fk => k_is)))
    (case a_gone => (refine' DL.at_ (st := K07.S_gone) KX G ?fa ?fl ?fc ?fk; (case fa => k_is); (case fl => k_is); (case fc => k_is); (case fk => k_is)))
    (case a_behind_in => (refine' DL.at_ (st := K07.S_behind_in) KX G ?fa ?fl ?fc ?fk; (case fa => k_is); (case fl => k_is); (case fc => k_is); (case fk => k_is)))
    (case a_back_in => (refine' DL.at_ (st := K07.S_back_in) KX G ?fa ?fl ?fc ?fk; (case fa => k_is); (case fl => k_is); (case fc => k_is); (case fk => k_is)))
    (case a__law_hash => (refine' DL.at_ (st := K07.S__law_hash) KX G ?fa ?fl ?fc ?fk; (case fa => k_is); (case fl => k_is); (case fc => k_is); (case fk => k_is)))
    (case a__law_cell => (refine' DL.at_ (st := K07.S__law_cell) KX G ?fa ?fl ?fc ?fk; (case fa => k_is); (case fl => k_is); (case fc => k_is); (case fk => k_is)))
    (case a__law_turn => (refine' DL.at_ (st := K07.S__law_turn) KX G ?fa ?fl ?fc ?fk; (case fa => k_is); (case fl => k_is); (case fc => k_is); (case fk => k_is)))
    (case a__law_gone => (refine' DL.at_ (st := K07.S__law_gone) KX G ?fa ?fl ?fc ?fk; (case fa => k_is); (case fl => k_is); (case fc => k_is); (case fk => k_is)))
    (case a_is_near => (refine' DL.at_ (st := K07.S_is_near) KX G ?fa ?fl ?fc ?fk; (case fa => k_is); (case fl => k_is); (case fc => k_is); (case fk => k_is)))
    (case a_is_ring_of_corners => (refine' DL.at_ (st := K07.S_is_ring_of_corners) KX G ?fa ?fl ?fc ?fk; (case fa => k_is); (case fl => k_is); (case fc => k_is); (case fk => k_is)))
    (case a_area_in => (refine' DL.at_ (st := K07.S_area_in) KX G ?fa ?fl ?fc ?fk; (case fa => k_is); (case fl => k_is); (case fc => k_is); (case fk => k_is)))
    (case a_rim_in => (refine' DL.at_ (st := K07.S_rim_in) KX G ?fa ?fl ?fc ?fk; (case fa => k_is); (case fl => k_is); (case fc => k_is); (case fk => k_is)))
    (case a_half_ring => (refine' DL.at_ (st := K07.S_half_ring) KX G ?fa ?fl ?fc ?fk; (case fa => k_is); (case fl => k_is); (case fc => k_is); (case fk => k_is)))
    (case a__law_random => (refine' DL.at_ (st := K07.S__law_random) KX G ?fa ?fl ?fc ?fk; (case fa => k_is); (case fl => k_is); (case fc => k_is); (case fk => k_is)))
    (case a__law_generator => (refine' DL.at_ (st := K07.S__law_generator) KX G ?fa ?fl ?fc ?fk; (case fa => k_is); (case fl => k_is); (case fc => k_is); (case fk => k_is)))
    (case a__law_half => (refine' DL.at_ (st := K07.S__law_half) KX G ?fa ?fl ?fc ?fk; (case fa => k_is); (case fl => k_is); (case fc => k_is); (case fk => k_is)))
    (case a__law_behind => (refine' DL.at_ (st := K07.S__law_behind) KX G ?fa ?fl ?fc ?fk; (case fa => k_is); (case fl => k_is); (case fc => k_is); (case fk => k_is)))
    (case a_is_point => (refine' DL.at_ (st := K07.S_is_point) KX G ?fa ?fl ?fc ?fk; (case fa => k_is); (case fl => k_is); (case fc => k_is); (case fk => k_is)))
    (case a_is_map => (refine' DL.at_ (st := K07.S_is_map) KX G ?fa ?fl ?fc ?fk; (case fa => k_is); (case fl => k_is); (case fc => k_is); (case fk => k_is)))
    (case a_inner_in => (refine' DL.at_ (st := K07.S_inner_in) KX G ?fa ?fl ?fc ?fk; (case fa => k_is); (case fl => k_is); (case fc => k_is); (case fk => k_is)))
    (case a_ring_of => (refine' DL.at_ (st := K07.S_ring_of) KX G ?fa ?fl ?fc ?fk; (case fa => k_is); (case fl => k_is); (case fc => k_is); (case fk => k_is)))
    (case a__law_pick => (refine' DL.at_ (st := K07.S__law_pick) KX G ?fa ?fl ?fc ?fk; (case fa => k_is); (case fl => k_is); (case fc => k_is); (case fk => k_is)))
    (case a__law_ring => (refine' DL.at_ (st := K07.S__law_ring) KX G ?fa ?fl ?fc ?fk; (case fa => k_is); (case fl => k_is); (case fc => k_is); (case fk => k_is)))
    (case a__law_drawn_point => (refine' DL.at_ (st := K07.S__law_drawn_point) KX G ?fa ?fl ?fc ?fk; (case fa => k_is); (case fl => k_is); (case fc => k_is); (case fk => k_is)))
    (case a_are_figure_points => (refine' DL.at_ (st := K07.S_are_figure_points) KX G ?fa ?fl ?fc ?fk; (case fa => k_is); (case fl => k_is); (case fc => k_is); (case fk => k_is)))
    (case a_check_point => (refine' DL.at_ (st := K07.S_check_point) KX G ?fa ?fl ?fc ?fk; (case fa => k_is); (case fl => k_is); (case fc => k_is); (case fk => k_is)))
    (case a_check_map => (refine' DL.at_ (st := K07.S_check_map) KX G ?fa ?fl ?fc ?fk; (case fa => k_is); (case fl => k_is); (case fc => k_is); (case fk => k_is)))
    (case a_moved_in => (refine' DL.at_ (st := K07.S_moved_in) KX G ?fa ?fl ?fc ?fk; (case fa => k_is); (case fl => k_is); (case fc => k_is); (case fk => k_is)))
    (case a__law_figure => (refine' DL.at_ (st := K07.S__law_figure) KX G ?fa ?fl ?fc ?fk; (case fa => k_is); (case fl => k_is); (case fc => k_is); (case fk => k_is)))
    (case a__law_map => (refine' DL.at_ (st := K07.S__law_map) KX G ?fa ?fl ?fc ?fk; (case fa => k_is); (case fl => k_is); (case fc => k_is); (case fk => k_is)))
    (case a_is_figure => (refine' DL.at_ (st := K07.S_is_figure) KX G ?fa ?fl ?fc ?fk; (case fa => k_is); (case fl => k_is); (case fc => k_is); (case fk => k_is)))
    (case a_moved_point => (refine' DL.at_ (st := K07.S_moved_point) KX G ?fa ?fl ?fc ?fk; (case fa => k_is); (case fl => k_is); (case fc => k_is); (case fk => k_is)))
    (case a_one_behind => (refine' DL.at_ (st := K07.S_one_behind) KX G ?fa ?fl ?fc ?fk; (case fa => k_is); (case fl => k_is); (case fc => k_is); (case fk => k_is)))
    (case a_back_of => (refine' DL.at_ (st := K07.S_back_of) KX G ?fa ?fl ?fc ?fk; (case fa => k_is); (case fl => k_is); (case fc => k_is); (case fk => k_is)))
    (case a_is_turned_over => (refine' DL.at_ (st := K07.S_is_turned_over) KX G ?fa ?fl ?fc ?fk; (case fa => k_is); (case fl => k_is); (case fc => k_is); (case fk => k_is)))
    (case a_check_figure => (refine' DL.at_ (st := K07.S_check_figure) KX G ?fa ?fl ?fc ?fk; (case fa => k_is); (case fl => k_is); (case fc => k_is); (case fk => k_is)))
    (case a_twice_area => (refine' DL.at_ (st := K07.S_twice_area) KX G ?fa ?fl ?fc ?fk; (case fa => k_is); (case fl => k_is); (case fc => k_is); (case fk => k_is)))
    (case a_rim_count => (refine' DL.at_ (st := K07.S_rim_count) KX G ?fa ?fl ?fc ?fk; (case fa => k_is); (case fl => k_is); (case fc => k_is); (case fk => k_is)))
    (case a_inner_count => (refine' DL.at_ (st := K07.S_inner_count) KX G ?fa ?fl ?fc ?fk; (case fa => k_is); (case fl => k_is); (case fc => k_is); (case fk => k_is)))
    (case a_moved => (refine' DL.at_ (st := K07.S_moved) KX G ?fa ?fl ?fc ?fk; (case fa => k_is); (case fl => k_is); (case fc => k_is); (case fk => k_is)))
    (case a__law_exact => (refine' DL.at_ (st := K07.S__law_exact) KX G ?fa ?fl ?fc ?fk; (case fa => k_is); (case fl => k_is); (case fc => k_is); (case fk => k_is)))
    (case a__law_copied => (refine' DL.at_ (st := K07.S__law_copied) KX G ?fa ?fl ?fc ?fk; (case fa => k_is); (case fl => k_is); (case fc => k_is); (case fk => k_is)))
    (case a__law_maps_right => (refine' DL.at_ (st := K07.S__law_maps_right) KX G ?fa ?fl ?fc ?fk; (case fa => k_is); (case fl => k_is); (case fc => k_is); (case fk => k_is)))
    (case a__law_figures_right => (refine' DL.at_ (st := K07.S__law_figures_right) KX G ?fa ?fl ?fc ?fk; (case fa => k_is); (case fl => k_is); (case fc => k_is); (case fk => k_is)))
    (case a_law => (refine' DL.at_ (st := K07.S_law) KX G ?fa ?fl ?fc ?fk; (case fa => k_is); (case fl => k_is); (case fc => k_is); (case fk => k_is)))
    (case np => decide)

