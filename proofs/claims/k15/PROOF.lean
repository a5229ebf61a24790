import PyProof.Rows.All
import Wide.All
import OpenK.AllK
import Wide.FinOn
import HandS.ForMost
import HandS.Exc
import HandS.ExcOwn
import HandS.WordsExc
import HandS.TupMul
import HandS.RevRange
import HandS.Style
import HandS.Flow
import KE.GoesNew
import KE.GoesMore
import KE.GoesEnum
import HandS.Zip
import HandS.IsInst
import HandS.SortInts
import HandS.Iter
import HandS.Defaults
import PySem.Challenge.RW_sluicetree_k15_whole_promises_in_turn
set_option Elab.async false
set_option linter.all false
set_option maxRecDepth 100000
set_option maxHeartbeats 1000000
/-! Part 1: values as trees, what stands for them in the heap, footprints, steps -/
namespace Z
open PySem L2

/-- the written part that all stands over -/
class HK where
  K : PySem.W.Frag
variable [HK]

/-- later heap: all that was is -/
def Le (H H' : Hp) : Prop := ∀ a o, H a = some o → H' a = some o
theorem Le.refl (H : Hp) : Le H H := fun _ _ h => h
theorem Le.trans {H H1 H2 : Hp} (a : Le H H1) (b : Le H1 H2) : Le H H2 := fun x o h => b x o (a x o h)
theorem Le.new {H : Hp} {p : Addr} {o : HO} (h : H p = none) : Le H (upd H p o) := fun a u e => by
  rw [upd_ne (ne_of_none e h)]
  exact e
theorem Le.none {H H' : Hp} {p : Addr} (e : Le H H') (h : H' p = none) : H p = none := by
  cases h1 : H p with
  | none => rfl
  | some o =>
    rw [e p o h1] at h
    cases h
/-! ### frozen data -/
mutual
inductive Dt (H : Hp) : V → PyData → Prop
  | non : Dt H .non .none
  | bl (b : Bool) : Dt H (.bl b) (.bool b)
  | int (i : Int) : Dt H (.int i) (.int i)
  | str (x : Str) : Dt H (.str x) (.str x)
  | lst {a : Addr} {xs : List V} {ds : List PyData} : H a = some (.lst xs) → Dts H xs ds → Dt H (.ref a) (.list ds)
  | tup {a : Addr} {xs : List V} {ds : List PyData} : H a = some (.tup xs) → Dts H xs ds → Dt H (.ref a) (.tuple ds)
  | scr {a : Addr} (ns : List Int) : SqL HK.K H a (ns.map V.int) → Dt H (.ref a) (.dict (ns.map fun i => (.int i, .none)))
inductive Dts (H : Hp) : List V → List PyData → Prop
  | nil : Dts H [] []
  | cons {v : V} {vs : List V} {d : PyData} {ds : List PyData} : Dt H v d → Dts H vs ds → Dts H (v :: vs) (d :: ds)
end
theorem sql_mono {K : PySem.W.Frag} {H H' : Hp} (e : Le H H') {a : Addr} {xs : List V} (h : SqL K H a xs) : SqL K H' a xs := by
  rcases h with (h | ⟨o, h⟩) | h
  · exact .inl (.inl (e _ _ h))
  · exact .inl (.inr ⟨o, e _ _ h⟩)
  · exact .inr h
mutual
theorem dt_mono {H H' : Hp} (e : Le H H') : ∀ (d : PyData) (v : V), Dt H v d → Dt H' v d
  | .none, _, h => by cases h; exact .non
  | .bool b, _, h => by cases h; exact .bl b
  | .int i, _, h => by cases h; exact .int i
  | .str x, _, h => by cases h; exact .str x
  | .list ds, _, h => by
    cases h with
    | lst hs ha => exact .lst (e _ _ hs) (dts_mono e ds _ ha)
  | .tuple ds, _, h => by
    cases h with
    | tup hs ha => exact .tup (e _ _ hs) (dts_mono e ds _ ha)
  | .dict _, _, h => by
    cases h with
    | scr ns hs => exact .scr ns (sql_mono e hs)
theorem dts_mono {H H' : Hp} (e : Le H H') : ∀ (ds : List PyData) (vs : List V), Dts H vs ds → Dts H' vs ds
  | [], _, h => by cases h; exact .nil
  | d :: ds, _, h => by
    cases h with
    | cons h1 h2 => exact .cons (dt_mono e d _ h1) (dts_mono e ds _ h2)
end
mutual
theorem dt_dp (K : PySem.W.Frag) {H : Hp} : ∀ (d : PyData) (v : V), Dt H v d → d.canLay0 = true → Dp K H v d
  | .none, _, h, _ => by cases h; exact .non
  | .bool b, _, h, _ => by cases h; exact .bl b
  | .int i, _, h, _ => by cases h; exact .int i
  | .str x, _, h, _ => by cases h; exact .str x
  | .list ds, _, h, c => by
    cases h with
    | lst hs ha => exact .lst (SqL.of hs) (dts_dp K ds _ ha (by simpa only [PyData.canLay0] using c))
  | .tuple ds, _, h, c => by
    cases h with
    | tup hs ha => exact .tup (SqT.of hs) (dts_dp K ds _ ha (by simpa only [PyData.canLay0] using c))
  | .dict _, _, h, c => by simp [PyData.canLay0] at c
theorem dts_dp (K : PySem.W.Frag) {H : Hp} : ∀ (ds : List PyData) (vs : List V), Dts H vs ds → PyData.canLayAll0 ds = true → DpAll K H vs ds
  | [], _, h, _ => by cases h; exact .nil
  | d :: ds, _, h, c => by
    cases h with
    | cons h1 h2 =>
      simp only [PyData.canLayAll0, Bool.and_eq_true] at c
      exact .cons (dt_dp K d _ h1 c.1) (dts_dp K ds _ h2 c.2)
end
theorem Le.dt {H H' : Hp} {v : V} {d : PyData} (e : Le H H') (h : Dt H v d) : Dt H' v d := dt_mono e d v h
theorem Le.dts {H H' : Hp} {vs : List V} {ds : List PyData} (e : Le H H') (h : Dts H vs ds) : Dts H' vs ds := dts_mono e ds vs h
theorem Dts.len {H : Hp} : ∀ {vs : List V} {ds : List PyData}, Dts H vs ds → vs.length = ds.length
  | [], [], _ => rfl
  | _ :: _, _ :: _, .cons _ h => by rw [List.length_cons, List.length_cons, h.len]
theorem Dts.get {H : Hp} : ∀ {vs : List V} {ds : List PyData} {i : Nat} {d : PyData}, Dts H vs ds → ds[i]? = some d → ∃ v, vs[i]? = some v ∧ Dt H v d
  | _, [], _, _, _, e => by simp at e
  | _ :: _, _ :: _, 0, _, .cons h _, e => by simp at e; subst e; exact ⟨_, rfl, h⟩
  | _ :: _, _ :: _, i + 1, _, .cons _ h, e => by
    obtain ⟨v, h1, h2⟩ := Dts.get (i := i) h (by simpa using e)
    exact ⟨v, by simpa using h1, h2⟩
theorem Dts.get' {H : Hp} : ∀ {vs : List V} {ds : List PyData} {i : Nat} {v : V}, Dts H vs ds → vs[i]? = some v → ∃ d, ds[i]? = some d ∧ Dt H v d
  | [], _, _, _, _, e => by simp at e
  | _ :: _, _ :: _, 0, _, .cons h _, e => by simp at e; subst e; exact ⟨_, rfl, h⟩
  | _ :: _, _ :: _, i + 1, _, .cons _ h, e => by
    obtain ⟨v, h1, h2⟩ := Dts.get' (i := i) h (by simpa using e)
    exact ⟨v, by simpa using h1, h2⟩
theorem Dts.app {H : Hp} : ∀ {vs ws : List V} {ds es : List PyData}, Dts H vs ds → Dts H ws es → Dts H (vs ++ ws) (ds ++ es)
  | _, _, _, _, .nil, h => h
  | _, _, _, _, .cons h1 h2, h => .cons h1 (h2.app h)
theorem Dts.drop {H : Hp} : ∀ {vs : List V} {ds : List PyData} (n : Nat), Dts H vs ds → Dts H (vs.drop n) (ds.drop n)
  | _, _, 0, h => h
  | _, _, _ + 1, .nil => .nil
  | _, _, n + 1, .cons _ h => h.drop n
theorem Dts.take {H : Hp} : ∀ {vs : List V} {ds : List PyData} (n : Nat), Dts H vs ds → Dts H (vs.take n) (ds.take n)
  | _, _, 0, _ => .nil
  | _, _, _ + 1, .nil => .nil
  | _, _, n + 1, .cons h1 h => .cons h1 (h.take n)
theorem Dts.rev {H : Hp} : ∀ {vs : List V} {ds : List PyData}, Dts H vs ds → Dts H vs.reverse ds.reverse
  | _, _, .nil => .nil
  | _, _, .cons h1 h => by rw [List.reverse_cons, List.reverse_cons]; exact h.rev.app (.cons h1 .nil)
theorem Dts.ints {H : Hp} : ∀ (l : List Int), Dts H (l.map V.int) (l.map PyData.int)
  | [] => .nil
  | i :: l => .cons (.int i) (Dts.ints l)
theorem Dts.ints_eq {H : Hp} : ∀ {vs : List V} (l : List Int), Dts H vs (l.map PyData.int) → vs = l.map V.int
  | [], [], _ => rfl
  | v :: vs, i :: l, .cons h1 h => by cases h1; rw [List.map_cons, ← Dts.ints_eq l h]
  | [], _ :: _, h => by cases h
  | _ :: _, [], h => by cases h

/-! ### trees -/
inductive Kind where
  | lst
  | tup
  | dct (ks : List Key)
  | ins (c : Str) (fs : List Str)
inductive OT where
  | frz (d : PyData)
  | nod (k : Kind) (ts : List OT)
abbrev OT.lst (ts : List OT) : OT := .nod .lst ts
abbrev AS := Addr → Prop
def Dj (S T : AS) : Prop := ∀ a, S a → T a → False
def Em : AS := fun _ => False
def Uu (S T : AS) : AS := fun a => S a ∨ T a
def Ad (a : Addr) (S : AS) : AS := fun b => b = a ∨ S b
theorem as_ext {S T : AS} (h : ∀ a, S a ↔ T a) : S = T := funext fun a => propext (h a)
theorem un_em (S : AS) : Uu S Em = S := as_ext fun a => ⟨fun h => h.elim id False.elim, Or.inl⟩
theorem em_un (S : AS) : Uu Em S = S := as_ext fun a => ⟨fun h => h.elim False.elim id, Or.inr⟩
theorem Dj.symm {S T : AS} (h : Dj S T) : Dj T S := fun a x y => h a y x
theorem dj_em (S : AS) : Dj S Em := fun _ _ h => h
theorem em_dj (S : AS) : Dj Em S := fun _ h _ => h
/-- the world's facts that representations need -/
structure Wd where
  K : PySem.W.Frag
  mg : Str → Option Value
def HoIs (W : Wd) (k : Kind) (vs : List V) (o : HO) : Prop :=
  match k with
  | .lst => o = .lst vs
  | .tup => o = .tup vs
  | .dct ks => ks.length = vs.length ∧ o = .dK (ks.zip vs)
  | .ins c fs => fs.length = vs.length ∧ ∃ C dx, W.mg c = some (.ref C) ∧ o = .ins C dx (fs.zip vs)
mutual
inductive Rep (W : Wd) (F H : Hp) : V → OT → AS → Prop
  | frz {v : V} {d : PyData} : Dt F v d → Rep W F H v (.frz d) Em
  | nod {a : Addr} {k : Kind} {o : HO} {vs : List V} {ts : List OT} {S : AS} : H a = some o → F a = none → HoIs W k vs o → Reps W F H vs ts S → ¬ S a → Rep W F H (.ref a) (.nod k ts) (Ad a S)
inductive Reps (W : Wd) (F H : Hp) : List V → List OT → AS → Prop
  | nil : Reps W F H [] [] Em
  | cons {v : V} {vs : List V} {t : OT} {ts : List OT} {S T : AS} : Rep W F H v t S → Reps W F H vs ts T → Dj S T → Reps W F H (v :: vs) (t :: ts) (Uu S T)
end
mutual
theorem rep_dom {W : Wd} {F H : Hp} : ∀ (t : OT) (v : V) (S : AS), Rep W F H v t S → ∀ a, S a → H a ≠ none ∧ F a = none
  | .frz _, _, _, h, a, s => by cases h; exact s.elim
  | .nod k ts, _, _, h, a, s => by
    cases h with
    | nod h1 h2 h3 h4 h5 =>
      rcases s with s | s
      · subst s; exact ⟨by rw [h1]; simp, h2⟩
      · exact reps_dom ts _ _ h4 a s
theorem reps_dom {W : Wd} {F H : Hp} : ∀ (ts : List OT) (vs : List V) (S : AS), Reps W F H vs ts S → ∀ a, S a → H a ≠ none ∧ F a = none
  | [], _, _, h, a, s => by cases h; exact s.elim
  | t :: ts, _, _, h, a, s => by
    cases h with
    | cons h1 h2 h3 =>
      rcases s with s | s
      · exact rep_dom t _ _ h1 a s
      · exact reps_dom ts _ _ h2 a s
end
/- carried over: F grows off the footprint, H keeps the footprint -/
mutual
theorem rep_carry {W : Wd} {F H F' H' : Hp} : ∀ (t : OT) (v : V) (S : AS), Rep W F H v t S → Le F F' → (∀ a o, S a → H a = some o → H' a = some o) → (∀ a, S a → F' a = none) → Rep W F' H' v t S
  | .frz d, _, _, h, e, _, _ => by cases h with | frz h => exact .frz (e.dt h)
  | .nod k ts, _, _, h, e, k1, k2 => by
    cases h with
    | nod h1 h2 h3 h4 h5 =>
      exact .nod (k1 _ _ (.inl rfl) h1) (k2 _ (.inl rfl)) h3 (reps_carry ts _ _ h4 e (fun a o s => k1 a o (.inr s)) fun a s => k2 a (.inr s)) h5
theorem reps_carry {W : Wd} {F H F' H' : Hp} : ∀ (ts : List OT) (vs : List V) (S : AS), Reps W F H vs ts S → Le F F' → (∀ a o, S a → H a = some o → H' a = some o) → (∀ a, S a → F' a = none) → Reps W F' H' vs ts S
  | [], _, _, h, _, _, _ => by cases h; exact .nil
  | t :: ts, _, _, h, e, k1, k2 => by
    cases h with
    | cons h1 h2 h3 =>
      exact .cons (rep_carry t _ _ h1 e (fun a o s => k1 a o (.inl s)) fun a s => k2 a (.inl s)) (reps_carry ts _ _ h2 e (fun a o s => k1 a o (.inr s)) fun a s => k2 a (.inr s)) h3
end
theorem Reps.len {W : Wd} {F H : Hp} : ∀ {vs : List V} {ts : List OT} {S : AS}, Reps W F H vs ts S → vs.length = ts.length
  | _, _, _, .nil => rfl
  | _, _, _, .cons _ h _ => by rw [List.length_cons, List.length_cons, h.len]

/-! ### steps -/
structure Step (F H : Hp) (S : AS) (F' H' : Hp) (S' : AS) : Prop where
  ff : Le F F'
  fh : Le F' H'
  kp : ∀ a o, H a = some o → ¬ S a → H' a = some o
  dm : ∀ a, H' a = none → H a = none
  nw : ∀ a, S' a → S a ∨ H a = none
  nf : ∀ a, F' a ≠ none → F a ≠ none ∨ S a ∨ H a = none
theorem Step.refl {F H : Hp} {S : AS} (h : Le F H) : Step F H S F H S := ⟨.refl F, h, fun _ _ h _ => h, fun _ h => h, fun _ h => .inl h, fun _ h => .inl h⟩
theorem Step.trans {F H F1 H1 F2 H2 : Hp} {S S1 S2 : AS} (a : Step F H S F1 H1 S1) (b : Step F1 H1 S1 F2 H2 S2) : Step F H S F2 H2 S2 where
  ff := a.ff.trans b.ff
  fh := b.fh
  kp := fun x o h n => b.kp x o (a.kp x o h n) fun s => (a.nw x s).elim n fun z => by rw [h] at z; cases z
  dm := fun x h => a.dm x (b.dm x h)
  nw := fun x s => (b.nw x s).elim (fun s => a.nw x s) fun z => .inr (a.dm x z)
  nf := fun x h => (b.nf x h).elim (fun h => a.nf x h) fun h => h.elim (fun s => .inr (a.nw x s)) fun z => .inr (.inr (a.dm x z))
/-- fewer owned behind -/
theorem Step.sub {F H F1 H1 : Hp} {S S1 S2 : AS} (a : Step F H S F1 H1 S1) (h : ∀ x, S2 x → S1 x) : Step F H S F1 H1 S2 := ⟨a.ff, a.fh, a.kp, a.dm, fun x s => a.nw x (h x s), a.nf⟩
/-- more owned ahead, carried through: T stands apart -/
theorem Step.frame {F H F1 H1 : Hp} {S S1 T : AS} (a : Step F H S F1 H1 S1) : Step F H (Uu T S) F1 H1 (Uu T S1) :=
  ⟨a.ff, a.fh, fun x o h n => a.kp x o h fun s => n (.inr s), a.dm, fun x s => s.elim (fun s => .inl (.inl s)) fun s => (a.nw x s).elim (fun s => .inl (.inr s)) .inr, fun x h => (a.nf x h).elim .inl fun h => h.elim (fun s => .inr (.inl (.inr s))) fun z => .inr (.inr z)⟩
/-- what is owned apart from a step's footprint stays owned -/
theorem Step.off {F H F1 H1 : Hp} {S S1 T : AS} (a : Step F H S F1 H1 S1) (hT : ∀ x, T x → H x ≠ none ∧ F x = none) (d : Dj T S) : (∀ x o, T x → H x = some o → H1 x = some o) ∧ (∀ x, T x → F1 x = none) ∧ Dj T S1 :=
  ⟨fun x o t h => a.kp x o h fun s => d x t s, fun x t => by
    cases e : F1 x with
    | none => rfl
    | some o =>
      rcases a.nf x (by rw [e]; simp) with z | z | z
      · exact absurd (hT x t).2 z
      · exact (d x t z).elim
      · exact absurd z (hT x t).1, fun x t s => (a.nw x s).elim (fun s => d x t s) fun z => (hT x t).1 z⟩
theorem Step.rep {W : Wd} {F H F1 H1 : Hp} {S S1 T : AS} {v : V} {t : OT} (a : Step F H S F1 H1 S1) (h : Rep W F H v t T) (d : Dj T S) : Rep W F1 H1 v t T :=
  let ⟨h1, h2, _⟩ := a.off (rep_dom t v T h) d
  rep_carry t v T h a.ff h1 h2
theorem Step.reps {W : Wd} {F H F1 H1 : Hp} {S S1 T : AS} {vs : List V} {ts : List OT} (a : Step F H S F1 H1 S1) (h : Reps W F H vs ts T) (d : Dj T S) : Reps W F1 H1 vs ts T :=
  let ⟨h1, h2, _⟩ := a.off (reps_dom ts vs T h) d
  reps_carry ts vs T h a.ff h1 h2
/-- a new frozen object -/
theorem Step.new {F H : Hp} {S : AS} {p : Addr} {o : HO} (e : Le F H) (h : H p = none) : Step F H S (upd F p o) (upd H p o) S where
  ff := Le.new (e.none h)
  fh := fun a u x => by
    by_cases q : a = p
    · subst q; rw [upd_same] at x ⊢; exact x
    · rw [upd_ne q] at x ⊢; exact e a u x
  kp := fun a u x _ => by rw [upd_ne (ne_of_none x h)]; exact x
  dm := fun a x => by
    by_cases q : a = p
    · subst q; exact h
    · rw [upd_ne q] at x; exact x
  nw := fun _ s => .inl s
  nf := fun a x => by
    by_cases q : a = p
    · subst q; exact .inr (.inr h)
    · rw [upd_ne q] at x; exact .inl x
/-- a new owned object -/
theorem Step.newO {F H : Hp} {S : AS} {p : Addr} {o : HO} (e : Le F H) (h : H p = none) : Step F H S F (upd H p o) (Ad p S) where
  ff := .refl F
  fh := fun a u x => by rw [upd_ne (ne_of_none (e a u x) h)]; exact e a u x
  kp := fun a u x _ => by rw [upd_ne (ne_of_none x h)]; exact x
  dm := fun a x => by
    by_cases q : a = p
    · subst q; exact h
    · rw [upd_ne q] at x; exact x
  nw := fun a s => s.elim (fun s => .inr (by rw [s]; exact h)) .inl
  nf := fun a x => .inl x
/-- an owned object changes -/
theorem Step.mut {F H : Hp} {S : AS} {p : Addr} {o : HO} (e : Le F H) (hp : S p) (hf : F p = none) : Step F H S F (upd H p o) S where
  ff := .refl F
  fh := fun a u x => by
    have : a ≠ p := fun q => by rw [q, hf] at x; cases x
    rw [upd_ne this]; exact e a u x
  kp := fun a u x n => by
    have : a ≠ p := fun q => n (by rw [q]; exact hp)
    rw [upd_ne this]; exact x
  dm := fun a x => by
    by_cases q : a = p
    · rw [q, upd_same] at x; cases x
    · rw [upd_ne q] at x; exact x
  nw := fun _ s => .inl s
  nf := fun _ x => .inl x

/-! ### freezing -/
mutual
def toD : OT → Option PyData
  | .frz d => some d
  | .nod .lst ts => (toDs ts).map PyData.list
  | .nod .tup ts => (toDs ts).map PyData.tuple
  | .nod _ _ => none
def toDs : List OT → Option (List PyData)
  | [] => some []
  | t :: ts => match toD t, toDs ts with
    | some d, some ds => some (d :: ds)
    | _, _ => none
end

open Classical in
noncomputable def froze (F H : Hp) (S : AS) : Hp := fun a => if S a then H a else F a
theorem froze_in {F H : Hp} {S : AS} {a : Addr} (h : S a) : froze F H S a = H a := by unfold froze; rw [if_pos h]
theorem froze_out {F H : Hp} {S : AS} {a : Addr} (h : ¬ S a) : froze F H S a = F a := by unfold froze; rw [if_neg h]
theorem froze_le {F H : Hp} {S : AS} (h : ∀ a, S a → F a = none) : Le F (froze F H S) := fun a o e => by
  rw [froze_out fun s => by rw [h a s] at e; cases e]; exact e
theorem froze_le' {F H : Hp} {S : AS} (e : Le F H) : Le (froze F H S) H := fun a o x => by
  by_cases s : S a
  · rw [froze_in s] at x; exact x
  · rw [froze_out s] at x; exact e a o x
mutual
/-- what is owned reads as data in the whole heap's part that holds it -/
theorem rep_dp {W : Wd} {F H G : Hp} : ∀ (t : OT) (v : V) (S : AS) (d : PyData), Rep W F H v t S → toD t = some d → Le F G → (∀ a, S a → G a = H a) → Dt G v d
  | .frz d', _, _, d, h, e, l, _ => by
    cases h with
    | frz h =>
      have : d' = d := by simpa [toD] using e
      subst this
      exact l.dt h
  | .nod k ts, _, _, d, h, e, l, g => by
    cases h with
    | nod h1 h2 h3 h4 h5 =>
      cases k with
      | lst =>
        have e' : (toDs ts).map PyData.list = some d := by simpa only [toD] using e
        cases e2 : toDs ts with
        | none => rw [e2] at e'; cases e'
        | some ds =>
          rw [e2] at e'
          cases e'
          have h3' : _ = HO.lst _ := h3
          subst h3'
          exact .lst (by rw [g _ (.inl rfl)]; exact h1) (reps_dp ts _ _ ds h4 e2 l fun a s => g a (.inr s))
      | tup =>
        have e' : (toDs ts).map PyData.tuple = some d := by simpa only [toD] using e
        cases e2 : toDs ts with
        | none => rw [e2] at e'; cases e'
        | some ds =>
          rw [e2] at e'
          cases e'
          have h3' : _ = HO.tup _ := h3
          subst h3'
          exact .tup (by rw [g _ (.inl rfl)]; exact h1) (reps_dp ts _ _ ds h4 e2 l fun a s => g a (.inr s))
      | dct ks => simp [toD] at e
      | ins c fs => simp [toD] at e
theorem reps_dp {W : Wd} {F H G : Hp} : ∀ (ts : List OT) (vs : List V) (S : AS) (ds : List PyData), Reps W F H vs ts S → toDs ts = some ds → Le F G → (∀ a, S a → G a = H a) → Dts G vs ds
  | [], _, _, ds, h, e, _, _ => by
    cases h
    have : ds = [] := by simpa [toDs] using e.symm
    subst this
    exact .nil
  | t :: ts, _, _, ds, h, e, l, g => by
    cases h with
    | cons h1 h2 h3 =>
      cases e1 : toD t with
      | none => simp [toDs, e1] at e
      | some d =>
        cases e2 : toDs ts with
        | none => simp [toDs, e1, e2] at e
        | some ds' =>
          have : d :: ds' = ds := by simpa [toDs, e1, e2] using e
          subst this
          exact .cons (rep_dp t _ _ d h1 e1 l fun a s => g a (.inl s)) (reps_dp ts _ _ ds' h2 e2 l fun a s => g a (.inr s))
end
/-- a freed part is frozen -/
theorem Step.freeze {F H : Hp} {S T : AS} (e : Le F H) (hS : ∀ a, S a → H a ≠ none ∧ F a = none) : Step F H (Uu S T) (froze F H S) H T where
  ff := froze_le fun a s => (hS a s).2
  fh := froze_le' e
  kp := fun _ _ h _ => h
  dm := fun _ h => h
  nw := fun _ s => .inl (.inr s)
  nf := fun a x => by
    by_cases s : S a
    · exact .inr (.inl (.inl s))
    · rw [froze_out s] at x; exact .inl x
end Z

set_option maxHeartbeats 1000000
/-! Part 2: results, slots, readings of denotations -/
namespace Z
open PySem L2
variable [HK]

/-- an exception: its class's name, its fields -/
structure XC where
  cls : Str
  fs : List (Str × Int)
abbrev Sl := List (Option OT)
inductive R (α : Type) where
  | ok (a : α) (st : Sl)
  | err (e : XC) (st : Sl)
  | no
def R.bind {α β : Type} (r : R α) (k : α → Sl → R β) : R β :=
  match r with
  | .ok a st => k a st
  | .err e st => .err e st
  | .no => .no
def lift {α : Type} (o : Option α) (st : Sl) : R α :=
  match o with
  | some a => .ok a st
  | none => .no
@[simp] theorem R.bind_ok {α β : Type} (a : α) (st : Sl) (k : α → Sl → R β) : (R.ok a st).bind k = k a st := rfl
@[simp] theorem R.bind_err {α β : Type} (e : XC) (st : Sl) (k : α → Sl → R β) : (R.err e st).bind k = .err e st := rfl
@[simp] theorem R.bind_no {α β : Type} (k : α → Sl → R β) : (R.no : R α).bind k = .no := rfl
@[simp] theorem lift_some {α : Type} (a : α) (st : Sl) : lift (some a) st = .ok a st := rfl
@[simp] theorem lift_none {α : Type} (st : Sl) : lift (none : Option α) st = .no := rfl

inductive SR (W : Wd) (F H : Hp) : L2.St → Sl → AS → Prop
  | nil : SR W F H [] [] Em
  | non {x : Option V} {σ : L2.St} {st : Sl} {S : AS} : SR W F H σ st S → SR W F H (x :: σ) (none :: st) S
  | som {v : V} {t : OT} {σ : L2.St} {st : Sl} {S T : AS} : Rep W F H v t S → SR W F H σ st T → Dj S T → SR W F H (some v :: σ) (some t :: st) (Uu S T)
section
variable {W : Wd} {F H F' H' : Hp} {σ : L2.St} {st : Sl} {S T S1 : AS} {v : V} {t : OT} {i : Nat}
theorem SR.len : ∀ {σ : L2.St} {st : Sl} {S : AS}, SR W F H σ st S → σ.length = st.length
  | _, _, _, .nil => rfl
  | _, _, _, .non h => by rw [List.length_cons, List.length_cons, h.len]
  | _, _, _, .som _ h _ => by rw [List.length_cons, List.length_cons, h.len]
theorem SR.dom : ∀ {σ : L2.St} {st : Sl} {S : AS}, SR W F H σ st S → ∀ a, S a → H a ≠ none ∧ F a = none
  | _, _, _, .nil, _, s => s.elim
  | _, _, _, .non h, a, s => h.dom a s
  | _, _, _, .som h1 h _, a, s => s.elim (rep_dom _ _ _ h1 a) (h.dom a)
theorem SR.carry (e : Le F F') : ∀ {σ : L2.St} {st : Sl} {S : AS}, SR W F H σ st S → (∀ a o, S a → H a = some o → H' a = some o) → (∀ a, S a → F' a = none) → SR W F' H' σ st S
  | _, _, _, .nil, _, _ => .nil
  | _, _, _, .non h, k1, k2 => .non (h.carry e k1 k2)
  | _, _, _, .som h1 h d, k1, k2 => .som (rep_carry _ _ _ h1 e (fun a o s => k1 a o (.inl s)) fun a s => k2 a (.inl s)) (h.carry e (fun a o s => k1 a o (.inr s)) fun a s => k2 a (.inr s)) d
theorem SR.step {F1 H1 : Hp} {S0 S1 : AS} (h : SR W F H σ st T) (a : Step F H S0 F1 H1 S1) (d : Dj T S0) : SR W F1 H1 σ st T :=
  let ⟨h1, h2, _⟩ := a.off h.dom d
  h.carry a.ff h1 h2
theorem uu_swap (A B C : AS) : Uu A (Uu B C) = Uu B (Uu A C) := as_ext fun a => ⟨fun h => h.elim (fun x => .inr (.inl x)) fun h => h.elim .inl fun x => .inr (.inr x), fun h => h.elim (fun x => .inr (.inl x)) fun h => h.elim .inl fun x => .inr (.inr x)⟩
theorem uu_assoc (A B C : AS) : Uu (Uu A B) C = Uu A (Uu B C) := as_ext fun a => ⟨fun h => h.elim (fun h => h.elim .inl fun x => .inr (.inl x)) fun x => .inr (.inr x), fun h => h.elim (fun x => .inl (.inl x)) fun h => h.elim (fun x => .inl (.inr x)) .inr⟩
theorem SR.take : ∀ {σ : L2.St} {st : Sl} {S : AS} {i : Nat}, SR W F H σ st S → st[i]? = some (some t) → ∃ v S1 T, σ[i]? = some (some v) ∧ Rep W F H v t S1 ∧ SR W F H σ (st.set i none) T ∧ Dj S1 T ∧ S = Uu S1 T
  | _, _, _, _, .nil, e => by simp at e
  | _, _, _, 0, .non h, e => by simp at e
  | _, _, _, 0, .som h1 h d, e => by
    simp at e; subst e
    exact ⟨_, _, _, rfl, h1, .non h, d, rfl⟩
  | _, _, _, i + 1, .non h, e => by
    obtain ⟨v, S1, T, h1, h2, h3, h4, h5⟩ := SR.take (i := i) h (by simpa using e)
    exact ⟨v, S1, T, by simpa using h1, h2, by simpa using SR.non h3, h4, h5⟩
  | _, _, _, i + 1, .som (S := S0) r h d, e => by
    obtain ⟨v, S1, T, h1, h2, h3, h4, h5⟩ := SR.take (i := i) h (by simpa using e)
    subst h5
    refine ⟨v, S1, Uu S0 T, by simpa using h1, h2, by simpa using SR.som r h3 fun a x y => d a x (.inr y), fun a x y => y.elim (fun y => d a y (.inl x)) fun y => h4 a x y, uu_swap _ _ _⟩
theorem SR.put : ∀ {σ : L2.St} {st : Sl} {T : AS} {i : Nat}, SR W F H σ st T → σ[i]? = some (some v) → st[i]? = some none → Rep W F H v t S1 → Dj S1 T → SR W F H σ (st.set i (some t)) (Uu S1 T)
  | _, _, _, _, .nil, e, _, _, _ => by simp at e
  | _, _, _, 0, .non h, e, _, r, d => by
    simp at e; subst e
    exact .som r h d
  | _, _, _, 0, .som h1 h d, _, e, _, _ => by simp at e
  | _, _, _, i + 1, .non h, e, n, r, d => by simpa using SR.non (SR.put (i := i) h (by simpa using e) (by simpa using n) r d)
  | _, _, _, i + 1, .som (S := S0) h1 h d0, e, n, r, d => by
    rw [uu_swap]
    simpa using SR.som h1 (SR.put (i := i) h (by simpa using e) (by simpa using n) r fun a x y => d a x (.inr y)) fun a x y => y.elim (fun y => d a y (.inl x)) fun y => d0 a x y
theorem SR.drop : ∀ {σ : L2.St} {st : Sl} {S : AS} (i : Nat), SR W F H σ st S → ∃ T, SR W F H σ (st.set i none) T ∧ ∀ a, T a → S a
  | _, _, _, _, .nil => ⟨_, .nil, fun _ h => h⟩
  | _, _, _, 0, .non h => ⟨_, .non h, fun _ h => h⟩
  | _, _, _, 0, .som h1 h d => ⟨_, .non h, fun _ h => .inr h⟩
  | _, _, _, i + 1, .non h => by
    obtain ⟨T, h1, h2⟩ := h.drop i
    exact ⟨T, by simpa using SR.non h1, h2⟩
  | _, _, _, i + 1, .som h1 h d => by
    obtain ⟨T, h2, h3⟩ := h.drop i
    exact ⟨_, by simpa using SR.som h1 h2 fun a x y => d a x (h3 a y), fun a (x : Uu _ _ a) => Or.elim x .inl fun x => .inr (h3 a x)⟩
/-- a slot that holds nothing takes a new value -/
theorem SR.setNew : ∀ {σ : L2.St} {st : Sl} {T : AS} {i : Nat}, SR W F H σ st T → st[i]? = some none → Rep W F H v t S1 → Dj S1 T → SR W F H (σ.set i (some v)) (st.set i (some t)) (Uu S1 T)
  | _, _, _, _, .nil, e, _, _ => by simp at e
  | _, _, _, 0, .non h, e, r, d => .som r h d
  | _, _, _, 0, .som h1 h d, e, _, _ => by simp at e
  | _, _, _, i + 1, .non h, n, r, d => by simpa using SR.non (SR.setNew (i := i) h (by simpa using n) r d)
  | _, _, _, i + 1, .som (S := S0) h1 h d0, n, r, d => by
    rw [uu_swap]
    simpa using SR.som h1 (SR.setNew (i := i) h (by simpa using n) r fun a x y => d a x (.inr y)) fun a x y => y.elim (fun y => d a y (.inl x)) fun y => d0 a x y
theorem SR.set (h : SR W F H σ st T) (hi : i < st.length) (r : Rep W F H v t S1) (d : Dj S1 T) : ∃ T', SR W F H (σ.set i (some v)) (st.set i (some t)) (Uu S1 T') ∧ ∀ a, T' a → T a := by
  obtain ⟨T', h1, h2⟩ := h.drop i
  have := h1.setNew (i := i) (by simp [hi]) r fun a x y => d a x (h2 a y)
  rw [List.set_set] at this
  exact ⟨T', this, h2⟩
end

/-! ### growth -/
structure Gro (F H F' H' : Hp) : Prop where
  ff : Le F F'
  fh : Le F' H'
  hh : Le H H'
  nf : ∀ a, F' a ≠ none → F a ≠ none ∨ H a = none
theorem Gro.refl {F H : Hp} (h : Le F H) : Gro F H F H := ⟨.refl F, h, .refl H, fun _ h => .inl h⟩
theorem Gro.new {F H : Hp} {p : Addr} {o : HO} (e : Le F H) (h : H p = none) : Gro F H (upd F p o) (upd H p o) :=
  ⟨Le.new (e.none h), (Step.new (S := Em) e h).fh, Le.new h, fun a x => ((Step.new (S := Em) (o := o) e h).nf a x).elim .inl fun h => h.elim False.elim .inr⟩
theorem Gro.trans {F H F1 H1 F2 H2 : Hp} (a : Gro F H F1 H1) (b : Gro F1 H1 F2 H2) : Gro F H F2 H2 :=
  ⟨a.ff.trans b.ff, b.fh, a.hh.trans b.hh, fun x h => (b.nf x h).elim (fun h => a.nf x h) fun z => .inr (a.hh.none z)⟩
theorem Gro.step {F H F' H' : Hp} {S : AS} (g : Gro F H F' H') : Step F H S F' H' S :=
  ⟨g.ff, g.fh, fun a o h _ => g.hh a o h, fun a h => g.hh.none h, fun _ s => .inl s, fun a h => (g.nf a h).elim .inl fun z => .inr (.inr z)⟩
theorem Gro.sr {W : Wd} {F H F' H' : Hp} {S : AS} {σ : L2.St} {st : Sl} (g : Gro F H F' H') (h : SR W F H σ st S) : SR W F' H' σ st S :=
  h.carry g.ff (fun a o _ e => g.hh a o e) fun a s => by
    cases e : F' a with
    | none => rfl
    | some o =>
      rcases g.nf a (by rw [e]; simp) with z | z
      · exact absurd (h.dom a s).2 z
      · exact absurd z (h.dom a s).1

/-! ### readings -/
/-- an exception as it lies -/
def XRep (W : Wd) (e : XC) (c : Value) (d : Option Addr) (H : Hp) : Prop :=
  W.mg e.cls = some c ∧ ((d = none ∧ e.fs = []) ∨ ∃ a fs, d = some a ∧ H a = some (.xd fs) ∧ ∀ n, fs.lookup n = (e.fs.lookup n).map V.int)
section
variable (W : Wd) (E : XK) (σ : L2.St)
def FinE (F H : Hp) (S : AS) (e : XC) (st : Sl) : Prop := ∀ c d F' H' S', Step F H S F' H' S' → SR W F' H' σ st S' → XRep W e c d H' → E c d H'
def FinV (Q : VK) (F H : Hp) (S : AS) (r : R PyData) : Prop :=
  match r with
  | .ok d st => ∀ v F' H' S', Step F H S F' H' S' → SR W F' H' σ st S' → Dt F' v d → Q v H'
  | .err e st => FinE W E σ F H S e st
  | .no => False
def FinT (Q : Bool → Hp → Prop) (F H : Hp) (S : AS) (r : R Bool) : Prop :=
  match r with
  | .ok b st => ∀ F' H' S', Step F H S F' H' S' → SR W F' H' σ st S' → Q b H'
  | .err e st => FinE W E σ F H S e st
  | .no => False
def FinA (Q : List V → Hp → Prop) (F H : Hp) (S : AS) (r : R (List PyData)) : Prop :=
  match r with
  | .ok ds st => ∀ vs F' H' S', Step F H S F' H' S' → SR W F' H' σ st S' → Dts F' vs ds → Q vs H'
  | .err e st => FinE W E σ F H S e st
  | .no => False
def FinO (Q : VK) (F H : Hp) (S : AS) (r : R OT) : Prop :=
  match r with
  | .ok t st => ∀ v F' H' Sv S', Step F H S F' H' (Uu Sv S') → SR W F' H' σ st S' → Rep W F' H' v t Sv → Dj Sv S' → Q v H'
  | .err e st => FinE W E σ F H S e st
  | .no => False
end
inductive Out where
  | nx | ret (t : OT) | brk | cnt
/-- the slots IO are as they were -/
def Pin (IO : List Nat) (σ σ' : L2.St) : Prop := ∀ i ∈ IO, σ'[i]? = σ[i]?
theorem Pin.refl (IO : List Nat) (σ : L2.St) : Pin IO σ σ := fun _ _ => rfl
theorem Pin.trans {IO : List Nat} {σ σ1 σ2 : L2.St} (a : Pin IO σ σ1) (b : Pin IO σ1 σ2) : Pin IO σ σ2 := fun i h => (b i h).trans (a i h)
theorem Pin.set {IO : List Nat} {σ : L2.St} {i : Nat} {x : Option V} (h : i ∉ IO) : Pin IO σ (σ.set i x) := fun j hj => by
  rw [List.getElem?_set_ne]
  intro e
  subst e
  exact h hj
def FinS (W : Wd) (E : XK) (IO : List Nat) (D : Ends) (σ : L2.St) (F H : Hp) (S : AS) (r : R Out) : Prop :=
  match r with
  | .ok .nx st => ∀ σ' F' H' S', Pin IO σ σ' → Step F H S F' H' S' → SR W F' H' σ' st S' → D.nx σ' H'
  | .ok .brk st => ∀ σ' F' H' S', Pin IO σ σ' → Step F H S F' H' S' → SR W F' H' σ' st S' → D.bk σ' H'
  | .ok .cnt st => ∀ σ' F' H' S', Pin IO σ σ' → Step F H S F' H' S' → SR W F' H' σ' st S' → D.ct σ' H'
  | .ok (.ret t) st => ∀ v σ' F' H' Sv S', Pin IO σ σ' → Step F H S F' H' (Uu Sv S') → SR W F' H' σ' st S' → Rep W F' H' v t Sv → Dj Sv S' → D.rt v H'
  | .err e st => ∀ σ', Pin IO σ σ' → FinE W E σ' F H S e st
  | .no => False
/-- what follows can be a follow-up -/
structure CK (W : Wd) (E : XK) (σ : L2.St) {β : Type} (G : Hp → Hp → AS → R β → Prop) : Prop where
  sh : ∀ {F H S F1 H1 S1 r}, Step F H S F1 H1 S1 → G F H S r → G F1 H1 S1 r
  er : ∀ {F H S e st}, G F H S (.err e st) → FinE W E σ F H S e st
  no : ∀ {F H S}, G F H S .no → False
section
variable {W : Wd} {E : XK} {σ : L2.St} {F H F1 H1 : Hp} {S S1 : AS} {IO : List Nat}
theorem FinE.sh {e : XC} {st : Sl} (a : Step F H S F1 H1 S1) (h : FinE W E σ F H S e st) : FinE W E σ F1 H1 S1 e st := fun c d F' H' S' b s x => h c d F' H' S' (a.trans b) s x
theorem ck_v {Q : VK} : CK W E σ (FinV W E σ Q) := ⟨fun {F H S F1 H1 S1 r} a h => by
    cases r with
    | ok d st => exact fun v F' H' S' b => h v F' H' S' (a.trans b)
    | err e st => exact FinE.sh a h
    | no => exact h, fun h => h, fun h => h⟩
theorem ck_t {Q : Bool → Hp → Prop} : CK W E σ (FinT W E σ Q) := ⟨fun {F H S F1 H1 S1 r} a h => by
    cases r with
    | ok d st => exact fun F' H' S' b => h F' H' S' (a.trans b)
    | err e st => exact FinE.sh a h
    | no => exact h, fun h => h, fun h => h⟩
theorem ck_a {Q : List V → Hp → Prop} : CK W E σ (FinA W E σ Q) := ⟨fun {F H S F1 H1 S1 r} a h => by
    cases r with
    | ok d st => exact fun v F' H' S' b => h v F' H' S' (a.trans b)
    | err e st => exact FinE.sh a h
    | no => exact h, fun h => h, fun h => h⟩
theorem ck_o {Q : VK} : CK W E σ (FinO W E σ Q) := ⟨fun {F H S F1 H1 S1 r} a h => by
    cases r with
    | ok d st => exact fun v F' H' Sv S' b => h v F' H' Sv S' (a.trans b)
    | err e st => exact FinE.sh a h
    | no => exact h, fun h => h, fun h => h⟩
theorem ck_s {D : Ends} : CK W E σ (FinS W E IO D σ) := ⟨fun {F H S F1 H1 S1 r} a h => by
    cases r with
    | ok o st =>
      cases o with
      | nx => exact fun σ' F' H' S' p b => h σ' F' H' S' p (a.trans b)
      | brk => exact fun σ' F' H' S' p b => h σ' F' H' S' p (a.trans b)
      | cnt => exact fun σ' F' H' S' p b => h σ' F' H' S' p (a.trans b)
      | ret t => exact fun v σ' F' H' Sv S' p b => h v σ' F' H' Sv S' p (a.trans b)
    | err e st => exact fun σ' p => FinE.sh a (h σ' p)
    | no => exact h, fun h => h _ (Pin.refl _ _), fun h => h⟩
end
section
variable (W : Wd) (E : XK)
def tV (m : Sl → R PyData) : TE := fun σ H Q => ∃ F st S, SR W F H σ st S ∧ Le F H ∧ FinV W E σ Q F H S (m st)
def tT (m : Sl → R Bool) : TT := fun σ H Q => ∃ F st S, SR W F H σ st S ∧ Le F H ∧ FinT W E σ Q F H S (m st)
def tA (m : Sl → R (List PyData)) : TA := fun σ H Q => ∃ F st S, SR W F H σ st S ∧ Le F H ∧ FinA W E σ Q F H S (m st)
def tO (m : Sl → R OT) : TE := fun σ H Q => ∃ F st S, SR W F H σ st S ∧ Le F H ∧ FinO W E σ Q F H S (m st)
def tS (IO : List Nat) (m : Sl → R Out) : TS := fun D σ H => ∃ F st S, SR W F H σ st S ∧ Le F H ∧ FinS W E IO D σ F H S (m st)
end
/-- where one stands: the slots are told, the rest of the computation is wanted -/
structure At (W : Wd) (E : XK) (σ : L2.St) {β : Type} (G : Hp → Hp → AS → R β → Prop) (F H : Hp) (S : AS) (st : Sl) (r : R β) : Prop where
  sr : SR W F H σ st S
  le : Le F H
  g : G F H S r
section
variable {W : Wd} {E : XK} {σ : L2.St} {F H : Hp} {S : AS} {st : Sl} {β : Type} {G : Hp → Hp → AS → R β → Prop}
theorem tv_bind {m : Sl → R PyData} {k : PyData → Sl → R β} {Q : VK} (ck : CK W E σ G) (a : At W E σ G F H S st ((m st).bind k))
    (q : ∀ v x F1 H1 S1 st1, Step F H S F1 H1 S1 → Dt F1 v x → At W E σ G F1 H1 S1 st1 (k x st1) → Q v H1) : tV W E m σ H Q := by
  refine ⟨F, st, S, a.sr, a.le, ?_⟩
  have g := a.g
  cases e : m st with
  | ok x st1 =>
    rw [e] at g
    exact fun v F1 H1 S1 b s d => q v x F1 H1 S1 st1 b d ⟨s, b.fh, ck.sh b g⟩
  | err x st1 =>
    rw [e] at g
    exact ck.er g
  | no =>
    rw [e] at g
    exact ck.no g
theorem tt_bind {m : Sl → R Bool} {k : Bool → Sl → R β} {Q : Bool → Hp → Prop} (ck : CK W E σ G) (a : At W E σ G F H S st ((m st).bind k))
    (q : ∀ x F1 H1 S1 st1, Step F H S F1 H1 S1 → At W E σ G F1 H1 S1 st1 (k x st1) → Q x H1) : tT W E m σ H Q := by
  refine ⟨F, st, S, a.sr, a.le, ?_⟩
  have g := a.g
  cases e : m st with
  | ok x st1 =>
    rw [e] at g
    exact fun F1 H1 S1 b s => q x F1 H1 S1 st1 b ⟨s, b.fh, ck.sh b g⟩
  | err x st1 =>
    rw [e] at g
    exact ck.er g
  | no =>
    rw [e] at g
    exact ck.no g
theorem ta_bind {m : Sl → R (List PyData)} {k : List PyData → Sl → R β} {Q : List V → Hp → Prop} (ck : CK W E σ G) (a : At W E σ G F H S st ((m st).bind k))
    (q : ∀ vs x F1 H1 S1 st1, Step F H S F1 H1 S1 → Dts F1 vs x → At W E σ G F1 H1 S1 st1 (k x st1) → Q vs H1) : tA W E m σ H Q := by
  refine ⟨F, st, S, a.sr, a.le, ?_⟩
  have g := a.g
  cases e : m st with
  | ok x st1 =>
    rw [e] at g
    exact fun v F1 H1 S1 b s d => q v x F1 H1 S1 st1 b d ⟨s, b.fh, ck.sh b g⟩
  | err x st1 =>
    rw [e] at g
    exact ck.er g
  | no =>
    rw [e] at g
    exact ck.no g
/-- own mode: the value's footprint Sv stands apart from the slots' -/
theorem to_bind {m : Sl → R OT} {k : OT → Sl → R β} {Q : VK} (ck : CK W E σ G) (a : At W E σ G F H S st ((m st).bind k))
    (q : ∀ v x F1 H1 Sv S1 st1, Step F H S F1 H1 (Uu Sv S1) → Rep W F1 H1 v x Sv → Dj Sv S1 → SR W F1 H1 σ st1 S1 → G F1 H1 (Uu Sv S1) (k x st1) → Q v H1) : tO W E m σ H Q := by
  refine ⟨F, st, S, a.sr, a.le, ?_⟩
  have g := a.g
  cases e : m st with
  | ok x st1 =>
    rw [e] at g
    exact fun v F1 H1 Sv S1 b s d dj => q v x F1 H1 Sv S1 st1 b d dj s (ck.sh b g)
  | err x st1 =>
    rw [e] at g
    exact ck.er g
  | no =>
    rw [e] at g
    exact ck.no g
theorem tv_of {m : Sl → R PyData} {Q : VK} (h : tV W E m σ H Q) : ∃ F S st, At W E σ (FinV W E σ Q) F H S st (m st) := let ⟨F, st, S, a, b, c⟩ := h; ⟨F, S, st, a, b, c⟩
theorem tt_of {m : Sl → R Bool} {Q : Bool → Hp → Prop} (h : tT W E m σ H Q) : ∃ F S st, At W E σ (FinT W E σ Q) F H S st (m st) := let ⟨F, st, S, a, b, c⟩ := h; ⟨F, S, st, a, b, c⟩
theorem ta_of {m : Sl → R (List PyData)} {Q : List V → Hp → Prop} (h : tA W E m σ H Q) : ∃ F S st, At W E σ (FinA W E σ Q) F H S st (m st) := let ⟨F, st, S, a, b, c⟩ := h; ⟨F, S, st, a, b, c⟩
theorem to_of {m : Sl → R OT} {Q : VK} (h : tO W E m σ H Q) : ∃ F S st, At W E σ (FinO W E σ Q) F H S st (m st) := let ⟨F, st, S, a, b, c⟩ := h; ⟨F, S, st, a, b, c⟩
theorem ts_of {IO : List Nat} {D : Ends} {m : Sl → R Out} (h : tS W E IO m D σ H) : ∃ F S st, At W E σ (FinS W E IO D σ) F H S st (m st) := let ⟨F, st, S, a, b, c⟩ := h; ⟨F, S, st, a, b, c⟩
/-- the end of an expression in value mode, by growth alone -/
theorem At.fin {Q : VK} {d : PyData} {st' : Sl} (a : At W E σ (FinV W E σ Q) F H S st' (.ok d st')) {v : V} {F' H' : Hp} (g : Gro F H F' H') (h : Dt F' v d) : Q v H' := a.g v F' H' S g.step (g.sr a.sr) h
theorem At.fint {Q : Bool → Hp → Prop} {b : Bool} {st' : Sl} (a : At W E σ (FinT W E σ Q) F H S st' (.ok b st')) : Q b H := a.g F H S (.refl a.le) a.sr
theorem At.to_tv {m : Sl → R PyData} {Q : VK} (a : At W E σ (FinV W E σ Q) F H S st (m st)) : tV W E m σ H Q := ⟨F, st, S, a.sr, a.le, a.g⟩
theorem At.to_tt {m : Sl → R Bool} {Q : Bool → Hp → Prop} (a : At W E σ (FinT W E σ Q) F H S st (m st)) : tT W E m σ H Q := ⟨F, st, S, a.sr, a.le, a.g⟩
theorem At.to_ta {m : Sl → R (List PyData)} {Q : List V → Hp → Prop} (a : At W E σ (FinA W E σ Q) F H S st (m st)) : tA W E m σ H Q := ⟨F, st, S, a.sr, a.le, a.g⟩
theorem At.to_to {m : Sl → R OT} {Q : VK} (a : At W E σ (FinO W E σ Q) F H S st (m st)) : tO W E m σ H Q := ⟨F, st, S, a.sr, a.le, a.g⟩
theorem At.to_ts {IO : List Nat} {D : Ends} {m : Sl → R Out} (a : At W E σ (FinS W E IO D σ) F H S st (m st)) : tS W E IO m D σ H := ⟨F, st, S, a.sr, a.le, a.g⟩
end
/-- a stronger reading -/
theorem pe_imp {X : Cx} {e : Expr} {t t' : TE} (h : PE X e t) (i : ∀ σ H Q, t' σ H Q → t σ H Q) : PE X e t' := ⟨fun pins s σ H Q I q => h.run pins s σ H Q I (i σ H Q q)⟩
theorem pt_imp {X : Cx} {e : Expr} {t t' : TT} (h : PT X e t) (i : ∀ σ H Q, t' σ H Q → t σ H Q) : PT X e t' := ⟨fun pins s σ H Q I q => h.run pins s σ H Q I (i σ H Q q)⟩
theorem pw_imp {X : Cx} {e : Expr} {t t' : TT} (h : PW X e t) (i : ∀ σ H Q, t' σ H Q → t σ H Q) : PW X e t' := ⟨fun w pins s σ H Q I q => h.run w pins s σ H Q I (i σ H Q q)⟩
theorem pa_imp {X : Cx} {es : List Expr} {t t' : TA} (h : PA X es t) (i : ∀ σ H Q, t' σ H Q → t σ H Q) : PA X es t' := ⟨fun pos pins s σ H Q I q => h.run pos pins s σ H Q I (i σ H Q q)⟩
theorem ps_imp {X : Cx} {e : Stmt} {t t' : TS} (h : PS X e t) (i : ∀ D σ H, t' D σ H → t D σ H) : PS X e t' := ⟨fun pins s σ H D I q => h.run pins s σ H D I (i D σ H q)⟩
theorem pss_imp {X : Cx} {e : List Stmt} {t t' : TS} (h : PSs X e t) (i : ∀ D σ H, t' D σ H → t D σ H) : PSs X e t' := ⟨fun pins s σ H D I q => h.run pins s σ H D I (i D σ H q)⟩
abbrev wd (X : Cx) : Wd := ⟨X.K, X.mg⟩
end Z

set_option maxHeartbeats 1000000
/-! Part 3: expressions -/
namespace Z
open PySem PySem.Spec PyProof.Rows L2
variable [HK]

/-! ### combinators -/
def mLit (d : PyData) : Sl → R PyData := fun st => .ok d st
def mVar (i : Nat) : Sl → R PyData := fun st =>
  match st[i]? with
  | some (some (.frz d)) => .ok d st
  | some (some t) => match toD t with
    | some d => .ok d (st.set i (some (.frz d)))
    | none => .no
  | _ => .no
/-- taken out of its slot -/
def mMv (i : Nat) : Sl → R OT := fun st =>
  match st[i]? with
  | some (some t) => .ok t (st.set i none)
  | _ => .no
def mFrz (m : Sl → R OT) : Sl → R PyData := fun st => (m st).bind fun t st => lift (toD t) st
def mUp (m : Sl → R PyData) : Sl → R OT := fun st => (m st).bind fun d st => .ok (.frz d) st
def mUn (f : PyData → Option PyData) (m : Sl → R PyData) : Sl → R PyData := fun st => (m st).bind fun x st => lift (f x) st
def mBin (f : PyData → PyData → Option PyData) (ma mb : Sl → R PyData) : Sl → R PyData := fun st => (ma st).bind fun x st => (mb st).bind fun y st => lift (f x y) st
def isB : PyData → Option Bool
  | .bool b => some b
  | _ => none
def mTest (m : Sl → R PyData) : Sl → R Bool := fun st => (m st).bind fun x st => lift (isB x) st
def mAndT (ma mb : Sl → R Bool) : Sl → R Bool := fun st => (ma st).bind fun b st => if b then mb st else .ok false st
def mOrT (ma mb : Sl → R Bool) : Sl → R Bool := fun st => (ma st).bind fun b st => if b then .ok true st else mb st
def mNotT (ma : Sl → R Bool) : Sl → R Bool := fun st => (ma st).bind fun b st => .ok (!b) st
def mAnd (ma mb : Sl → R PyData) : Sl → R PyData := fun st => (mTest ma st).bind fun b st => if b then mb st else .ok (.bool false) st
def mOr (ma mb : Sl → R PyData) : Sl → R PyData := fun st => (mTest ma st).bind fun b st => if b then .ok (.bool true) st else mb st
def mNot (ma : Sl → R PyData) : Sl → R PyData := fun st => (mTest ma st).bind fun b st => .ok (.bool (!b)) st
def mIf (mc : Sl → R Bool) (ma mb : Sl → R PyData) : Sl → R PyData := fun st => (mc st).bind fun b st => if b then ma st else mb st
def mIfO (mc : Sl → R Bool) (ma mb : Sl → R OT) : Sl → R OT := fun st => (mc st).bind fun b st => if b then ma st else mb st
def mChain (f g : PyData → PyData → Option PyData) (ma mb mc : Sl → R PyData) : Sl → R PyData := fun st => (ma st).bind fun x st => (mb st).bind fun y st =>
  (lift (f x y) st).bind fun z st => (lift (isB z) st).bind fun b st => if b then (mc st).bind fun w st => lift (g y w) st else .ok (.bool false) st
def mNil : Sl → R (List PyData) := fun st => .ok [] st
def mCons (m : Sl → R PyData) (r : Sl → R (List PyData)) : Sl → R (List PyData) := fun st => (m st).bind fun d st => (r st).bind fun ds st => .ok (d :: ds) st
def mTup (m : Sl → R (List PyData)) : Sl → R PyData := fun st => (m st).bind fun ds st => if ds.length ≤ 100000 then .ok (.tuple ds) st else .no
def mLst (m : Sl → R (List PyData)) : Sl → R OT := fun st => (m st).bind fun ds st => if ds.length ≤ 100000 then .ok (.nod .lst (ds.map .frz)) st else .no
/-- a built-in's call: the answer's data -/
def mB (f : List PyData → Option PyData) (m : Sl → R (List PyData)) : Sl → R PyData := fun st => (m st).bind fun ds st => lift (f ds) st
/-- .. a new list -/
def mBL (f : List PyData → Option (List PyData)) (m : Sl → R (List PyData)) : Sl → R OT := fun st => (m st).bind fun ds st => (lift (f ds) st).bind fun es st => .ok (.nod .lst (es.map .frz)) st
/-- evaluated while all that is owned stands still: all slots are read as data; the answer is flat -/
def frzAll (st : Sl) : Sl := st.map fun o => match o with
  | some t => (toD t).map OT.frz
  | none => none
def flatD : PyData → Bool
  | .none => true
  | .bool _ => true
  | .int _ => true
  | .str _ => true
  | _ => false
def mPeek (m : Sl → R PyData) : Sl → R PyData := fun st =>
  match m (frzAll st) with
  | .ok d _ => if flatD d then .ok d st else .no
  | _ => .no
def mPeekT (m : Sl → R Bool) : Sl → R Bool := fun st =>
  match m (frzAll st) with
  | .ok b _ => .ok b st
  | _ => .no
/-- a new list of flat things -/
def mPeekL (m : Sl → R OT) : Sl → R OT := fun st =>
  match m (frzAll st) with
  | .ok (.nod .lst ts) _ => match toDs ts with
    | some ds => if ds.all flatD then .ok (.nod .lst (ds.map .frz)) st else .no
    | none => .no
  | _ => .no

omit [HK] in
theorem toDs_frz : ∀ ds : List PyData, toDs (ds.map OT.frz) = some ds
  | [] => rfl
  | d :: ds => by
    rw [List.map_cons, toDs, toD, toDs_frz ds]
omit [HK] in
theorem toD_lst (ds : List PyData) : toD (.nod .lst (ds.map OT.frz)) = some (.list ds) := by
  rw [toD, toDs_frz]
  rfl
theorem reps_frz {W : Wd} {F H : Hp} : ∀ {vs : List V} {ds : List PyData}, Dts F vs ds → Reps W F H vs (ds.map OT.frz) Em
  | _, _, .nil => .nil
  | _, _, .cons h1 h => by
    have := Reps.cons (.frz h1) (reps_frz (W := W) (H := H) h) (dj_em Em)
    rw [un_em] at this
    exact this
theorem reps_frz_inv {W : Wd} {F H : Hp} : ∀ {ds : List PyData} {vs : List V} {S : AS}, Reps W F H vs (ds.map OT.frz) S → Dts F vs ds ∧ S = Em
  | [], _, _, h => by cases h; exact ⟨.nil, rfl⟩
  | d :: ds, _, _, h => by
    cases h with
    | cons h1 h2 _ =>
      cases h1 with
      | frz h1 =>
        obtain ⟨h3, e⟩ := reps_frz_inv h2
        subst e
        exact ⟨.cons h1 h3, un_em _⟩

section
variable {X : Cx} {E : XK} {a b c e : Expr} {es : List Expr} {ma mb mc m : Sl → R PyData} {mt mu : Sl → R Bool} {mo mp : Sl → R OT} {ml : Sl → R (List PyData)} {pos : Pos}

/-! ### names, constants -/
theorem r_var (i : Nat) {x : Str} {pos : Pos} (hN : X.N[i]? = some x := by rfl) (hv : Vis X.env.scope x := by first | exact Or.inl rfl | exact Or.inr (Or.inl rfl) | exact Or.inr (Or.inr rfl)) (hd : (x == ("__debug__" : Str)) = false := by decide)
    (hcd : (x == ("__classdict__" : Str)) = false := by decide) : PE X (.Name x pos) (tV (wd X) E (mVar i)) := by
  refine pe_imp (pe_var hN hv hd hcd) fun σ H Q h => ?_
  obtain ⟨F, S, st, A⟩ := tv_of h
  have g := A.g
  unfold mVar at g
  cases e : st[i]? with
  | none => rw [e] at g; exact g.elim
  | some o =>
    rw [e] at g
    cases o with
    | none => exact g.elim
    | some t =>
      obtain ⟨v, S1, T, h1, h2, h3, h4, h5⟩ := A.sr.take e
      cases t with
      | frz d =>
        cases h2 with
        | frz h2 => exact ⟨v, h1, g v F H S (.refl A.le) A.sr h2⟩
      | nod k ts =>
        simp only at g
        cases e2 : toD (.nod k ts) with
        | none => rw [e2] at g; exact g.elim
        | some d =>
          rw [e2] at g
          subst h5
          have hd := rep_dom _ _ _ h2
          have fz : Step F H (Uu S1 T) (froze F H S1) H T := Step.freeze A.le hd
          have hdt : Dt (froze F H S1) v d := rep_dp _ _ _ d h2 e2 fz.ff fun a s => froze_in s
          have hT : SR (wd X) (froze F H S1) H σ (st.set i none) T := h3.carry fz.ff (fun a o _ h => h) fun a t => by
            rw [froze_out fun s => h4 a s t]
            exact (h3.dom a t).2
          have hs := hT.put (i := i) h1 (by simp [(List.getElem?_eq_some_iff.mp e).1]) (.frz hdt) (em_dj T)
          rw [List.set_set, em_un] at hs
          exact ⟨v, h1, g v _ H T fz hs hdt⟩
theorem r_mv (i : Nat) {x : Str} {pos : Pos} (hN : X.N[i]? = some x := by rfl) (hv : Vis X.env.scope x := by first | exact Or.inl rfl | exact Or.inr (Or.inl rfl) | exact Or.inr (Or.inr rfl)) (hd : (x == ("__debug__" : Str)) = false := by decide)
    (hcd : (x == ("__classdict__" : Str)) = false := by decide) : PE X (.Name x pos) (tO (wd X) E (mMv i)) := by
  refine pe_imp (pe_var hN hv hd hcd) fun σ H Q h => ?_
  obtain ⟨F, S, st, A⟩ := to_of h
  have g := A.g
  unfold mMv at g
  cases e : st[i]? with
  | none => rw [e] at g; exact g.elim
  | some o =>
    rw [e] at g
    cases o with
    | none => exact g.elim
    | some t =>
      obtain ⟨v, S1, T, h1, h2, h3, h4, h5⟩ := A.sr.take e
      subst h5
      exact ⟨v, h1, g v F H S1 T (.refl A.le) h3 h2 h4⟩
theorem r_lit {v : V} {d : PyData} (h : PE X e (tC v)) (hd : ∀ F, Dt F v d) : PE X e (tV (wd X) E (mLit d)) := by
  refine pe_imp h fun σ H Q q => ?_
  obtain ⟨F, S, st, A⟩ := tv_of q
  exact A.g v F H S (.refl A.le) A.sr (hd F)
theorem r_int {i : Int} {j} : PE X (.Constant (.int i) j pos) (tV (wd X) E (mLit (.int i))) := r_lit pe_int fun _ => .int i
theorem r_bl {b : Bool} {j} : PE X (.Constant (.bool b) j pos) (tV (wd X) E (mLit (.bool b))) := r_lit pe_bl fun _ => .bl b
theorem r_non {j} : PE X (.Constant .none j pos) (tV (wd X) E (mLit .none)) := r_lit pe_non fun _ => .non
theorem r_str {x : Str} {j} : PE X (.Constant (.str x) j pos) (tV (wd X) E (mLit (.str x))) := r_lit pe_str fun _ => .str x
/-- a module's constant int, text -/
theorem r_cst {x : Str} {i : Int} {t : Tok} (hg : Gl X x) (hm : X.mg x = some (.int i t)) (hd : (x == ("__debug__" : Str)) = false := by decide) : PE X (.Name x pos) (tV (wd X) E (mLit (.int i))) := r_lit (pe_glob (v := .int i) hg hm ⟨t, rfl⟩ hd) fun _ => .int i
theorem r_csts {x z : Str} {t : Tok} (hg : Gl X x) (hm : X.mg x = some (.str z t)) (hd : (x == ("__debug__" : Str)) = false := by decide) : PE X (.Name x pos) (tV (wd X) E (mLit (.str z))) := r_lit (pe_glob (v := .str z) hg hm ⟨t, rfl⟩ hd) fun _ => .str z

/-! ### own and frozen -/
theorem r_frz (h : PE X e (tO (wd X) E mo)) : PE X e (tV (wd X) E (mFrz mo)) := by
  refine pe_imp h fun σ H Q q => ?_
  obtain ⟨F, S, st, A⟩ := tv_of q
  refine to_bind ck_v A fun v x F1 H1 Sv S1 st1 b r dj s g => ?_
  cases e : toD x with
  | none => rw [e] at g; exact g.elim
  | some d =>
    rw [e] at g
    have hd := rep_dom _ _ _ r
    have fz : Step F1 H1 (Uu Sv S1) (froze F1 H1 Sv) H1 S1 := Step.freeze b.fh hd
    refine g v _ H1 S1 fz ?_ (rep_dp _ _ _ d r e fz.ff fun a s => froze_in s)
    exact s.carry fz.ff (fun a o _ h => h) fun a t => by
      rw [froze_out fun s => dj a s t]
      exact (s.dom a t).2
theorem r_up (h : PE X e (tV (wd X) E m)) : PE X e (tO (wd X) E (mUp m)) := by
  refine pe_imp h fun σ H Q q => ?_
  obtain ⟨F, S, st, A⟩ := to_of q
  refine tv_bind ck_o A fun v x F1 H1 S1 st1 b d A1 => ?_
  refine A1.g v F1 H1 Em S1 ?_ A1.sr (.frz d) (em_dj S1)
  rw [em_un]
  exact .refl A1.le

/-! ### operators -/
def BinOk (r : R2) (f : PyData → PyData → Option PyData) : Prop := ∀ {F H : Hp} {v u : V} {x y z : PyData} {Q : VK}, Le F H → Dt F v x → Dt F u y → f x y = some z →
  (∀ v' F' H', Gro F H F' H' → Dt F' v' z → Q v' H') → r v u H Q
theorem bin_run {r : R2} {f : PyData → PyData → Option PyData} (hf : BinOk r f) {σ : L2.St} {H : Hp} {Q : VK} (q : tV (wd X) E (mBin f ma mb) σ H Q) : tOp r (tV (wd X) E ma) (tV (wd X) E mb) σ H Q := by
  obtain ⟨F, S, st, A⟩ := tv_of q
  refine tv_bind ck_v A fun v x F1 H1 S1 st1 b1 d1 A1 => tv_bind ck_v A1 fun u y F2 H2 S2 st2 b2 d2 A2 => ?_
  have g := A2.g
  cases e : f x y with
  | none => rw [e] at g; exact g.elim
  | some z =>
    rw [e] at g
    exact hf A2.le (b2.ff.dt d1) d2 e fun v' F' H' gr d => g v' F' H' S2 gr.step (gr.sr A2.sr) d
theorem r_bin {op : Operator} {r : R2} {f : PyData → PyData → Option PyData} (ho : OpR X (binaryOp op) r) (hf : BinOk r f) (ha : PE X a (tV (wd X) E ma)) (hb : PE X b (tV (wd X) E mb)) :
    PE X (.BinOp a op b pos) (tV (wd X) E (mBin f ma mb)) := pe_imp (pe_op ho ha hb) fun _ _ _ q => bin_run hf q
theorem r_cmp {op : CmpOp} {r : R2} {f : PyData → PyData → Option PyData} (ho : OpR X (compareOp op) r) (hf : BinOk r f) (ha : PE X a (tV (wd X) E ma)) (hb : PE X b (tV (wd X) E mb)) (hm : behindInMarks op b = false) :
    PE X (.Compare a [op] [b] pos) (tV (wd X) E (mBin f ma mb)) := pe_imp (pe_cmpR ho ha hb hm) fun _ _ _ q => bin_run hf q
/-- a reading of a value as a test -/
theorem test_run {t : TE} (ht : ∀ σ H Q, tV (wd X) E m σ H Q → t σ H Q) {σ : L2.St} {H : Hp} {Q : Bool → Hp → Prop} (q : tT (wd X) E (mTest m) σ H Q) : t σ H fun x H' => ∃ k, x = .bl k ∧ Q k H' := by
  obtain ⟨F, S, st, A⟩ := tt_of q
  refine ht σ H _ (tv_bind ck_t A fun v x F1 H1 S1 st1 b1 d1 A1 => ?_)
  have g := A1.g
  cases e : isB x with
  | none => rw [e] at g; exact g.elim
  | some k =>
    rw [e] at g
    cases x with
    | bool b =>
      cases e
      cases d1
      exact ⟨_, rfl, g F1 H1 S1 (.refl A1.le) A1.sr⟩
    | _ => cases e
theorem r_cmpT {op : CmpOp} {r : R2} {f : PyData → PyData → Option PyData} (ho : OpR X (compareOp op) r) (hf : BinOk r f) (ha : PE X a (tV (wd X) E ma)) (hb : PE X b (tV (wd X) E mb)) (hm : behindInMarks op b = false) :
    PT X (.Compare a [op] [b] pos) (tT (wd X) E (mTest (mBin f ma mb))) := pt_imp (pt_cmpR ho ha hb hm) fun _ _ _ q => test_run (fun _ _ _ q => bin_run hf q) q
theorem r_val (h : PE X e (tV (wd X) E m)) (he : ∀ whole, isTrue e X.env whole = (do let v ← whole; standAt e.pos; holding [v] (truthy v)) := by intro _; rfl) : PT X e (tT (wd X) E (mTest m)) :=
  pt_imp (pt_val h he) fun _ _ _ q => test_run (t := tV (wd X) E m) (fun _ _ _ q => q) q
theorem chain_run {r r' : R2} {f g : PyData → PyData → Option PyData} (hf : BinOk r f) (hg : BinOk r' g) {σ : L2.St} {H : Hp} {Q : VK} (q : tV (wd X) E (mChain f g ma mb mc) σ H Q) : tChain r r' (tV (wd X) E ma) (tV (wd X) E mb) (tV (wd X) E mc) σ H Q := by
  obtain ⟨F, S, st, A⟩ := tv_of q
  refine tv_bind ck_v A fun v x F1 H1 S1 st1 b1 d1 A1 => tv_bind ck_v A1 fun u y F2 H2 S2 st2 b2 d2 A2 => ?_
  have g2 := A2.g
  cases e : f x y with
  | none => rw [e] at g2; exact g2.elim
  | some z =>
    rw [e] at g2
    refine hf A2.le (b2.ff.dt d1) d2 e fun v' F' H' gr d => ?_
    cases e2 : isB z with
    | none => simp only [lift_some, R.bind_ok, e2] at g2; exact g2.elim
    | some k =>
      simp only [lift_some, R.bind_ok, e2] at g2
      cases z with
      | bool b =>
        have ek : b = k := by simpa [isB] using e2
        subst ek
        have dv : v' = V.bl b := by cases d; rfl
        subst dv
        refine ⟨b, rfl, ?_⟩
        have A3 : At (wd X) E σ (FinV (wd X) E σ Q) F' H' S2 st2 (if b = true then (mc st2).bind fun w st => lift (g y w) st else .ok (.bool false) st2) := ⟨gr.sr A2.sr, gr.fh, ck_v.sh gr.step g2⟩
        cases b with
        | true =>
          rw [if_pos rfl] at A3 ⊢
          refine tv_bind ck_v A3 fun w q F4 H4 S4 st4 b4 d4 A4 => ?_
          have g4 := A4.g
          cases e4 : g y q with
          | none => rw [e4] at g4; exact g4.elim
          | some z' =>
            rw [e4] at g4
            exact hg A4.le ((gr.ff.trans b4.ff).dt d2) d4 e4 fun v' F' H' gr d => g4 v' F' H' S4 gr.step (gr.sr A4.sr) d
        | false =>
          rw [if_neg Bool.false_ne_true] at A3 ⊢
          exact A3.g (.bl false) F' H' S2 (.refl A3.le) A3.sr (.bl false)
      | _ => cases e2
theorem r_chain {op op' : CmpOp} {r r' : R2} {f g : PyData → PyData → Option PyData} (ho : OpR X (compareOp op) r) (hf : BinOk r f) (ho' : OpR X (compareOp op') r') (hg : BinOk r' g) (ha : PE X a (tV (wd X) E ma)) (hb : PE X b (tV (wd X) E mb)) (hc : PE X c (tV (wd X) E mc))
    (hm : lastMarks [op, op'] [b, c] = false := by with_unfolding_all rfl) : PE X (.Compare a [op, op'] [b, c] pos) (tV (wd X) E (mChain f g ma mb mc)) := pe_imp (pe_chain ho ho' ha hb hc hm) fun _ _ _ q => chain_run hf hg q
theorem r_chainT {op op' : CmpOp} {r r' : R2} {f g : PyData → PyData → Option PyData} (ho : OpR X (compareOp op) r) (hf : BinOk r f) (ho' : OpR X (compareOp op') r') (hg : BinOk r' g) (ha : PE X a (tV (wd X) E ma)) (hb : PE X b (tV (wd X) E mb)) (hc : PE X c (tV (wd X) E mc))
    (hm : lastMarks [op, op'] [b, c] = false := by with_unfolding_all rfl) : PT X (.Compare a [op, op'] [b, c] pos) (tT (wd X) E (mTest (mChain f g ma mb mc))) := pt_imp (pt_chain ho ho' ha hb hc hm) fun _ _ _ q => test_run (fun _ _ _ q => chain_run hf hg q) q

/-! ### and, or, not, if -/
variable {rest : List Expr}
theorem r_and1 (h : PT X a (tT (wd X) E mt)) : PW X (.BoolOp .And [a] pos) (tT (wd X) E mt) := pw_and1 h
theorem r_or1 (h : PT X a (tT (wd X) E mt)) : PW X (.BoolOp .Or [a] pos) (tT (wd X) E mt) := pw_or1 h
theorem r_andT (ha : PT X a (tT (wd X) E mt)) (hb : PW X (.BoolOp .And (b :: rest) pos) (tT (wd X) E mu)) : PW X (.BoolOp .And (a :: b :: rest) pos) (tT (wd X) E (mAndT mt mu)) := by
  refine pw_imp (pw_and ha hb) fun σ H Q q => ?_
  obtain ⟨F, S, st, A⟩ := tt_of q
  refine tt_bind ck_t A fun k F1 H1 S1 st1 b1 A1 => ?_
  cases k with
  | true => exact A1.to_tt
  | false => exact A1.fint
theorem r_orT (ha : PT X a (tT (wd X) E mt)) (hb : PW X (.BoolOp .Or (b :: rest) pos) (tT (wd X) E mu)) : PW X (.BoolOp .Or (a :: b :: rest) pos) (tT (wd X) E (mOrT mt mu)) := by
  refine pw_imp (pw_or ha hb) fun σ H Q q => ?_
  obtain ⟨F, S, st, A⟩ := tt_of q
  refine tt_bind ck_t A fun k F1 H1 S1 st1 b1 A1 => ?_
  cases k with
  | true => exact A1.fint
  | false => exact A1.to_tt
theorem r_notT (ha : PT X a (tT (wd X) E mt)) : PT X (.UnaryOp .Not a pos) (tT (wd X) E (mNotT mt)) := by
  refine pt_imp (pt_not ha) fun σ H Q q => ?_
  obtain ⟨F, S, st, A⟩ := tt_of q
  exact tt_bind ck_t A fun k F1 H1 S1 st1 b1 A1 => A1.fint
theorem r_one {op} (h : PE X a (tV (wd X) E m)) : PE X (.BoolOp op [a] pos) (tV (wd X) E m) := pe_one h
theorem r_and (ha : PE X a (tV (wd X) E ma)) (hb : PE X (.BoolOp .And (b :: rest) pos) (tV (wd X) E mb)) : PE X (.BoolOp .And (a :: b :: rest) pos) (tV (wd X) E (mAnd ma mb)) := by
  refine pe_imp (pe_and ha hb) fun σ H Q q => ?_
  obtain ⟨F, S, st, A⟩ := tv_of q
  refine test_run (t := tV (wd X) E ma) (fun _ _ _ q => q) (tt_bind ck_v A fun k F1 H1 S1 st1 b1 A1 => ?_)
  cases k with
  | true => exact A1.to_tv
  | false => exact A1.fin (.refl A1.le) (.bl false)
theorem r_or (ha : PE X a (tV (wd X) E ma)) (hb : PE X (.BoolOp .Or (b :: rest) pos) (tV (wd X) E mb)) : PE X (.BoolOp .Or (a :: b :: rest) pos) (tV (wd X) E (mOr ma mb)) := by
  refine pe_imp (pe_or ha hb) fun σ H Q q => ?_
  obtain ⟨F, S, st, A⟩ := tv_of q
  refine test_run (t := tV (wd X) E ma) (fun _ _ _ q => q) (tt_bind ck_v A fun k F1 H1 S1 st1 b1 A1 => ?_)
  cases k with
  | true => exact A1.fin (.refl A1.le) (.bl true)
  | false => exact A1.to_tv
theorem r_not (ha : PE X a (tV (wd X) E ma)) : PE X (.UnaryOp .Not a pos) (tV (wd X) E (mNot ma)) := by
  refine pe_imp (pe_not ha) fun σ H Q q => ?_
  obtain ⟨F, S, st, A⟩ := tv_of q
  exact test_run (t := tV (wd X) E ma) (fun _ _ _ q => q) (tt_bind ck_v A fun k F1 H1 S1 st1 b1 A1 => A1.fin (.refl A1.le) (.bl _))
theorem r_if {t : Expr} (ht : PT X t (tT (wd X) E mt)) (ha : PE X a (tV (wd X) E ma)) (hb : PE X b (tV (wd X) E mb)) : PE X (.IfExp t a b pos) (tV (wd X) E (mIf mt ma mb)) := by
  refine pe_imp (pe_ifExp ht ha hb) fun σ H Q q => ?_
  obtain ⟨F, S, st, A⟩ := tv_of q
  refine tt_bind ck_v A fun k F1 H1 S1 st1 b1 A1 => ?_
  cases k with
  | true => exact A1.to_tv
  | false => exact A1.to_tv
theorem r_ifO {t : Expr} (ht : PT X t (tT (wd X) E mt)) (ha : PE X a (tO (wd X) E mo)) (hb : PE X b (tO (wd X) E mp)) : PE X (.IfExp t a b pos) (tO (wd X) E (mIfO mt mo mp)) := by
  refine pe_imp (pe_ifExp ht ha hb) fun σ H Q q => ?_
  obtain ⟨F, S, st, A⟩ := to_of q
  refine tt_bind ck_o A fun k F1 H1 S1 st1 b1 A1 => ?_
  cases k with
  | true => exact A1.to_to
  | false => exact A1.to_to

/-! ### argument lists, displays -/
theorem r_nil : PA X [] (tA (wd X) E mNil) := by
  refine pa_imp pa_nil fun σ H Q q => ?_
  obtain ⟨F, S, st, A⟩ := ta_of q
  exact A.g [] F H S (.refl A.le) A.sr .nil
theorem r_cons (ha : PE X e (tV (wd X) E m)) (hr : PA X es (tA (wd X) E ml)) (hs : starEach (e :: es) X.env = (false, eval e X.env) :: starEach es X.env := by rfl) : PA X (e :: es) (tA (wd X) E (mCons m ml)) := by
  refine pa_imp (pa_cons ha hr hs) fun σ H Q q => ?_
  obtain ⟨F, S, st, A⟩ := ta_of q
  refine tv_bind ck_a A fun v x F1 H1 S1 st1 b1 d1 A1 => ta_bind ck_a A1 fun vs xs F2 H2 S2 st2 b2 d2 A2 => ?_
  exact A2.g (v :: vs) F2 H2 S2 (.refl A2.le) A2.sr (.cons (b2.ff.dt d1) d2)
theorem hundred {n : Nat} (h : n ≤ 100000) : n ≤ sizeLine := Nat.le_trans h (by decide)
theorem r_tup {x1} (h : PA X es (tA (wd X) E ml)) : PE X (.Tuple es x1 pos) (tV (wd X) E (mTup ml)) := by
  refine pe_imp (pe_tup h) fun σ H Q q => ?_
  obtain ⟨F, S, st, A⟩ := tv_of q
  refine ta_bind ck_v A fun vs xs F1 H1 S1 st1 b1 d1 A1 => ?_
  have g := A1.g
  by_cases hl : xs.length ≤ 100000
  · rw [if_pos hl] at g
    refine ⟨by rw [d1.len]; exact hundred hl, fun p hp => ?_⟩
    have gr : Gro F1 H1 (upd F1 p (.tup vs)) (upd H1 p (.tup vs)) := Gro.new A1.le hp
    exact g (.ref p) _ _ S1 gr.step (gr.sr A1.sr) (.tup upd_same (gr.ff.dts d1))
  · rw [if_neg hl] at g
    exact g.elim
/-- a new list of frozen items, its place -/
theorem At.newL {σ : L2.St} {F H : Hp} {S : AS} {st : Sl} {Q : VK} {vs : List V} {ds : List PyData} (A : At (wd X) E σ (FinO (wd X) E σ Q) F H S st (.ok (.nod .lst (ds.map .frz)) st)) (d : Dts F vs ds) {p : Addr} (hp : H p = none) : Q (.ref p) (upd H p (.lst vs)) := by
  have hn : ∀ {a}, S a → a ≠ p := fun {a} s e => (A.sr.dom a s).1 (by rw [e]; exact hp)
  refine A.g (.ref p) F (upd H p (.lst vs)) (Ad p Em) S ?_ (A.sr.carry (.refl F) (fun a o s h => by rw [upd_ne (hn s)]; exact h) fun a s => (A.sr.dom a s).2)
    (.nod upd_same (A.le.none hp) rfl (reps_frz d) fun h => h) fun a x s => ?_
  · have e : Uu (Ad p Em) S = Ad p S := as_ext fun a => ⟨fun h => h.elim (fun h => h.elim .inl False.elim) .inr, fun h => h.elim (fun h => .inl (.inl h)) .inr⟩
    rw [e]
    exact Step.newO A.le hp
  · rcases x with x | x
    · exact hn s x
    · exact x
theorem r_lst (h : PA X es (tA (wd X) E ml)) : PE X (.List es pos) (tO (wd X) E (mLst ml)) := by
  refine pe_imp (pe_lst h) fun σ H Q q => ?_
  obtain ⟨F, S, st, A⟩ := to_of q
  refine ta_bind ck_o A fun vs xs F1 H1 S1 st1 b1 d1 A1 => ?_
  by_cases hl : xs.length ≤ 100000
  · rw [if_pos hl] at A1
    exact ⟨by rw [d1.len]; exact hundred hl, fun p hp => A1.newL d1 hp⟩
  · have g := A1.g
    rw [if_neg hl] at g
    exact g.elim

/-! ### built-ins -/
def CallOk (r : List V → Hp → VK → Prop) (f : List PyData → Option PyData) : Prop := ∀ {F H : Hp} {vs : List V} {ds : List PyData} {z : PyData} {Q : VK}, Le F H → Dts F vs ds → f ds = some z →
  (∀ v' F' H', Gro F H F' H' → Dt F' v' z → Q v' H') → r vs H Q
/-- .. that gives a new list -/
def CallOkL (r : List V → Hp → VK → Prop) (f : List PyData → Option (List PyData)) : Prop := ∀ {F H : Hp} {vs : List V} {ds es : List PyData} {Q : VK}, Le F H → Dts F vs ds → f ds = some es →
  (∀ ws p, Dts F ws es → H p = none → Q (.ref p) (upd H p (.lst ws))) → r vs H Q
theorem b_run {r : List V → Hp → VK → Prop} {f : List PyData → Option PyData} (hf : CallOk r f) {σ : L2.St} {H : Hp} {Q : VK} (q : tV (wd X) E (mB f ml) σ H Q) : tCB r (tA (wd X) E ml) σ H Q := by
  obtain ⟨F, S, st, A⟩ := tv_of q
  refine ta_bind ck_v A fun vs xs F1 H1 S1 st1 b1 d1 A1 => ?_
  have g := A1.g
  cases e : f xs with
  | none => rw [e] at g; exact g.elim
  | some z =>
    rw [e] at g
    exact hf A1.le d1 e fun v' F' H' gr d => g v' F' H' S1 gr.step (gr.sr A1.sr) d
theorem bl_run {r : List V → Hp → VK → Prop} {f : List PyData → Option (List PyData)} (hf : CallOkL r f) {σ : L2.St} {H : Hp} {Q : VK} (q : tO (wd X) E (mBL f ml) σ H Q) : tCB r (tA (wd X) E ml) σ H Q := by
  obtain ⟨F, S, st, A⟩ := to_of q
  refine ta_bind ck_o A fun vs xs F1 H1 S1 st1 b1 d1 A1 => ?_
  cases e : f xs with
  | none =>
    have g := A1.g
    rw [e] at g
    exact g.elim
  | some z =>
    rw [e] at A1
    exact hf A1.le d1 e fun ws p d hp => At.newL A1 d hp
theorem r_callB {x : Str} {p : Pos} {id : String} {r : List V → Hp → VK → Prop} {f : List PyData → Option PyData} (hc : CallR X (.builtin id) r) (hf : CallOk r f) (hg : Gl X x) (hm : X.mg x = none) (hv : bootBuiltins x = some (.builtin id)) (ha : PA X (e :: es) (tA (wd X) E ml))
    (hn : x ≠ "__name__" := by decide) (hdb : (x == ("__debug__" : Str)) = false := by decide) (he : starEach (e :: es) X.env = (false, eval e X.env) :: starEach es X.env := by rfl) (hpl : (backTo pos (starEach es X.env)).any (·.1) = false := by rfl) :
    PE X (.Call (.Name x p) (e :: es) [] pos) (tV (wd X) E (mB f ml)) := pe_imp (pe_callB hc hg hm hv ha hn hdb he hpl) fun _ _ _ q => b_run hf q
theorem r_callBL {x : Str} {p : Pos} {id : String} {r : List V → Hp → VK → Prop} {f : List PyData → Option (List PyData)} (hc : CallR X (.builtin id) r) (hf : CallOkL r f) (hg : Gl X x) (hm : X.mg x = none) (hv : bootBuiltins x = some (.builtin id)) (ha : PA X (e :: es) (tA (wd X) E ml))
    (hn : x ≠ "__name__" := by decide) (hdb : (x == ("__debug__" : Str)) = false := by decide) (he : starEach (e :: es) X.env = (false, eval e X.env) :: starEach es X.env := by rfl) (hpl : (backTo pos (starEach es X.env)).any (·.1) = false := by rfl) :
    PE X (.Call (.Name x p) (e :: es) [] pos) (tO (wd X) E (mBL f ml)) := pe_imp (pe_callB hc hg hm hv ha hn hdb he hpl) fun _ _ _ q => bl_run hf q
theorem r_callTy {x : Str} {p : Pos} {T : String} {r : List V → Hp → VK → Prop} {f : List PyData → Option PyData} (hc : CallR X (.type T) r) (hf : CallOk r f) (hg : Gl X x) (hm : X.mg x = none) (hv : bootBuiltins x = some (.type T)) (ha : PA X (e :: es) (tA (wd X) E ml))
    (hn : x ≠ "__name__" := by decide) (hdb : (x == ("__debug__" : Str)) = false := by decide) (he : starEach (e :: es) X.env = (false, eval e X.env) :: starEach es X.env := by rfl) (hpl : (backTo pos (starEach es X.env)).any (·.1) = false := by rfl) :
    PE X (.Call (.Name x p) (e :: es) [] pos) (tV (wd X) E (mB f ml)) := pe_imp (pe_callTy hc hg hm hv ha hn hdb he hpl) fun _ _ _ q => b_run hf q
theorem r_callTyL {x : Str} {p : Pos} {T : String} {r : List V → Hp → VK → Prop} {f : List PyData → Option (List PyData)} (hc : CallR X (.type T) r) (hf : CallOkL r f) (hg : Gl X x) (hm : X.mg x = none) (hv : bootBuiltins x = some (.type T)) (ha : PA X (e :: es) (tA (wd X) E ml))
    (hn : x ≠ "__name__" := by decide) (hdb : (x == ("__debug__" : Str)) = false := by decide) (he : starEach (e :: es) X.env = (false, eval e X.env) :: starEach es X.env := by rfl) (hpl : (backTo pos (starEach es X.env)).any (·.1) = false := by rfl) :
    PE X (.Call (.Name x p) (e :: es) [] pos) (tO (wd X) E (mBL f ml)) := pe_imp (pe_callTy hc hg hm hv ha hn hdb he hpl) fun _ _ _ q => bl_run hf q
/-- a[b] -/
theorem r_ix {r : R2} {f : PyData → PyData → Option PyData} (hr : IxR X r) (hf : BinOk r f) (ha : PE X a (tV (wd X) E ma)) (hb : PE X b (tV (wd X) E mb)) (hs : PlainIx b := by exact fun _ _ => rfl) : PE X (.Subscript a b pos) (tV (wd X) E (mBin f ma mb)) :=
  pe_imp (pe_ix hr ha hb hs) fun _ _ _ q => bin_run hf q
theorem r_un {op : UnaryOp} {r : V → Hp → VK → Prop} {f : PyData → Option PyData} (ho : UnR X (unaryOp op) r) (hf : ∀ {F H : Hp} {v : V} {x z : PyData} {Q : VK}, Le F H → Dt F v x → f x = some z → (∀ v' F' H', Gro F H F' H' → Dt F' v' z → Q v' H') → r v H Q)
    (ha : PE X a (tV (wd X) E ma)) : PE X (.UnaryOp op a pos) (tV (wd X) E (mUn f ma)) := by
  refine pe_imp (pe_un ho ha) fun σ H Q q => ?_
  obtain ⟨F, S, st, A⟩ := tv_of q
  refine tv_bind ck_v A fun v x F1 H1 S1 st1 b1 d1 A1 => ?_
  have g := A1.g
  cases e : f x with
  | none => rw [e] at g; exact g.elim
  | some z =>
    rw [e] at g
    exact hf A1.le d1 e fun v' F' H' gr d => g v' F' H' S1 gr.step (gr.sr A1.sr) d

/-! ### peeking -/
theorem frzAll_sr {W : Wd} {F H : Hp} (hl : Le F H) : ∀ {σ : L2.St} {st : Sl} {S : AS}, SR W F H σ st S → SR W H H σ (frzAll st) Em
  | _, _, _, .nil => .nil
  | _, _, _, .non h => .non (frzAll_sr hl h)
  | _, _, _, .som (t := t) h1 h d => by
    have ih := frzAll_sr hl h
    show SR W H H (some _ :: _) ((toD t).map OT.frz :: frzAll _) Em
    cases e : toD t with
    | none => exact .non ih
    | some x =>
      have := SR.som (.frz (rep_dp (G := H) t _ _ x h1 e hl fun a _ => rfl)) ih (dj_em Em)
      rw [un_em] at this
      exact this
theorem flat_dt {F F' : Hp} {v : V} {d : PyData} (h : Dt F v d) (f : flatD d = true) : Dt F' v d := by
  cases h with
  | non => exact .non
  | bl b => exact .bl b
  | int i => exact .int i
  | str x => exact .str x
  | lst _ _ => cases f
  | tup _ _ => cases f
  | scr _ _ => cases f
theorem flat_dts {F F' : Hp} : ∀ {vs : List V} {ds : List PyData}, Dts F vs ds → ds.all flatD = true → Dts F' vs ds
  | _, _, .nil, _ => .nil
  | _, _, .cons h1 h, f => by
    rw [List.all_cons, Bool.and_eq_true] at f
    exact .cons (flat_dt h1 f.1) (flat_dts h f.2)
/-- behind a peek all stands as it did, in a later heap -/
theorem Step.peeked {F H F' H' : Hp} {S S' : AS} (h : Le F H) (a : Step H H Em F' H' S') : Step F H S F H' S ∧ Le H H' :=
  ⟨⟨.refl F, fun x o e => a.kp x o (h x o e) id, fun x o e _ => a.kp x o e id, a.dm, fun _ s => .inl s, fun _ h => .inl h⟩, fun x o e => a.kp x o e id⟩
theorem r_peek (h : PE X e (tV (wd X) E0 m)) : PE X e (tV (wd X) E (mPeek m)) := by
  refine pe_imp h fun σ H Q q => ?_
  obtain ⟨F, S, st, A⟩ := tv_of q
  have g := A.g
  unfold mPeek at g
  refine ⟨H, frzAll st, Em, frzAll_sr A.le A.sr, .refl H, ?_⟩
  cases em : m (frzAll st) with
  | ok d st' =>
    rw [em] at g
    simp only at g
    by_cases hf : flatD d = true
    · rw [if_pos hf] at g
      refine fun v F' H' S' b s dt => ?_
      obtain ⟨b1, b2⟩ := Step.peeked (S := S) A.le b
      exact g v F H' S b1 (A.sr.carry (.refl F) (fun a o _ h => b2 a o h) fun a s => (A.sr.dom a s).2) (flat_dt dt hf)
    · rw [if_neg hf] at g
      exact g.elim
  | err x st' => rw [em] at g; exact g.elim
  | no => rw [em] at g; exact g.elim
theorem r_peekT (h : PT X e (tT (wd X) E0 mt)) : PT X e (tT (wd X) E (mPeekT mt)) := by
  refine pt_imp h fun σ H Q q => ?_
  obtain ⟨F, S, st, A⟩ := tt_of q
  have g := A.g
  unfold mPeekT at g
  refine ⟨H, frzAll st, Em, frzAll_sr A.le A.sr, .refl H, ?_⟩
  cases em : mt (frzAll st) with
  | ok d st' =>
    rw [em] at g
    refine fun F' H' S' b s => ?_
    obtain ⟨b1, b2⟩ := Step.peeked (S := S) A.le b
    exact g F H' S b1 (A.sr.carry (.refl F) (fun a o _ h => b2 a o h) fun a s => (A.sr.dom a s).2)
  | err x st' => rw [em] at g; exact g.elim
  | no => rw [em] at g; exact g.elim
end
end Z

set_option maxHeartbeats 1000000
/-! Part 4: the operators as functions on data -/
namespace Z
open PySem PySem.Spec PyProof.Rows L2
variable [HK]

def pAdd : PyData → PyData → Option PyData
  | .int i, .int j => some (.int (i + j))
  | .str a, .str b => if a.length + b.length ≤ 100000 then some (.str (a ++ b)) else none
  | .list xs, .list ys => if xs.length + ys.length ≤ 100000 then some (.list (xs ++ ys)) else none
  | .tuple xs, .tuple ys => if xs.isEmpty = false ∧ xs.length + ys.length ≤ 100000 then some (.tuple (xs ++ ys)) else none
  | _, _ => none
def pSub : PyData → PyData → Option PyData
  | .int i, .int j => some (.int (i - j))
  | _, _ => none
def pMul : PyData → PyData → Option PyData
  | .int i, .int j => if (-(2 ^ 64) < i ∧ i < 2 ^ 64) ∨ (-(2 ^ 64) < j ∧ j < 2 ^ 64) then some (.int (i * j)) else none
  | .list xs, .int k => if -100000 ≤ k ∧ k ≤ 100000 ∧ xs.length * k.toNat ≤ 100000 then some (.list (List.replicate k.toNat xs).flatten) else none
  | .tuple xs, .int k => if xs.isEmpty = false ∧ 2 ≤ k ∧ k ≤ 1000 ∧ xs.length ≤ 1000 then some (.tuple (List.replicate k.toNat xs).flatten) else none
  | _, _ => none
def pDiv : PyData → PyData → Option PyData
  | .int i, .int j => if 0 < j ∧ j < 1073741824 then some (.int (i / j)) else none
  | _, _ => none
def pMod : PyData → PyData → Option PyData
  | .int i, .int j => if 0 < j then some (.int (i % j)) else none
  | _, _ => none
def pPow : PyData → PyData → Option PyData
  | .int i, .int j => if 0 ≤ j ∧ j ≤ 1000 ∧ i.natAbs < 1000000 then some (.int (i ^ j.toNat)) else none
  | _, _ => none
def pNeg : PyData → Option PyData
  | .int i => some (.int (-i))
  | _ => none
def pEq (x y : PyData) : Option PyData := if SeqAt.shaped x = true ∧ SeqAt.shaped y = true then some (.bool (PyData.eqv x y)) else none
def pNe (x y : PyData) : Option PyData := if SeqAt.shaped x = true ∧ SeqAt.shaped y = true then some (.bool (!PyData.eqv x y)) else none
def pLt : PyData → PyData → Option PyData
  | .int i, .int j => some (.bool (decide (i < j)))
  | _, _ => none
def pLe : PyData → PyData → Option PyData
  | .int i, .int j => some (.bool (decide (i ≤ j)))
  | _, _ => none
def pGt : PyData → PyData → Option PyData
  | .int i, .int j => some (.bool (decide (j < i)))
  | _, _ => none
def pGe : PyData → PyData → Option PyData
  | .int i, .int j => some (.bool (decide (j ≤ i)))
  | _, _ => none
def isNone : PyData → Bool
  | .none => true
  | _ => false
def pIsN : PyData → PyData → Option PyData
  | x, .none => some (.bool (isNone x))
  | _, _ => none
def pNotN : PyData → PyData → Option PyData
  | x, .none => some (.bool (!isNone x))
  | _, _ => none
/-- a[i] -/
def pIx : PyData → PyData → Option PyData
  | .list xs, .int i => atI xs i
  | .tuple xs, .int i => atI xs i
  | .str z, .int i => if z.length ≤ 100000 then (atI z.cps.toList i).map fun c => .str ⟨#[c]⟩ else none
  | .dict kvs, .int i => (atI kvs i).map (·.1)
  | _, _ => none

section
variable {X : Cx}
theorem binI {f : PyData → PyData → Option PyData} {r : R2} (h : ∀ {x y z}, f x y = some z → ∃ i j, x = .int i ∧ y = .int j ∧ ∀ {H : Hp} {Q : VK}, (∀ v, (∀ F, Dt F v z) → Q v H) → r (.int i) (.int j) H Q) : BinOk r f := fun {F H v u x y z Q} le d1 d2 e k => by
  obtain ⟨i, j, rfl, rfl, hh⟩ := h e
  cases d1
  cases d2
  exact hh fun v hv => k v F H (.refl le) (hv F)
theorem dt_int_inv {F : Hp} {v : V} {i : Int} (h : Dt F v (.int i)) : v = .int i := by cases h; rfl
theorem sub_ok : BinOk (rI0 fun i j => .int (i - j)) pSub := binI fun {x y z} e => by
  cases x <;> cases y <;> simp only [pSub, reduceCtorEq] at e
  cases e
  exact ⟨_, _, rfl, rfl, fun h => ⟨_, _, rfl, rfl, h _ fun _ => .int _⟩⟩
theorem div_ok : BinOk (rI CDiv fun i j => .int (i / j)) pDiv := binI fun {x y z} e => by
  cases x <;> cases y <;> simp only [pDiv, reduceCtorEq] at e
  split at e
  · rename_i hc
    cases e
    exact ⟨_, _, rfl, rfl, fun h => ⟨_, _, rfl, rfl, hc, h _ fun _ => .int _⟩⟩
  · cases e
theorem mod_ok : BinOk (rI (fun _ j => 0 < j) fun i j => .int (i % j)) pMod := binI fun {x y z} e => by
  cases x <;> cases y <;> simp only [pMod, reduceCtorEq] at e
  split at e
  · rename_i hc
    cases e
    exact ⟨_, _, rfl, rfl, fun h => ⟨_, _, rfl, rfl, hc, h _ fun _ => .int _⟩⟩
  · cases e
theorem pow_ok : BinOk (rI CPow fun i j => .int (i ^ j.toNat)) pPow := binI fun {x y z} e => by
  cases x <;> cases y <;> simp only [pPow, reduceCtorEq] at e
  split at e
  · rename_i hc
    cases e
    exact ⟨_, _, rfl, rfl, fun h => ⟨_, _, rfl, rfl, ⟨hc.1, by omega, Nat.lt_trans hc.2.2 (by decide)⟩, h _ fun _ => .int _⟩⟩
  · cases e
theorem lt_ok : BinOk (rI0 fun i j => .bl (decide (i < j))) pLt := binI fun {x y z} e => by
  cases x <;> cases y <;> simp only [pLt, reduceCtorEq] at e
  cases e
  exact ⟨_, _, rfl, rfl, fun h => ⟨_, _, rfl, rfl, h _ fun _ => .bl _⟩⟩
theorem le_ok : BinOk (rI0 fun i j => .bl (decide (i ≤ j))) pLe := binI fun {x y z} e => by
  cases x <;> cases y <;> simp only [pLe, reduceCtorEq] at e
  cases e
  exact ⟨_, _, rfl, rfl, fun h => ⟨_, _, rfl, rfl, h _ fun _ => .bl _⟩⟩
theorem gt_ok : BinOk (rI0 fun i j => .bl (decide (j < i))) pGt := binI fun {x y z} e => by
  cases x <;> cases y <;> simp only [pGt, reduceCtorEq] at e
  cases e
  exact ⟨_, _, rfl, rfl, fun h => ⟨_, _, rfl, rfl, h _ fun _ => .bl _⟩⟩
theorem ge_ok : BinOk (rI0 fun i j => .bl (decide (j ≤ i))) pGe := binI fun {x y z} e => by
  cases x <;> cases y <;> simp only [pGe, reduceCtorEq] at e
  cases e
  exact ⟨_, _, rfl, rfl, fun h => ⟨_, _, rfl, rfl, h _ fun _ => .bl _⟩⟩
theorem op_ltZ : OpR X (compareOp .Lt) (rI0 fun i j => .bl (decide (i < j))) := op_lt
theorem op_leZ : OpR X (compareOp .LtE) (rI0 fun i j => .bl (decide (i ≤ j))) := op_le
theorem op_gtZ : OpR X (compareOp .Gt) (rI0 fun i j => .bl (decide (j < i))) := op_gt
theorem op_geZ : OpR X (compareOp .GtE) (rI0 fun i j => .bl (decide (j ≤ i))) := op_ge
/-- + -/
def rAddZ (K : PySem.W.Frag) : R2 := fun x y H Q => ((rI0 fun i j => .int (i + j)) x y H Q ∨ (fun x y H Q => ∃ i j, x = V.str i ∧ y = V.str j ∧ i.length + j.length ≤ sizeLine ∧ Q (.str (i ++ j)) H) x y H Q) ∨ (rCat x y H Q ∨ rCatT K x y H Q)
theorem op_addZ : OpR X (binaryOp .Add) (rAddZ X.K) := OpR.or (OpR.or op_add op_add_str) (OpR.or op_cat op_catT)
theorem Dts.nil_iff {F : Hp} {vs : List V} {ds : List PyData} (h : Dts F vs ds) : vs = [] ↔ ds = [] := by
  cases h <;> simp
theorem add_ok {K : PySem.W.Frag} : BinOk (rAddZ K) pAdd := fun {F H v u x y z Q} le d1 d2 e k => by
  cases x <;> cases y <;> simp only [pAdd, reduceCtorEq] at e
  · cases e
    cases d1
    cases d2
    exact .inl (.inl ⟨_, _, rfl, rfl, k _ F H (.refl le) (.int _)⟩)
  · split at e
    · rename_i hc
      cases e
      cases d1
      cases d2
      exact .inl (.inr ⟨_, _, rfl, rfl, hundred hc, k _ F H (.refl le) (.str _)⟩)
    · cases e
  · split at e
    · rename_i hc
      cases e
      cases d1 with
      | lst h1 a1 =>
        cases d2 with
        | lst h2 a2 =>
          exact .inr (.inl ⟨_, _, _, _, rfl, rfl, le _ _ h1, le _ _ h2, by rw [a1.len, a2.len]; exact hundred hc, fun p hp => k _ _ _ (.new le hp) (.lst upd_same ((Le.new (le.none hp)).dts (a1.app a2)))⟩)
    · cases e
  · split at e
    · rename_i hc
      cases e
      cases d1 with
      | tup h1 a1 =>
        cases d2 with
        | @tup b ws _ h2 a2 =>
          refine .inr (.inr ⟨_, _, _, _, rfl, rfl, SqT.of (le _ _ h1), SqT.of (le _ _ h2), fun z => ?_, by rw [a1.len, a2.len]; exact hundred hc.2, fun z => ?_, fun _ p hp => k _ _ _ (.new le hp) (.tup upd_same ((Le.new (le.none hp)).dts (a1.app a2)))⟩)
          · rw [a1.nil_iff] at z
            rw [z] at hc
            exact absurd hc.1 (by simp)
          · have := a2.nil_iff.mp z
            subst this
            rw [List.append_nil] at k
            exact k _ F H (.refl le) (.tup h1 a1)
    · cases e
/-- * -/
def rMulZ (K : PySem.W.Frag) : R2 := fun x y H Q => (rI CMul fun i j => .int (i * j)) x y H Q ∨ (rRep x y H Q ∨ rRepT K x y H Q)
theorem op_mulZ : OpR X (binaryOp .Mult) (rMulZ X.K) := OpR.or op_mul (OpR.or op_rep op_repT)
theorem Dts.rep {F : Hp} {vs : List V} {ds : List PyData} (h : Dts F vs ds) : ∀ n : Nat, Dts F (List.replicate n vs).flatten (List.replicate n ds).flatten
  | 0 => .nil
  | n + 1 => by
    rw [List.replicate_succ, List.replicate_succ, List.flatten_cons, List.flatten_cons]
    exact h.app (h.rep n)
theorem mul_ok {K : PySem.W.Frag} : BinOk (rMulZ K) pMul := fun {F H v u x y z Q} le d1 d2 e k => by
  cases x <;> cases y <;> simp only [pMul, reduceCtorEq] at e
  · split at e
    · rename_i hc
      cases e
      cases d1
      cases d2
      exact .inl ⟨_, _, rfl, rfl, hc, k _ F H (.refl le) (.int _)⟩
    · cases e
  · split at e
    · rename_i hc
      cases e
      cases d2
      cases d1 with
      | lst h1 a1 => exact .inr (.inl ⟨_, _, _, rfl, rfl, le _ _ h1, by omega, by omega, by rw [a1.len]; exact hundred hc.2.2, fun p hp => k _ _ _ (.new le hp) (.lst upd_same ((Le.new (le.none hp)).dts (a1.rep _)))⟩)
    · cases e
  · split at e
    · rename_i hc
      cases e
      cases d2
      cases d1 with
      | tup h1 a1 =>
        refine .inr (.inr ⟨_, _, _, rfl, rfl, SqT.of (le _ _ h1), fun z => ?_, hc.2.1, hc.2.2.1, by rw [a1.len]; exact hc.2.2.2, fun p hp => k _ _ _ (.new le hp) (.tup upd_same ((Le.new (le.none hp)).dts (a1.rep _)))⟩)
        rw [a1.nil_iff] at z
        rw [z] at hc
        exact absurd hc.1 (by simp)
    · cases e
theorem eq_ok {K : PySem.W.Frag} : BinOk (rEqD K) pEq := fun {F H v u x y z Q} le d1 d2 e k => by
  unfold pEq at e
  split at e
  · rename_i hc
    cases e
    exact ⟨x, y, dt_dp K x v (le.dt d1) (SeqAt.canLay_of_shaped hc.1), dt_dp K y u (le.dt d2) (SeqAt.canLay_of_shaped hc.2), hc.1, hc.2, k _ F H (.refl le) (.bl _)⟩
  · cases e
theorem ne_ok {K : PySem.W.Frag} : BinOk (rNeD K) pNe := fun {F H v u x y z Q} le d1 d2 e k => by
  unfold pNe at e
  split at e
  · rename_i hc
    cases e
    exact ⟨x, y, dt_dp K x v (le.dt d1) (SeqAt.canLay_of_shaped hc.1), dt_dp K y u (le.dt d2) (SeqAt.canLay_of_shaped hc.2), hc.1, hc.2, k _ F H (.refl le) (.bl _)⟩
  · cases e
theorem isN_dec {F : Hp} {v : V} {d : PyData} (h : Dt F v d) : decide (v = .non) = isNone d := by cases h <;> simp [isNone]
theorem isN_ok : BinOk (fun x y H Q => y = V.non ∧ Q (.bl (decide (x = .non))) H) pIsN := fun {F H v u x y z Q} le d1 d2 e k => by
  cases y <;> simp only [pIsN, reduceCtorEq] at e
  cases e
  cases d2
  exact ⟨rfl, by rw [isN_dec d1]; exact k _ F H (.refl le) (.bl _)⟩
theorem notN_ok : BinOk (fun x y H Q => y = V.non ∧ Q (.bl (!decide (x = .non))) H) pNotN := fun {F H v u x y z Q} le d1 d2 e k => by
  cases y <;> simp only [pNotN, reduceCtorEq] at e
  cases e
  cases d2
  exact ⟨rfl, by rw [isN_dec d1]; exact k _ F H (.refl le) (.bl _)⟩
omit [HK] in
theorem atI_map {α β : Type} (f : α → β) (xs : List α) (i : Int) : atI (xs.map f) i = (atI xs i).map f := by
  unfold atI
  rw [List.length_map]
  cases ixN xs.length i with
  | none => rfl
  | some j => simp
theorem Dts.at {F : Hp} {vs : List V} {ds : List PyData} (h : Dts F vs ds) {i : Int} {d : PyData} (e : atI ds i = some d) : ∃ v, atI vs i = some v ∧ Dt F v d := by
  unfold atI at e ⊢
  rw [h.len]
  cases q : ixN ds.length i with
  | none => rw [q] at e; cases e
  | some j =>
    rw [q] at e
    exact h.get e
theorem ix_ok {K : PySem.W.Frag} (hK : K = HK.K) : BinOk (rIx K) pIx := fun {F H v u x y z Q} le d1 d2 e k => by
  subst hK
  cases x <;> cases y <;> simp only [pIx, reduceCtorEq] at e
  · split at e
    · rename_i hc
      cases d1
      cases d2
      cases q : atI (Str.cps _).toList _ with
      | none => rw [q] at e; cases e
      | some c =>
        rw [q] at e
        cases e
        exact .inr (.inr ⟨_, _, c, rfl, rfl, hundred hc, q, k _ F H (.refl le) (.str _)⟩)
    · cases e
  · cases d2
    cases d1 with
    | lst h1 a1 =>
      obtain ⟨w, h2, h3⟩ := a1.at e
      exact .inl ⟨_, _, _, w, rfl, rfl, SqL.of (le _ _ h1), h2, k w F H (.refl le) h3⟩
  · cases d2
    cases d1 with
    | tup h1 a1 =>
      obtain ⟨w, h2, h3⟩ := a1.at e
      exact .inr (.inl ⟨_, _, _, w, rfl, rfl, SqT.of (le _ _ h1), h2, k w F H (.refl le) h3⟩)
  · cases d2
    cases d1 with
    | scr ns h1 =>
      rw [atI_map] at e
      cases q : atI ns _ with
      | none => rw [q] at e; cases e
      | some j =>
        rw [q] at e
        cases e
        exact .inl ⟨_, _, _, .int j, rfl, rfl, sql_mono le h1, by rw [atI_map, q]; rfl, k _ F H (.refl le) (.int j)⟩
theorem neg_ok {F H : Hp} {v : V} {x z : PyData} {Q : VK} (le : Le F H) (d : Dt F v x) (e : pNeg x = some z) (k : ∀ v' F' H', Gro F H F' H' → Dt F' v' z → Q v' H') : (rU fun i => .int (-i)) v H Q := by
  cases x <;> simp only [pNeg, reduceCtorEq] at e
  cases e
  cases d
  exact ⟨_, rfl, k _ F H (.refl le) (.int _)⟩

/-! ### rules in short -/
variable {E : XK} {a b : Expr} {ma mb : Sl → R PyData} {pos : Pos}
theorem z_add (ha : PE X a (tV (wd X) E ma)) (hb : PE X b (tV (wd X) E mb)) : PE X (.BinOp a .Add b pos) (tV (wd X) E (mBin pAdd ma mb)) := r_bin op_addZ add_ok ha hb
theorem z_sub (ha : PE X a (tV (wd X) E ma)) (hb : PE X b (tV (wd X) E mb)) : PE X (.BinOp a .Sub b pos) (tV (wd X) E (mBin pSub ma mb)) := r_bin op_sub sub_ok ha hb
theorem z_mul (ha : PE X a (tV (wd X) E ma)) (hb : PE X b (tV (wd X) E mb)) : PE X (.BinOp a .Mult b pos) (tV (wd X) E (mBin pMul ma mb)) := r_bin op_mulZ mul_ok ha hb
theorem z_div (ha : PE X a (tV (wd X) E ma)) (hb : PE X b (tV (wd X) E mb)) : PE X (.BinOp a .FloorDiv b pos) (tV (wd X) E (mBin pDiv ma mb)) := r_bin op_fdiv div_ok ha hb
theorem z_mod (ha : PE X a (tV (wd X) E ma)) (hb : PE X b (tV (wd X) E mb)) : PE X (.BinOp a .Mod b pos) (tV (wd X) E (mBin pMod ma mb)) := r_bin op_mod mod_ok ha hb
theorem z_pow (ha : PE X a (tV (wd X) E ma)) (hb : PE X b (tV (wd X) E mb)) : PE X (.BinOp a .Pow b pos) (tV (wd X) E (mBin pPow ma mb)) := r_bin op_pow pow_ok ha hb
theorem z_neg (ha : PE X a (tV (wd X) E ma)) : PE X (.UnaryOp .USub a pos) (tV (wd X) E (mUn pNeg ma)) := r_un un_neg neg_ok ha
theorem z_ix (hK : X.K = HK.K) (ha : PE X a (tV (wd X) E ma)) (hb : PE X b (tV (wd X) E mb)) (hs : PlainIx b := by exact fun _ _ => rfl) : PE X (.Subscript a b pos) (tV (wd X) E (mBin pIx ma mb)) := r_ix ix_seq (ix_ok hK) ha hb hs
theorem z_eq (hu : X.A.units + 64 < cLine) (ha : PE X a (tV (wd X) E ma)) (hb : PE X b (tV (wd X) E mb)) : PE X (.Compare a [.Eq] [b] pos) (tV (wd X) E (mBin pEq ma mb)) := r_cmp (op_eqD hu) eq_ok ha hb (nomark _)
theorem z_ne (hu : X.A.units + 64 < cLine) (ha : PE X a (tV (wd X) E ma)) (hb : PE X b (tV (wd X) E mb)) : PE X (.Compare a [.NotEq] [b] pos) (tV (wd X) E (mBin pNe ma mb)) := r_cmp (op_neD hu) ne_ok ha hb (nomark _)
theorem z_lt (ha : PE X a (tV (wd X) E ma)) (hb : PE X b (tV (wd X) E mb)) : PE X (.Compare a [.Lt] [b] pos) (tV (wd X) E (mBin pLt ma mb)) := r_cmp op_ltZ lt_ok ha hb (nomark _)
theorem z_le (ha : PE X a (tV (wd X) E ma)) (hb : PE X b (tV (wd X) E mb)) : PE X (.Compare a [.LtE] [b] pos) (tV (wd X) E (mBin pLe ma mb)) := r_cmp op_leZ le_ok ha hb (nomark _)
theorem z_gt (ha : PE X a (tV (wd X) E ma)) (hb : PE X b (tV (wd X) E mb)) : PE X (.Compare a [.Gt] [b] pos) (tV (wd X) E (mBin pGt ma mb)) := r_cmp op_gtZ gt_ok ha hb (nomark _)
theorem z_ge (ha : PE X a (tV (wd X) E ma)) (hb : PE X b (tV (wd X) E mb)) : PE X (.Compare a [.GtE] [b] pos) (tV (wd X) E (mBin pGe ma mb)) := r_cmp op_geZ ge_ok ha hb (nomark _)
theorem z_is (ha : PE X a (tV (wd X) E ma)) (hb : PE X b (tV (wd X) E mb)) : PE X (.Compare a [.Is] [b] pos) (tV (wd X) E (mBin pIsN ma mb)) := r_cmp op_isN isN_ok ha hb (nomark _)
theorem z_isnot (ha : PE X a (tV (wd X) E ma)) (hb : PE X b (tV (wd X) E mb)) : PE X (.Compare a [.IsNot] [b] pos) (tV (wd X) E (mBin pNotN ma mb)) := r_cmp op_notN notN_ok ha hb (nomark _)
theorem t_eq (hu : X.A.units + 64 < cLine) (ha : PE X a (tV (wd X) E ma)) (hb : PE X b (tV (wd X) E mb)) : PT X (.Compare a [.Eq] [b] pos) (tT (wd X) E (mTest (mBin pEq ma mb))) := r_cmpT (op_eqD hu) eq_ok ha hb (nomark _)
theorem t_ne (hu : X.A.units + 64 < cLine) (ha : PE X a (tV (wd X) E ma)) (hb : PE X b (tV (wd X) E mb)) : PT X (.Compare a [.NotEq] [b] pos) (tT (wd X) E (mTest (mBin pNe ma mb))) := r_cmpT (op_neD hu) ne_ok ha hb (nomark _)
theorem t_lt (ha : PE X a (tV (wd X) E ma)) (hb : PE X b (tV (wd X) E mb)) : PT X (.Compare a [.Lt] [b] pos) (tT (wd X) E (mTest (mBin pLt ma mb))) := r_cmpT op_ltZ lt_ok ha hb (nomark _)
theorem t_le (ha : PE X a (tV (wd X) E ma)) (hb : PE X b (tV (wd X) E mb)) : PT X (.Compare a [.LtE] [b] pos) (tT (wd X) E (mTest (mBin pLe ma mb))) := r_cmpT op_leZ le_ok ha hb (nomark _)
theorem t_gt (ha : PE X a (tV (wd X) E ma)) (hb : PE X b (tV (wd X) E mb)) : PT X (.Compare a [.Gt] [b] pos) (tT (wd X) E (mTest (mBin pGt ma mb))) := r_cmpT op_gtZ gt_ok ha hb (nomark _)
theorem t_ge (ha : PE X a (tV (wd X) E ma)) (hb : PE X b (tV (wd X) E mb)) : PT X (.Compare a [.GtE] [b] pos) (tT (wd X) E (mTest (mBin pGe ma mb))) := r_cmpT op_geZ ge_ok ha hb (nomark _)
theorem t_is (ha : PE X a (tV (wd X) E ma)) (hb : PE X b (tV (wd X) E mb)) : PT X (.Compare a [.Is] [b] pos) (tT (wd X) E (mTest (mBin pIsN ma mb))) := r_cmpT op_isN isN_ok ha hb (nomark _)
theorem t_isnot (ha : PE X a (tV (wd X) E ma)) (hb : PE X b (tV (wd X) E mb)) : PT X (.Compare a [.IsNot] [b] pos) (tT (wd X) E (mTest (mBin pNotN ma mb))) := r_cmpT op_notN notN_ok ha hb (nomark _)
end
end Z

set_option maxHeartbeats 1000000
/-! Part 5: own argument lists, targets, statements -/
namespace Z
open PySem PySem.Spec PyProof.Rows L2
variable [HK]

section
variable {W : Wd} {E : XK} {σ : L2.St} {F H F1 H1 : Hp} {S S1 : AS} {st : Sl}
def FinB (W : Wd) (E : XK) (σ : L2.St) (Q : List V → Hp → Prop) (F H : Hp) (S : AS) (r : R (List OT)) : Prop :=
  match r with
  | .ok ts st => ∀ vs F' H' Sv S', Step F H S F' H' (Uu Sv S') → SR W F' H' σ st S' → Reps W F' H' vs ts Sv → Dj Sv S' → Q vs H'
  | .err e st => FinE W E σ F H S e st
  | .no => False
theorem ck_b {Q : List V → Hp → Prop} : CK W E σ (FinB W E σ Q) := ⟨fun {F H S F1 H1 S1 r} a h => by
    cases r with
    | ok d st => exact fun v F' H' Sv S' b => h v F' H' Sv S' (a.trans b)
    | err e st => exact FinE.sh a h
    | no => exact h, fun h => h, fun h => h⟩
def tB' (W : Wd) (E : XK) (m : Sl → R (List OT)) : TA := fun σ H Q => ∃ F st S, SR W F H σ st S ∧ Le F H ∧ FinB W E σ Q F H S (m st)
theorem tb_of {m : Sl → R (List OT)} {Q : List V → Hp → Prop} {H : Hp} (h : tB' W E m σ H Q) : ∃ F S st, At W E σ (FinB W E σ Q) F H S st (m st) := let ⟨F, st, S, a, b, c⟩ := h; ⟨F, S, st, a, b, c⟩
theorem tb_bind {β : Type} {G : Hp → Hp → AS → R β → Prop} {m : Sl → R (List OT)} {k : List OT → Sl → R β} {Q : List V → Hp → Prop} (ck : CK W E σ G) (a : At W E σ G F H S st ((m st).bind k))
    (q : ∀ vs x F1 H1 Sv S1 st1, Step F H S F1 H1 (Uu Sv S1) → Reps W F1 H1 vs x Sv → Dj Sv S1 → SR W F1 H1 σ st1 S1 → G F1 H1 (Uu Sv S1) (k x st1) → Q vs H1) : tB' W E m σ H Q := by
  refine ⟨F, st, S, a.sr, a.le, ?_⟩
  have g := a.g
  cases e : m st with
  | ok x st1 =>
    rw [e] at g
    exact fun v F1 H1 Sv S1 b s d dj => q v x F1 H1 Sv S1 st1 b d dj s (ck.sh b g)
  | err x st1 =>
    rw [e] at g
    exact ck.er g
  | no =>
    rw [e] at g
    exact ck.no g
/-- a further step beside a pending part Sv: the whole stands for G -/
theorem FinE.frame {e : XC} {T : AS} (hT : ∀ x, T x → H x ≠ none ∧ F x = none) (d : Dj T S) (h : FinE W E σ F H (Uu T S) e st) : FinE W E σ F H S e st := fun c d' F' H' S' a s x =>
  h c d' F' H' S' ((a.frame (T := T)).sub fun _ y => .inr y) s x
end

def mNilB : Sl → R (List OT) := fun st => .ok [] st
def mConsB (m : Sl → R OT) (r : Sl → R (List OT)) : Sl → R (List OT) := fun st => (m st).bind fun t st => (r st).bind fun ts st => .ok (t :: ts) st
def mLstB (m : Sl → R (List OT)) : Sl → R OT := fun st => (m st).bind fun ts st => if ts.length ≤ 100000 then .ok (.nod .lst ts) st else .no
def mTupB (m : Sl → R (List OT)) : Sl → R OT := fun st => (m st).bind fun ts st => if ts.length ≤ 100000 then .ok (.nod .tup ts) st else .no

/-- a target: what it does to the slots -/
def TgOk (W : Wd) (IO : List Nat) (g : TG) (f : OT → Sl → Option Sl) : Prop := ∀ {F H : Hp} {σ : L2.St} {st st' : Sl} {T Sv : AS} {v : V} {t : OT} {Q : L2.St → Hp → Prop},
  Le F H → Rep W F H v t Sv → SR W F H σ st T → Dj Sv T → f t st = some st' →
  (∀ σ' T', Pin IO σ σ' → SR W F H σ' st' T' → (∀ a, T' a → Sv a ∨ T a) → Q σ' H) → g v σ H Q
def TgsOk (W : Wd) (IO : List Nat) (g : TGs) (f : List OT → Sl → Option Sl) : Prop := ∀ {F H : Hp} {σ : L2.St} {st st' : Sl} {T Sv : AS} {vs : List V} {ts : List OT} {Q : L2.St → Hp → Prop},
  Le F H → Reps W F H vs ts Sv → SR W F H σ st T → Dj Sv T → f ts st = some st' →
  (∀ σ' T', Pin IO σ σ' → SR W F H σ' st' T' → (∀ a, T' a → Sv a ∨ T a) → Q σ' H) → g vs σ H Q
def fNm (i : Nat) : OT → Sl → Option Sl := fun t st => if i < st.length then some (st.set i (some t)) else none
def fsNil : List OT → Sl → Option Sl
  | [], st => some st
  | _, _ => none
def fsCons (f : OT → Sl → Option Sl) (fs : List OT → Sl → Option Sl) : List OT → Sl → Option Sl
  | t :: ts, st => (f t st).bind fun st => fs ts st
  | [], _ => none
def fTp (n : Nat) (fs : List OT → Sl → Option Sl) : OT → Sl → Option Sl
  | .frz (.tuple ds), st => if ds.length = n then fs (ds.map .frz) st else none
  | .nod .tup ts, st => if ts.length = n then fs ts st else none
  | _, _ => none
theorem tg_name {W : Wd} {IO : List Nat} (i : Nat) (hi : i ∉ IO) : TgOk W IO (gName i) (fNm i) := by
  intro F H σ st st' T Sv v t Q le r s d e k
  unfold fNm at e
  split at e
  · rename_i hl
    cases e
    obtain ⟨T', h1, h2⟩ := s.set hl r d
    exact k _ _ (Pin.set hi) h1 fun a x => x.elim .inl fun x => .inr (h2 a x)
  · cases e
theorem tgs_nil {W : Wd} {IO : List Nat} : TgsOk W IO gNil fsNil := by
  intro F H σ st st' T Sv vs ts Q le r s d e k
  cases ts with
  | nil =>
    cases r
    cases e
    exact ⟨rfl, k σ T (Pin.refl _ _) s fun a x => .inr x⟩
  | cons _ _ => cases e
theorem tgs_cons {W : Wd} {IO : List Nat} {g : TG} {gs : TGs} {f : OT → Sl → Option Sl} {fs : List OT → Sl → Option Sl} (h1 : TgOk W IO g f) (h2 : TgsOk W IO gs fs) : TgsOk W IO (gCons g gs) (fsCons f fs) := by
  intro F H σ st st' T Sv vs ts Q le r s d e k
  cases r with
  | nil => cases e
  | @cons v vs t ts S1 S2 r1 r2 dj =>
    simp only [fsCons] at e
    cases e1 : f t st with
    | none => rw [e1] at e; cases e
    | some st1 =>
      rw [e1] at e
      refine ⟨v, vs, rfl, h1 le r1 s (fun a x y => d a (.inl x) y) e1 fun σ1 T1 p1 s1 u1 => ?_⟩
      refine h2 le r2 s1 (fun a x y => (u1 a y).elim (fun z => dj a z x) fun z => d a (.inr x) z) e fun σ2 T2 p2 s2 u2 => ?_
      exact k σ2 T2 (p1.trans p2) s2 fun a x => (u2 a x).elim (fun z => .inl (.inr z)) fun z => (u1 a z).elim (fun z => .inl (.inl z)) .inr
theorem tg_tup {W : Wd} {IO : List Nat} {n : Nat} {gs : TGs} {fs : List OT → Sl → Option Sl} (h : TgsOk W IO gs fs) : TgOk W IO (gTup W.K n gs) (fTp n fs) := by
  intro F H σ st st' T Sv v t Q le r s d e k
  cases r with
  | @frz v d' dt =>
    cases dt with
    | @tup a xs ds h1 h2 =>
      simp only [fTp] at e
      split at e
      · rename_i hl
        exact ⟨a, xs, rfl, SqT.of (le _ _ h1), by rw [h2.len]; exact hl, h le (reps_frz h2) s d e k⟩
      · cases e
    | _ => cases e
  | @nod a kd o vs ts S h1 h2 h3 h4 h5 =>
    cases kd with
    | tup =>
      simp only [fTp] at e
      split at e
      · rename_i hl
        have h3' : o = HO.tup vs := h3
        subst h3'
        refine ⟨a, vs, rfl, SqT.of h1, by rw [h4.len]; exact hl, h le h4 s (fun b x y => d b (.inr x) y) e fun σ' T' p s' u => k σ' T' p s' fun b x => (u b x).elim (fun z => .inl (.inr z)) .inr⟩
      · cases e
    | _ => cases e

/-! ### statements -/
def mNext : Sl → R Out := fun st => .ok .nx st
def mSeq (m n : Sl → R Out) : Sl → R Out := fun st => (m st).bind fun o st => match o with
  | .nx => n st
  | o => .ok o st
def mAsg (m : Sl → R OT) (f : OT → Sl → Option Sl) : Sl → R Out := fun st => (m st).bind fun t st => (lift (f t st) st).bind fun st' _ => .ok .nx st'
def mPar (i j : Nat) (m : Sl → R (List OT)) : Sl → R Out := fun st => (m st).bind fun ts st => match ts with
  | [a, b] => if i < st.length ∧ j < st.length then .ok .nx ((st.set i (some a)).set j (some b)) else .no
  | _ => .no
def mPar3 (i j l : Nat) (m : Sl → R (List OT)) : Sl → R Out := fun st => (m st).bind fun ts st => match ts with
  | [a, b, c] => if i < st.length ∧ j < st.length ∧ l < st.length then .ok .nx (((st.set i (some a)).set j (some b)).set l (some c)) else .no
  | _ => .no
def mRet (m : Sl → R OT) : Sl → R Out := fun st => (m st).bind fun t st => .ok (.ret t) st
def mRetN : Sl → R Out := fun st => .ok (.ret (.frz .none)) st
def mDrop (m : Sl → R PyData) : Sl → R Out := fun st => (m st).bind fun _ st => .ok .nx st
def mIfS (c : Sl → R Bool) (m n : Sl → R Out) : Sl → R Out := fun st => (c st).bind fun b st => if b then m st else n st
def mBrk : Sl → R Out := fun st => .ok .brk st
def mCnt : Sl → R Out := fun st => .ok .cnt st
def mNo : Sl → R Out := fun _ => .no
def mAug (i : Nat) (f : Int → Int → Int) (m : Sl → R PyData) : Sl → R Out := fun st => match st[i]? with
  | some (some (.frz (.int a))) => (m st).bind fun d st => match d with
    | .int b => .ok .nx (st.set i (some (.frz (.int (f a b)))))
    | _ => .no
  | _ => .no
/-- x.append(e), x own in slot i -/
def mAppend (i : Nat) (m : Sl → R OT) : Sl → R Out := fun st => match st[i]? with
  | some (some (.nod .lst _)) => (m st).bind fun t st => match st[i]? with
    | some (some (.nod .lst ts)) => if ts.length < 100000 then .ok .nx (st.set i (some (.nod .lst (ts ++ [t])))) else .no
    | _ => .no
  | _ => .no
/-- x[k] = e, x own in slot i: the value first -/
def mStore (i : Nat) (mk : Sl → R PyData) (m : Sl → R OT) : Sl → R Out := fun st => (m st).bind fun t st => match st[i]? with
  | some (some (.nod .lst _)) => (mk st).bind fun d st => match d, st[i]? with
    | .int k, some (some (.nod .lst ts)) => (lift (ixN ts.length k) st).bind fun j st => .ok .nx (st.set i (some (.nod .lst (ts.set j t))))
    | _, _ => .no
  | _ => .no
/-- x.clear() -/
def mWhile : Nat → (Sl → R Bool) → (Sl → R Out) → Sl → R Out
  | 0, _, _ => fun _ => .no
  | n + 1, c, m => fun st => (c st).bind fun b st => if b then (m st).bind fun o st => match o with
      | .nx => mWhile n c m st
      | .cnt => mWhile n c m st
      | .brk => .ok .nx st
      | .ret t => .ok (.ret t) st
    else .ok .nx st

section
variable {X : Cx} {E : XK} {IO : List Nat} {e a b c : Expr} {es : List Expr} {s : Stmt} {ss : List Stmt} {m : Sl → R PyData} {mo mp mq : Sl → R OT} {mb : Sl → R (List OT)} {mt : Sl → R Bool} {ms mr : Sl → R Out} {pos : Pos}
theorem b_nil : PA X [] (tB' (wd X) E mNilB) := by
  refine pa_imp pa_nil fun σ H Q q => ?_
  obtain ⟨F, S, st, A⟩ := tb_of q
  refine A.g [] F H Em S ?_ A.sr .nil (em_dj S)
  rw [em_un]
  exact .refl A.le
theorem b_cons (ha : PE X e (tO (wd X) E mo)) (hr : PA X es (tB' (wd X) E mb)) (hs : starEach (e :: es) X.env = (false, eval e X.env) :: starEach es X.env := by rfl) : PA X (e :: es) (tB' (wd X) E (mConsB mo mb)) := by
  refine pa_imp (pa_cons ha hr hs) fun σ H Q q => ?_
  obtain ⟨F, S, st, A⟩ := tb_of q
  refine to_bind ck_b A fun v t F1 H1 Sv S1 st1 b1 r1 dj1 s1 g1 => ?_
  have dom1 := rep_dom t v Sv r1
  refine ⟨F1, st1, S1, s1, b1.fh, ?_⟩
  cases em : mb st1 with
  | ok ts st2 =>
    rw [em] at g1
    refine fun vs F2 H2 Sw S2 b2 s2 r2 dj2 => ?_
    obtain ⟨o1, o2, o3⟩ := b2.off dom1 dj1
    have rr : Reps (wd X) F2 H2 (v :: vs) (t :: ts) (Uu Sv Sw) := .cons (rep_carry t v Sv r1 b2.ff o1 o2) r2 fun x y z => o3 x y (.inl z)
    refine g1 (v :: vs) F2 H2 (Uu Sv Sw) S2 ?_ s2 rr fun x y z => y.elim (fun y => o3 x y (.inr z)) fun y => dj2 x y z
    rw [uu_assoc]
    exact b2.frame
  | err x st2 =>
    rw [em] at g1
    exact FinE.frame dom1 dj1 g1
  | no =>
    rw [em] at g1
    exact g1.elim
/-- a new own object over own items -/
theorem newB {σ : L2.St} {F H : Hp} {S Sv : AS} {st : Sl} {Q : VK} {vs : List V} {ts : List OT} {k : Kind} {o : HO} (le : Le F H) (s : SR (wd X) F H σ st S) (r : Reps (wd X) F H vs ts Sv) (dj : Dj Sv S) (ho : HoIs (wd X) k vs o)
    (g : FinO (wd X) E σ Q F H (Uu Sv S) (.ok (.nod k ts) st)) {p : Addr} (hp : H p = none) : Q (.ref p) (upd H p o) := by
  have hn : ∀ {a}, S a → a ≠ p := fun {a} x e => (s.dom a x).1 (by rw [e]; exact hp)
  have hv : ∀ {a}, Sv a → a ≠ p := fun {a} x e => (reps_dom _ _ _ r a x).1 (by rw [e]; exact hp)
  refine g (.ref p) F (upd H p o) (Ad p Sv) S ?_ (s.carry (.refl F) (fun a u x h => by rw [upd_ne (hn x)]; exact h) fun a x => (s.dom a x).2)
    (.nod upd_same (le.none hp) ho (reps_carry _ _ _ r (.refl F) (fun a u x h => by rw [upd_ne (hv x)]; exact h) fun a x => (reps_dom _ _ _ r a x).2) fun h => hv h rfl) fun a x y => ?_
  · have e : Uu (Ad p Sv) S = Ad p (Uu Sv S) := as_ext fun a => ⟨fun h => h.elim (fun h => h.elim .inl fun h => .inr (.inl h)) fun h => .inr (.inr h), fun h => h.elim (fun h => .inl (.inl h)) fun h => h.elim (fun h => .inl (.inr h)) .inr⟩
    rw [e]
    exact Step.newO le hp
  · rcases x with x | x
    · exact hn y x
    · exact dj a x y
theorem r_lstB (h : PA X es (tB' (wd X) E mb)) : PE X (.List es pos) (tO (wd X) E (mLstB mb)) := by
  refine pe_imp (pe_lst h) fun σ H Q q => ?_
  obtain ⟨F, S, st, A⟩ := to_of q
  refine tb_bind ck_o A fun vs ts F1 H1 Sv S1 st1 b1 r1 dj1 s1 g1 => ?_
  by_cases hl : ts.length ≤ 100000
  · rw [if_pos hl] at g1
    exact ⟨by rw [r1.len]; exact hundred hl, fun p hp => newB b1.fh s1 r1 dj1 (by rfl) g1 hp⟩
  · rw [if_neg hl] at g1
    exact g1.elim
theorem r_tupB {x1} (h : PA X es (tB' (wd X) E mb)) : PE X (.Tuple es x1 pos) (tO (wd X) E (mTupB mb)) := by
  refine pe_imp (pe_tup h) fun σ H Q q => ?_
  obtain ⟨F, S, st, A⟩ := to_of q
  refine tb_bind ck_o A fun vs ts F1 H1 Sv S1 st1 b1 r1 dj1 s1 g1 => ?_
  by_cases hl : ts.length ≤ 100000
  · rw [if_pos hl] at g1
    exact ⟨by rw [r1.len]; exact hundred hl, fun p hp => newB b1.fh s1 r1 dj1 (by rfl) g1 hp⟩
  · rw [if_neg hl] at g1
    exact g1.elim

/-! blocks -/
theorem s_nil : PSs X [] (tS (wd X) E IO mNext) := by
  refine pss_imp pss_nil fun D σ H q => ?_
  obtain ⟨F, S, st, A⟩ := ts_of q
  exact A.g σ F H S (Pin.refl _ _) (.refl A.le) A.sr
theorem FinS.pinned {D : Ends} {σ σ' : L2.St} {F H : Hp} {S : AS} {r : R Out} (p : Pin IO σ σ') (h : FinS (wd X) E IO D σ F H S r) : FinS (wd X) E IO D σ' F H S r := by
  cases r with
  | ok o st =>
    cases o with
    | nx => exact fun σ2 F' H' S' q => h σ2 F' H' S' (p.trans q)
    | brk => exact fun σ2 F' H' S' q => h σ2 F' H' S' (p.trans q)
    | cnt => exact fun σ2 F' H' S' q => h σ2 F' H' S' (p.trans q)
    | ret t => exact fun v σ2 F' H' Sv S' q => h v σ2 F' H' Sv S' (p.trans q)
  | err e st => exact fun σ2 q => h σ2 (p.trans q)
  | no => exact h
theorem s_cons (h1 : PS X s (tS (wd X) E IO ms)) (h2 : PSs X ss (tS (wd X) E IO mr)) : PSs X (s :: ss) (tS (wd X) E IO (mSeq ms mr)) := by
  refine pss_imp (pss_cons h1 h2) fun D σ H q => ?_
  obtain ⟨F, S, st, A⟩ := ts_of q
  refine ⟨F, st, S, A.sr, A.le, ?_⟩
  have g := A.g
  unfold mSeq at g
  cases em : ms st with
  | ok o st1 =>
    rw [em] at g
    cases o with
    | nx => exact fun σ' F' H' S' p b s1 => ⟨F', st1, S', s1, b.fh, ck_s.sh b (FinS.pinned p g)⟩
    | brk => exact g
    | cnt => exact g
    | ret t => exact g
  | err x st1 => rw [em] at g; exact g
  | no => rw [em] at g; exact g
theorem s_one (h1 : PS X s (tS (wd X) E IO ms)) : PSs X [s] (tS (wd X) E IO ms) := by
  refine pss_imp (pss_cons h1 pss_nil) fun D σ H q => ?_
  obtain ⟨F, S, st, A⟩ := ts_of q
  exact ⟨F, st, S, A.sr, A.le, A.g⟩
theorem s_pass : PS X (.Pass pos) (tS (wd X) E IO mNext) := by
  refine ps_imp ps_pass fun D σ H q => ?_
  obtain ⟨F, S, st, A⟩ := ts_of q
  exact A.g σ F H S (Pin.refl _ _) (.refl A.le) A.sr
theorem s_brk : PS X (.Break pos) (tS (wd X) E IO mBrk) := by
  refine ps_imp ps_break fun D σ H q => ?_
  obtain ⟨F, S, st, A⟩ := ts_of q
  exact A.g σ F H S (Pin.refl _ _) (.refl A.le) A.sr
theorem s_cnt : PS X (.Continue pos) (tS (wd X) E IO mCnt) := by
  refine ps_imp ps_continue fun D σ H q => ?_
  obtain ⟨F, S, st, A⟩ := ts_of q
  exact A.g σ F H S (Pin.refl _ _) (.refl A.le) A.sr
theorem s_no : PS X s (tS (wd X) E IO mNo) := by
  refine ps_imp ps_never fun D σ H q => ?_
  obtain ⟨F, S, st, A⟩ := ts_of q
  exact A.g.elim
theorem s_ret (h : PE X e (tO (wd X) E mo)) : PS X (.Return (some e) pos) (tS (wd X) E IO (mRet mo)) := by
  refine ps_imp (ps_ret h) fun D σ H q => ?_
  obtain ⟨F, S, st, A⟩ := ts_of q
  refine to_bind ck_s A fun v t F1 H1 Sv S1 st1 b1 r1 dj1 s1 g1 => ?_
  exact g1 v σ F1 H1 Sv S1 (Pin.refl _ _) (.refl b1.fh) s1 r1 dj1
theorem s_retN : PS X (.Return none pos) (tS (wd X) E IO mRetN) := by
  refine ps_imp ps_retN fun D σ H q => ?_
  obtain ⟨F, S, st, A⟩ := ts_of q
  refine A.g .non σ F H Em S (Pin.refl _ _) ?_ A.sr (.frz .non) (em_dj S)
  rw [em_un]
  exact .refl A.le
theorem s_drop (h : PE X e (tV (wd X) E m)) (hs : swapsWith e none pos.line X.env = pure false := by rfl) : PS X (.Expr e pos) (tS (wd X) E IO (mDrop m)) := by
  refine ps_imp (ps_expr h hs) fun D σ H q => ?_
  obtain ⟨F, S, st, A⟩ := ts_of q
  refine tv_bind ck_s A fun v t F1 H1 S1 st1 b1 r1 A1 => ?_
  exact A1.g σ F1 H1 S1 (Pin.refl _ _) (.refl A1.le) A1.sr
theorem s_if {c : Expr} {sa sb : List Stmt} {mc : Sl → R Bool} {na nb : Sl → R Out} (hc : PT X c (tT (wd X) E mc)) (ha : PSs X sa (tS (wd X) E IO na)) (hb : PSs X sb (tS (wd X) E IO nb)) : PS X (.If c sa sb pos) (tS (wd X) E IO (mIfS mc na nb)) := by
  refine ps_imp (ps_if hc ha hb) fun D σ H q => ?_
  obtain ⟨F, S, st, A⟩ := ts_of q
  refine tt_bind ck_s A fun k F1 H1 S1 st1 b1 A1 => ?_
  cases k with
  | true => exact A1.to_ts
  | false => exact A1.to_ts
theorem s_asg {tg : Expr} {g : TG} {f : OT → Sl → Option Sl} (he : PE X e (tO (wd X) E mo)) (hg : PG X tg g) (ht : TgOk (wd X) IO g f) (hs : swapsWithSole [tg] e pos.line X.env = pure false := by rfl) (hw : swappedStores [tg] e X.env = pure none := by rfl)
    (h1 : (assignEach [tg] X.env).map (·.2) = [assign tg X.env] := by rfl) : PS X (.Assign [tg] e pos) (tS (wd X) E IO (mAsg mo f)) := by
  refine ps_imp (ps_asg he hg hs hw h1) fun D σ H q => ?_
  obtain ⟨F, S, st, A⟩ := ts_of q
  refine to_bind ck_s A fun v t F1 H1 Sv S1 st1 b1 r1 dj1 s1 g1 => ?_
  cases ef : f t st1 with
  | none => rw [ef] at g1; exact g1.elim
  | some st2 =>
    rw [ef] at g1
    exact ht b1.fh r1 s1 dj1 ef fun σ' T' p s' u => g1 σ' F1 H1 T' p ((Step.refl b1.fh).sub u) s'
theorem s_par {i j : Nat} {x y : Str} {px py pt : Pos} {kt k2 pt2} (hc : X.calm = true) (hN : X.N.Nodup) (hi : X.N[i]? = some x) (hj : X.N[j]? = some y) (hij : i ≠ j) (hi1 : i ∉ IO) (hj1 : j ∉ IO)
    (hx : X.env.scope.names.lookup x = some .local) (hy : X.env.scope.names.lookup y = some .local) (ha : PA X [a, b] (tB' (wd X) E mb))
    (hw : swappedStores [.Tuple [.Name x px, .Name y py] kt pt] (.Tuple [a, b] k2 pt2) X.env = pure (some [x, y]))
    (hs : swapsWithSole [.Tuple [.Name x px, .Name y py] kt pt] (.Tuple [a, b] k2 pt2) pos.line X.env = pure false := by rfl) :
    PS X (.Assign [.Tuple [.Name x px, .Name y py] kt pt] (.Tuple [a, b] k2 pt2) pos) (tS (wd X) E IO (mPar i j mb)) := by
  refine ps_imp (ps_par hc hN hi hj hij hx hy ha hw hs) fun D σ H q => ?_
  obtain ⟨F, S, st, A⟩ := ts_of q
  refine tb_bind ck_s A fun vs ts F1 H1 Sv S1 st1 b1 r1 dj1 s1 g1 => ?_
  match ts, r1, g1 with
  | [t1, t2], .cons (v := v1) (S := A1) ra (.cons (v := v2) (S := A2) rb .nil d2) d1, g1 =>
    simp only at g1
    split at g1
    · rename_i hl
      refine ⟨v1, v2, rfl, ?_⟩
      obtain ⟨T1, p1, u1⟩ := s1.set hl.1 ra fun z z1 z2 => dj1 z (.inl z1) z2
      obtain ⟨T2, p2, u2⟩ := p1.set (i := j) (by rw [List.length_set]; exact hl.2) rb fun z z1 z2 => z2.elim (fun z2 => d1 z z2 (.inl z1)) fun z2 => dj1 z (.inr (.inl z1)) (u1 z z2)
      exact g1 _ F1 H1 _ ((Pin.set hi1).trans (Pin.set hj1)) ((Step.refl b1.fh).sub fun z y => y.elim (fun y => .inl (.inr (.inl y))) fun y => (u2 z y).elim (fun y => .inl (.inl y)) fun y => .inr (u1 z y)) p2
    · exact g1.elim
  | [], _, g1 => exact g1.elim
  | [_], _, g1 => exact g1.elim
  | _ :: _ :: _ :: _, _, g1 => exact g1.elim
theorem s_par3 {i j l : Nat} {x y z : Str} {px py pz pt : Pos} {kt k2 pt2} (hc : X.calm = true) (hN : X.N.Nodup) (hi : X.N[i]? = some x) (hj : X.N[j]? = some y) (hl : X.N[l]? = some z) (hij : i ≠ j) (hil : i ≠ l) (hjl : j ≠ l) (hi1 : i ∉ IO) (hj1 : j ∉ IO) (hl1 : l ∉ IO)
    (hx : X.env.scope.names.lookup x = some .local) (hy : X.env.scope.names.lookup y = some .local) (hz : X.env.scope.names.lookup z = some .local) (ha : PA X [a, b, c] (tB' (wd X) E mb))
    (hw : swappedStores [.Tuple [.Name x px, .Name y py, .Name z pz] kt pt] (.Tuple [a, b, c] k2 pt2) X.env = pure (some [x, y, z]))
    (hs : swapsWithSole [.Tuple [.Name x px, .Name y py, .Name z pz] kt pt] (.Tuple [a, b, c] k2 pt2) pos.line X.env = pure false := by rfl) :
    PS X (.Assign [.Tuple [.Name x px, .Name y py, .Name z pz] kt pt] (.Tuple [a, b, c] k2 pt2) pos) (tS (wd X) E IO (mPar3 i j l mb)) := by
  refine ps_imp (ps_par3 hc hN hi hj hl hij hil hjl hx hy hz ha hw hs) fun D σ H q => ?_
  obtain ⟨F, S, st, A⟩ := ts_of q
  refine tb_bind ck_s A fun vs ts F1 H1 Sv S1 st1 b1 r1 dj1 s1 g1 => ?_
  match ts, r1, g1 with
  | [t1, t2, t3], .cons (v := v1) (S := A1) ra (.cons (v := v2) (S := A2) rb (.cons (v := v3) (S := A3) rc .nil d3) d2) d1, g1 =>
    simp only at g1
    split at g1
    · rename_i hl
      refine ⟨v1, v2, v3, rfl, ?_⟩
      obtain ⟨T1, p1, u1⟩ := s1.set hl.1 ra fun z z1 z2 => dj1 z (.inl z1) z2
      obtain ⟨T2, p2, u2⟩ := p1.set (i := j) (by rw [List.length_set]; exact hl.2.1) rb fun z z1 z2 => z2.elim (fun z2 => d1 z z2 (.inl z1)) fun z2 => dj1 z (.inr (.inl z1)) (u1 z z2)
      obtain ⟨T3, p3, u3⟩ := p2.set (i := l) (by rw [List.length_set, List.length_set]; exact hl.2.2) rc fun z z1 z2 => z2.elim (fun z2 => d2 z z2 (.inl z1)) fun z2 => (u2 z z2).elim (fun z2 => d1 z z2 (.inr (.inl z1))) fun z2 => dj1 z (.inr (.inr (.inl z1))) (u1 z z2)
      refine g1 _ F1 H1 _ (((Pin.set hi1).trans (Pin.set hj1)).trans (Pin.set hl1)) ((Step.refl b1.fh).sub fun z y => ?_) p3
      rcases y with y | y
      · exact .inl (.inr (.inr (.inl y)))
      · rcases u3 z y with y | y
        · exact .inl (.inr (.inl y))
        · rcases u2 z y with y | y
          · exact .inl (.inl y)
          · exact .inr (u1 z y)
    · exact g1.elim
  | [], _, g1 => exact g1.elim
  | [_], _, g1 => exact g1.elim
  | [_, _], _, g1 => exact g1.elim
  | _ :: _ :: _ :: _ :: _, _, g1 => exact g1.elim
theorem s_aug {i : Nat} {x : Str} {op : Operator} {f : Int → Int → Int} {pos' : Pos} (hN : X.N.Nodup) (hi : X.N[i]? = some x) (hx : Loc X.env.scope x) (hi1 : i ∉ IO) (he : PE X e (tV (wd X) E m)) (ho : PIp X op (ipI f))
    (hf : X.fn x = true ∨ X.env.scope.names.lookup x = some .local := by first | exact .inl rfl | exact .inr rfl | assumption) : PS X (.AugAssign (.Name x pos') op e pos) (tS (wd X) E IO (mAug i f m)) := by
  refine ps_imp (ps_aug hN hi hx he ho hf) fun D σ H q => ?_
  obtain ⟨F, S, st, A⟩ := ts_of q
  have g := A.g
  unfold mAug at g
  split at g
  · rename_i a0 e0
    obtain ⟨v, S1, T, h1, h2, h3, h4, h5⟩ := A.sr.take e0
    cases h2 with
    | frz h2 =>
      cases h2
      refine ⟨_, h1, tv_bind ck_s ⟨A.sr, A.le, g⟩ fun v d F1 H1 S1 st1 b1 d1 A1 => ?_⟩
      have g1 := A1.g
      cases d with
      | int b =>
        cases d1
        refine ⟨a0, b, rfl, rfl, ?_⟩
        by_cases hl : i < st1.length
        · obtain ⟨T', p1, p2⟩ := A1.sr.set (i := i) hl (.frz (.int (f a0 b))) (em_dj S1)
          exact g1 _ F1 H1 _ (Pin.set hi1) ((Step.refl A1.le).sub fun z y => y.elim False.elim (p2 z)) p1
        · have g1 : FinS (wd X) E IO D σ F1 H1 S1 (.ok .nx (st1.set i (some (.frz (.int (f a0 b)))))) := g1
          have hl0 : st1.length ≤ i := by omega
          rw [List.set_eq_of_length_le hl0] at g1
          have hl' : σ.length ≤ i := by rw [A1.sr.len]; omega
          show D.nx (σ.set i (some (V.int (f a0 b)))) H1
          rw [List.set_eq_of_length_le hl']
          exact g1 σ F1 H1 S1 (Pin.refl _ _) (.refl A1.le) A1.sr
      | _ => exact g1.elim
  · exact g.elim
theorem s_append (i : Nat) {x : Str} {px apos cpos : Pos} (ha : PE X e (tO (wd X) E mo)) (hN : X.N[i]? = some x := by rfl) (hv : Vis X.env.scope x := by first | exact Or.inl rfl | exact Or.inr (Or.inl rfl) | exact Or.inr (Or.inr rfl)) (hd : (x == ("__debug__" : Str)) = false := by decide)
    (hcd : (x == ("__classdict__" : Str)) = false := by decide)
    (hbase : attributeBase (.Name x px) "append" X.env (eval (.Name x px) X.env) = eval (.Name x px) X.env := by rfl)
    (hfew : ((backTo cpos (starEach [e] X.env)).all (fun x => !x.1) && (backToKw cpos (keywordEach [] X.env)).all (fun x => x.1.isSome)
      && decide ([e].length + ([] : List Keyword).length + (if ([] : List Keyword).isEmpty then 0 else 1) < 30)) = true := by rfl)
    (hline : (apos.endLine == cpos.line) = true := by rfl) (hs : starEach [e] X.env = (false, eval e X.env) :: starEach [] X.env := by rfl) (hplain : (backTo cpos (starEach [] X.env)).any (·.1) = false := by rfl)
    (hsw : swapsWith (.Call (.Attribute (.Name x px) "append" apos) [e] [] cpos) none pos.line X.env = pure false := by rfl) :
    PS X (.Expr (.Call (.Attribute (.Name x px) "append" apos) [e] [] cpos) pos) (tS (wd X) E IO (mAppend i mo)) := by
  refine ps_imp (ps_expr (pe_bm PySem.F.plainAttrs_list PySem.F.slot_list_append PySem.F.type_list_append mt_append (pe_var hN hv hd hcd) (pa_cons ha pa_nil hs) hbase hfew hline hs hplain) hsw) fun D σ H q => ?_
  obtain ⟨F, S, st, A⟩ := ts_of q
  have g := A.g
  unfold mAppend at g
  split at g
  · rename_i ts0 e0
    obtain ⟨v, S1, T, h1, h2, h3, h4, h5⟩ := A.sr.take e0
    cases h2 with
    | @nod a kd o vs ts S0 q1 q2 q3 q4 q5 =>
      have q3' : o = HO.lst vs := q3
      subst q3'
      refine ⟨_, h1, .inl ⟨rfl, _, SqL.of q1⟩, to_bind ck_s ⟨A.sr, A.le, g⟩ fun w t F1 H1 Sv S1 st1 b1 r1 dj1 s1 g1 => ?_⟩
      split at g1
      · rename_i ts1 e1
        obtain ⟨v', S1', T', w1, w2, w3, w4, w5⟩ := s1.take e1
        rw [h1] at w1
        cases w1
        cases w2 with
        | @nod a kd o vs' ts' S0' p1 p2 p3 p4 p5 =>
          have p3' : o = HO.lst vs' := p3
          subst p3'
          split at g1
          · rename_i hl
            refine ⟨a, vs', w, rfl, rfl, p1, by rw [p4.len]; exact Nat.lt_of_lt_of_le hl (by decide), ?_⟩
            subst w5
            have ndv : ∀ {x}, Sv x → x ≠ a := fun {x} y z => dj1 x y (.inl (.inl z))
            have ndT : ∀ {x}, T' x → x ≠ a := fun {x} y z => w4 x (.inl z) y
            have ndS : ∀ {x}, S0' x → x ≠ a := fun {x} y z => p5 (by rw [← z]; exact y)
            have keep : ∀ {U : AS}, (∀ {x}, U x → x ≠ a) → ∀ x o, U x → H1 x = some o → upd H1 a (.lst (vs' ++ [w])) x = some o := fun h x o u e => by rw [upd_ne (h u)]; exact e
            have rs : Reps (wd X) F1 (upd H1 a (.lst (vs' ++ [w]))) (vs' ++ [w]) (ts1 ++ [t]) (Uu S0' Sv) := by
              have r1' := rep_carry t w Sv r1 (.refl F1) (keep ndv) fun x y => (rep_dom _ _ _ r1 x y).2
              have p4' := reps_carry ts1 vs' S0' p4 (.refl F1) (keep ndS) fun x y => (reps_dom _ _ _ p4 x y).2
              clear p4 g1 e1 hl q4 q5 q2 keep
              have key : ∀ {vs : List V} {ts : List OT} {S0 : AS}, Reps (wd X) F1 (upd H1 a (.lst (vs' ++ [w]))) vs ts S0 → Dj S0 Sv → Reps (wd X) F1 (upd H1 a (.lst (vs' ++ [w]))) (vs ++ [w]) (ts ++ [t]) (Uu S0 Sv) := by
                intro vs
                induction vs with
                | nil =>
                  intro ts S0 h d
                  cases h
                  have := Reps.cons r1' .nil (dj_em Sv)
                  rw [un_em] at this
                  rw [em_un]
                  exact this
                | cons v vs ih =>
                  intro ts S0 h d
                  cases h with
                  | cons ha hb hd =>
                    have := Reps.cons ha (ih hb fun x y z => d x (.inr y) z) fun x y z => z.elim (hd x y) fun z => d x (.inl y) z
                    rw [← uu_assoc] at this
                    exact this
              exact key p4' fun x y z => dj1 x z (.inl (.inr y))
            have hT' : SR (wd X) F1 (upd H1 a (.lst (vs' ++ [w]))) σ (st1.set i none) T' := w3.carry (.refl F1) (keep ndT) fun x y => (w3.dom x y).2
            have hnew : Rep (wd X) F1 (upd H1 a (.lst (vs' ++ [w]))) (.ref a) (.nod .lst (ts1 ++ [t])) (Ad a (Uu S0' Sv)) := .nod upd_same p2 rfl rs fun h => h.elim p5 fun h => ndv h rfl
            have hset := hT'.put (i := i) h1 (by simp [(List.getElem?_eq_some_iff.mp e1).1]) hnew fun x y z => y.elim (fun y => ndT z y) fun y => y.elim (fun y => w4 x (.inr y) z) fun y => dj1 x y (.inr z)
            rw [List.set_set] at hset
            refine g1 σ F1 (upd H1 a (.lst (vs' ++ [w]))) _ (Pin.refl _ _) ?_ hset
            refine (Step.mut (p := a) b1.fh (.inr (.inl (.inl rfl))) p2).sub fun x y => ?_
            rcases y with (y | y | y) | y
            · exact .inr (.inl (.inl y))
            · exact .inr (.inl (.inr y))
            · exact .inl y
            · exact .inr (.inr y)
          · exact g1.elim
      · exact g1.elim
  · exact g.elim
end
end Z

set_option maxHeartbeats 1000000
/-! Part 6: what loops walk, for, while, list comprehensions -/
namespace Z
open PySem PySem.Spec PyProof.Rows L2
variable [HK]

/-- behind F the iteration gives just these items -/
def GoodIt (J : It) (F : Hp) (ds : List PyData) : Prop := ∀ (i : Nat) (F1 H1 : Hp), Le F F1 → Le F1 H1 → (i < ds.length → J.go i H1) ∧ (i = ds.length → J.stop i H1) ∧
  ∀ x H2, J.yld i H1 x H2 → ∀ d, ds[i]? = some d → ∃ F2, Gro F1 H1 F2 H2 ∧ Dt F2 x d
def FinI (W : Wd) (E : XK) (σ : L2.St) (Q : It → Hp → Prop) (F H : Hp) (S : AS) (r : R (List PyData)) : Prop :=
  match r with
  | .ok ds st => ∀ J F' H' S', Step F H S F' H' S' → SR W F' H' σ st S' → GoodIt J F' ds → Q J H'
  | .err e st => FinE W E σ F H S e st
  | .no => False
theorem ck_i {W : Wd} {E : XK} {σ : L2.St} {Q : It → Hp → Prop} : CK W E σ (FinI W E σ Q) := ⟨fun {F H S F1 H1 S1 r} a h => by
    cases r with
    | ok d st => exact fun v F' H' S' b => h v F' H' S' (a.trans b)
    | err e st => exact FinE.sh a h
    | no => exact h, fun h => h, fun h => h⟩
def tI (W : Wd) (E : XK) (m : Sl → R (List PyData)) : TI := fun σ H Q => ∃ F st S, SR W F H σ st S ∧ Le F H ∧ FinI W E σ Q F H S (m st)
theorem ti_of {W : Wd} {E : XK} {σ : L2.St} {H : Hp} {m : Sl → R (List PyData)} {Q : It → Hp → Prop} (h : tI W E m σ H Q) : ∃ F S st, At W E σ (FinI W E σ Q) F H S st (m st) := let ⟨F, st, S, a, b, c⟩ := h; ⟨F, S, st, a, b, c⟩
theorem pi_imp {X : Cx} {tg e : Expr} {t t' : TI} (h : PI X tg e t) (i : ∀ σ H Q, t' σ H Q → t σ H Q) : PI X tg e t' := ⟨fun pins s σ H R I q => h.run pins s σ H R I (i σ H R q)⟩

def itL : PyData → Option (List PyData)
  | .list ds => some ds
  | _ => none
def itT : PyData → Option (List PyData)
  | .tuple ds => some ds
  | _ => none
def mItL (m : Sl → R PyData) : Sl → R (List PyData) := fun st => (m st).bind fun d st => lift (itL d) st
def mItT (m : Sl → R PyData) : Sl → R (List PyData) := fun st => (m st).bind fun d st => lift (itT d) st
def rng (a b : Int) : List PyData := (List.range (b - a).toNat).map fun i => .int (a + (i : Nat))
def mRng1 (m : Sl → R (List PyData)) : Sl → R (List PyData) := fun st => (m st).bind fun ds st => match ds with
  | [.int n] => if -1000000 ≤ n ∧ n ≤ 1000000 then .ok (rng 0 n) st else .no
  | _ => .no
def mRng2 (m : Sl → R (List PyData)) : Sl → R (List PyData) := fun st => (m st).bind fun ds st => match ds with
  | [.int a, .int b] => if -1000000 ≤ a ∧ a ≤ 1000000 ∧ -1000000 ≤ b ∧ b ≤ 1000000 then .ok (rng a b) st else .no
  | _ => .no

theorem list_unique {K : PySem.W.Frag} {H : Hp} {a : Addr} {xs : List V} (h : H a = some (.lst xs)) : SqL K H a xs := SqL.of h
section
variable {X : Cx} {E : XK} {IO : List Nat} {e a b c tg : Expr} {es : List Expr} {m : Sl → R PyData} {ml mi : Sl → R (List PyData)} {mt : Sl → R Bool} {mo : Sl → R OT} {ms : Sl → R Out} {pos : Pos}
theorem i_list (h : PE X e (tV (wd X) E m)) : PI X tg e (tI (wd X) E (mItL m)) := by
  refine pi_imp (pi_list h) fun σ H Q q => ?_
  obtain ⟨F, S, st, A⟩ := ti_of q
  refine tv_bind ck_i A fun v d F1 H1 S1 st1 b1 d1 A1 => ?_
  have g := A1.g
  cases d with
  | list ds =>
    cases d1 with
    | @lst p vs _ h1 h2 =>
      refine ⟨p, rfl, ⟨vs, SqL.of (A1.le _ _ h1)⟩, g _ F1 H1 S1 (.refl A1.le) A1.sr fun i F2 H2 l1 l2 => ⟨fun hi => ?_, fun hi => ⟨vs, SqL.of (l2 _ _ (l1 _ _ h1)), by rw [h2.len]; exact Nat.le_of_eq hi.symm⟩, ?_⟩⟩
      · obtain ⟨x, hx⟩ : ∃ x, vs[i]? = some x := ⟨vs[i]'(by rw [h2.len]; exact hi), by simp⟩
        exact ⟨vs, x, SqL.of (l2 _ _ (l1 _ _ h1)), hx⟩
      · rintro x H3 ⟨rfl, y⟩ d hd
        obtain ⟨v, hv, dv⟩ := h2.get hd
        have := y vs (SqL.of (l2 _ _ (l1 _ _ h1)))
        rw [hv] at this
        cases this
        exact ⟨F2, .refl l2, l1.dt dv⟩
  | _ => exact g.elim
theorem i_tup (h : PE X e (tV (wd X) E m)) : PI X tg e (tI (wd X) E (mItT m)) := by
  refine pi_imp (pi_tup h) fun σ H Q q => ?_
  obtain ⟨F, S, st, A⟩ := ti_of q
  refine tv_bind ck_i A fun v d F1 H1 S1 st1 b1 d1 A1 => ?_
  have g := A1.g
  cases d with
  | tuple ds =>
    cases d1 with
    | @tup p vs _ h1 h2 =>
      refine ⟨p, rfl, ⟨vs, SqT.of (A1.le _ _ h1)⟩, g _ F1 H1 S1 (.refl A1.le) A1.sr fun i F2 H2 l1 l2 => ⟨fun hi => ?_, fun hi => ⟨vs, SqT.of (l2 _ _ (l1 _ _ h1)), by rw [h2.len]; exact Nat.le_of_eq hi.symm⟩, ?_⟩⟩
      · obtain ⟨x, hx⟩ : ∃ x, vs[i]? = some x := ⟨vs[i]'(by rw [h2.len]; exact hi), by simp⟩
        exact ⟨vs, x, SqT.of (l2 _ _ (l1 _ _ h1)), hx⟩
      · rintro x H3 ⟨rfl, y⟩ d hd
        obtain ⟨v, hv, dv⟩ := h2.get hd
        have := y vs (SqT.of (l2 _ _ (l1 _ _ h1)))
        rw [hv] at this
        cases this
        exact ⟨F2, .refl l2, l1.dt dv⟩
  | _ => exact g.elim
omit [HK] in
theorem rng_len (a b : Int) : (rng a b).length = (b - a).toNat := by unfold rng; simp
omit [HK] in
theorem rng_get {a b : Int} {i : Nat} {d : PyData} (h : (rng a b)[i]? = some d) : i < (b - a).toNat ∧ d = .int (a + (i : Nat)) := by
  unfold rng at h
  rw [List.getElem?_map] at h
  by_cases hi : i < (b - a).toNat
  · rw [List.getElem?_range hi] at h
    cases h
    exact ⟨hi, rfl⟩
  · rw [List.getElem?_eq_none (by simpa using Nat.not_lt.mp hi)] at h
    cases h
theorem good_rng {F : Hp} {a b : Int} : GoodIt (Itr a (b - a).toNat) F (rng a b) := fun i F1 H1 l1 l2 => ⟨fun hi => by rw [rng_len] at hi; exact hi, fun hi => by rw [rng_len] at hi; exact Nat.le_of_eq hi.symm, fun x H2 y d hd => by
  obtain ⟨rfl, rfl⟩ := y
  obtain ⟨_, rfl⟩ := rng_get hd
  exact ⟨F1, .refl l2, .int _⟩⟩
theorem Dts.int1 {F : Hp} {vs : List V} {n : Int} (h : Dts F vs [.int n]) : vs = [.int n] := by
  cases h with
  | cons h1 h2 => cases h1; cases h2; rfl
theorem Dts.int2 {F : Hp} {vs : List V} {n k : Int} (h : Dts F vs [.int n, .int k]) : vs = [.int n, .int k] := by
  cases h with
  | cons h1 h2 => cases h1; rw [h2.int1]
theorem Dts.int3 {F : Hp} {vs : List V} {n k j : Int} (h : Dts F vs [.int n, .int k, .int j]) : vs = [.int n, .int k, .int j] := by
  cases h with
  | cons h1 h2 => cases h1; rw [h2.int2]
theorem i_rng1 {p : Pos} (hg : Gl X "range") (hm : X.mg "range" = none) (ha : PA X [a] (tA (wd X) E ml)) (hs : starEach [a] X.env = [(false, eval a X.env)] := by rfl) : PI X tg (.Call (.Name "range" p) [a] [] pos) (tI (wd X) E (mRng1 ml)) := by
  refine pi_imp (pi_range1 hg hm ha hs) fun σ H Q q => ?_
  obtain ⟨F, S, st, A⟩ := ti_of q
  refine ta_bind ck_i A fun vs d F1 H1 S1 st1 b1 d1 A1 => ?_
  have g := A1.g
  split at g
  · rename_i n
    split at g
    · rename_i hn
      have e := d1.int1
      subst e
      refine ⟨n, rfl, by omega, by omega, ?_⟩
      have := g (Itr 0 (n - 0).toNat) F1 H1 S1 (.refl A1.le) A1.sr good_rng
      rw [Int.sub_zero] at this
      exact this
    · exact g.elim
  · exact g.elim
theorem i_rng2 {p : Pos} (hg : Gl X "range") (hm : X.mg "range" = none) (ha : PA X [a, b] (tA (wd X) E ml)) (hs : starEach [a, b] X.env = [(false, eval a X.env), (false, eval b X.env)] := by rfl) (hs2 : starEach [b] X.env = [(false, eval b X.env)] := by rfl) :
    PI X tg (.Call (.Name "range" p) [a, b] [] pos) (tI (wd X) E (mRng2 ml)) := by
  refine pi_imp (pi_range2 hg hm ha hs hs2) fun σ H Q q => ?_
  obtain ⟨F, S, st, A⟩ := ti_of q
  refine ta_bind ck_i A fun vs d F1 H1 S1 st1 b1 d1 A1 => ?_
  have g := A1.g
  split at g
  · rename_i n k
    split at g
    · rename_i hn
      have e := d1.int2
      subst e
      exact ⟨n, k, rfl, by omega, g (Itr n (k - n).toNat) F1 H1 S1 (.refl A1.le) A1.sr good_rng⟩
    · exact g.elim
  · exact g.elim
end

/-! ### for -/
def loopF (f : OT → Sl → Option Sl) (mb : Sl → R Out) : List PyData → Sl → R Out
  | [], st => .ok .nx st
  | d :: ds, st => (lift (f (.frz d) st) st).bind fun st1 _ => (mb st1).bind fun o st2 => match o with
    | .nx => loopF f mb ds st2
    | .cnt => loopF f mb ds st2
    | .brk => .ok .nx st2
    | .ret t => .ok (.ret t) st2
def mFor (mi : Sl → R (List PyData)) (f : OT → Sl → Option Sl) (mb : Sl → R Out) : Sl → R Out := fun st => (mi st).bind fun ds st => loopF f mb ds st
section
variable {X : Cx} {E : XK} {IO : List Nat} {tg iter : Expr} {body : List Stmt} {mi : Sl → R (List PyData)} {mb : Sl → R Out} {mt : Sl → R Bool} {g : TG} {f : OT → Sl → Option Sl} {pos : Pos}
theorem s_for (hp : PassesOwn (model X.prog X.w) X.A X.env X.xe) (hc : X.calm = true) (hi : PI X tg iter (tI (wd X) E mi)) (hg : PG X tg g) (ht : TgOk (wd X) IO g f) (hb : PSs X body (tS (wd X) E IO mb))
    (hs : ∀ x, foldedSetIterable iter X.env x = pure x := by intro _; rfl) : PS X (.For tg iter body [] pos) (tS (wd X) E IO (mFor mi f mb)) := by
  refine ps_imp (ps_for hp hc hi hg hb hs) fun D σ H q => ?_
  obtain ⟨F, S, st, A⟩ := ts_of q
  refine ⟨F, st, S, A.sr, A.le, ?_⟩
  have g0 := A.g
  unfold mFor at g0
  cases em : mi st with
  | err x st1 => rw [em] at g0; exact g0 σ (Pin.refl _ _)
  | no => rw [em] at g0; exact g0
  | ok ds st1 =>
    rw [em] at g0
    intro J F1 H1 S1 b1 s1 gi
    refine ⟨fun i k σ' H' => k = ds.length - i ∧ i ≤ ds.length ∧ ∃ F' st' S', Le F1 F' ∧ SR (wd X) F' H' σ' st' S' ∧ Le F' H' ∧ FinS (wd X) E IO D σ' F' H' S' (loopF f mb (ds.drop i) st'), ⟨ds.length, by simp, Nat.zero_le _, F1, st1, S1, .refl F1, s1, b1.fh, ck_s.sh b1 g0⟩, ?_⟩
    rintro i k σ' H' ⟨rfl, hil, F', st', S', l1, s2, l2, fin⟩
    obtain ⟨gi1, gi2, gi3⟩ := gi i F' H' l1 l2
    by_cases hlt : i < ds.length
    · refine .inr ⟨gi1 hlt, fun σ3 H3 => i + 1 ≤ ds.length ∧ ∃ F' st' S', Le F1 F' ∧ SR (wd X) F' H3 σ3 st' S' ∧ Le F' H3 ∧ FinS (wd X) E IO D σ3 F' H3 S' (loopF f mb (ds.drop (i + 1)) st'), fun σ3 H3 ⟨z1, z2⟩ => ⟨ds.length - (i + 1), by omega, rfl, z1, z2⟩, fun x H2 y => ?_⟩
      obtain ⟨F2, gr, dx⟩ := gi3 x H2 y ds[i] (by simp [hlt])
      rw [List.drop_eq_getElem_cons hlt] at fin
      simp only [loopF] at fin
      cases ef : f (.frz ds[i]) st' with
      | none => rw [ef] at fin; exact fin.elim
      | some st3 =>
        rw [ef] at fin
        simp only [lift_some, R.bind_ok] at fin
        refine ht gr.fh (.frz dx) (gr.sr s2) (em_dj S') ef fun σ3 T3 p3 s3 u3 => ⟨F2, st3, T3, s3, gr.fh, ?_⟩
        have hstep : Step F' H' S' F2 H2 T3 := (gr.step (S := S')).sub fun z y => (u3 z y).elim False.elim id
        have fin' := FinS.pinned p3 (ck_s.sh hstep fin)
        cases eb : mb st3 with
        | ok o st4 =>
          rw [eb] at fin'
          simp only [R.bind_ok] at fin'
          cases o with
          | nx => exact fun σ4 F4 H4 S4 p4 b4 s4 => ⟨hlt, F4, st4, S4, (l1.trans gr.ff).trans b4.ff, s4, b4.fh, FinS.pinned p4 (ck_s.sh b4 fin')⟩
          | cnt => exact fun σ4 F4 H4 S4 p4 b4 s4 => ⟨hlt, F4, st4, S4, (l1.trans gr.ff).trans b4.ff, s4, b4.fh, FinS.pinned p4 (ck_s.sh b4 fin')⟩
          | brk => exact fin'
          | ret t => exact fin'
        | err e st4 => rw [eb] at fin'; exact fin'
        | no => rw [eb] at fin'; exact fin'
    · have e : i = ds.length := by omega
      subst e
      rw [List.drop_length] at fin
      exact .inl ⟨gi2 rfl, fin σ' F' H' S' (Pin.refl _ _) (.refl l2) s2⟩
theorem s_while (n : Nat) {c : Expr} (hp : PassesOwn (model X.prog X.w) X.A X.env X.xe) (hc : PT X c (tT (wd X) E mt)) (hb : PSs X body (tS (wd X) E IO mb)) : PS X (.While c body [] pos) (tS (wd X) E IO (mWhile n mt mb)) := by
  refine ps_imp (ps_while hp hc hb) fun D σ H q => ?_
  obtain ⟨F, S, st, A⟩ := ts_of q
  refine ⟨fun k σ' H' => ∃ F' st' S', SR (wd X) F' H' σ' st' S' ∧ Le F' H' ∧ FinS (wd X) E IO D σ' F' H' S' (mWhile k mt mb st'), ⟨n, F, st, S, A.sr, A.le, A.g⟩, ?_⟩
  rintro k σ' H' ⟨F', st', S', s1, l1, fin⟩
  cases k with
  | zero => exact fin.elim
  | succ k =>
    simp only [mWhile] at fin
    refine tt_bind ck_s ⟨s1, l1, fin⟩ fun x F2 H2 S2 st2 b2 A2 => ?_
    have g2 := A2.g
    cases x with
    | false =>
      rw [if_neg Bool.false_ne_true] at g2 ⊢
      exact g2 σ' F2 H2 S2 (Pin.refl _ _) (.refl A2.le) A2.sr
    | true =>
      rw [if_pos rfl] at g2 ⊢
      refine ⟨fun σ3 H3 => ∃ F' st' S', SR (wd X) F' H3 σ3 st' S' ∧ Le F' H3 ∧ FinS (wd X) E IO D σ3 F' H3 S' (mWhile k mt mb st'), fun σ3 H3 z => ⟨k, Nat.lt_succ_self k, z⟩, F2, st2, S2, A2.sr, A2.le, ?_⟩
      cases eb : mb st2 with
      | ok o st4 =>
        rw [eb] at g2
        simp only [R.bind_ok] at g2
        cases o with
        | nx => exact fun σ4 F4 H4 S4 p4 b4 s4 => ⟨F4, st4, S4, s4, b4.fh, FinS.pinned p4 (ck_s.sh b4 g2)⟩
        | cnt => exact fun σ4 F4 H4 S4 p4 b4 s4 => ⟨F4, st4, S4, s4, b4.fh, FinS.pinned p4 (ck_s.sh b4 g2)⟩
        | brk => exact g2
        | ret t => exact g2
      | err e st4 => rw [eb] at g2; exact g2
      | no => rw [eb] at g2; exact g2
end

/-! ### list comprehensions -/
def wipeS (st : Sl) : List Nat → Sl
  | [] => st
  | v :: vs => (wipeS st vs).set v none
def flatS (o : Option (Option OT)) : Bool :=
  match o with
  | some (some (.nod _ _)) => false
  | _ => true
/-- the frozen things of st0 at these slots, put back -/
def backS (st0 : Sl) : List Nat → Sl → Sl
  | [], st => st
  | v :: vs, st => match st0[v]? with
    | some (some (.frz d)) => (backS st0 vs st).set v (some (.frz d))
    | _ => backS st0 vs st
/-- within a comprehension nothing is raised -/
def noE {α : Type} (r : R α) : R α :=
  match r with
  | .err _ _ => .no
  | r => r
@[simp] theorem noE_ok {α : Type} (a : α) (st : Sl) : noE (R.ok a st) = .ok a st := rfl
@[simp] theorem noE_no {α : Type} : noE (R.no : R α) = .no := rfl
def loopC (vs : List Nat) (f : OT → Sl → Option Sl) (mc : Sl → R Bool) (me : Sl → R OT) : List PyData → List OT → Sl → R (List OT)
  | [], acc, st => .ok acc st
  | d :: ds, acc, st => (lift (f (.frz d) (wipeS st vs)) st).bind fun st1 _ => (noE (mc st1)).bind fun b st2 => if b then (noE (me st2)).bind fun t st3 => loopC vs f mc me ds (acc ++ [t]) st3 else loopC vs f mc me ds acc st2
def mLc (vs : List Nat) (mi : Sl → R (List PyData)) (f : OT → Sl → Option Sl) (mc : Sl → R Bool) (me : Sl → R OT) : Sl → R OT := fun st => (mi st).bind fun ds st0 =>
  if ds.length ≤ 100000 ∧ vs.all (fun i => flatS st0[i]?) = true then (loopC vs f mc me ds [] st0).bind fun ts st => .ok (.nod .lst ts) (backS st0 vs (wipeS st vs)) else .no
def mYes : Sl → R Bool := fun st => .ok true st

section
variable {W : Wd} {F H : Hp} {σ : L2.St} {st : Sl} {S : AS}
theorem SR.drops (h : SR W F H σ st S) : ∀ vs : List Nat, ∃ T, SR W F H σ (wipeS st vs) T ∧ ∀ a, T a → S a
  | [] => ⟨S, h, fun _ x => x⟩
  | v :: vs => by
    obtain ⟨T, h1, h2⟩ := h.drops vs
    obtain ⟨T', h3, h4⟩ := h1.drop v
    exact ⟨T', h3, fun a x => h2 a (h4 a x)⟩
/-- a slot that is not known may hold anything -/
theorem SR.any : ∀ {σ : L2.St} {st : Sl} {S : AS} {i : Nat} {x : Option V}, SR W F H σ st S → st[i]? = some none → SR W F H (σ.set i x) st S
  | _, _, _, _, _, .nil, e => by simp at e
  | _, _, _, 0, _, .non h, e => .non h
  | _, _, _, 0, _, .som _ _ _, e => by simp at e
  | _, _, _, i + 1, _, .non h, e => by simpa using SR.non (SR.any (i := i) h (by simpa using e))
  | _, _, _, i + 1, _, .som r h d, e => by simpa using SR.som r (SR.any (i := i) h (by simpa using e)) d
theorem wipeS_len (st : Sl) : ∀ vs : List Nat, (wipeS st vs).length = st.length
  | [] => rfl
  | v :: vs => by unfold wipeS; rw [List.length_set, wipeS_len st vs]
theorem wipeS_at (st : Sl) {i : Nat} : ∀ {vs : List Nat}, i ∈ vs → i < st.length → (wipeS st vs)[i]? = some none
  | v :: vs, h, hi => by
    unfold wipeS
    by_cases e : v = i
    · subst e
      rw [List.getElem?_set_self (by rw [wipeS_len]; exact hi)]
    · rw [List.getElem?_set_ne e]
      exact wipeS_at st ((List.mem_cons.mp h).resolve_left fun z => e z.symm) hi
/-- σ told on vs makes no difference where st tells nothing -/
theorem SR.wiped {vs : List Nat} (h : SR W F H σ st S) (hn : ∀ v ∈ vs, v < st.length → st[v]? = some none) : SR W F H (wipe σ vs) st S := by
  induction vs with
  | nil => exact h
  | cons v vs ih =>
    have h1 := ih fun u hu => hn u (List.mem_cons_of_mem _ hu)
    unfold wipe
    by_cases hv : v < st.length
    · exact h1.any (hn v List.mem_cons_self hv)
    · rw [List.set_eq_of_length_le (by rw [wipe_length, h.len]; omega)]
      exact h1
theorem wipe_get {σ : L2.St} {i : Nat} : ∀ {vs : List Nat}, i ∉ vs → (wipe σ vs)[i]? = σ[i]?
  | [], _ => rfl
  | v :: vs, h => by
    unfold wipe
    rw [List.getElem?_set_ne fun e => h (by rw [e]; exact List.mem_cons_self), wipe_get fun z => h (List.mem_cons_of_mem _ z)]
theorem SR.unwipe : ∀ {σ σ' : L2.St} {st : Sl} {S : AS}, SR W F H σ st S → σ'.length = σ.length → (∀ (i : Nat) (t : OT), st[i]? = some (some t) → σ'[i]? = σ[i]?) → SR W F H σ' st S
  | _, [], _, _, .nil, _, _ => .nil
  | _, _ :: _, _, _, .nil, l, _ => by simp at l
  | _, [], _, _, .non _, l, _ => by simp at l
  | _, x :: σ', _, _, .non h, l, k => .non (h.unwipe (by simpa using l) fun i t e => by simpa using k (i + 1) t (by simpa using e))
  | _, [], _, _, .som _ _ _, l, _ => by simp at l
  | _, x :: σ', _, _, .som r h d, l, k => by
    have := k 0 _ rfl
    simp at this
    subst this
    exact .som r (h.unwipe (by simpa using l) fun i t e => by simpa using k (i + 1) t (by simpa using e)) d
/-- from a later σ2 that differs at vs alone -/
theorem SR.over {σ2 : L2.St} {vs : List Nat} (h : SR W F H σ2 (wipeS st vs) S) (hw : wipe σ2 vs = wipe σ vs) : SR W F H σ (wipeS st vs) S := by
  have hl : σ.length = σ2.length := by rw [← wipe_length σ vs, ← wipe_length σ2 vs, hw]
  refine h.unwipe hl fun i t e => ?_
  have hi : i ∉ vs := fun hi => by
    rw [wipeS_at st hi (by have := (List.getElem?_eq_some_iff.mp e).1; rwa [wipeS_len] at this)] at e
    cases e
  rw [← wipe_get (σ := σ) hi, ← wipe_get (σ := σ2) hi, hw]
theorem backS_other (st0 st : Sl) {v : Nat} : ∀ {us : List Nat}, v ∉ us → (backS st0 us st)[v]? = st[v]?
  | [], _ => rfl
  | u :: us, hu => by
    unfold backS
    split
    · rw [List.getElem?_set_ne fun z => hu (by rw [z]; exact List.mem_cons_self), backS_other st0 st fun z => hu (List.mem_cons_of_mem _ z)]
    · exact backS_other st0 st fun z => hu (List.mem_cons_of_mem _ z)
theorem SR.back {F0 H0 : Hp} {st0 : Sl} {S0 : AS} (h0 : SR W F0 H0 σ st0 S0) (le : Le F0 F) : ∀ {vs : List Nat} {st : Sl}, vs.Nodup → SR W F H σ st S → (∀ v ∈ vs, v < st.length → st[v]? = some none) → SR W F H σ (backS st0 vs st) S
  | [], _, _, h, _ => h
  | v :: vs, st, nd, h, hn => by
    have ih := h0.back le (List.nodup_cons.mp nd).2 h fun u hu => hn u (List.mem_cons_of_mem _ hu)
    unfold backS
    split
    · rename_i d e
      obtain ⟨x, S1, T, h1, h2, h3, h4, h5⟩ := h0.take e
      cases h2 with
      | frz h2 =>
        have hv : v < st.length := by rw [← h.len, h0.len]; exact (List.getElem?_eq_some_iff.mp e).1
        have := ih.put (i := v) h1 (by rw [backS_other st0 st (List.nodup_cons.mp nd).1]; exact hn v List.mem_cons_self hv) (.frz (le.dt h2)) (em_dj S)
        rw [em_un] at this
        exact this
    · exact ih
end
end Z

set_option maxHeartbeats 1000000
/-! Part 7: the rule of list comprehensions -/
namespace Z
open PySem PySem.Spec PyProof.Rows L2
variable [HK]

/-- a target that stores in these slots alone -/
def TgIn (vs : List Nat) (g : TG) : Prop := ∀ v σ H (Q : L2.St → Hp → Prop), g v σ H Q → g v σ H fun σ' H' => wipe σ' vs = wipe σ vs ∧ Q σ' H'
def TgsIn (vs : List Nat) (g : TGs) : Prop := ∀ v σ H (Q : L2.St → Hp → Prop), g v σ H Q → g v σ H fun σ' H' => wipe σ' vs = wipe σ vs ∧ Q σ' H'
theorem wipe_set {σ : L2.St} {i : Nat} {x : Option V} : ∀ {vs : List Nat}, i ∈ vs → wipe (σ.set i x) vs = wipe σ vs
  | v :: vs, h => by
    unfold wipe
    by_cases e : v = i
    · subst e
      by_cases hv : v ∈ vs
      · rw [wipe_set hv]
      · have key : ∀ {us : List Nat}, v ∉ us → wipe (σ.set v x) us = (wipe σ us).set v x := by
          intro us
          induction us with
          | nil => intro _; rfl
          | cons u us ih =>
            intro hu
            unfold wipe
            rw [ih fun z => hu (List.mem_cons_of_mem _ z), List.set_comm _ _ fun z => hu (by rw [z]; exact List.mem_cons_self)]
        rw [key hv, List.set_set]
    · rw [wipe_set ((List.mem_cons.mp h).resolve_left fun z => e z.symm)]
theorem wipe_idem (σ : L2.St) (vs : List Nat) : wipe (wipe σ vs) vs = wipe σ vs := by
  have key : ∀ {us ws : List Nat}, (∀ u ∈ us, u ∈ ws) → wipe (wipe σ us) ws = wipe σ ws := by
    intro us
    induction us with
    | nil => intro ws _; rfl
    | cons u us ih =>
      intro ws h
      show wipe ((wipe σ us).set u none) ws = _
      rw [wipe_set (h u List.mem_cons_self), ih fun x hx => h x (List.mem_cons_of_mem _ hx)]
  exact key fun _ h => h
theorem in_name {vs : List Nat} {i : Nat} (h : i ∈ vs) : TgIn vs (gName i) := fun v σ H Q q => ⟨wipe_set h, q⟩
theorem ins_nil {vs : List Nat} : TgsIn vs gNil := fun v σ H Q q => ⟨q.1, rfl, q.2⟩
/-- readings of targets are monotone in what is wanted -/
def TgMo (g : TG) : Prop := ∀ v σ H (Q Q' : L2.St → Hp → Prop), (∀ σ' H', Q σ' H' → Q' σ' H') → g v σ H Q → g v σ H Q'
def TgsMo (g : TGs) : Prop := ∀ v σ H (Q Q' : L2.St → Hp → Prop), (∀ σ' H', Q σ' H' → Q' σ' H') → g v σ H Q → g v σ H Q'
theorem mo_name {i : Nat} : TgMo (gName i) := fun v σ H Q Q' i q => i _ _ q
theorem mos_nil : TgsMo gNil := fun v σ H Q Q' i q => ⟨q.1, i _ _ q.2⟩
theorem mos_cons {g : TG} {gs : TGs} (h1 : TgMo g) (h2 : TgsMo gs) : TgsMo (gCons g gs) := fun v σ H Q Q' i q => by
  obtain ⟨x, r, e, q⟩ := q
  exact ⟨x, r, e, h1 _ _ _ _ _ (fun σ1 H1 q => h2 _ _ _ _ _ i q) q⟩
theorem mo_tup {K : PySem.W.Frag} {n : Nat} {gs : TGs} (h : TgsMo gs) : TgMo (gTup K n gs) := fun v σ H Q Q' i q => by
  obtain ⟨a, xs, e1, e2, e3, q⟩ := q
  exact ⟨a, xs, e1, e2, e3, h _ _ _ _ _ i q⟩
theorem ins_cons {vs : List Nat} {g : TG} {gs : TGs} (m1 : TgMo g) (m2 : TgsMo gs) (h1 : TgIn vs g) (h2 : TgsIn vs gs) : TgsIn vs (gCons g gs) := fun v σ H Q q => by
  obtain ⟨x, r, e, q⟩ := q
  refine ⟨x, r, e, m1 _ _ _ _ _ (fun σ1 H1 z => ?_) (h1 _ _ _ _ q)⟩
  obtain ⟨e1, q1⟩ := z
  exact m2 _ _ _ _ _ (fun σ2 H2 ⟨e2, q2⟩ => ⟨e2.trans e1, q2⟩) (h2 _ _ _ _ q1)
theorem in_tup {vs : List Nat} {K : PySem.W.Frag} {n : Nat} {gs : TGs} (h : TgsIn vs gs) : TgIn vs (gTup K n gs) := fun v σ H Q q => by
  obtain ⟨a, xs, e1, e2, e3, q⟩ := q
  exact ⟨a, xs, e1, e2, e3, h _ _ _ _ q⟩

/-- an own list grows -/
theorem rep_push {W : Wd} {F H : Hp} {D : Addr} {ts : List OT} {SD Sv : AS} {w : V} {t : OT} (h : Rep W F H (.ref D) (.nod .lst ts) SD) (r : Rep W F H w t Sv) (d : Dj SD Sv) :
    ∃ acc, H D = some (.lst acc) ∧ acc.length = ts.length ∧ SD D ∧ F D = none ∧ Rep W F (upd H D (.lst (acc ++ [w]))) (.ref D) (.nod .lst (ts ++ [t])) (Uu SD Sv) := by
  cases h with
  | @nod a kd o vs ts' S0 q1 q2 q3 q4 q5 =>
    have q3' : o = HO.lst vs := q3
    subst q3'
    refine ⟨vs, q1, q4.len, .inl rfl, q2, ?_⟩
    have ndv : ∀ {x}, Sv x → x ≠ D := fun {x} y z => d x (.inl z) y
    have ndS : ∀ {x}, S0 x → x ≠ D := fun {x} y z => q5 (by rw [← z]; exact y)
    have keep : ∀ {U : AS}, (∀ {x}, U x → x ≠ D) → ∀ x o, U x → H x = some o → upd H D (.lst (vs ++ [w])) x = some o := fun h x o u e => by rw [upd_ne (h u)]; exact e
    have r1' := rep_carry t w Sv r (.refl F) (keep ndv) fun x y => (rep_dom _ _ _ r x y).2
    have p4' := reps_carry ts vs S0 q4 (.refl F) (keep ndS) fun x y => (reps_dom _ _ _ q4 x y).2
    have key : ∀ {us : List V} {ts : List OT} {S0 : AS}, Reps W F (upd H D (.lst (vs ++ [w]))) us ts S0 → Dj S0 Sv → Reps W F (upd H D (.lst (vs ++ [w]))) (us ++ [w]) (ts ++ [t]) (Uu S0 Sv) := by
      intro us
      induction us with
      | nil =>
        intro ts S0 h d
        cases h
        have := Reps.cons r1' .nil (dj_em Sv)
        rw [un_em] at this
        rw [em_un]
        exact this
      | cons v us ih =>
        intro ts S0 h d
        cases h with
        | cons ha hb hd =>
          have := Reps.cons ha (ih hb fun x y z => d x (.inr y) z) fun x y z => z.elim (hd x y) fun z => d x (.inl y) z
          rw [← uu_assoc] at this
          exact this
    have e : Uu (Ad D S0) Sv = Ad D (Uu S0 Sv) := as_ext fun a => ⟨fun h => h.elim (fun h => h.elim .inl fun h => .inr (.inl h)) fun h => .inr (.inr h), fun h => h.elim (fun h => .inl (.inl h)) fun h => h.elim (fun h => .inl (.inr h)) .inr⟩
    rw [e]
    exact .nod upd_same q2 rfl (key p4' fun x y z => d x (.inr y) z) fun h => h.elim q5 fun h => ndv h rfl

section
variable {X : Cx} {E : XK} {IO : List Nat} {elt tg iter : Expr} {ifs : List Expr} {mi : Sl → R (List PyData)} {mc : Sl → R Bool} {me : Sl → R OT} {g : TG} {f : OT → Sl → Option Sl} {pos : Pos} {vs : List Nat}
theorem r_yes : PTs X [] (tT (wd X) E0 mYes) := by
  refine ⟨fun pins s σ H Q I h => pts_nil.run pins s σ H Q I ?_⟩
  obtain ⟨F, S, st, A⟩ := tt_of h
  exact A.fint
theorem lc_run (hm : TgMo g) (hin : TgIn vs g) (ht : TgOk (wd X) IO g f) (nd : vs.Nodup) {σ : L2.St} {H : Hp} {Q : VK} (q : tO (wd X) E (mLc vs mi f mc me) σ H Q) :
    tLc (tI (wd X) E mi) g (tT (wd X) E0 mc) (tO (wd X) E0 me) vs σ H Q := by
  obtain ⟨F, S, st, A⟩ := to_of q
  have g0 := A.g
  unfold mLc at g0
  refine ⟨F, st, S, A.sr, A.le, ?_⟩
  cases em : mi st with
  | err x st1 => rw [em] at g0; exact g0
  | no => rw [em] at g0; exact g0.elim
  | ok ds st0 =>
    rw [em] at g0
    simp only [R.bind_ok] at g0
    split at g0
    case isFalse => exact g0.elim
    rename_i hcond
    intro J F1 H1 S1 b1 s1 gi D hD
    have g1 := ck_o.sh b1 g0
    obtain ⟨T0, w0, u0⟩ := s1.drops vs
    have rep0 : Rep (wd X) F1 (upd H1 D (.lst [])) (.ref D) (.nod .lst []) (Ad D Em) := .nod upd_same (b1.fh.none hD) rfl .nil id
    have step0 : Step F1 H1 S1 F1 (upd H1 D (.lst [])) (Uu (Ad D Em) T0) := (Step.newO b1.fh hD).sub fun x y => y.elim (fun y => y.elim .inl False.elim) fun y => .inr (u0 x y)
    have nD : ∀ {x}, T0 x → x ≠ D := fun {x} y e => (w0.dom x y).1 (by rw [e]; exact hD)
    have w0' : SR (wd X) F1 (upd H1 D (.lst [])) σ (wipeS st0 vs) T0 := w0.carry (.refl F1) (fun a o y h => by rw [upd_ne (nD y)]; exact h) fun a y => (w0.dom a y).2
    refine ⟨fun i k H' => k = ds.length - i ∧ i ≤ ds.length ∧ ∃ F' st' S' ts SD, Le F1 F' ∧ SR (wd X) F' H' σ (wipeS st' vs) S' ∧ Rep (wd X) F' H' (.ref D) (.nod .lst ts) SD ∧ Dj SD S' ∧ ts.length ≤ i ∧ Step F1 H1 S1 F' H' (Uu SD S') ∧
      FinO (wd X) E σ Q F1 H1 S1 ((loopC vs f mc me (ds.drop i) ts st').bind fun ts st => .ok (.nod .lst ts) (backS st0 vs (wipeS st vs))),
      ⟨ds.length, by simp, Nat.zero_le _, F1, st0, T0, [], Ad D Em, .refl F1, w0', rep0, fun x y z => y.elim (fun y => nD z y) False.elim, Nat.le_refl _, step0, g1⟩, ?_⟩
    rintro i k H' ⟨rfl, hil, F', st', S', ts, SD, l1, s2, rD, dj, htl, stp, fin⟩
    obtain ⟨gi1, gi2, gi3⟩ := gi i F' H' l1 stp.fh
    by_cases hlt : i < ds.length
    · refine .inr ⟨gi1 hlt, fun H3 => i + 1 ≤ ds.length ∧ ∃ F' st' S' ts SD, Le F1 F' ∧ SR (wd X) F' H3 σ (wipeS st' vs) S' ∧ Rep (wd X) F' H3 (.ref D) (.nod .lst ts) SD ∧ Dj SD S' ∧ ts.length ≤ i + 1 ∧ Step F1 H1 S1 F' H3 (Uu SD S') ∧
          FinO (wd X) E σ Q F1 H1 S1 ((loopC vs f mc me (ds.drop (i + 1)) ts st').bind fun ts st => .ok (.nod .lst ts) (backS st0 vs (wipeS st vs))), fun H3 ⟨z1, z2⟩ => ⟨ds.length - (i + 1), by omega, rfl, z1, z2⟩, fun x H2 y => ?_⟩
      obtain ⟨F2, gr, dx⟩ := gi3 x H2 y ds[i] (by simp [hlt])
      rw [List.drop_eq_getElem_cons hlt] at fin
      simp only [loopC] at fin
      cases ef : f (.frz ds[i]) (wipeS st' vs) with
      | none => rw [ef] at fin; exact fin.elim
      | some st3 =>
        rw [ef] at fin
        simp only [lift_some, R.bind_ok] at fin
        have s2' : SR (wd X) F2 H2 (wipe σ vs) (wipeS st' vs) S' := (gr.sr s2).wiped fun v hv hl => wipeS_at st' hv (by rwa [wipeS_len] at hl)
        have rD2 : Rep (wd X) F2 H2 (.ref D) (.nod .lst ts) SD := (gr.step (S := S')).rep rD dj
        have stp2 : Step F1 H1 S1 F2 H2 (Uu SD S') := stp.trans (gr.step (S := Uu SD S'))
        have := ht gr.fh (.frz dx) s2' (em_dj S') ef (Q := fun σ3 H3 => H3 = H2 ∧ ∃ T3, SR (wd X) F2 H2 σ3 st3 T3 ∧ (∀ a, T3 a → S' a)) fun σ3 T3 p3 s3 u3 => ⟨rfl, T3, s3, fun a y => (u3 a y).elim False.elim id⟩
        refine hm _ _ _ _ _ (fun σ3 H3 z => ?_) (hin _ _ _ _ this)
        obtain ⟨ew, rfl, T3, s3, u3⟩ := z
        rw [wipe_idem] at ew
        refine ⟨ew, ?_⟩
        have dj3 : Dj SD T3 := fun a y z => dj a y (u3 a z)
        have stp3 : Step F1 H1 S1 F2 H3 (Uu SD T3) := stp2.sub fun a y => y.elim .inl fun y => .inr (u3 a y)
        refine ⟨F2, st3, T3, s3, gr.fh, ?_⟩
        cases ec : mc st3 with
        | err e st4 => rw [ec] at fin; exact fin.elim
        | no => rw [ec] at fin; exact fin.elim
        | ok b st4 =>
          rw [ec] at fin
          simp only [noE_ok, R.bind_ok] at fin
          intro F4 H4 S4 b4 s4
          have rD4 := b4.rep rD2 dj3
          have dj4 : Dj SD S4 := (b4.off (rep_dom _ _ _ rD2) dj3).2.2
          have stp4 : Step F1 H1 S1 F4 H4 (Uu SD S4) := stp3.trans b4.frame
          have l4 : Le F1 F4 := (l1.trans gr.ff).trans b4.ff
          cases b with
          | false =>
            rw [if_neg Bool.false_ne_true] at fin ⊢
            obtain ⟨T5, w5, u5⟩ := s4.drops vs
            exact ⟨hlt, F4, st4, T5, ts, SD, l4, w5.over ew, rD4, fun a y z => dj4 a y (u5 a z), by omega, stp4.sub fun a y => y.elim .inl fun y => .inr (u5 a y), fin⟩
          | true =>
            rw [if_pos rfl] at fin ⊢
            refine ⟨F4, st4, S4, s4, b4.fh, ?_⟩
            cases ee : me st4 with
            | err e st5 => rw [ee] at fin; exact fin.elim
            | no => rw [ee] at fin; exact fin.elim
            | ok t st5 =>
              rw [ee] at fin
              simp only [noE_ok, R.bind_ok] at fin
              intro w F5 H5 Sv S5 b5 s5 r5 d5
              have rD5 := b5.rep rD4 dj4
              have djA : Dj SD (Uu Sv S5) := (b5.off (rep_dom _ _ _ rD4) dj4).2.2
              obtain ⟨acc, hD5, hlen, hSD, hFD, rN⟩ := rep_push rD5 r5 fun a y z => djA a y (.inl z)
              refine ⟨acc, hD5, by rw [hlen]; exact Nat.lt_of_lt_of_le (Nat.lt_of_le_of_lt htl hlt) (hundred hcond.1), hlt, ?_⟩
              obtain ⟨T6, w6, u6⟩ := s5.drops vs
              have nT : ∀ {x}, T6 x → x ≠ D := fun {x} y e => djA x (by rw [e]; exact hSD) (.inr (u6 x y))
              have w6' : SR (wd X) F5 (upd H5 D (.lst (acc ++ [w]))) σ (wipeS st5 vs) T6 := (w6.over ew).carry (.refl F5) (fun a o y h => by rw [upd_ne (nT y)]; exact h) fun a y => (w6.dom a y).2
              have stp5 : Step F1 H1 S1 F5 H5 (Uu SD (Uu Sv S5)) := stp4.trans b5.frame
              refine ⟨F5, st5, T6, ts ++ [t], Uu SD Sv, l4.trans b5.ff, w6', rN, fun a y z => y.elim (fun y => djA a y (.inr (u6 a z))) fun y => d5 a y (u6 a z), by rw [List.length_append, List.length_singleton]; omega, ?_, fin⟩
              refine (stp5.trans (Step.mut (p := D) stp5.fh (.inl hSD) hFD)).sub fun a y => ?_
              rcases y with (y | y) | y
              · exact .inl y
              · exact .inr (.inl y)
              · exact .inr (.inr (u6 a y))
    · have e : i = ds.length := by omega
      subst e
      rw [List.drop_length] at fin
      refine .inl ⟨gi2 rfl, fin (.ref D) F' H' SD S' stp ?_ rD dj⟩
      exact s1.back l1 nd s2 fun v hv hl => wipeS_at st' hv (by rwa [wipeS_len] at hl)
theorem r_lc {scope : Scope} {own : List (Str × Nat)} (hc : X.calm = true) (hN : X.N.Nodup) (hi : PI X tg iter (tI (wd X) E mi)) (ok : BlkOk X.N X.env.scope scope own) (hm : TgMo g) (hin : TgIn (own.map (·.2)) g) (ht : TgOk (wd X) IO g f) (nd : (own.map (·.2)).Nodup)
    (hg : ∀ (s : Shared) (H : Hp) (C : Addr) (cl : List (Str × Addr)) (fp : List Addr), PG (X.blk s H scope (compEnvC scope cl C X.env) fp) tg g) (htt : ∀ (s : Shared) (H : Hp) (C : Addr) (cl : List (Str × Addr)) (fp : List Addr), PTs (X.blk s H scope (compEnvC scope cl C X.env) fp) ifs (tT (wd X) E0 mc))
    (he : ∀ (s : Shared) (H : Hp) (C : Addr) (cl : List (Str × Addr)) (fp : List Addr), PE (X.blk s H scope (compEnvC scope cl C X.env) fp) elt (tO (wd X) E0 me)) (hs : ∀ x, foldedSetIterable iter X.env x = pure x := by intro _; rfl) :
    PE X (.ListComp elt [⟨tg, iter, ifs, 0⟩] scope pos) (tO (wd X) E (mLc (own.map (·.2)) mi f mc me)) :=
  pe_imp (pe_lc hc hN hi ok hg htt he hs) fun _ _ _ q => lc_run hm hin ht nd q
/-- name = [..] on one line -/
theorem s_setLc {i : Nat} {y : Str} {py : Pos} {scope : Scope} {own : List (Str × Nat)} {spos : Pos} {fo : OT → OT} (hc : X.calm = true) (hN : X.N.Nodup) (hy : X.N[i]? = some y) (hyl : X.env.scope.names.lookup y = some .local) (hi1 : i ∉ IO)
    (hsw : swapsWith (.ListComp elt [⟨tg, iter, ifs, 0⟩] scope pos) (some (.Name y py)) spos.line X.env = pure true) (hi : PI X tg iter (tI (wd X) E mi)) (ok : BlkOk X.N X.env.scope scope own) (hm : TgMo g) (hin : TgIn (own.map (·.2)) g) (ht : TgOk (wd X) IO g f) (nd : (own.map (·.2)).Nodup)
    (hg : ∀ (s : Shared) (H : Hp) (C : Addr) (cl : List (Str × Addr)) (fp : List Addr), PG (X.blk s H scope (compEnvC scope cl C X.env) fp) tg g) (htt : ∀ (s : Shared) (H : Hp) (C : Addr) (cl : List (Str × Addr)) (fp : List Addr), PTs (X.blk s H scope (compEnvC scope cl C X.env) fp) ifs (tT (wd X) E0 mc))
    (he : ∀ (s : Shared) (H : Hp) (C : Addr) (cl : List (Str × Addr)) (fp : List Addr), PE (X.blk s H scope (compEnvC scope cl C X.env) fp) elt (tO (wd X) E0 me)) (hs : ∀ x, foldedSetIterable iter X.env x = pure x := by intro _; rfl) :
    PS X (.Assign [.Name y py] (.ListComp elt [⟨tg, iter, ifs, 0⟩] scope pos) spos) (tS (wd X) E IO (mAsg (mLc (own.map (·.2)) mi f mc me) (fNm i))) := by
  refine ps_imp (ps_setLc hc hN hy hyl hsw hi ok hg htt he hs) fun D σ H q => ?_
  obtain ⟨F, S, st, A⟩ := ts_of q
  refine lc_run hm hin ht nd (to_bind ck_s A fun v t F1 H1 Sv S1 st1 b1 r1 dj1 s1 g1 => ?_)
  cases ef : fNm i t st1 with
  | none => rw [ef] at g1; exact g1.elim
  | some st2 =>
    rw [ef] at g1
    exact tg_name i hi1 b1.fh r1 s1 dj1 ef fun σ' T' p s' u => g1 σ' F1 H1 T' p ((Step.refl b1.fh).sub u) s'
end
end Z

set_option maxHeartbeats 1000000
/-! Part 8: defs and their calls -/
namespace Z
open PySem PySem.Spec PyProof.Rows L2
variable [HK]

inductive FR where
  | ok (t : OT) (ios : List OT)
  | err (e : XC) (ios : List OT)
  | no
def pick (io : List Nat) (vs : List V) : List V := io.map fun i => vs.getD i .non
/-- what a def promises: F from the arguments' trees to the answer and what the lent arguments hold then -/
def spF (W : Wd) (n : Nat) (io : List Nat) (F : List OT → FR) : Sp := fun vs H Q E => vs.length = n ∧ ∃ Fz ts S, Reps W Fz H vs ts S ∧ Le Fz H ∧
  match F ts with
  | .ok t ios => ∀ v F' H' Sv Sio, Step Fz H S F' H' (Uu Sv Sio) → Rep W F' H' v t Sv → Reps W F' H' (pick io vs) ios Sio → Dj Sv Sio → Q v H'
  | .err e ios => ∀ c d F' H' Sio, Step Fz H S F' H' Sio → Reps W F' H' (pick io vs) ios Sio → XRep W e c d H' → E c d H'
  | .no => False
def getIO (st : Sl) : List Nat → Option (List OT)
  | [] => some []
  | i :: is => match st[i]?, getIO st is with
    | some (some t), some ts => some (t :: ts)
    | _, _ => none
def runDef (N : Nat) (io : List Nat) (m : Sl → R Out) (ts : List OT) : FR :=
  match m (ts.map some ++ List.replicate (N - ts.length) none) with
  | .ok .nx st => match getIO st io with
    | some ios => .ok (.frz .none) ios
    | none => .no
  | .ok (.ret t) st => match getIO st io with
    | some ios => .ok t ios
    | none => .no
  | .ok _ _ => .no
  | .err e st => match getIO st io with
    | some ios => .err e ios
    | none => .no
  | .no => .no
section
variable {W : Wd} {F H : Hp}
theorem sr_start : ∀ {vs : List V} {ts : List OT} {S : AS} (n : Nat), Reps W F H vs ts S → SR W F H (vs.map some ++ List.replicate n none) (ts.map some ++ List.replicate n none) S
  | _, _, _, n, .nil => by
    induction n with
    | zero => exact .nil
    | succ n ih => exact .non ih
  | _, _, _, n, .cons h1 h2 d => .som h1 (sr_start n h2) d
theorem getIO_set {st : Sl} {i : Nat} {o : Option OT} : ∀ {is : List Nat}, i ∉ is → getIO (st.set i o) is = getIO st is
  | [], _ => rfl
  | j :: js, h => by
    unfold getIO
    rw [List.getElem?_set_ne fun z => h (by rw [z]; exact List.mem_cons_self), getIO_set fun z => h (List.mem_cons_of_mem _ z)]
theorem sr_pick {σ : L2.St} {vs : List V} : ∀ {io : List Nat} {st : Sl} {S : AS} {ios : List OT}, SR W F H σ st S → io.Nodup → getIO st io = some ios → (∀ i ∈ io, i < vs.length ∧ σ[i]? = (vs.map some)[i]?) →
    ∃ Sio, Reps W F H (pick io vs) ios Sio ∧ ∀ a, Sio a → S a
  | [], st, S, ios, h, _, e, _ => by
    have : ios = [] := by simpa [getIO] using e.symm
    subst this
    exact ⟨Em, .nil, fun _ h => h.elim⟩
  | i :: is, st, S, ios, h, nd, e, hp => by
    obtain ⟨nd1, nd2⟩ := List.nodup_cons.mp nd
    unfold getIO at e
    split at e
    · rename_i t ts e1 e2
      cases e
      obtain ⟨v, S1, T, h1, h2, h3, h4, h5⟩ := h.take e1
      subst h5
      obtain ⟨Sio, k1, k2⟩ := sr_pick (io := is) h3 nd2 (by rw [getIO_set nd1]; exact e2) fun j hj => hp j (List.mem_cons_of_mem _ hj)
      obtain ⟨hl, hv⟩ := hp i List.mem_cons_self
      have ev : vs.getD i .non = v := by
        rw [h1, List.getElem?_map] at hv
        cases q : vs[i]? with
        | none => rw [q] at hv; cases hv
        | some u =>
          rw [q] at hv
          cases hv
          simp [List.getD, q]
      refine ⟨Uu S1 Sio, ?_, fun a x => x.elim .inl fun x => .inr (k2 a x)⟩
      show Reps W F H (vs.getD i .non :: pick is vs) (t :: ts) _
      rw [ev]
      exact .cons h2 k1 fun a x y => h4 a x (k2 a y)
    · cases e
end
section
variable {P : Program} {w : World} {K : PySem.W.Frag} {mg : Str → Option Value} {base : Heap}
theorem fn_ok {x qual : Str} {s : Stmt} {f : Addr} {fd : FuncData} {N ps : List Str} {k : Nat} {io : List Nat} {m : Sl → R Out} (F : Fun K x qual s f fd) (S : FnScope N ps (defScope s)) (nd : io.Nodup) (hio : ∀ i ∈ io, i < ps.length) (hN : ps.length ≤ N.length)
    (hb : ∀ (X : Cx) (E : XK), (∃ cdv A outer sh H, X = cxOf (L2.CX P w) P w K mg base N qual (defScope s) f cdv A outer sh H E) → Room k X.A → PSs X (defBody s) (tS ⟨K, mg⟩ E io m)) :
    FnOk P w K mg base (L2.CX P w) (k + 1) f fd ps (spF ⟨K, mg⟩ ps.length io (runDef N.length io m)) := by
  refine F.okX S (fun vs H Q E h => h.1) fun cdv A outer sh H vs Q E hr hsp => ⟨_, hb _ E ⟨cdv, A, outer, sh, H, rfl⟩ hr, ?_⟩
  obtain ⟨hl, Fz, ts, S0, rs, le, q⟩ := hsp
  have htl : ts.length = vs.length := rs.len.symm
  have sr := sr_start (N.length - vs.length) rs
  refine ⟨Fz, ts.map some ++ List.replicate (N.length - ts.length) none, S0, by rw [htl]; exact sr, le, ?_⟩
  unfold runDef at q
  have pk : ∀ {σ' : L2.St}, Pin io (L2.start N vs) σ' → ∀ i ∈ io, i < vs.length ∧ σ'[i]? = (vs.map some)[i]? := fun {σ'} p i hi => by
    have h1 := hio i hi
    refine ⟨by omega, ?_⟩
    rw [p i hi]
    unfold L2.start
    rw [List.getElem?_append_left (by simpa using (show i < vs.length by omega))]
  cases em : m (ts.map some ++ List.replicate (N.length - ts.length) none) with
  | no => rw [em] at q; exact q.elim
  | err e st =>
    rw [em] at q
    simp only at q
    cases eg : getIO st io with
    | none => rw [eg] at q; exact q.elim
    | some ios =>
      rw [eg] at q
      intro σ' p c d F' H' S' b s' x
      obtain ⟨Sio, k1, k2⟩ := sr_pick s' nd eg (pk p)
      exact q c d F' H' Sio (b.sub k2) k1 x
  | ok o st =>
    rw [em] at q
    cases o with
    | brk => exact q.elim
    | cnt => exact q.elim
    | nx =>
      simp only at q
      cases eg : getIO st io with
      | none => rw [eg] at q; exact q.elim
      | some ios =>
        rw [eg] at q
        intro σ' F' H' S' p b s'
        obtain ⟨Sio, k1, k2⟩ := sr_pick s' nd eg (pk p)
        refine q .non F' H' Em Sio ?_ (.frz .non) k1 (em_dj Sio)
        rw [em_un]
        exact b.sub k2
    | ret t =>
      simp only at q
      cases eg : getIO st io with
      | none => rw [eg] at q; exact q.elim
      | some ios =>
        rw [eg] at q
        intro v σ' F' H' Sv S' p b s' r dj
        obtain ⟨Sio, k1, k2⟩ := sr_pick s' nd eg (pk p)
        exact q v F' H' Sv Sio (b.sub fun a y => y.elim .inl fun y => .inr (k2 a y)) r k1 fun a y z => dj a y (k2 a z)
end

/-! ### calls -/
/-- f(args), none of them lent; ds: defaults -/
def mCall (F : List OT → FR) (ds : List PyData) (ml : Sl → R (List PyData)) : Sl → R OT := fun st => (ml st).bind fun xs st => match F ((xs ++ ds).map .frz) with
  | .ok t [] => .ok t st
  | .err e [] => .err e st
  | _ => .no
/-- f(x, args), x own in slot i is lent -/
def mCallL (F : List OT → FR) (i : Nat) (ds : List PyData) (ml : Sl → R (List PyData)) : Sl → R OT := fun st => match st[i]? with
  | some (some _) => (ml st).bind fun xs st => match st[i]? with
    | some (some t0) => match F (t0 :: (xs ++ ds).map .frz) with
      | .ok t [t1] => .ok t (st.set i (some t1))
      | .err e [t1] => .err e (st.set i (some t1))
      | _ => .no
    | _ => .no
  | _ => .no
/-- f(args, k = v) -/
def mCallK (F : List OT → FR) (gD : List PyData → List PyData → List PyData) (ml mk : Sl → R (List PyData)) : Sl → R OT := fun st => (ml st).bind fun xs st => (mk st).bind fun ys st => match F ((gD xs ys).map .frz) with
  | .ok t [] => .ok t st
  | .err e [] => .err e st
  | _ => .no
theorem reps_nil_inv {W : Wd} {F H : Hp} {vs : List V} {S : AS} (h : Reps W F H vs [] S) : vs = [] ∧ S = Em := by cases h; exact ⟨rfl, rfl⟩
theorem reps_one {W : Wd} {F H : Hp} {v : V} {t : OT} {S : AS} (h : Reps W F H [v] [t] S) : Rep W F H v t S := by
  cases h with
  | cons h1 h2 d =>
    cases h2
    rw [un_em]
    exact h1
section
variable {X : Cx} {E : XK} {e : Expr} {es : List Expr} {ml mk : Sl → R (List PyData)} {pos p : Pos} {k n : Nat} {f : Addr} {fd : FuncData} {ps : List Str} {x : Str} {Fn : List OT → FR} {io : List Nat} {dvs : List V} {ds : List Value} {dds : List PyData}
theorem call_end {σ : L2.St} {F H : Hp} {S : AS} {st : Sl} {Q : VK} {vs : List V} {xs : List PyData} (A : At (wd X) E σ (FinO (wd X) E σ Q) F H S st (match Fn (xs.map .frz) with
  | .ok t [] => .ok t st
  | .err e [] => .err e st
  | _ => .no)) (d : Dts F vs xs) (hl : vs.length = n) : spF (wd X) n [] Fn vs H Q E := by
  refine ⟨hl, F, xs.map .frz, Em, reps_frz d, A.le, ?_⟩
  have g := A.g
  cases eF : Fn (xs.map .frz) with
  | no => rw [eF] at g; exact g.elim
  | ok t ios =>
    rw [eF] at g
    intro v F' H' Sv Sio b r k1 dj
    cases ios with
    | cons _ _ => exact g.elim
    | nil =>
      obtain ⟨_, e2⟩ := reps_nil_inv k1
      subst e2
      rw [un_em] at b
      have o := b.off A.sr.dom (dj_em S)
      have bf := b.frame (T := S)
      rw [un_em] at bf
      refine g v F' H' Sv S (bf.sub fun a y => y.elim .inr .inl) (A.sr.step b (dj_em S)) r fun a y z => o.2.2 a z y
  | err ex ios =>
    rw [eF] at g
    intro c d F' H' Sio b k1 x
    cases ios with
    | cons _ _ => exact g.elim
    | nil =>
      obtain ⟨_, e2⟩ := reps_nil_inv k1
      subst e2
      have bf := b.frame (T := S)
      rw [un_em] at bf
      exact g c d F' H' S bf (A.sr.step b (dj_em S)) x
theorem r_call (Fo : FnOk X.prog X.w X.K X.mg X.base (L2.CX X.prog X.w) k f fd ps (spF (wd X) n [] Fn)) (hr : Room k X.A) (tk : Takes X fun c d _ H => E c d H) (hg : Gl X x) (hm : X.mg x = some (.ref f)) (hk : PySem.W.keepIn X.K (.ref f) = true) (hb : Binds X.K fd ps ds) (hd : Vals dvs ds)
    (hdd : ∀ F, Dts F dvs dds) (hn : ∀ vs xs F, Dts F vs xs → ∀ st st', ml st = .ok xs st' → vs.length + dvs.length = n) (ha : PA X (e :: es) (tA (wd X) E ml)) (hdb : (x == ("__debug__" : Str)) = false := by decide) (he : starEach (e :: es) X.env = (false, eval e X.env) :: starEach es X.env := by rfl)
    (hpl : (backTo pos (starEach es X.env)).any (·.1) = false := by rfl) : PE X (.Call (.Name x p) (e :: es) [] pos) (tO (wd X) E (mCall Fn dds ml)) := by
  refine pe_imp (pe_call Fo hr hg hm hk hb hd (passes_call tk fun _ _ _ _ h => h) ha hdb he hpl) fun σ H Q q => ?_
  obtain ⟨F, S, st, A⟩ := to_of q
  have A' := A
  refine ⟨F, st, S, A.sr, A.le, ?_⟩
  have g := A.g
  unfold mCall at g
  cases em : ml st with
  | no => rw [em] at g; exact g.elim
  | err ex st1 => rw [em] at g; exact g
  | ok xs st1 =>
    rw [em] at g
    intro vs F1 H1 S1 b s d
    exact call_end ⟨s, b.fh, ck_o.sh b g⟩ (d.app (hdd F1)) (by rw [List.length_append]; exact hn vs xs F1 d st st1 em)
theorem r_callK {ks : List Str} {kws : List Keyword} {gg : List Value → List Value → List Value} {gV : List V → List V → List V} {gD : List PyData → List PyData → List PyData} (Fo : FnOk X.prog X.w X.K X.mg X.base (L2.CX X.prog X.w) k f fd ps (spF (wd X) n [] Fn)) (hr : Room k X.A) (tk : Takes X fun c d _ H => E c d H)
    (hg : Gl X x) (hm : X.mg x = some (.ref f)) (hk : PySem.W.keepIn X.K (.ref f) = true) (hb : KBinds X.K fd ps ks gg gV) (hgD : ∀ F vs xs ws ys, Dts F vs xs → Dts F ws ys → Dts F (gV vs ws) (gD xs ys))
    (hn : ∀ vs xs ws ys F, Dts F vs xs → Dts F ws ys → (∃ st st', ml st = .ok xs st') → (∃ st st', mk st = .ok ys st') → (gV vs ws).length = n) (ha : PA X (e :: es) (tA (wd X) E ml)) (hkw : PK X kws (tA (wd X) E mk))
    (hall : (backToKw pos (keywordEach kws X.env)).all (·.1.isSome) = true := by rfl) (hks : (backToKw pos (keywordEach kws X.env)).filterMap (·.1) = ks := by rfl)
    (hdb : (x == ("__debug__" : Str)) = false := by decide) (he : starEach (e :: es) X.env = (false, eval e X.env) :: starEach es X.env := by rfl)
    (hpl : ((backTo pos (starEach (e :: es) X.env)).any (·.1) || (backToKw pos (keywordEach kws X.env)).any (·.1.isNone)) = false := by rfl) :
    PE X (.Call (.Name x p) (e :: es) kws pos) (tO (wd X) E (mCallK Fn gD ml mk)) := by
  refine pe_imp (pe_callK Fo hr hg hm hk hb (passes_call tk fun _ _ _ _ h => h) ha hkw hall hks hdb he hpl) fun σ H Q q => ?_
  obtain ⟨F, S, st, A⟩ := to_of q
  refine ⟨F, st, S, A.sr, A.le, ?_⟩
  have g := A.g
  unfold mCallK at g
  cases em : ml st with
  | no => rw [em] at g; exact g.elim
  | err ex st1 => rw [em] at g; exact g
  | ok xs st1 =>
    rw [em] at g
    intro vs F1 H1 S1 b s d
    have g1 := ck_o.sh b g
    refine ⟨F1, st1, S1, s, b.fh, ?_⟩
    simp only [R.bind_ok] at g1
    cases ek : mk st1 with
    | no => rw [ek] at g1; exact g1.elim
    | err ex st2 => rw [ek] at g1; exact g1
    | ok ys st2 =>
      rw [ek] at g1
      intro ws F2 H2 S2 b2 s2 d2
      exact call_end ⟨s2, b2.fh, ck_o.sh b2 g1⟩ (hgD F2 _ _ _ _ (b2.ff.dts d) d2) (hn vs xs ws ys F2 (b2.ff.dts d) d2 ⟨st, st1, em⟩ ⟨st1, st2, ek⟩)
theorem k_nil : PK X [] (tA (wd X) E mNil) := by
  refine ⟨fun pos pins s σ H Q I h => pk_nil.run pos pins s σ H Q I ?_⟩
  obtain ⟨F, S, st, A⟩ := ta_of h
  exact A.g [] F H S (.refl A.le) A.sr .nil
theorem k_cons {nm : Option Str} {kpos : Pos} {kws : List Keyword} {m : Sl → R PyData} (ha : PE X e (tV (wd X) E m)) (hr : PK X kws (tA (wd X) E ml)) : PK X (⟨nm, e, kpos⟩ :: kws) (tA (wd X) E (mCons m ml)) := by
  refine ⟨fun pos pins s σ H Q I h => (pk_cons ha hr).run pos pins s σ H Q I ?_⟩
  obtain ⟨F, S, st, A⟩ := ta_of h
  refine tv_bind ck_a A fun v x F1 H1 S1 st1 b1 d1 A1 => ta_bind ck_a A1 fun vs xs F2 H2 S2 st2 b2 d2 A2 => ?_
  exact A2.g (v :: vs) F2 H2 S2 (.refl A2.le) A2.sr (.cons (b2.ff.dt d1) d2)
/-- the first argument lent -/
theorem r_callL (i : Nat) {y : Str} {py : Pos} (Fo : FnOk X.prog X.w X.K X.mg X.base (L2.CX X.prog X.w) k f fd ps (spF (wd X) n [0] Fn)) (hr : Room k X.A) (tk : Takes X fun c d _ H => E c d H) (hg : Gl X x) (hm : X.mg x = some (.ref f)) (hk : PySem.W.keepIn X.K (.ref f) = true) (hb : Binds X.K fd ps ds) (hd : Vals dvs ds)
    (hdd : ∀ F, Dts F dvs dds) (hn : ∀ vs xs F, Dts F vs xs → ∀ st st', ml st = .ok xs st' → vs.length + dvs.length + 1 = n) (ha : PA X es (tA (wd X) E ml)) (hNi : X.N[i]? = some y := by rfl)
    (hv : Vis X.env.scope y := by first | exact Or.inl rfl | exact Or.inr (Or.inl rfl) | exact Or.inr (Or.inr rfl)) (hdy : (y == ("__debug__" : Str)) = false := by decide) (hcd : (y == ("__classdict__" : Str)) = false := by decide)
    (hdb : (x == ("__debug__" : Str)) = false := by decide) (hsn : starEach (.Name y py :: es) X.env = (false, eval (.Name y py) X.env) :: starEach es X.env := by rfl)
    (hpl : (backTo pos (starEach es X.env)).any (·.1) = false := by rfl) : PE X (.Call (.Name x p) (.Name y py :: es) [] pos) (tO (wd X) E (mCallL Fn i dds ml)) := by
  refine pe_imp (pe_call Fo hr hg hm hk hb hd (passes_call tk fun _ _ _ _ h => h) (pa_cons (pe_var hNi hv hdy hcd) ha hsn) hdb hsn hpl) fun σ H Q q => ?_
  obtain ⟨F, S, st, A⟩ := to_of q
  have g := A.g
  unfold mCallL at g
  split at g
  · rename_i t00 e00
    obtain ⟨v0, _, _, hv0, _⟩ := A.sr.take e00
    refine ⟨v0, hv0, F, st, S, A.sr, A.le, ?_⟩
    cases em : ml st with
    | no => rw [em] at g; exact g.elim
    | err ex st1 => rw [em] at g; exact g
    | ok xs st1 =>
      rw [em] at g
      intro vs F1 H1 S1 b s d
      have g1 := ck_o.sh b g
      simp only [R.bind_ok] at g1
      split at g1
      · rename_i t0 e0
        obtain ⟨v0', Si, T, h1, h2, h3, h4, h5⟩ := s.take e0
        rw [hv0] at h1
        cases h1
        subst h5
        have hvn : (st1.set i none)[i]? = some none := by simp [(List.getElem?_eq_some_iff.mp e0).1]
        have d1 := d.app (hdd F1)
        have rs : Reps (wd X) F1 H1 (v0 :: (vs ++ dvs)) (t0 :: (xs ++ dds).map .frz) Si := by
          have := Reps.cons h2 (reps_frz (W := wd X) (H := H1) d1) (dj_em Si)
          rw [un_em] at this
          exact this
        refine ⟨?_, F1, t0 :: (xs ++ dds).map .frz, Si, rs, b.fh, ?_⟩
        · show (v0 :: (vs ++ dvs)).length = n
          rw [List.length_cons, List.length_append]
          exact hn vs xs F1 d st st1 em
        · have doT := h3.dom
          cases eF : Fn (t0 :: (xs ++ dds).map .frz) with
          | no => rw [eF] at g1; exact g1.elim
          | ok t ios =>
            rw [eF] at g1
            intro v F' H' Sv Sio b2 r k1 dj
            match ios, k1, g1 with
            | [], _, g1 => exact g1.elim
            | _ :: _ :: _, _, g1 => exact g1.elim
            | [t1], k1, g1 =>
              have o := b2.off doT h4.symm
              have sT := h3.step b2 h4.symm
              have r1 := reps_one k1
              have s2 := sT.put (i := i) hv0 hvn r1 fun a y z => o.2.2 a z (.inr y)
              rw [List.set_set] at s2
              have bf := b2.frame (T := T)
              have e : Uu T Si = Uu Si T := as_ext fun a => ⟨fun h => h.elim .inr .inl, fun h => h.elim .inr .inl⟩
              rw [e] at bf
              refine g1 v F' H' Sv (Uu Sio T) (bf.sub fun a y => ?_) s2 r fun a y z => z.elim (dj a y) fun z => o.2.2 a z (.inl y)
              rcases y with y | y | y
              · exact .inr (.inl y)
              · exact .inr (.inr y)
              · exact .inl y
          | err ex ios =>
            rw [eF] at g1
            intro c dd F' H' Sio b2 k1 x
            match ios, k1, g1 with
            | [], _, g1 => exact g1.elim
            | _ :: _ :: _, _, g1 => exact g1.elim
            | [t1], k1, g1 =>
              have o := b2.off doT h4.symm
              have sT := h3.step b2 h4.symm
              have r1 := reps_one k1
              have s2 := sT.put (i := i) hv0 hvn r1 fun a y z => o.2.2 a z y
              rw [List.set_set] at s2
              have bf := b2.frame (T := T)
              have e : Uu T Si = Uu Si T := as_ext fun a => ⟨fun h => h.elim .inr .inl, fun h => h.elim .inr .inl⟩
              rw [e] at bf
              exact g1 c dd F' H' (Uu Sio T) (bf.sub fun a y => y.elim .inr .inl) s2 x
      · exact g1.elim
  · exact g.elim
end
end Z

set_option maxHeartbeats 2000000
/-! Part 9: enumerate and zip over lists and tuples -/
namespace Z
open PySem PySem.Spec PyProof.Rows L2
variable [HK]

section
open AutoSeq1 (wpAny_loadPart')
theorem meets_enumerate_newT (l : Addr) (items : Array Value) (hT : ∀ h : Heap, h.IsTuple l items → True) :
    Meets (Builtin.«enumerate.__new__» ⟨[.type "enumerate", .ref l], []⟩) (fun _ R s => s.heap.IsTuple l items ∧
      R (.ok (.ret (.ref (s.heap.push { cls := .type "tuple_iterator", data := .fields #[.ref l, .int 0 0] }).objs.size)))
        { s with heap := (s.heap.push { cls := .type "tuple_iterator", data := .fields #[.ref l, .int 0 0] }).push { cls := .type "enumerate", data := .fields #[.none, .bool false, .ref s.heap.objs.size, rawInt 0, .none, .none] } }) :=
  .of_wp fun prog w A R s h => by
    obtain ⟨hp, g, d, tk, os⟩ := s; obtain ⟨hL, h⟩ := h
    have hsub := sub_enumerate
    have hL : Heap.IsTuple (Shared.heap ⟨hp, g, d, tk, os⟩) l items := hL
    obtain ⟨⟨c, dct, dt, sl⟩, hl, hc, n, hd⟩ := id hL
    replace hc : c = .type "tuple" := hc
    replace hd : dt = .seq items n := hd
    subst hc hd
    wp_walk using wpAny_loadPart' hl
    refine wpAny_stack_any fun st => wpAny_pure ?_
    split
    · rename_i c _ _ _ _ _
      cases (c == Value.type "enumerate")
      · wp_walk using wpAny_loadPart' hl, wpAny_pyIter_tuple hL
        exact ⟨_, rfl, h⟩
      · wp_walk using wpAny_loadPart' hl, wpAny_pyIter_tuple hL
        exact ⟨_, rfl, h⟩
    · wp_walk using wpAny_loadPart' hl, wpAny_pyIter_tuple hL
      exact ⟨_, rfl, h⟩
theorem call_enumerate_tuple {prog : Program} {w : World} {A : Around} {E : Value → Shared → Prop} {s : Shared} {l : Addr} {items : Array Value} {Q : Value → Shared → Prop} (hL : s.heap.IsTuple l items)
    (h : ∀ h', IsEnum h' (s.heap.objs.size + 1) s.heap.objs.size 0 .none → h'.IsTupleIter s.heap.objs.size l 0 → h'.objs.size = s.heap.objs.size + 2 →
      (∀ b o, s.heap.get? b = some o → h'.get? b = some o) → Q (.ref (s.heap.objs.size + 1)) { s with heap := h' }) :
    wpAny (model prog w) A (call (.type "enumerate") [.ref l]) Q E s := by
  refine callType_new F.called_enumerate (by decide) (F.typeCall_enumerate_1 _) (F.newCall_enumerate_1 _) (fun obj => F.args_object_init_2 obj _) F.entry_enumerate_new
    (meets_enumerate_newT l items fun _ _ => trivial) ⟨hL, ?_⟩
  have hz : (s.heap.push { cls := .type "tuple_iterator", data := .fields #[.ref l, .int 0 0] }).objs.size = s.heap.objs.size + 1 := Heap.size_push ..
  show _ ∧ _
  rw [hz]
  have he : IsEnum ((s.heap.push { cls := .type "tuple_iterator", data := .fields #[.ref l, .int 0 0] }).push
      { cls := .type "enumerate", data := .fields #[.none, .bool false, .ref s.heap.objs.size, rawInt 0, .none, .none] }) (s.heap.objs.size + 1) s.heap.objs.size 0 .none := by
    have := Heap.get?_push_size (s.heap.push { cls := .type "tuple_iterator", data := .fields #[.ref l, .int 0 0] })
      (o := { cls := .type "enumerate", data := .fields #[.none, .bool false, .ref s.heap.objs.size, rawInt 0, .none, .none] }) rfl
    rw [hz] at this; exact this
  refine ⟨⟨_, he, rfl⟩, h _ he ⟨_, Heap.get?_push_of_some _ (Heap.get?_push_size _ rfl), rfl, rfl⟩ (by rw [Heap.size_push, hz]) fun b o x => Heap.get?_push_of_some _ (Heap.get?_push_of_some _ x)⟩
end

/-- k: a tuple, else a list -/
def SqK (k : Bool) (K : PySem.W.Frag) (H : Hp) (a : Addr) (xs : List V) : Prop :=
  match k with
  | true => SqT K H a xs
  | false => SqL K H a xs
def ItK (k : Bool) (h : Heap) (it a : Addr) (i : Nat) : Prop :=
  match k with
  | true => h.IsTupleIter it a i
  | false => h.IsListIter it a i
theorem ItK.get {k : Bool} {h : Heap} {it a : Addr} {i : Nat} (x : ItK k h it a i) : ∃ o, h.get? it = some o ∧ ∀ v, o.data ≠ .cell v := by
  cases k with
  | true => obtain ⟨o, e, _, d⟩ := x; exact ⟨o, e, fun v q => by rw [d] at q; cases q⟩
  | false => obtain ⟨o, e, _, d⟩ := x; exact ⟨o, e, fun v q => by rw [d] at q; cases q⟩
theorem ItK.at {k : Bool} {h h' : Heap} {it a : Addr} {i : Nat} (x : ItK k h it a i) (f : ∀ o, h.get? it = some o → h'.get? it = some o) : ItK k h' it a i := by
  cases k with
  | true => exact Heap.IsTupleIter.at x f
  | false => exact Heap.IsListIter.at x f
section
variable {X : Cx} {pins : List (Addr × Obj)} {σ : L2.St} {H : Hp} {s : Shared} {a : Addr} {xs ys : List V}
theorem sqk_inj {k : Bool} (I : Inv X pins σ H s) (h : SqK k X.K H a xs) (h' : SqK k X.K H a ys) : xs = ys := by
  cases k with
  | true => exact I.tuple_inj h h'
  | false => exact I.list_inj h h'
theorem sqk_it {k : Bool} (I : Inv X pins σ H s) (h : SqK k X.K H a xs) : ∃ its : List Value, Vals xs its ∧ (a < s.heap.objs.size) ∧ ∀ (A : Around), A.handled = none → ∀ it, a ≠ it → ∃ St : Nat → Heap → Prop, Draws X.prog X.w A.in1 it [it, a] its.length (fun i v => its[i]? = some v) St ∧
    (∀ i, ItK k s.heap it a i → St i s.heap) ∧ ∀ i h', St i h' → ItK k h' it a i := by
  cases k with
  | true =>
    obtain ⟨its, rv, p, _⟩ := I.tuple h
    refine ⟨its, rv, p.lt, fun A hh it hne => ⟨fun i h => h.IsTupleIter it a i ∧ h.IsTuple a its.toArray, ?_, fun i z => ⟨z, p⟩, fun i h' z => z.1⟩⟩
    have := Draws.tuple (prog := X.prog) (w := X.w) (A := A.in1) hh it a hne its.toArray
    simpa using this
  | false =>
    obtain ⟨its, rv, p, _⟩ := I.list h
    refine ⟨its, rv, (PySem.Heap.lt_size p.isList.choose_spec.1), fun A hh it hne => ⟨fun i h => h.IsListIter it a i ∧ h.IsList a its.toArray, ?_, fun i z => ⟨z, p.isList⟩, fun i h' z => z.1⟩⟩
    have := Draws.list (prog := X.prog) (w := X.w) (A := A.in1) hh it a hne its.toArray
    simpa using this
end
def IteK (k : Bool) (K : PySem.W.Frag) (a : Addr) : It :=
  ⟨fun i H => ∃ (xs : List V) (x : V), SqK k K H a xs ∧ xs[i]? = some x, fun i H v H' => ∃ T x, v = .ref T ∧ H T = none ∧ H' = upd H T (.tup [.int (i : Nat), x]) ∧ ∀ xs, SqK k K H a xs → xs[i]? = some x, fun i H => ∃ xs : List V, SqK k K H a xs ∧ xs.length = i⟩
theorem turn_enumK {P : Program} {w : World} {K : PySem.W.Frag} {elts : List Expr} {kk : Nat} {tpos : Pos} (k : Bool) (a e it : Addr) :
    Turn P w K (.Tuple elts kk tpos) (IteK k K a) [e, it] e (fun i h => (∃ old, IsEnum h e it ((i : Nat) : Int) old) ∧ ItK k h it a i ∧ e ≠ it ∧ a ≠ it ∧ a ≠ e) where
  mem := by simp
  obj := fun i h st b hb => by
    obtain ⟨⟨old, he⟩, hi, _⟩ := st
    have e' : b = e ∨ b = it := by simpa using hb
    rcases e' with z | z
    · rw [z]; exact ⟨_, he, fun v q => nomatch q⟩
    · rw [z]; exact hi.get
  keep := fun i h h' st k => let ⟨⟨old, he⟩, hi, hne⟩ := st; ⟨⟨old, k e (by simp) _ he⟩, hi.at fun o q => k it (by simp) o q, hne⟩
  item := by
    intro X hP hw hK hc i pins s σ H E I hf st hg
    subst hP hw hK
    obtain ⟨⟨old, he⟩, hit, hne, hai, hae⟩ := st
    obtain ⟨xs, x, hq, hx⟩ := hg
    obtain ⟨its, rv, hal, dr⟩ := sqk_it I hq
    obtain ⟨St, D, st0, st1⟩ := dr X.A (I.ok.hd hc) it hai
    obtain ⟨u, hu, ru⟩ := rv.get hx
    have hlt : i < its.length := (List.getElem?_eq_some_iff.mp hu).1
    have hel : e < s.heap.objs.size := Heap.lt_size he
    have hil : it < s.heap.objs.size := by obtain ⟨_, q, _⟩ := hit.get; exact Heap.lt_size q
    refine wpAny_pyNext_enum_itemD D he (st0 i hit) hlt hne (by simp only [List.mem_cons, List.not_mem_nil, or_false, not_or]; exact ⟨hne, fun z => hae z.symm⟩) fun u' h' tk hu' ho hst' hT hsz hk => ?_
    have eu : u' = u := by
      have hu'' : its[i]? = some u' := hu'
      rw [hu] at hu''
      exact (Option.some.inj hu'').symm
    subst eu
    have hit' := st1 (i + 1) h' hst'
    refine ⟨_, rfl, wpAny_letOwnedTupleGo_enum (s := { s with heap := h', toks := tk + 1 }) ho fun h'' he' sb => ?_⟩
    have hT2 : h''.get? s.heap.objs.size = some { cls := .type "tuple", data := .seq #[.int i tk, u'] } := (sb.2 _ (Nat.ne_of_gt hel)).trans hT
    have new : ObjOk X.prog X.w (upd H s.heap.objs.size (.tup [.int (i : Nat), x])) h'' s.heap.objs.size (.tup [.int (i : Nat), x]) :=
      ⟨by show 2 ≤ sizeLine; decide, [.int i tk, u'], .cons ⟨_, rfl⟩ (.cons ru .nil), ⟨_, hT2, rfl, _, rfl⟩⟩
    have I1 : Inv X pins σ (upd H s.heap.objs.size (.tup [.int (i : Nat), x])) { s with heap := h'', toks := tk + 1 } :=
      I.turnedNew (ch := [e, it]) (fun b ob hb q => (sb.2 b (fun z => hb (by simp [z]))).trans (hk b ob (fun z => hb (by simp [z])) (fun z => hb (by simp [z])) q)) hf (Nat.le_refl _) new
    refine ⟨.ref s.heap.objs.size, _, I1, rfl, ⟨_, x, rfl, I.hok.fresh (Nat.le_refl _), rfl, fun ys hy => by rw [sqk_inj I hy hq]; exact hx⟩, ⟨⟨u', ?_⟩, hit'.at fun o q => (sb.2 it (Ne.symm hne)).trans q, hne, hai, hae⟩, fun b hb => ?_⟩
    · have e1 : ((i + 1 : Nat) : Int) = (i : Int) + 1 := by omega
      rw [e1]; exact he'
    · have hb' : b < s.heap.objs.size := by
        have e' : b = e ∨ b = it := by simpa using hb
        rcases e' with z | z
        · rw [z]; exact hel
        · rw [z]; exact hil
      rw [upd_ne (Nat.ne_of_lt hb')]
      exact (hf b hb).1
  done := by
    intro X hP hw hK hc i pins s σ H E I hf st hg
    subst hP hw hK
    obtain ⟨⟨old, he⟩, hit, hne, hai, hae⟩ := st
    obtain ⟨xs, hq, hx⟩ := hg
    obtain ⟨its, rv, hal, dr⟩ := sqk_it I hq
    obtain ⟨St, D, st0, st1⟩ := dr X.A (I.ok.hd hc) it hai
    obtain ⟨f0, f1, f2, f3, f4, f5⟩ := hf it (by simp)
    have hl : its.length = i := by rw [← rv.length]; exact hx
    refine wpAny_pyNext_enum_endD D he (by rw [hl]; exact st0 i hit) fun h' eb => ⟨rfl, I.turned (t' := s.toks) (fun b o hb q => eb b o hb q) f0 f1 f3 f4 f5⟩
  self := fun A i s Q E st h => let ⟨⟨_, he⟩, _⟩ := st; wpAny_pyIter_enum he h

/-- enumerate(list or tuple) -/
def iEnumK (k : Bool) (K : PySem.W.Frag) (ta : TA) : TI := fun σ H R => ta σ H fun vs H1 => ∃ a xs, vs = [.ref a] ∧ SqK k K H1 a xs ∧ R (IteK k K a) H1
theorem pi_enumK {X : Cx} {e : Expr} {ta : TA} {p pos tpos : Pos} {elts : List Expr} {kk : Nat} (k : Bool) (hg : Gl X "enumerate") (hm : X.mg "enumerate" = none) (ha : PA X [e] ta) (hs : starEach [e] X.env = [(false, eval e X.env)] := by rfl) :
    PI X (.Tuple elts kk tpos) (.Call (.Name "enumerate" p) [e] [] pos) (iEnumK k X.K ta) := by
  refine ⟨fun pins s σ H R I h => ?_⟩
  refine Call_ (ld_blt I hg hm boot_enumerate (PyProof.Rows.callWith_type1 (thn (ha.run pos pins s σ H _ I h) fun us s1 ⟨vs, H1, I1, r1, q1⟩ => ?_) hs rfl))
  obtain ⟨a, xs, ex, hq, q⟩ := q1
  subst ex
  cases r1 with
  | cons r rr =>
    cases rr
    cases r
    have fin : ∀ h', IsEnum h' (s1.heap.objs.size + 1) s1.heap.objs.size 0 .none → ItK k h' s1.heap.objs.size a 0 → a < s1.heap.objs.size → (∀ b o, s1.heap.get? b = some o → h'.get? b = some o) →
        PIE X pins σ (.Tuple elts kk tpos) R (.ref (s1.heap.objs.size + 1)) { s1 with heap := h' } := fun h' he hit hal hk => by
      have I2 : Inv X pins σ H1 { s1 with heap := h' } := I1.kept (t' := s1.toks) hk
      refine ⟨s1.heap.objs.size + 1, [s1.heap.objs.size + 1, s1.heap.objs.size], _, _, H1, rfl, I2, turn_enumK k a (s1.heap.objs.size + 1) s1.heap.objs.size, ⟨⟨.none, he⟩, hit, Nat.succ_ne_self _, Nat.ne_of_lt hal, Nat.ne_of_lt (Nat.lt_succ_of_lt hal)⟩, fun b hb => ?_, q⟩
      have e' : b = s1.heap.objs.size + 1 ∨ b = s1.heap.objs.size := by simpa using hb
      have hle : s1.heap.objs.size ≤ b := by
        rcases e' with z | z
        · rw [z]; exact Nat.le_add_right _ _
        · rw [z]; exact Nat.le_refl _
      exact I1.fpOk hle (I1.hok.fresh hle)
    cases k with
    | false =>
      obtain ⟨its, rv, p', hz⟩ := I1.list hq
      exact call_enumerate_list p'.isList fun h' he hit hsz hk => wpAny_pyIter_enum he (fin h' he hit (PySem.Heap.lt_size p'.isList.choose_spec.1) hk)
    | true =>
      obtain ⟨its, rv, p', hz⟩ := I1.tuple hq
      exact call_enumerate_tuple p' fun h' he hit hsz hk => wpAny_pyIter_enum he (fin h' he hit p'.lt hk)

/-! ### zip -/
def ItzK (k j : Bool) (K : PySem.W.Frag) (a b : Addr) : It :=
  ⟨fun i H => ∃ (xs ys : List V) (x y : V), SqK k K H a xs ∧ SqK j K H b ys ∧ xs[i]? = some x ∧ ys[i]? = some y,
    fun i H v H' => ∃ T x y, v = .ref T ∧ H T = none ∧ H' = upd H T (.tup [x, y]) ∧ (∀ xs, SqK k K H a xs → xs[i]? = some x) ∧ ∀ ys, SqK j K H b ys → ys[i]? = some y,
    fun i H => ∃ xs ys : List V, SqK k K H a xs ∧ SqK j K H b ys ∧ i ≤ xs.length ∧ i ≤ ys.length ∧ (i = xs.length ∨ i = ys.length)⟩
structure Apart (z TI TO i1 i2 a b : Addr) : Prop where
  s : ZipSep2 z TI TO i1 i2 [i1, a] [i2, b]
  a1 : a ≠ i1
  b2 : b ≠ i2
theorem turn_zipK {P : Program} {w : World} {K : PySem.W.Frag} {elts : List Expr} {kk : Nat} {tpos : Pos} (k j : Bool) {a b z TI TO i1 i2 : Addr} (D : Apart z TI TO i1 i2 a b) :
    Turn P w K (.Tuple elts kk tpos) (ItzK k j K a b) [z, TI, TO, i1, i2] z (fun i h => IsZip h z TI TO .none ∧ IsTupOf2 h TI (.ref i1) (.ref i2) ∧ (∃ x y, IsTupOf2 h TO x y) ∧ ItK k h i1 a i ∧ ItK j h i2 b i) where
  mem := by simp
  obj := fun i h st c hc => by
    obtain ⟨hz, hTI, ⟨x, y, hTO⟩, h1, h2⟩ := st
    have e' : c = z ∨ c = TI ∨ c = TO ∨ c = i1 ∨ c = i2 := by simpa using hc
    rcases e' with q | q | q | q | q
    · rw [q]; exact ⟨_, hz, fun v q => nomatch q⟩
    · rw [q]; exact ⟨_, hTI, fun v q => nomatch q⟩
    · rw [q]; exact ⟨_, hTO, fun v q => nomatch q⟩
    · rw [q]; exact h1.get
    · rw [q]; exact h2.get
  keep := fun i h h' st k => by
    obtain ⟨hz, hTI, ⟨x, y, hTO⟩, h1, h2⟩ := st
    exact ⟨k z (by simp) _ hz, k TI (by simp) _ hTI, ⟨x, y, k TO (by simp) _ hTO⟩, h1.at fun o q => k i1 (by simp) o q, h2.at fun o q => k i2 (by simp) o q⟩
  item := by
    intro X hP hw hK hc i pins s σ H E I hf st hg
    subst hP hw hK
    obtain ⟨hz, hTI, ⟨x0, y0, hTO⟩, h1, h2⟩ := st
    obtain ⟨xs, ys, x, y, hqx, hqy, hx, hy⟩ := hg
    obtain ⟨its, rv, hal, dr⟩ := sqk_it I hqx
    obtain ⟨its2, rv2, hal2, dr2⟩ := sqk_it I hqy
    obtain ⟨St1, D1, sa1, sb1⟩ := dr X.A (I.ok.hd hc) i1 D.a1
    obtain ⟨St2, D2, sa2, sb2⟩ := dr2 X.A (I.ok.hd hc) i2 D.b2
    obtain ⟨u, hu, ru⟩ := rv.get hx
    obtain ⟨u2, hu2, ru2⟩ := rv2.get hy
    have hzl : z < s.heap.objs.size := Heap.lt_size hz
    refine wpAny_pyNext_zipD2_item D.s D1 D2 hz hTI hTO (sa1 i h1) (sa2 i h2) (List.getElem?_eq_some_iff.mp hu).1 (List.getElem?_eq_some_iff.mp hu2).1 fun v1 v2 h' tk e1 e2 z' TO' s1' s2' hT hsz hk => ?_
    have ev1 : v1 = u := by
      have q : its[i]? = some v1 := e1
      rw [hu] at q
      exact (Option.some.inj q).symm
    have ev2 : v2 = u2 := by
      have q : its2[i]? = some v2 := e2
      rw [hu2] at q
      exact (Option.some.inj q).symm
    subst ev1 ev2
    have h1' := sb1 _ _ s1'
    have h2' := sb2 _ _ s2'
    refine ⟨_, rfl, wpAny_letOwnedTupleGo_zip (s := { s with heap := h', toks := tk }) z' fun h'' z'' sb => ?_⟩
    have hT2 : h''.get? s.heap.objs.size = some { cls := .type "tuple", data := .seq #[v1, v2] } := (sb.2 _ (Nat.ne_of_gt hzl)).trans hT
    have new : ObjOk X.prog X.w (upd H s.heap.objs.size (.tup [x, y])) h'' s.heap.objs.size (.tup [x, y]) :=
      ⟨by show 2 ≤ sizeLine; decide, [v1, v2], .cons ru (.cons ru2 .nil), ⟨_, hT2, rfl, _, rfl⟩⟩
    have I1 : Inv X pins σ (upd H s.heap.objs.size (.tup [x, y])) { s with heap := h'', toks := tk } :=
      I.turnedNew (t' := tk) (ch := [z, TI, TO, i1, i2]) (fun c o hb q => (sb.2 c (fun q' => hb (by simp [q']))).trans (hk c o (fun q' => hb (by simp [q'])) (fun q' => hb (by simp [q'])) (fun q' => hb (by simp [q'])) (fun q' => hb (by simp [q'])) q)) hf (Nat.le_refl _) new
    have TIi1 := D.s.TIi1
    have TIi2 := D.s.TIi2
    have i1z : i1 ≠ z := Ne.symm (ZipSep2.zi1 D.s)
    have i2z : i2 ≠ z := Ne.symm (ZipSep2.zi2 D.s)
    refine ⟨.ref s.heap.objs.size, _, I1, rfl, ⟨_, x, y, rfl, I.hok.fresh (Nat.le_refl _), rfl, fun l hl => by rw [sqk_inj I hl hqx]; exact hx, fun l hl => by rw [sqk_inj I hl hqy]; exact hy⟩, ⟨z'', ?_, ⟨v1, v2, ?_⟩, ?_, ?_⟩, fun c hcm => ?_⟩
    · exact (sb.2 _ D.s.TIz).trans (hk _ _ D.s.TIz D.s.TITO TIi1 TIi2 hTI)
    · exact (sb.2 _ D.s.TOz).trans TO'
    · exact h1'.at fun o q => (sb.2 _ i1z).trans q
    · exact h2'.at fun o q => (sb.2 _ i2z).trans q
    · have hlt : c < s.heap.objs.size := by
        have e' : c = z ∨ c = TI ∨ c = TO ∨ c = i1 ∨ c = i2 := by simpa using hcm
        rcases e' with q | q | q | q | q
        · rw [q]; exact hzl
        · rw [q]; exact Heap.lt_size hTI
        · rw [q]; exact Heap.lt_size hTO
        · rw [q]; obtain ⟨_, e1, _⟩ := h1.get; exact Heap.lt_size e1
        · rw [q]; obtain ⟨_, e2, _⟩ := h2.get; exact Heap.lt_size e2
      rw [upd_ne (Nat.ne_of_lt hlt)]
      exact (hf c hcm).1
  done := by
    intro X hP hw hK hc i pins s σ H E I hf st hg
    subst hP hw hK
    obtain ⟨hz, hTI, ⟨x0, y0, hTO⟩, h1, h2⟩ := st
    obtain ⟨xs, ys, hqx, hqy, hl1, hl2, hend⟩ := hg
    obtain ⟨its, rv, hal, dr⟩ := sqk_it I hqx
    obtain ⟨its2, rv2, hal2, dr2⟩ := sqk_it I hqy
    obtain ⟨St1, D1, sa1, sb1⟩ := dr X.A (I.ok.hd hc) i1 D.a1
    obtain ⟨St2, D2, sa2, sb2⟩ := dr2 X.A (I.ok.hd hc) i2 D.b2
    have e1 := rv.length
    have e2 := rv2.length
    exact wpAny_pyNext_zipD2_end D.s D1 D2 hz hTI hTO (sa1 i h1) (sa2 i h2) (by omega) (by omega) (by omega) fun h' tk hk => ⟨rfl, I.turnedL (t' := tk) (ch := [z, TI, TO, i1, i2]) (fun c o hb q =>
      hk c o (fun q' => hb (by simp [q'])) (fun q' => hb (by simp [q'])) (fun q' => hb (by simp [q'])) (fun q' => hb (by simp [q'])) q) hf⟩
  self := fun A i s Q E st h => wpAny_pyIter_zip st.1 h
def iZipK (k j : Bool) (K : PySem.W.Frag) (ta : TA) : TI := fun σ H R => ta σ H fun vs H1 => ∃ a b xs ys, vs = [.ref a, .ref b] ∧ SqK k K H1 a xs ∧ SqK j K H1 b ys ∧ R (ItzK k j K a b) H1
theorem sqk_begins {X : Cx} {pins : List (Addr × Obj)} {σ : L2.St} {H : Hp} {s : Shared} {a : Addr} {xs : List V} (k : Bool) (I : Inv X pins σ H s) (h : SqK k X.K H a xs) : ∃ o G, Begins (.ref a) o G ∧ G s.heap ∧ a < s.heap.objs.size ∧ ∀ h' it, h'.get? it = some o → ItK k h' it a 0 := by
  cases k with
  | true =>
    obtain ⟨its, rv, p, _⟩ := I.tuple h
    exact ⟨_, _, begins_tuple a its.toArray, p, p.lt, fun h' it e => ⟨_, e, rfl, rfl⟩⟩
  | false =>
    obtain ⟨its, rv, p, _⟩ := I.list h
    exact ⟨_, _, begins_list a its.toArray, p.isList, (PySem.Heap.lt_size p.isList.choose_spec.1), fun h' it e => ⟨_, e, rfl, rfl⟩⟩
theorem pi_zipK {X : Cx} {e e2 : Expr} {ta : TA} {p pos tpos : Pos} {elts : List Expr} {kk : Nat} (k j : Bool) (hg : Gl X "zip") (hm : X.mg "zip" = none) (ha : PA X [e, e2] ta)
    (hs : starEach [e, e2] X.env = (false, eval e X.env) :: starEach [e2] X.env := by rfl) (hpl : (backTo pos (starEach [e2] X.env)).any (·.1) = false := by rfl) :
    PI X (.Tuple elts kk tpos) (.Call (.Name "zip" p) [e, e2] [] pos) (iZipK k j X.K ta) := by
  refine ⟨fun pins s σ H R I h => ?_⟩
  refine Call_ (ld_blt I hg hm PyProof.Rows.boot_zip (PyProof.Rows.callWith_type1 (thn (ha.run pos pins s σ H _ I h) fun us s1 ⟨vs, H1, I1, r1, q1⟩ => ?_) hs hpl))
  obtain ⟨a, b, xs, ys, ex, hqx, hqy, q⟩ := q1
  subst ex
  cases r1 with
  | cons r rr =>
    cases rr with
    | cons r' rr =>
      cases rr
      cases r
      cases r'
      obtain ⟨o1, G1, B1, g1, l1, f1⟩ := sqk_begins k I1 hqx
      obtain ⟨o2, G2, B2, g2, l2, f2⟩ := sqk_begins j I1 hqy
      refine zip_begins2 B1 B2 g1 g2 fun h' hz hTI hTO e1 e2 hsz hk => wpAny_pyIter_zip hz ?_
      have I2 : Inv X pins σ H1 { s1 with heap := h' } := I1.kept (t' := s1.toks) hk
      refine ⟨s1.heap.objs.size + 4, [s1.heap.objs.size + 4, s1.heap.objs.size + 2, s1.heap.objs.size + 3, s1.heap.objs.size, s1.heap.objs.size + 1], _, _, H1, rfl, I2,
        turn_zipK k j ⟨zip_sep2 (N := s1.heap.objs.size) (fp1 := [a]) (fp2 := [b]) (fun c hc => by rw [List.mem_singleton.mp hc]; exact l1) (fun c hc => by rw [List.mem_singleton.mp hc]; exact l2), Nat.ne_of_lt l1, Nat.ne_of_lt (Nat.lt_succ_of_lt l2)⟩,
        ⟨hz, hTI, ⟨_, _, hTO⟩, f1 h' _ e1, f2 h' _ e2⟩, fun c hcm => ?_, q⟩
      have e' : c = s1.heap.objs.size + 4 ∨ c = s1.heap.objs.size + 2 ∨ c = s1.heap.objs.size + 3 ∨ c = s1.heap.objs.size ∨ c = s1.heap.objs.size + 1 := by simpa using hcm
      have hle : s1.heap.objs.size ≤ c := by
        rcases e' with z | z | z | z | z
        · rw [z]; exact Nat.le_add_right _ _
        · rw [z]; exact Nat.le_add_right _ _
        · rw [z]; exact Nat.le_add_right _ _
        · rw [z]; exact Nat.le_refl _
        · rw [z]; exact Nat.le_add_right _ _
      exact I1.fpOk hle (I1.hok.fresh hle)
end Z

set_option maxHeartbeats 1000000
/-! Part 10: built-ins on data, sources of loops, stores -/
namespace Z
open PySem PySem.Spec PyProof.Rows L2
variable [HK]

/-! ### enumerate, zip, range with step -1 -/
def enumD (ds : List PyData) : List PyData := ds.mapIdx fun i d => .tuple [.int (i : Nat), d]
def zipD (xs ys : List PyData) : List PyData := List.zipWith (fun x y => .tuple [x, y]) xs ys
def rngD (a b : Int) : List PyData := (List.range (a - b).toNat).map fun i => .int (a - (i : Nat))
def mEnum (k : Bool) (m : Sl → R (List PyData)) : Sl → R (List PyData) := fun st => (m st).bind fun ds st => match k, ds with
  | true, [.tuple xs] => .ok (enumD xs) st
  | false, [.list xs] => .ok (enumD xs) st
  | _, _ => .no
def seqOf (k : Bool) : PyData → Option (List PyData)
  | .tuple xs => if k then some xs else none
  | .list xs => if k then none else some xs
  | _ => none
def mZip (k j : Bool) (m : Sl → R (List PyData)) : Sl → R (List PyData) := fun st => (m st).bind fun ds st => match ds with
  | [x, y] => match seqOf k x, seqOf j y with
    | some xs, some ys => .ok (zipD xs ys) st
    | _, _ => .no
  | _ => .no
def mRngD (m : Sl → R (List PyData)) : Sl → R (List PyData) := fun st => (m st).bind fun ds st => match ds with
  | [.int a, .int b, .int c] => if c = -1 ∧ -1000000 ≤ a ∧ a ≤ 1000000 ∧ -1000000 ≤ b ∧ b ≤ 1000000 then .ok (rngD a b) st else .no
  | _ => .no
theorem sqk_of {k : Bool} {K : PySem.W.Frag} {F H : Hp} {v : V} {d : PyData} {xs : List PyData} (le : Le F H) (h : Dt F v d) (e : seqOf k d = some xs) : ∃ a vs, v = .ref a ∧ Dts F vs xs ∧ ∀ H1, Le F H1 → SqK k K H1 a vs := by
  cases d <;> simp only [seqOf, reduceCtorEq] at e
  · cases k
    · simp at e
      subst e
      cases h with
      | lst h1 h2 => exact ⟨_, _, rfl, h2, fun H1 l => SqL.of (l _ _ h1)⟩
    · simp at e
  · cases k
    · simp at e
    · simp at e
      subst e
      cases h with
      | tup h1 h2 => exact ⟨_, _, rfl, h2, fun H1 l => SqT.of (l _ _ h1)⟩
section
variable {X : Cx} {E : XK} {e e2 : Expr} {ml : Sl → R (List PyData)} {p pos tpos : Pos} {elts : List Expr} {kk : Nat}
theorem i_enum (k : Bool) (hg : Gl X "enumerate") (hm : X.mg "enumerate" = none) (ha : PA X [e] (tA (wd X) E ml)) (hs : starEach [e] X.env = [(false, eval e X.env)] := by rfl) :
    PI X (.Tuple elts kk tpos) (.Call (.Name "enumerate" p) [e] [] pos) (tI (wd X) E (mEnum k ml)) := by
  refine pi_imp (pi_enumK k hg hm ha hs) fun σ H Q q => ?_
  obtain ⟨F, S, st, A⟩ := ti_of q
  refine ta_bind ck_i A fun vs ds F1 H1 S1 st1 b1 d1 A1 => ?_
  have g := A1.g
  have key : ∀ {x : PyData} {xs : List PyData}, ds = [x] → seqOf k x = some xs → FinI (wd X) E σ Q F1 H1 S1 (.ok (enumD xs) st1) → ∃ a xs, vs = [.ref a] ∧ SqK k X.K H1 a xs ∧ Q (IteK k X.K a) H1 := fun {x xs} e1 e2 fin => by
    subst e1
    cases d1 with
    | cons dx dn =>
      cases dn
      obtain ⟨a, us, rfl, du, hq⟩ := sqk_of (K := X.K) A1.le dx e2
      refine ⟨a, us, rfl, hq H1 A1.le, fin _ F1 H1 S1 (.refl A1.le) A1.sr fun i F2 H2 l1 l2 => ⟨fun hi => ?_, fun hi => ⟨us, hq H2 (l1.trans l2), by rw [du.len, hi]; simp [enumD]⟩, ?_⟩⟩
      · have hi' : i < us.length := by rw [du.len]; simpa [enumD] using hi
        exact ⟨us, us[i], hq H2 (l1.trans l2), by simp [hi']⟩
      · rintro v H3 ⟨T, y, rfl, hT, rfl, hy⟩ d hd
        have hy' := hy us (hq H2 (l1.trans l2))
        obtain ⟨d', hd', dy⟩ := du.get' hy'
        unfold enumD at hd
        rw [List.getElem?_mapIdx, hd'] at hd
        cases hd
        have gr : Gro F2 H2 (upd F2 T (.tup [.int (i : Nat), y])) (upd H2 T (.tup [.int (i : Nat), y])) := Gro.new l2 hT
        exact ⟨_, gr, .tup upd_same (.cons (.int _) (.cons ((l1.trans gr.ff).dt dy) .nil))⟩
  split at g
  · rename_i xs
    exact key (x := .tuple xs) rfl (by simp [seqOf]) g
  · rename_i xs
    exact key (x := .list xs) rfl (by simp [seqOf]) g
  · exact g.elim
theorem i_zip (k j : Bool) (hg : Gl X "zip") (hm : X.mg "zip" = none) (ha : PA X [e, e2] (tA (wd X) E ml)) (hs : starEach [e, e2] X.env = (false, eval e X.env) :: starEach [e2] X.env := by rfl) (hpl : (backTo pos (starEach [e2] X.env)).any (·.1) = false := by rfl) :
    PI X (.Tuple elts kk tpos) (.Call (.Name "zip" p) [e, e2] [] pos) (tI (wd X) E (mZip k j ml)) := by
  refine pi_imp (pi_zipK k j hg hm ha hs hpl) fun σ H Q q => ?_
  obtain ⟨F, S, st, A⟩ := ti_of q
  refine ta_bind ck_i A fun vs ds F1 H1 S1 st1 b1 d1 A1 => ?_
  have g := A1.g
  split at g
  · rename_i x y
    split at g
    · rename_i xs ys ex ey
      cases d1 with
      | cons dx dn =>
        cases dn with
        | cons dy dn =>
          cases dn
          obtain ⟨a, us, rfl, du, hq⟩ := sqk_of (K := X.K) A1.le dx ex
          obtain ⟨b, ws, rfl, dw, hq2⟩ := sqk_of (K := X.K) A1.le dy ey
          refine ⟨a, b, us, ws, rfl, hq H1 A1.le, hq2 H1 A1.le, g _ F1 H1 S1 (.refl A1.le) A1.sr fun i F2 H2 l1 l2 => ⟨fun hi => ?_, fun hi => ?_, ?_⟩⟩
          · simp only [zipD, List.length_zipWith] at hi
            rw [← du.len, ← dw.len] at hi
            have h1 : i < us.length := by omega
            have h2 : i < ws.length := by omega
            exact ⟨us, ws, us[i], ws[i], hq H2 (l1.trans l2), hq2 H2 (l1.trans l2), by simp [h1], by simp [h2]⟩
          · simp only [zipD, List.length_zipWith] at hi
            rw [← du.len, ← dw.len] at hi
            exact ⟨us, ws, hq H2 (l1.trans l2), hq2 H2 (l1.trans l2), by omega, by omega, by omega⟩
          · rintro v H3 ⟨T, z1, z2, rfl, hT, rfl, hy1, hy2⟩ d hd
            obtain ⟨e1, he1, dz1⟩ := du.get' (hy1 us (hq H2 (l1.trans l2)))
            obtain ⟨e3, he3, dz2⟩ := dw.get' (hy2 ws (hq2 H2 (l1.trans l2)))
            unfold zipD at hd
            rw [List.getElem?_zipWith, he1, he3] at hd
            cases hd
            have gr : Gro F2 H2 (upd F2 T (.tup [z1, z2])) (upd H2 T (.tup [z1, z2])) := Gro.new l2 hT
            exact ⟨_, gr, .tup upd_same (.cons ((l1.trans gr.ff).dt dz1) (.cons ((l1.trans gr.ff).dt dz2) .nil))⟩
    · exact g.elim
  · exact g.elim
theorem i_rngD {a b c tg : Expr} (hg : Gl X "range") (hm : X.mg "range" = none) (ha : PA X [a, b, c] (tA (wd X) E ml)) (hs : starEach [a, b, c] X.env = (false, eval a X.env) :: starEach [b, c] X.env := by rfl) (hpl : (backTo pos (starEach [b, c] X.env)).any (·.1) = false := by rfl) :
    PI X tg (.Call (.Name "range" p) [a, b, c] [] pos) (tI (wd X) E (mRngD ml)) := by
  refine pi_imp (pi_range3 hg hm ha hs hpl) fun σ H Q q => ?_
  obtain ⟨F, S, st, A⟩ := ti_of q
  refine ta_bind ck_i A fun vs ds F1 H1 S1 st1 b1 d1 A1 => ?_
  have g := A1.g
  split at g
  · rename_i i j c
    split at g
    · rename_i hc
      obtain ⟨rfl, hc⟩ := hc
      have := d1.int3
      subst this
      refine ⟨i, j, -1, (i - j).toNat, rfl, RgC.neg (by omega) (by omega) (by omega) (by omega), g _ F1 H1 S1 (.refl A1.le) A1.sr fun k F2 H2 l1 l2 => ⟨fun hi => ?_, fun hi => ?_, ?_⟩⟩
      · simp [rngD] at hi
        show k < (i - j).toNat
        omega
      · simp [rngD] at hi
        show (i - j).toNat ≤ k
        omega
      · rintro x H3 ⟨rfl, rfl⟩ d hd
        unfold rngD at hd
        rw [List.getElem?_map] at hd
        by_cases hk : k < (i - j).toNat
        · rw [List.getElem?_range hk] at hd
          cases hd
          refine ⟨F2, .refl l2, ?_⟩
          have e : i + (k : Nat) * (-1) = i - (k : Nat) := by omega
          rw [e]
          exact .int _
        · rw [List.getElem?_eq_none (by simpa using Nat.not_lt.mp hk)] at hd
          cases hd
    · exact g.elim
  · exact g.elim
end

/-! ### built-in functions -/
def pLen : List PyData → Option PyData
  | [.list xs] => some (.int xs.length)
  | [.tuple xs] => some (.int xs.length)
  | [.dict xs] => some (.int xs.length)
  | [.str z] => if z.length ≤ 100000 then some (.int z.length) else none
  | _ => none
def intOf : PyData → Option Int
  | .int i => some i
  | _ => none
def intsOf : List PyData → Option (List Int)
  | [] => some []
  | d :: ds => match intOf d, intsOf ds with
    | some i, some is => some (i :: is)
    | _, _ => none
omit [HK] in
theorem intsOf_map : ∀ l : List Int, intsOf (l.map PyData.int) = some l
  | [] => rfl
  | i :: l => by rw [List.map_cons, intsOf, intsOf_map l]; rfl
omit [HK] in
theorem intsOf_eq : ∀ {ds : List PyData} {l : List Int}, intsOf ds = some l → ds = l.map .int
  | [], l, h => by
    have : l = [] := by simpa [intsOf] using h.symm
    subst this
    rfl
  | d :: ds, l, h => by
    unfold intsOf at h
    split at h
    · rename_i i is e1 e2
      cases h
      rw [List.map_cons, ← intsOf_eq e2]
      cases d <;> simp only [intOf, reduceCtorEq] at e1
      cases e1
      rfl
    · cases h
def minI : List Int → Int
  | [] => 0
  | i :: l => l.foldl min i
def maxI : List Int → Int
  | [] => 0
  | i :: l => l.foldl max i
omit [HK] in
theorem foldl_min_le : ∀ (l : List Int) (i : Int), l.foldl min i ≤ i ∧ ∀ x ∈ l, l.foldl min i ≤ x
  | [], i => ⟨Int.le_refl i, fun _ h => by cases h⟩
  | j :: l, i => by
    obtain ⟨h1, h2⟩ := foldl_min_le l (min i j)
    refine ⟨by rw [List.foldl_cons]; omega, fun x hx => ?_⟩
    rw [List.foldl_cons]
    rcases List.mem_cons.mp hx with rfl | hx
    · omega
    · exact h2 x hx
omit [HK] in
theorem foldl_min_mem : ∀ (l : List Int) (i : Int), l.foldl min i = i ∨ l.foldl min i ∈ l
  | [], i => .inl rfl
  | j :: l, i => by
    rw [List.foldl_cons]
    rcases foldl_min_mem l (min i j) with h | h
    · rw [h]
      by_cases c : i ≤ j
      · left; omega
      · right; rw [show min i j = j by omega]; exact List.mem_cons_self
    · exact .inr (List.mem_cons_of_mem _ h)
omit [HK] in
theorem foldl_max_le : ∀ (l : List Int) (i : Int), i ≤ l.foldl max i ∧ ∀ x ∈ l, x ≤ l.foldl max i
  | [], i => ⟨Int.le_refl i, fun _ h => by cases h⟩
  | j :: l, i => by
    obtain ⟨h1, h2⟩ := foldl_max_le l (max i j)
    refine ⟨by rw [List.foldl_cons]; omega, fun x hx => ?_⟩
    rw [List.foldl_cons]
    rcases List.mem_cons.mp hx with rfl | hx
    · omega
    · exact h2 x hx
omit [HK] in
theorem foldl_max_mem : ∀ (l : List Int) (i : Int), l.foldl max i = i ∨ l.foldl max i ∈ l
  | [], i => .inl rfl
  | j :: l, i => by
    rw [List.foldl_cons]
    rcases foldl_max_mem l (max i j) with h | h
    · rw [h]
      by_cases c : j ≤ i
      · left; omega
      · right; rw [show max i j = j by omega]; exact List.mem_cons_self
    · exact .inr (List.mem_cons_of_mem _ h)
omit [HK] in
theorem minI_mem {l : List Int} (h : l ≠ []) : minI l ∈ l := by
  cases l with
  | nil => exact absurd rfl h
  | cons i l =>
    rcases foldl_min_mem l i with e | e
    · show l.foldl min i ∈ _
      rw [e]; exact List.mem_cons_self
    · exact List.mem_cons_of_mem _ e
omit [HK] in
theorem minI_le {l : List Int} {x : Int} (h : x ∈ l) : minI l ≤ x := by
  cases l with
  | nil => cases h
  | cons i l =>
    rcases List.mem_cons.mp h with rfl | h
    · exact (foldl_min_le l x).1
    · exact (foldl_min_le l i).2 x h
omit [HK] in
theorem maxI_mem {l : List Int} (h : l ≠ []) : maxI l ∈ l := by
  cases l with
  | nil => exact absurd rfl h
  | cons i l =>
    rcases foldl_max_mem l i with e | e
    · show l.foldl max i ∈ _
      rw [e]; exact List.mem_cons_self
    · exact List.mem_cons_of_mem _ e
omit [HK] in
theorem maxI_le {l : List Int} {x : Int} (h : x ∈ l) : x ≤ maxI l := by
  cases l with
  | nil => cases h
  | cons i l =>
    rcases List.mem_cons.mp h with rfl | h
    · exact (foldl_max_le l x).1
    · exact (foldl_max_le l i).2 x h
def pMin : List PyData → Option PyData
  | [.list ds] => match intsOf ds with
    | some l => if l.isEmpty then none else some (.int (minI l))
    | none => none
  | [.int i, .int j] => some (.int (min i j))
  | _ => none
def pMax : List PyData → Option PyData
  | [.list ds] => match intsOf ds with
    | some l => if l.isEmpty then none else some (.int (maxI l))
    | none => none
  | [.int i, .int j] => some (.int (max i j))
  | _ => none
def pSum : List PyData → Option PyData
  | [.list ds] => (intsOf ds).map fun l => .int l.sum
  | _ => none
def sortI (l : List Int) : List Int := l.mergeSort (fun a b => decide (a ≤ b))
def pSorted : List PyData → Option (List PyData)
  | [.list ds] => (intsOf ds).map fun l => (sortI l).map .int
  | _ => none
def pTuple : List PyData → Option PyData
  | [.list ds] => some (.tuple ds)
  | [.tuple ds] => some (.tuple ds)
  | _ => none
def pList : List PyData → Option (List PyData)
  | [.list ds] => some ds
  | [.tuple ds] => some ds
  | _ => none
def pInt : List PyData → Option PyData
  | [.int i] => some (.int i)
  | [.bool b] => some (.int (if b then 1 else 0))
  | _ => none
def boolsOf : List PyData → Option (List Bool)
  | [] => some []
  | .bool b :: ds => (boolsOf ds).map (b :: ·)
  | _ :: _ => none
def pAll : List PyData → Option PyData
  | [.list ds] => (boolsOf ds).map fun l => .bool (l.all id)
  | _ => none
def pAny : List PyData → Option PyData
  | [.list ds] => (boolsOf ds).map fun l => .bool (l.any id)
  | _ => none
section
variable {X : Cx}
theorem Dts.one {F : Hp} {vs : List V} {d : PyData} (h : Dts F vs [d]) : ∃ v, vs = [v] ∧ Dt F v d := by
  cases h with
  | cons h1 h2 => cases h2; exact ⟨_, rfl, h1⟩
theorem Dts.two {F : Hp} {vs : List V} {d e : PyData} (h : Dts F vs [d, e]) : ∃ v u, vs = [v, u] ∧ Dt F v d ∧ Dt F u e := by
  cases h with
  | cons h1 h2 =>
    obtain ⟨u, rfl, h3⟩ := h2.one
    exact ⟨_, u, rfl, h1, h3⟩
theorem ok_len (hK : X.K = HK.K) : CallOk (fun xs H Q => ∃ x n, xs = [x] ∧ LenV X.K x H n ∧ Q (.int n) H) pLen := fun {F H vs ds z Q} le d e k => by
  rw [hK]
  unfold pLen at e
  split at e
  · cases e
    obtain ⟨v, rfl, dv⟩ := d.one
    cases dv with
    | lst h1 h2 => exact ⟨_, _, rfl, .inl ⟨_, SqL.of (le _ _ h1), rfl⟩, by rw [h2.len]; exact k _ F H (.refl le) (.int _)⟩
  · cases e
    obtain ⟨v, rfl, dv⟩ := d.one
    cases dv with
    | tup h1 h2 => exact ⟨_, _, rfl, .inr ⟨_, SqT.of (le _ _ h1), rfl⟩, by rw [h2.len]; exact k _ F H (.refl le) (.int _)⟩
  · cases e
    obtain ⟨v, rfl, dv⟩ := d.one
    cases dv with
    | scr ns h1 => exact ⟨_, _, rfl, .inl ⟨_, sql_mono le h1, rfl⟩, by rw [List.length_map]; rw [List.length_map] at k; exact k _ F H (.refl le) (.int _)⟩
  · split at e
    · rename_i hz
      cases e
      obtain ⟨v, rfl, dv⟩ := d.one
      cases dv
      exact ⟨_, _, rfl, ⟨hundred hz, rfl⟩, k _ F H (.refl le) (.int _)⟩
    · cases e
  · cases e
theorem dts_ints {F : Hp} {vs : List V} {ds : List PyData} {l : List Int} (h : Dts F vs ds) (e : intsOf ds = some l) : vs = l.map V.int := by
  have := intsOf_eq e
  subst this
  exact Dts.ints_eq l h
theorem ok_min (hc : X.calm = true) : CallR X (.builtin "min") (fun xs H Q => rMin X.K xs H Q ∨ ∃ i j, xs = [.int i, .int j] ∧ Q (.int (if j < i then j else i)) H) ∧ CallOk (fun xs H Q => rMin X.K xs H Q ∨ ∃ i j, xs = [.int i, .int j] ∧ Q (.int (if j < i then j else i)) H) pMin :=
  ⟨(cr_min hc).or (call_min2 hc), fun {F H vs ds z Q} le d e k => by
    unfold pMin at e
    split at e
    · split at e
      · rename_i l el
        split at e
        · cases e
        · rename_i hne
          cases e
          obtain ⟨v, rfl, dv⟩ := d.one
          cases dv with
          | lst h1 h2 =>
            have := dts_ints h2 el
            subst this
            have hne' : l ≠ [] := fun q => hne (by rw [q]; rfl)
            refine .inl ⟨_, l, rfl, SqL.of (le _ _ h1), List.length_pos_iff.mpr hne', fun m hm hmin => ?_⟩
            have : m = minI l := Int.le_antisymm (hmin _ (minI_mem hne')) (minI_le hm)
            rw [this]
            exact k _ F H (.refl le) (.int _)
      · cases e
    · cases e
      have := d.int2
      subst this
      refine .inr ⟨_, _, rfl, ?_⟩
      rename_i i j
      have : (if j < i then j else i) = min i j := by split <;> omega
      rw [this]
      exact k _ F H (.refl le) (.int _)
    · cases e⟩
theorem ok_max (hc : X.calm = true) : CallR X (.builtin "max") (fun xs H Q => rMax X.K xs H Q ∨ ∃ i j, xs = [.int i, .int j] ∧ Q (.int (if j > i then j else i)) H) ∧ CallOk (fun xs H Q => rMax X.K xs H Q ∨ ∃ i j, xs = [.int i, .int j] ∧ Q (.int (if j > i then j else i)) H) pMax :=
  ⟨(cr_max hc).or (call_max2 hc), fun {F H vs ds z Q} le d e k => by
    unfold pMax at e
    split at e
    · split at e
      · rename_i l el
        split at e
        · cases e
        · rename_i hne
          cases e
          obtain ⟨v, rfl, dv⟩ := d.one
          cases dv with
          | lst h1 h2 =>
            have := dts_ints h2 el
            subst this
            have hne' : l ≠ [] := fun q => hne (by rw [q]; rfl)
            refine .inl ⟨_, l, rfl, SqL.of (le _ _ h1), List.length_pos_iff.mpr hne', fun m hm hmin => ?_⟩
            have : m = maxI l := Int.le_antisymm (maxI_le hm) (hmin _ (maxI_mem hne'))
            rw [this]
            exact k _ F H (.refl le) (.int _)
      · cases e
    · cases e
      have := d.int2
      subst this
      refine .inr ⟨_, _, rfl, ?_⟩
      rename_i i j
      have : (if j > i then j else i) = max i j := by split <;> omega
      rw [this]
      exact k _ F H (.refl le) (.int _)
    · cases e⟩
theorem ok_sum : CallOk (rSum X.K) pSum := fun {F H vs ds z Q} le d e k => by
  unfold pSum at e
  split at e
  · rename_i es
    cases el : intsOf es with
    | none => rw [el] at e; cases e
    | some l =>
      rw [el] at e
      cases e
      obtain ⟨v, rfl, dv⟩ := d.one
      cases dv with
      | lst h1 h2 =>
        have := dts_ints h2 el
        subst this
        exact ⟨_, l, rfl, SqL.of (le _ _ h1), k _ F H (.refl le) (.int _)⟩
  · cases e
omit [HK] in
theorem sortI_perm (l : List Int) : (sortI l).Perm l := List.mergeSort_perm l _
omit [HK] in
theorem sortI_sorted (l : List Int) : (sortI l).Pairwise (· ≤ ·) := by
  have := List.pairwise_mergeSort (le := fun a b : Int => decide (a ≤ b)) (fun a b c h1 h2 => by simp at *; omega) (fun a b => by simp; omega) l
  exact this.imp fun h => by simpa using h
omit [HK] in
theorem sorted_unique {l l' : List Int} (h : l.Perm l') (h1 : l.Pairwise (· ≤ ·)) (h2 : l'.Pairwise (· ≤ ·)) : l = l' := h.eq_of_pairwise (fun a b _ _ h1 h2 => Int.le_antisymm h1 h2) h1 h2
theorem ok_sorted : CallOkL (rSortedI X.K) pSorted := fun {F H vs ds es Q} le d e k => by
  unfold pSorted at e
  split at e
  · rename_i us
    cases el : intsOf us with
    | none => rw [el] at e; cases e
    | some l =>
      rw [el] at e
      cases e
      obtain ⟨v, rfl, dv⟩ := d.one
      cases dv with
      | lst h1 h2 =>
        have := dts_ints h2 el
        subst this
        refine ⟨_, l, rfl, SqL.of (le _ _ h1), fun ns' p hp hs hn => ?_⟩
        have : ns' = sortI l := sorted_unique (hp.trans (sortI_perm l).symm) hs (sortI_sorted l)
        rw [this]
        exact k _ p (Dts.ints _) hn
  · cases e
theorem ok_tuple : CallOk (fun xs H Q => ∃ p ys, xs = [.ref p] ∧ ((SqL X.K H p ys ∧ ∀ l, H l = none → Q (.ref l) (upd H l (.tup ys))) ∨ (SqT X.K H p ys ∧ Q (.ref p) H))) pTuple := fun {F H vs ds z Q} le d e k => by
  unfold pTuple at e
  split at e
  · cases e
    obtain ⟨v, rfl, dv⟩ := d.one
    cases dv with
    | lst h1 h2 => exact ⟨_, _, rfl, .inl ⟨SqL.of (le _ _ h1), fun p hp => k _ _ _ (.new le hp) (.tup upd_same ((Le.new (le.none hp)).dts h2))⟩⟩
  · cases e
    obtain ⟨v, rfl, dv⟩ := d.one
    cases dv with
    | tup h1 h2 => exact ⟨_, _, rfl, .inr ⟨SqT.of (le _ _ h1), k _ F H (.refl le) (.tup h1 h2)⟩⟩
  · cases e
theorem ok_list : CallOkL (fun xs H Q => ∃ p ys, xs = [.ref p] ∧ (SqL X.K H p ys ∨ SqT X.K H p ys) ∧ ∀ l, H l = none → Q (.ref l) (upd H l (.lst ys))) pList := fun {F H vs ds es Q} le d e k => by
  unfold pList at e
  split at e
  · cases e
    obtain ⟨v, rfl, dv⟩ := d.one
    cases dv with
    | lst h1 h2 => exact ⟨_, _, rfl, .inl (SqL.of (le _ _ h1)), fun p hp => k _ p h2 hp⟩
  · cases e
    obtain ⟨v, rfl, dv⟩ := d.one
    cases dv with
    | tup h1 h2 => exact ⟨_, _, rfl, .inr (SqT.of (le _ _ h1)), fun p hp => k _ p h2 hp⟩
  · cases e
theorem ok_int : CallOk (fun xs H Q => (∃ i, xs = [.int i] ∧ Q (.int i) H) ∨ ∃ k, xs = [.bl k] ∧ Q (.int (if k then 1 else 0)) H) pInt := fun {F H vs ds z Q} le d e k => by
  unfold pInt at e
  split at e
  · cases e
    obtain ⟨v, rfl, dv⟩ := d.one
    cases dv
    exact .inl ⟨_, rfl, k _ F H (.refl le) (.int _)⟩
  · cases e
    obtain ⟨v, rfl, dv⟩ := d.one
    cases dv
    exact .inr ⟨_, rfl, k _ F H (.refl le) (.int _)⟩
  · cases e
theorem bools_eq : ∀ {ds : List PyData} {l : List Bool} {F : Hp} {vs : List V}, boolsOf ds = some l → Dts F vs ds → vs = l.map V.bl
  | [], l, F, vs, h, d => by
    have : l = [] := by simpa [boolsOf] using h.symm
    subst this
    cases d
    rfl
  | d :: ds, l, F, vs, h, dd => by
    cases d <;> simp only [boolsOf, reduceCtorEq] at h
    rename_i b
    cases e : boolsOf ds with
    | none => rw [e] at h; cases h
    | some l' =>
      rw [e] at h
      cases h
      cases dd with
      | cons h1 h2 =>
        cases h1
        rw [List.map_cons, ← bools_eq e h2]
theorem ok_all : CallOk (rAll X.K) pAll := fun {F H vs ds z Q} le d e k => by
  unfold pAll at e
  split at e
  · rename_i es
    cases el : boolsOf es with
    | none => rw [el] at e; cases e
    | some l =>
      rw [el] at e
      cases e
      obtain ⟨v, rfl, dv⟩ := d.one
      cases dv with
      | lst h1 h2 =>
        have := bools_eq el h2
        subst this
        exact ⟨_, l, rfl, SqL.of (le _ _ h1), k _ F H (.refl le) (.bl _)⟩
  · cases e
theorem ok_any : CallOk (rAny X.K) pAny := fun {F H vs ds z Q} le d e k => by
  unfold pAny at e
  split at e
  · rename_i es
    cases el : boolsOf es with
    | none => rw [el] at e; cases e
    | some l =>
      rw [el] at e
      cases e
      obtain ⟨v, rfl, dv⟩ := d.one
      cases dv with
      | lst h1 h2 =>
        have := bools_eq el h2
        subst this
        exact ⟨_, l, rfl, SqL.of (le _ _ h1), k _ F H (.refl le) (.bl _)⟩
  · cases e

/-! ### isinstance -/
def tyN : PyData → String
  | .none => "NoneType"
  | .bool _ => "bool"
  | .int _ => "int"
  | .str _ => "str"
  | .list _ => "list"
  | .tuple _ => "tuple"
  | .dict _ => "list"
def isScr : PyData → Bool
  | .dict _ => true
  | _ => false
theorem dt_ty {K : PySem.W.Frag} {F H : Hp} {v : V} {d : PyData} (le : Le F H) (h : Dt F v d) (ns : isScr d = false) : TyX K H v (.type (tyN d)) := by
  cases h with
  | non => exact .base .non
  | bl b => exact .base (.bl b)
  | int i => exact .base (.int i)
  | str x => exact .base (.str x)
  | lst h1 _ => exact .base (.lst (le _ _ h1))
  | tup h1 _ => exact .base (.tup (le _ _ h1))
  | scr _ _ => cases ns
def isiN (T n : String) : Bool := n == T || (T == "int" && n == "bool")
def isi (T : String) (d : PyData) : Bool := isiN T (tyN d)
theorem kit_names : ∀ T ∈ ["int", "bool", "str", "tuple", "list"], ∀ n ∈ ["NoneType", "bool", "int", "str", "list", "tuple"], kitB n T = some (isiN T n) := by decide +kernel
theorem tyN_mem (d : PyData) : tyN d ∈ ["NoneType", "bool", "int", "str", "list", "tuple"] := by cases d <;> simp [tyN]
theorem kit_isi (d : PyData) {T : String} (hT : T = "int" ∨ T = "bool" ∨ T = "str" ∨ T = "tuple" ∨ T = "list") : kitB (tyN d) T = some (isi T d) := by
  exact kit_names T (by simp only [List.mem_cons, List.not_mem_nil, or_false]; exact hT) _ (tyN_mem d)
def pIsi (T : String) (d : PyData) : Option PyData := if isScr d = true then none else some (.bool (isi T d))
def pIsi2 (T U : String) (d : PyData) : Option PyData := if isScr d = true then none else some (.bool (isi T d || isi U d))
variable {E : XK} {e : Expr} {m : Sl → R PyData} {pos p p1 p2 p3 : Pos} {T U : String} {x y : Str} {x1 : Nat}
theorem r_isi (hT : T = "int" ∨ T = "bool" ∨ T = "str" ∨ T = "tuple" ∨ T = "list") (hg : Gl X "isinstance") (hm : X.mg "isinstance" = none) (hgT : Gl X x) (hmT : X.mg x = none) (hvT : bootBuiltins x = some (.type T)) (h : PE X e (tV (wd X) E m)) (hn : x ≠ "__name__" := by decide) (hdb : (x == ("__debug__" : Str)) = false := by decide)
    (he : starEach [e, .Name x p1] X.env = (false, eval e X.env) :: starEach [.Name x p1] X.env := by rfl) (hpl : (backTo pos (starEach [.Name x p1] X.env)).any (·.1) = false := by rfl) :
    PE X (.Call (.Name "isinstance" p) [e, .Name x p1] [] pos) (tV (wd X) E (mUn (pIsi T) m)) := by
  refine pe_imp (pe_callB call_isi hg hm (by decide +kernel) (pa_cons h (pa_cons (pe_bltn (v := .ty T) hgT hmT hvT rfl hn hdb) pa_nil) he) (by decide) (by decide) he hpl) fun σ H Q q => ?_
  obtain ⟨F, S, st, A⟩ := tv_of q
  refine tv_bind ck_v A fun v d F1 H1 S1 st1 b1 d1 A1 => ?_
  by_cases hd : isScr d = true
  · have g := A1.g
    rw [pIsi, if_pos hd] at g
    exact g.elim
  rw [pIsi, if_neg hd] at A1
  exact ⟨v, .ty T, _, _, _, rfl, .ty T, dt_ty A1.le d1 (by simpa using hd), kit_ty (kit_isi d hT), A1.fin (.refl A1.le) (.bl _)⟩
theorem r_isi2 (hT : T = "int" ∨ T = "bool" ∨ T = "str" ∨ T = "tuple" ∨ T = "list") (hU : U = "int" ∨ U = "bool" ∨ U = "str" ∨ U = "tuple" ∨ U = "list") (hg : Gl X "isinstance") (hm : X.mg "isinstance" = none) (hgT : Gl X x) (hmT : X.mg x = none) (hvT : bootBuiltins x = some (.type T))
    (hgU : Gl X y) (hmU : X.mg y = none) (hvU : bootBuiltins y = some (.type U)) (h : PE X e (tV (wd X) E m)) (hn : x ≠ "__name__" := by decide) (hdb : (x == ("__debug__" : Str)) = false := by decide) (hn2 : y ≠ "__name__" := by decide) (hdb2 : (y == ("__debug__" : Str)) = false := by decide)
    (he : starEach [e, .Tuple [.Name x p1, .Name y p2] x1 p3] X.env = (false, eval e X.env) :: starEach [.Tuple [.Name x p1, .Name y p2] x1 p3] X.env := by rfl) (hpl : (backTo pos (starEach [.Tuple [.Name x p1, .Name y p2] x1 p3] X.env)).any (·.1) = false := by rfl) :
    PE X (.Call (.Name "isinstance" p) [e, .Tuple [.Name x p1, .Name y p2] x1 p3] [] pos) (tV (wd X) E (mUn (pIsi2 T U) m)) := by
  refine pe_imp (pe_callB call_isiT hg hm (by decide +kernel) (pa_cons h (pa_cons (pe_tup (pa_cons (pe_bltn (v := .ty T) hgT hmT hvT rfl hn hdb) (pa_cons (pe_bltn (v := .ty U) hgU hmU hvU rfl hn2 hdb2) pa_nil))) pa_nil) he) (by decide) (by decide) he hpl) fun σ H Q q => ?_
  obtain ⟨F, S, st, A⟩ := tv_of q
  refine tv_bind ck_v A fun v d F1 H1 S1 st1 b1 d1 A1 => ⟨by show 2 ≤ sizeLine; decide, fun t ht => ?_⟩
  by_cases hd : isScr d = true
  · have g := A1.g
    rw [pIsi2, if_pos hd] at g
    exact g.elim
  rw [pIsi2, if_neg hd] at A1
  have gr : Gro F1 H1 (upd F1 t (.tup [.ty T, .ty U])) (upd H1 t (.tup [.ty T, .ty U])) := Gro.new A1.le ht
  refine ⟨v, t, [.ty T, .ty U], .type (tyN d), [.type T, .type U], isi T d || isi U d, rfl, upd_same, .cons (.ty T) (.cons (.ty U) .nil), dt_ty gr.fh (gr.ff.dt d1) (by simpa using hd), ?_, A1.fin gr (.bl _)⟩
  refine kitAny_cons (kit_ty (kit_isi d hT)) (fun hf => ?_) (fun ht => by rw [ht]; rfl)
  rw [hf, Bool.false_or]
  exact kitAny_cons (kit_ty (kit_isi d hU)) (fun hf => by rw [hf]; exact kitAny_nil) (fun ht => by rw [ht])
end
end Z

set_option maxHeartbeats 1000000
/-! Part 11: stores, pops, slices -/
namespace Z
open PySem PySem.Spec PyProof.Rows L2
variable [HK]

theorem rep_open {W : Wd} {F H : Hp} {v : V} {ts : List OT} {SD : AS} (h : Rep W F H v (.nod .lst ts) SD) : ∃ D vs S0, v = .ref D ∧ H D = some (.lst vs) ∧ F D = none ∧ Reps W F H vs ts S0 ∧ ¬ S0 D ∧ SD = Ad D S0 := by
  cases h with
  | @nod a kd o vs ts' S0 q1 q2 q3 q4 q5 =>
    have q3' : o = HO.lst vs := q3
    subst q3'
    exact ⟨a, vs, S0, rfl, q1, q2, q4, q5, rfl⟩
theorem rep_write {W : Wd} {F H : Hp} {D : Addr} {vs : List V} {ts : List OT} {S : AS} (hF : F D = none) (r : Reps W F H vs ts S) (n : ¬ S D) : Rep W F (upd H D (.lst vs)) (.ref D) (.nod .lst ts) (Ad D S) := by
  have ne : ∀ {x}, S x → x ≠ D := fun {x} y z => n (by rw [← z]; exact y)
  exact .nod upd_same hF rfl (reps_carry ts vs S r (.refl F) (fun x o y e => by rw [upd_ne (ne y)]; exact e) fun x y => (reps_dom _ _ _ r x y).2) n
theorem reps_set {W : Wd} {F H : Hp} {w : V} {t : OT} {Sv : AS} (r : Rep W F H w t Sv) : ∀ {vs : List V} {ts : List OT} {S : AS} (j : Nat), Reps W F H vs ts S → Dj S Sv → ∃ S', Reps W F H (vs.set j w) (ts.set j t) S' ∧ ∀ a, S' a → S a ∨ Sv a
  | _, _, _, _, .nil, _ => ⟨Em, .nil, fun _ h => h.elim⟩
  | _, _, _, 0, .cons h1 h2 d, dj => ⟨_, .cons r h2 fun a x y => dj a (.inr y) x, fun a x => x.elim .inr fun x => .inl (.inr x)⟩
  | _, _, _, j + 1, .cons h1 h2 d, dj => by
    obtain ⟨S', k1, k2⟩ := reps_set r j h2 fun a x y => dj a (.inr x) y
    exact ⟨_, .cons h1 k1 fun a x y => (k2 a y).elim (d a x) fun y => dj a (.inl x) y, fun a x => x.elim (fun x => .inl (.inl x)) fun x => (k2 a x).elim (fun x => .inl (.inr x)) .inr⟩
theorem reps_take {W : Wd} {F H : Hp} : ∀ {vs : List V} {ts : List OT} {S : AS} {j : Nat} {t : OT}, Reps W F H vs ts S → ts[j]? = some t → ∃ v S1 S2, vs[j]? = some v ∧ Rep W F H v t S1 ∧ Reps W F H (vs.eraseIdx j) (ts.eraseIdx j) S2 ∧ Dj S1 S2 ∧ S = Uu S1 S2
  | _, _, _, _, _, .nil, e => by simp at e
  | _, _, _, 0, _, .cons h1 h2 d, e => by
    simp at e
    subst e
    exact ⟨_, _, _, rfl, h1, h2, d, rfl⟩
  | _, _, _, j + 1, _, .cons (S := S0) h1 h2 d, e => by
    obtain ⟨v, S1, S2, k1, k2, k3, k4, k5⟩ := reps_take (j := j) h2 (by simpa using e)
    subst k5
    refine ⟨v, S1, Uu S0 S2, by simpa using k1, k2, by simpa using Reps.cons h1 k3 fun a x y => d a x (.inr y), fun a x y => y.elim (fun y => d a y (.inl x)) fun y => k4 a x y, uu_swap _ _ _⟩
section
variable {X : Cx} {E : XK} {IO : List Nat} {e a b c : Expr} {es : List Expr} {m mk : Sl → R PyData} {mo : Sl → R OT} {pos : Pos}
/-- x[k] = e -/
theorem s_store (i : Nat) {x : Str} {px ps : Pos} {ki : Expr} (he : PE X e (tO (wd X) E mo)) (hk : PE X ki (tV (wd X) E mk)) (hN : X.N[i]? = some x := by rfl) (hv : Vis X.env.scope x := by first | exact Or.inl rfl | exact Or.inr (Or.inl rfl) | exact Or.inr (Or.inr rfl)) (hd : (x == ("__debug__" : Str)) = false := by decide)
    (hcd : (x == ("__classdict__" : Str)) = false := by decide)
    (ha : ∀ v, assign (.Subscript (.Name x px) ki ps) X.env v = (do
      let ov ← holding [v] (eval (.Name x px) X.env)
      let iv ← holding [v, ov] (eval ki X.env)
      standAt ps
      holding [v, ov, iv] (setItem ov iv v)
      release [v, ov, iv] []) := by intro _; rfl)
    (hs : swapsWithSole [.Subscript (.Name x px) ki ps] e pos.line X.env = pure false := by rfl) (hw : swappedStores [.Subscript (.Name x px) ki ps] e X.env = pure none := by rfl)
    (h1 : (assignEach [.Subscript (.Name x px) ki ps] X.env).map (·.2) = [assign (.Subscript (.Name x px) ki ps) X.env] := by rfl) :
    PS X (.Assign [.Subscript (.Name x px) ki ps] e pos) (tS (wd X) E IO (mStore i mk mo)) := by
  refine ps_imp (ps_asg he (pg_sub (pe_var hN hv hd hcd) hk set_list ha) hs hw h1) fun D σ H q => ?_
  obtain ⟨F, S, st, A⟩ := ts_of q
  refine to_bind ck_s A fun w t F1 H1 Sv S1 st1 b1 r1 dj1 s1 g1 => ?_
  split at g1
  · rename_i ts0 e0
    obtain ⟨v, _, _, hv0, _⟩ := s1.take e0
    refine ⟨v, hv0, F1, st1, S1, s1, b1.fh, ?_⟩
    have dom1 := rep_dom t w Sv r1
    cases em : mk st1 with
    | no => rw [em] at g1; exact g1.elim
    | err x st2 =>
      rw [em] at g1
      exact FinE.frame dom1 dj1 (g1 σ (Pin.refl _ _))
    | ok d st2 =>
      rw [em] at g1
      intro u F2 H2 S2 b2 s2 du
      obtain ⟨o1, o2, o3⟩ := b2.off dom1 dj1
      have r2 := rep_carry t w Sv r1 b2.ff o1 o2
      have g2 := ck_s.sh (b2.frame (T := Sv)) g1
      simp only [R.bind_ok] at g2
      split at g2
      · rename_i k ts e2
        obtain ⟨v', S1', T, w1, w2, w3, w4, w5⟩ := s2.take e2
        rw [hv0] at w1
        cases w1
        subst w5
        obtain ⟨D', vs, S0, rfl, p1, p2, p3, p4, rfl⟩ := rep_open w2
        cases du
        cases ej : ixN ts.length k with
        | none => rw [ej] at g2; exact g2.elim
        | some j =>
          rw [ej] at g2
          simp only [lift_some, R.bind_ok] at g2
          refine ⟨D', vs, k, j, rfl, rfl, p1, by rw [p3.len]; exact ej, ?_⟩
          obtain ⟨S', k1, k2⟩ := reps_set r2 j p3 fun a x y => o3 a y (.inl (.inr x))
          have nD : ¬ S' D' := fun z => (k2 _ z).elim p4 fun z => o3 _ z (.inl (.inl rfl))
          have rw' := rep_write p2 k1 nD
          have nT : ∀ {x}, T x → x ≠ D' := fun {x} y z => w4 x (.inl z) y
          have hT : SR (wd X) F2 (upd H2 D' (.lst (vs.set j w))) σ (st2.set i none) T := w3.carry (.refl F2) (fun a o y h => by rw [upd_ne (nT y)]; exact h) fun a y => (w3.dom a y).2
          have hset := hT.put (i := i) hv0 (by simp [(List.getElem?_eq_some_iff.mp e2).1]) rw' fun a y z => y.elim (fun y => nT z y) fun y => (k2 a y).elim (fun y => w4 a (.inr y) z) fun y => o3 a y (.inr z)
          rw [List.set_set] at hset
          refine g2 σ F2 _ _ (Pin.refl _ _) ((Step.mut (p := D') b2.fh (.inr (.inl (.inl rfl))) p2).sub fun a y => ?_) hset
          rcases y with (y | y) | y
          · exact .inr (.inl (.inl y))
          · exact (k2 a y).elim (fun y => .inr (.inl (.inr y))) .inl
          · exact .inr (.inr y)
      · exact g2.elim
  · exact g1.elim
/-- x.pop(k) -/
def mPopAt (i : Nat) (mk : Sl → R PyData) : Sl → R OT := fun st => match st[i]? with
  | some (some (.nod .lst _)) => (mk st).bind fun d st => match d, st[i]? with
    | .int k, some (some (.nod .lst ts)) => if 0 ≤ k ∧ k < ts.length ∧ ts.length ≤ 100000 then (lift ts[k.toNat]? st).bind fun t st => .ok t (st.set i (some (.nod .lst (ts.eraseIdx k.toNat)))) else .no
    | _, _ => .no
  | _ => .no
theorem r_popAt (i : Nat) {x : Str} {px apos cpos : Pos} (ha : PE X e (tV (wd X) E mk)) (hN : X.N[i]? = some x := by rfl) (hv : Vis X.env.scope x := by first | exact Or.inl rfl | exact Or.inr (Or.inl rfl) | exact Or.inr (Or.inr rfl)) (hd : (x == ("__debug__" : Str)) = false := by decide)
    (hcd : (x == ("__classdict__" : Str)) = false := by decide)
    (hbase : attributeBase (.Name x px) "pop" X.env (eval (.Name x px) X.env) = eval (.Name x px) X.env := by rfl)
    (hfew : ((backTo cpos (starEach [e] X.env)).all (fun x => !x.1) && (backToKw cpos (keywordEach [] X.env)).all (fun x => x.1.isSome)
      && decide ([e].length + ([] : List Keyword).length + (if ([] : List Keyword).isEmpty then 0 else 1) < 30)) = true := by rfl)
    (hline : (apos.endLine == cpos.line) = true := by rfl) (hs : starEach [e] X.env = (false, eval e X.env) :: starEach [] X.env := by rfl) (hplain : (backTo cpos (starEach [] X.env)).any (·.1) = false := by rfl) :
    PE X (.Call (.Attribute (.Name x px) "pop" apos) [e] [] cpos) (tO (wd X) E (mPopAt i mk)) := by
  refine pe_imp (pe_bm PySem.F.plainAttrs_list PySem.F.slot_list_pop PySem.F.type_list_pop mt_popAt (pe_var hN hv hd hcd) (pa_cons ha pa_nil hs) hbase hfew hline hs hplain) fun σ H Q q => ?_
  obtain ⟨F, S, st, A⟩ := to_of q
  have g := A.g
  unfold mPopAt at g
  split at g
  · rename_i ts0 e0
    obtain ⟨v, S1, T, h1, h2, h3, h4, h5⟩ := A.sr.take e0
    obtain ⟨D0, vs0, S00, rfl, q1, _⟩ := rep_open h2
    refine ⟨_, h1, .inl ⟨rfl, _, SqL.of q1⟩, F, st, S, A.sr, A.le, ?_⟩
    cases em : mk st with
    | no => rw [em] at g; exact g.elim
    | err x st2 => rw [em] at g; exact g
    | ok d st2 =>
      rw [em] at g
      intro u F2 H2 S2 b2 s2 du
      have g2 := ck_o.sh b2 g
      simp only [R.bind_ok] at g2
      split at g2
      · rename_i k ts e2
        split at g2
        · rename_i hk
          cases du
          obtain ⟨v', S1', T', w1, w2, w3, w4, w5⟩ := s2.take e2
          rw [h1] at w1
          cases w1
          subst w5
          obtain ⟨D', vs, S0, ed, p1, p2, p3, p4, rfl⟩ := rep_open w2
          cases ed
          have hlt : k.toNat < ts.length := by omega
          have et : ts[k.toNat]? = some ts[k.toNat] := by simp [hlt]
          rw [et] at g2
          simp only [lift_some, R.bind_ok] at g2
          obtain ⟨w, Sa, Sb, k1, k2, k3, k4, k5⟩ := reps_take p3 et
          subst k5
          have hlv : vs.length = ts.length := p3.len
          refine ⟨D0, vs, k, k.toNat, w, rfl, rfl, p1, by omega, by omega, seqIndex_of hk.1 (by omega), k1, ?_⟩
          have nab : ∀ {x}, Sa x → x ≠ D0 := fun {x} y z => p4 (by rw [← z]; exact .inl y)
          have nT : ∀ {x}, T' x → x ≠ D0 := fun {x} y z => w4 x (.inl z) y
          have kp : ∀ {U : AS}, (∀ {x}, U x → x ≠ D0) → ∀ x o, U x → H2 x = some o → upd H2 D0 (.lst (vs.eraseIdx k.toNat)) x = some o := fun h x o u e => by rw [upd_ne (h u)]; exact e
          have rw' := rep_write p2 k3 fun z => p4 (.inr z)
          have rw2 := rep_carry _ w Sa k2 (.refl F2) (kp nab) fun a y => (rep_dom _ _ _ k2 a y).2
          have hT : SR (wd X) F2 (upd H2 D0 (.lst (vs.eraseIdx k.toNat))) σ (st2.set i none) T' := w3.carry (.refl F2) (kp nT) fun a y => (w3.dom a y).2
          have hset := hT.put (i := i) h1 (by simp [(List.getElem?_eq_some_iff.mp e2).1]) rw' fun a y z => y.elim (fun y => nT z y) fun y => w4 a (.inr (.inr y)) z
          rw [List.set_set] at hset
          refine g2 w F2 _ Sa _ ((Step.mut (p := D0) b2.fh (.inl (.inl rfl)) p2).sub fun a y => ?_) hset rw2 fun a y z => z.elim (fun z => z.elim (fun z => nab y z) fun z => k4 a y z) fun z => w4 a (.inr (.inl y)) z
          rcases y with y | (y | y) | y
          · exact .inl (.inr (.inl y))
          · exact .inl (.inl y)
          · exact .inl (.inr (.inr y))
          · exact .inr y
        · exact g2.elim
      · exact g2.elim
  · exact g.elim

/-! ### slices of lists, tuples, texts -/
def cutD (xs : List PyData) (lo hi : Option Int) : List PyData := (xs.drop (HT.sIx xs.length 0 lo)).take (HT.sIx xs.length xs.length hi - HT.sIx xs.length 0 lo)
def mPart (m : Sl → R PyData) : Sl → R (Option Int) := fun st => (m st).bind fun d st => match d with
  | .int i => .ok (some i) st
  | _ => .no
def mNoPart : Sl → R (Option Int) := fun st => .ok none st
/-- of a list: a new own list -/
def mSlL (m : Sl → R PyData) (ml mh : Sl → R (Option Int)) : Sl → R OT := fun st => (m st).bind fun d st => (ml st).bind fun lo st => (mh st).bind fun hi st => match d with
  | .list xs => .ok (.nod .lst ((cutD xs lo hi).map .frz)) st
  | _ => .no
/-- of a tuple -/
def mSlT (m : Sl → R PyData) (ml mh : Sl → R (Option Int)) : Sl → R PyData := fun st => (m st).bind fun d st => (ml st).bind fun lo st => (mh st).bind fun hi st => match d with
  | .tuple xs => .ok (.tuple (cutD xs lo hi)) st
  | _ => .no
def FinP (W : Wd) (E : XK) (σ : L2.St) (Q : Option Int → Hp → Prop) (F H : Hp) (S : AS) (r : R (Option Int)) : Prop :=
  match r with
  | .ok b st => ∀ F' H' S', Step F H S F' H' S' → SR W F' H' σ st S' → Q b H'
  | .err e st => FinE W E σ F H S e st
  | .no => False
def tP (W : Wd) (E : XK) (m : Sl → R (Option Int)) : TO := fun σ H Q => ∃ F st S, SR W F H σ st S ∧ Le F H ∧ FinP W E σ Q F H S (m st)
theorem tp_bind {W : Wd} {E : XK} {σ : L2.St} {F H : Hp} {S : AS} {st : Sl} {β : Type} {G : Hp → Hp → AS → R β → Prop} {m : Sl → R (Option Int)} {k : Option Int → Sl → R β} {Q : Option Int → Hp → Prop} (ck : CK W E σ G) (a : At W E σ G F H S st ((m st).bind k))
    (q : ∀ x F1 H1 S1 st1, Step F H S F1 H1 S1 → At W E σ G F1 H1 S1 st1 (k x st1) → Q x H1) : tP W E m σ H Q := by
  refine ⟨F, st, S, a.sr, a.le, ?_⟩
  have g := a.g
  cases e : m st with
  | ok x st1 =>
    rw [e] at g
    exact fun F1 H1 S1 b s => q x F1 H1 S1 st1 b ⟨s, b.fh, ck.sh b g⟩
  | err x st1 =>
    rw [e] at g
    exact ck.er g
  | no =>
    rw [e] at g
    exact ck.no g
theorem ck_p {W : Wd} {E : XK} {σ : L2.St} {Q : Option Int → Hp → Prop} : CK W E σ (FinP W E σ Q) := ⟨fun {F H S F1 H1 S1 r} a h => by
    cases r with
    | ok d st => exact fun F' H' S' b => h F' H' S' (a.trans b)
    | err e st => exact FinE.sh a h
    | no => exact h, fun h => h, fun h => h⟩
theorem po_imp {e : Option Expr} {t t' : TO} (h : PO X e t) (i : ∀ σ H Q, t' σ H Q → t σ H Q) : PO X e t' := ⟨fun pins s σ H Q I q => h.run pins s σ H Q I (i σ H Q q)⟩
theorem p_none : PO X none (tP (wd X) E mNoPart) := by
  refine po_imp po_none fun σ H Q q => ?_
  obtain ⟨F, st, S, a, b, c⟩ := q
  exact c F H S (.refl b) a
theorem p_some (h : PE X e (tV (wd X) E m)) : PO X (some e) (tP (wd X) E (mPart m)) := by
  refine po_imp (po_some h) fun σ H Q q => ?_
  obtain ⟨F, st, S, a, b, c⟩ := q
  refine tv_bind ck_p ⟨a, b, c⟩ fun v d F1 H1 S1 st1 b1 d1 A1 => ?_
  have g := A1.g
  cases d with
  | int i =>
    cases d1
    exact ⟨i, rfl, g F1 H1 S1 (.refl A1.le) A1.sr⟩
  | _ => exact g.elim
theorem Dts.cut {F : Hp} {vs : List V} {ds : List PyData} (h : Dts F vs ds) (lo hi : Option Int) : Dts F (cutV vs lo hi) (cutD ds lo hi) := by
  unfold cutV cutD
  rw [h.len]
  exact (h.drop _).take _
variable {ml mh : Sl → R (Option Int)} {lo hi : Option Expr} {p2 : Pos}
theorem r_slL (he : PE X e (tV (wd X) E m)) (hl : PO X lo (tP (wd X) E ml)) (hh : PO X hi (tP (wd X) E mh)) : PE X (.Subscript e (.Slice lo hi none p2) pos) (tO (wd X) E (mSlL m ml mh)) := by
  refine pe_imp (pe_slice sl_list he hl hh) fun σ H Q q => ?_
  obtain ⟨F, S, st, A⟩ := to_of q
  refine tv_bind ck_o A fun v d F1 H1 S1 st1 b1 d1 A1 => tp_bind ck_o A1 fun l F2 H2 S2 st2 b2 A2 => tp_bind ck_o A2 fun h F3 H3 S3 st3 b3 A3 => ?_
  cases d with
  | list xs =>
    cases (b2.ff.trans b3.ff).dt d1 with
    | lst h1 h2 => exact ⟨_, _, rfl, SqL.of (A3.le _ _ h1), fun p hp => A3.newL (h2.cut l h) hp⟩
  | _ => exact A3.g.elim
end
end Z

set_option maxHeartbeats 1000000
/-! Part 12: calls in short, walked things of either kind, set by a comprehension -/
namespace Z
open PySem PySem.Spec PyProof.Rows L2
variable [HK]

/-! ### lengths of argument lists -/
def MLen (m : Sl → R (List PyData)) (n : Nat) : Prop := ∀ st xs st', m st = .ok xs st' → xs.length = n
theorem ml_nil : MLen mNil 0 := fun st xs st' h => by cases h; rfl
theorem ml_cons {m : Sl → R PyData} {r : Sl → R (List PyData)} {n : Nat} (h : MLen r n) : MLen (mCons m r) (n + 1) := fun st xs st' e => by
  unfold mCons at e
  cases e1 : m st with
  | ok d st1 =>
    rw [e1] at e
    simp only [R.bind_ok] at e
    cases e2 : r st1 with
    | ok ds st2 =>
      rw [e2] at e
      cases e
      rw [List.length_cons, h _ _ _ e2]
    | err x st2 => rw [e2] at e; cases e
    | no => rw [e2] at e; cases e
  | err x st1 => rw [e1] at e; cases e
  | no => rw [e1] at e; cases e
section
variable {X : Cx} {E : XK} {IO : List Nat} {e : Expr} {es : List Expr} {ml mk : Sl → R (List PyData)} {pos p : Pos} {k n : Nat} {f : Addr} {fd : FuncData} {ps : List Str} {x : Str} {Fn : List OT → FR}
theorem q_call (Fo : FnOk X.prog X.w X.K X.mg X.base (L2.CX X.prog X.w) k f fd ps (spF (wd X) n [] Fn)) (hr : Room k X.A) (tk : Takes X fun c d _ H => E c d H) (hg : Gl X x) (hm : X.mg x = some (.ref f)) (hk : PySem.W.keepIn X.K (.ref f) = true) (hb : Binds X.K fd ps [])
    (hl : MLen ml n) (ha : PA X (e :: es) (tA (wd X) E ml)) (hdb : (x == ("__debug__" : Str)) = false := by decide) (he : starEach (e :: es) X.env = (false, eval e X.env) :: starEach es X.env := by rfl)
    (hpl : (backTo pos (starEach es X.env)).any (·.1) = false := by rfl) : PE X (.Call (.Name x p) (e :: es) [] pos) (tO (wd X) E (mCall Fn [] ml)) :=
  r_call (dvs := []) (ds := []) Fo hr tk hg hm hk hb .nil (fun _ => .nil) (fun vs xs F d st st' em => by rw [d.len, hl _ _ _ em]; rfl) ha hdb he hpl
theorem q_callL (i : Nat) {y : Str} {py : Pos} (Fo : FnOk X.prog X.w X.K X.mg X.base (L2.CX X.prog X.w) k f fd ps (spF (wd X) (n + 1) [0] Fn)) (hr : Room k X.A) (tk : Takes X fun c d _ H => E c d H) (hg : Gl X x) (hm : X.mg x = some (.ref f)) (hk : PySem.W.keepIn X.K (.ref f) = true) (hb : Binds X.K fd ps [])
    (hl : MLen ml n) (ha : PA X es (tA (wd X) E ml)) (hNi : X.N[i]? = some y := by rfl)
    (hv : Vis X.env.scope y := by first | exact Or.inl rfl | exact Or.inr (Or.inl rfl) | exact Or.inr (Or.inr rfl)) (hdy : (y == ("__debug__" : Str)) = false := by decide) (hcd : (y == ("__classdict__" : Str)) = false := by decide)
    (hdb : (x == ("__debug__" : Str)) = false := by decide) (hsn : starEach (.Name y py :: es) X.env = (false, eval (.Name y py) X.env) :: starEach es X.env := by rfl)
    (hpl : (backTo pos (starEach es X.env)).any (·.1) = false := by rfl) : PE X (.Call (.Name x p) (.Name y py :: es) [] pos) (tO (wd X) E (mCallL Fn i [] ml)) :=
  r_callL (dvs := []) (ds := []) i Fo hr tk hg hm hk hb .nil (fun _ => .nil) (fun vs xs F d st st' em => by rw [d.len, hl _ _ _ em]; rfl) ha hNi hv hdy hcd hdb hsn hpl
/-- f(args, k = v ..): the keywords' values behind the others -/
def mCallK2 (F : List OT → FR) (ml mk : Sl → R (List PyData)) : Sl → R OT := mCallK F (fun xs ys => xs ++ ys) ml mk
theorem q_callK {ks : List Str} {kws : List Keyword} {a b : Nat} (Fo : FnOk X.prog X.w X.K X.mg X.base (L2.CX X.prog X.w) k f fd ps (spF (wd X) (a + b) [] Fn)) (hr : Room k X.A) (tk : Takes X fun c d _ H => E c d H)
    (hg : Gl X x) (hm : X.mg x = some (.ref f)) (hk : PySem.W.keepIn X.K (.ref f) = true) (hb : KBn X.K fd ps a ks (fun us ws => us ++ ws) (fun vs zs => vs ++ zs)) (hl : MLen ml a) (hl2 : MLen mk ks.length) (hb2 : ks.length = b) (ha : PA X (e :: es) (tA (wd X) E ml)) (hkw : PK X kws (tA (wd X) E mk))
    (hall : (backToKw pos (keywordEach kws X.env)).all (·.1.isSome) = true := by rfl) (hks : (backToKw pos (keywordEach kws X.env)).filterMap (·.1) = ks := by rfl)
    (hdb : (x == ("__debug__" : Str)) = false := by decide) (he : starEach (e :: es) X.env = (false, eval e X.env) :: starEach es X.env := by rfl)
    (hpl : ((backTo pos (starEach (e :: es) X.env)).any (·.1) || (backToKw pos (keywordEach kws X.env)).any (·.1.isNone)) = false := by rfl) :
    PE X (.Call (.Name x p) (e :: es) kws pos) (tO (wd X) E (mCallK2 Fn ml mk)) := by
  refine pe_imp (pe_callN Fo hr hg hm hk hb (passes_call tk fun _ _ _ _ h => h) ha hkw hall hks hdb he hpl) fun σ H Q q => ?_
  obtain ⟨F, S, st, A⟩ := to_of q
  refine ⟨F, st, S, A.sr, A.le, ?_⟩
  have g := A.g
  unfold mCallK2 mCallK at g
  cases em : ml st with
  | no => rw [em] at g; exact g.elim
  | err ex st1 => rw [em] at g; exact g
  | ok xs st1 =>
    rw [em] at g
    intro vs F1 H1 S1 b s d
    have g1 := ck_o.sh b g
    refine ⟨F1, st1, S1, s, b.fh, ?_⟩
    simp only [R.bind_ok] at g1
    cases ek : mk st1 with
    | no => rw [ek] at g1; exact g1.elim
    | err ex st2 => rw [ek] at g1; exact g1
    | ok ys st2 =>
      rw [ek] at g1
      intro ws F2 H2 S2 b2 s2 d2
      have l1 : vs.length = a := by rw [d.len]; exact hl _ _ _ em
      have l2 : ws.length = ks.length := by rw [d2.len]; exact hl2 _ _ _ ek
      exact ⟨l1, l2, call_end ⟨s2, b2.fh, ck_o.sh b2 g1⟩ ((b2.ff.dts d).app d2) (by rw [List.length_append, l1, l2, hb2])⟩
end
theorem Fun.kbn {K : PySem.W.Frag} {x qual : Str} {s : Stmt} {f : Addr} {fd : FuncData} {ps ks : List Str} {n : Nat} (F : L2.Fun K x qual s f fd)
    (h : ∀ (kV doc pm : Value) (an : Option Addr) (cdv ct : Value) (us ws : List Value), us.length = n → ws.length = ks.length → bindArgs (PySem.W.fnOf x qual (defArgs s) (defBody s) (defScope s) .none kV doc pm an cdv ct) ⟨us, ks.zip ws⟩ = pure (ps.zip (us ++ ws))) :
    KBn K fd ps n ks (fun us ws => us ++ ws) (fun vs zs => vs ++ zs) := by
  obtain ⟨oc, od, kV, doc, pm, an, cdv, ct, osl, rfl, lk, hcd⟩ := F.ex
  exact ⟨fun s us ws _ l1 l2 => .of_eq (h kV doc pm an cdv ct us ws l1 l2), fun r1 r2 => r1.append r2⟩

/-! ### walked things of either kind -/
theorem pe_or {X : Cx} {e : Expr} {t1 t2 : TE} (h1 : PE X e t1) (h2 : PE X e t2) : PE X e (fun σ H Q => t1 σ H Q ∨ t2 σ H Q) := ⟨fun pins s σ H Q I q => q.elim (h1.run pins s σ H Q I) (h2.run pins s σ H Q I)⟩
theorem pi_or {X : Cx} {tg e : Expr} {t1 t2 : TI} (h1 : PI X tg e t1) (h2 : PI X tg e t2) : PI X tg e (fun σ H Q => t1 σ H Q ∨ t2 σ H Q) := ⟨fun pins s σ H R I q => q.elim (h1.run pins s σ H R I) (h2.run pins s σ H R I)⟩
def itA : PyData → Option (List PyData)
  | .list ds => some ds
  | .tuple ds => some ds
  | _ => none
def mIt (m : Sl → R PyData) : Sl → R (List PyData) := fun st => (m st).bind fun d st => lift (itA d) st
def mEnumA (m : Sl → R (List PyData)) : Sl → R (List PyData) := fun st => (m st).bind fun ds st => match ds with
  | [.tuple xs] => .ok (enumD xs) st
  | [.list xs] => .ok (enumD xs) st
  | _ => .no
def mZipA (m : Sl → R (List PyData)) : Sl → R (List PyData) := fun st => (m st).bind fun ds st => match ds with
  | [x, y] => match itA x, itA y with
    | some xs, some ys => .ok (zipD xs ys) st
    | _, _ => .no
  | _ => .no
theorem ti_no {W : Wd} {E : XK} {σ : L2.St} {H : Hp} {m m' : Sl → R (List PyData)} {Q : It → Hp → Prop} (h : tI W E m σ H Q) (e : ∀ st, m st = .no ∨ m' st = m st) : tI W E m' σ H Q := by
  obtain ⟨F, st, S, a, b, c⟩ := h
  rcases e st with e | e
  · rw [e] at c; exact c.elim
  · exact ⟨F, st, S, a, b, by rw [e]; exact c⟩
theorem ti_any {W : Wd} {E : XK} {σ : L2.St} {H : Hp} {m m1 m2 : Sl → R (List PyData)} {Q : It → Hp → Prop} (h : tI W E m σ H Q) (e : ∀ st, m st = .no ∨ m1 st = m st ∨ m2 st = m st) : tI W E m1 σ H Q ∨ tI W E m2 σ H Q := by
  obtain ⟨F, st, S, a, b, c⟩ := h
  rcases e st with e | e | e
  · rw [e] at c; exact c.elim
  · exact .inl ⟨F, st, S, a, b, by rw [e]; exact c⟩
  · exact .inr ⟨F, st, S, a, b, by rw [e]; exact c⟩
section
variable {X : Cx} {E : XK} {IO : List Nat} {e e2 tg : Expr} {m : Sl → R PyData} {ml : Sl → R (List PyData)} {p pos tpos : Pos} {elts : List Expr} {kk : Nat}
theorem i_seq (h : PE X e (tV (wd X) E m)) : PI X tg e (tI (wd X) E (mIt m)) := by
  refine pi_imp (pi_or (i_list h) (i_tup h)) fun σ H Q q => ti_any q fun st => ?_
  unfold mIt mItL mItT
  cases m st with
  | ok d st1 => cases d <;> first | exact .inl rfl | exact .inr (.inl rfl) | exact .inr (.inr rfl)
  | err x st1 => exact .inr (.inl rfl)
  | no => exact .inl rfl
theorem i_enumA (hg : Gl X "enumerate") (hm : X.mg "enumerate" = none) (ha : PA X [e] (tA (wd X) E ml)) (hs : starEach [e] X.env = [(false, eval e X.env)] := by rfl) :
    PI X (.Tuple elts kk tpos) (.Call (.Name "enumerate" p) [e] [] pos) (tI (wd X) E (mEnumA ml)) := by
  refine pi_imp (pi_or (i_enum true hg hm ha hs) (i_enum false hg hm ha hs)) fun σ H Q q => ti_any q fun st => ?_
  unfold mEnumA mEnum
  cases ml st with
  | ok d st1 =>
    match d with
    | [] => exact .inl rfl
    | [x] => cases x <;> first | exact .inl rfl | exact .inr (.inl rfl) | exact .inr (.inr rfl)
    | x :: _ :: _ => cases x <;> exact .inl rfl
  | err x st1 => exact .inr (.inl rfl)
  | no => exact .inl rfl
theorem i_zipA (hg : Gl X "zip") (hm : X.mg "zip" = none) (ha : PA X [e, e2] (tA (wd X) E ml)) (hs : starEach [e, e2] X.env = (false, eval e X.env) :: starEach [e2] X.env := by rfl) (hpl : (backTo pos (starEach [e2] X.env)).any (·.1) = false := by rfl) :
    PI X (.Tuple elts kk tpos) (.Call (.Name "zip" p) [e, e2] [] pos) (tI (wd X) E (mZipA ml)) := by
  refine pi_imp (pi_or (pi_or (i_zip true true hg hm ha hs hpl) (i_zip true false hg hm ha hs hpl)) (pi_or (i_zip false true hg hm ha hs hpl) (i_zip false false hg hm ha hs hpl))) fun σ H Q q => ?_
  obtain ⟨F, st, S, a, b, c⟩ := q
  have key : ∀ k j, mZip k j ml st = mZipA ml st → tI (wd X) E (mZip k j ml) σ H Q := fun k j e => ⟨F, st, S, a, b, by rw [e]; exact c⟩
  have key2 : mZipA ml st = .no ∨ mZip true true ml st = mZipA ml st ∨ mZip true false ml st = mZipA ml st ∨ mZip false true ml st = mZipA ml st ∨ mZip false false ml st = mZipA ml st := by
    unfold mZipA mZip
    cases ml st with
    | ok d st1 =>
      match d with
      | [] => exact .inl rfl
      | [_] => exact .inl rfl
      | [x, y] => cases x <;> first | exact .inl rfl | (cases y <;> first | exact .inl rfl | exact .inr (.inl rfl) | exact .inr (.inr (.inl rfl)) | exact .inr (.inr (.inr (.inl rfl))) | exact .inr (.inr (.inr (.inr rfl))))
      | _ :: _ :: _ :: _ => exact .inl rfl
    | err x st1 => exact .inr (.inl rfl)
    | no => exact .inl rfl
  rcases key2 with e | e | e | e | e
  · rw [e] at c; exact c.elim
  · exact .inl (.inl (key _ _ e))
  · exact .inl (.inr (key _ _ e))
  · exact .inr (.inl (key _ _ e))
  · exact .inr (.inr (key _ _ e))
end

/-! ### name = [..] on one line, the list frozen at once -/
section
variable {X : Cx} {E : XK} {IO : List Nat} {elt tg iter : Expr} {ifs : List Expr} {mi : Sl → R (List PyData)} {mc : Sl → R Bool} {me : Sl → R OT} {g : TG} {f : OT → Sl → Option Sl} {pos : Pos}
theorem frz_run {mo : Sl → R OT} {σ : L2.St} {H : Hp} {Q : VK} (q : tO (wd X) E (mUp (mFrz mo)) σ H Q) : tO (wd X) E mo σ H Q := by
  obtain ⟨F, S, st, A⟩ := to_of q
  have A' : At (wd X) E σ (FinO (wd X) E σ Q) F H S st ((mo st).bind fun t st => (lift (toD t) st).bind fun d st => .ok (.frz d) st) := by
    refine ⟨A.sr, A.le, ?_⟩
    have g := A.g
    unfold mUp mFrz at g
    cases e : mo st with
    | ok t st1 => rw [e] at g; simp only [R.bind_ok] at g ⊢; exact g
    | err x st1 => rw [e] at g; exact g
    | no => rw [e] at g; exact g
  refine to_bind ck_o A' fun v x F1 H1 Sv S1 st1 b r dj s g => ?_
  cases e : toD x with
  | none => rw [e] at g; exact g.elim
  | some d =>
    rw [e] at g
    have hd := rep_dom _ _ _ r
    have fz : Step F1 H1 (Uu Sv S1) (froze F1 H1 Sv) H1 S1 := Step.freeze b.fh hd
    have sr : SR (wd X) (froze F1 H1 Sv) H1 σ st1 S1 := s.carry fz.ff (fun a o _ h => h) fun a t => by
      rw [froze_out fun s => dj a s t]
      exact (s.dom a t).2
    refine g v _ H1 Em S1 ?_ sr (.frz (rep_dp _ _ _ d r e fz.ff fun a s => froze_in s)) (em_dj S1)
    rw [em_un]
    exact fz
theorem s_setLcF {i : Nat} {y : Str} {py : Pos} {scope : Scope} {own : List (Str × Nat)} {spos : Pos} (hc : X.calm = true) (hN : X.N.Nodup) (hy : X.N[i]? = some y) (hyl : X.env.scope.names.lookup y = some .local) (hi1 : i ∉ IO)
    (hsw : swapsWith (.ListComp elt [⟨tg, iter, ifs, 0⟩] scope pos) (some (.Name y py)) spos.line X.env = pure true) (hi : PI X tg iter (tI (wd X) E mi)) (ok : BlkOk X.N X.env.scope scope own) (hm : TgMo g) (hin : TgIn (own.map (·.2)) g) (ht : TgOk (wd X) IO g f) (nd : (own.map (·.2)).Nodup)
    (hg : ∀ (s : Shared) (H : Hp) (C : Addr) (cl : List (Str × Addr)) (fp : List Addr), PG (X.blk s H scope (compEnvC scope cl C X.env) fp) tg g) (htt : ∀ (s : Shared) (H : Hp) (C : Addr) (cl : List (Str × Addr)) (fp : List Addr), PTs (X.blk s H scope (compEnvC scope cl C X.env) fp) ifs (tT (wd X) E0 mc))
    (he : ∀ (s : Shared) (H : Hp) (C : Addr) (cl : List (Str × Addr)) (fp : List Addr), PE (X.blk s H scope (compEnvC scope cl C X.env) fp) elt (tO (wd X) E0 me)) (hs : ∀ x, foldedSetIterable iter X.env x = pure x := by intro _; rfl) :
    PS X (.Assign [.Name y py] (.ListComp elt [⟨tg, iter, ifs, 0⟩] scope pos) spos) (tS (wd X) E IO (mAsg (mUp (mFrz (mLc (own.map (·.2)) mi f mc me))) (fNm i))) := by
  refine ps_imp (ps_setLc hc hN hy hyl hsw hi ok hg htt he hs) fun D σ H q => ?_
  obtain ⟨F, S, st, A⟩ := ts_of q
  refine lc_run hm hin ht nd (frz_run (to_bind ck_s A fun v t F1 H1 Sv S1 st1 b1 r1 dj1 s1 g1 => ?_))
  cases ef : fNm i t st1 with
  | none => rw [ef] at g1; exact g1.elim
  | some st2 =>
    rw [ef] at g1
    exact tg_name i hi1 b1.fh r1 s1 dj1 ef fun σ' T' p s' u => g1 σ' F1 H1 T' p ((Step.refl b1.fh).sub u) s'
theorem r_one1 {c : Expr} {X : Cx} {mc : Sl → R Bool} (h : PT X c (tT (wd X) E0 mc)) : PTs X [c] (tT (wd X) E0 mc) := pts_one h
end
end Z

set_option maxHeartbeats 1000000
/-! Part 13: the built-ins in short -/
namespace Z
open PySem PySem.Spec PyProof.Rows L2
variable [HK]
section
variable {X : Cx} {E : XK} {e : Expr} {es : List Expr} {ml : Sl → R (List PyData)} {pos p : Pos}
theorem n_len (hK : X.K = HK.K) (hm : X.mg "len" = none) (ha : PA X (e :: es) (tA (wd X) E ml)) (hg : Gl X "len" := by rfl) (he : starEach (e :: es) X.env = (false, eval e X.env) :: starEach es X.env := by rfl) (hpl : (backTo pos (starEach es X.env)).any (·.1) = false := by rfl) :
    PE X (.Call (.Name "len" p) (e :: es) [] pos) (tV (wd X) E (mB pLen ml)) := r_callB call_len (ok_len hK) hg hm (by decide +kernel) ha (by decide) (by decide) he hpl
theorem n_min (hc : X.calm = true) (hm : X.mg "min" = none) (ha : PA X (e :: es) (tA (wd X) E ml)) (hg : Gl X "min" := by rfl) (he : starEach (e :: es) X.env = (false, eval e X.env) :: starEach es X.env := by rfl) (hpl : (backTo pos (starEach es X.env)).any (·.1) = false := by rfl) :
    PE X (.Call (.Name "min" p) (e :: es) [] pos) (tV (wd X) E (mB pMin ml)) := r_callB (ok_min hc).1 (ok_min hc).2 hg hm (by decide +kernel) ha (by decide) (by decide) he hpl
theorem n_max (hc : X.calm = true) (hm : X.mg "max" = none) (ha : PA X (e :: es) (tA (wd X) E ml)) (hg : Gl X "max" := by rfl) (he : starEach (e :: es) X.env = (false, eval e X.env) :: starEach es X.env := by rfl) (hpl : (backTo pos (starEach es X.env)).any (·.1) = false := by rfl) :
    PE X (.Call (.Name "max" p) (e :: es) [] pos) (tV (wd X) E (mB pMax ml)) := r_callB (ok_max hc).1 (ok_max hc).2 hg hm (by decide +kernel) ha (by decide) (by decide) he hpl
theorem n_sum (hc : X.calm = true) (hm : X.mg "sum" = none) (ha : PA X (e :: es) (tA (wd X) E ml)) (hg : Gl X "sum" := by rfl) (he : starEach (e :: es) X.env = (false, eval e X.env) :: starEach es X.env := by rfl) (hpl : (backTo pos (starEach es X.env)).any (·.1) = false := by rfl) :
    PE X (.Call (.Name "sum" p) (e :: es) [] pos) (tV (wd X) E (mB pSum ml)) := r_callB (cr_sum hc) ok_sum hg hm (by decide +kernel) ha (by decide) (by decide) he hpl
theorem n_sorted (hm : X.mg "sorted" = none) (ha : PA X (e :: es) (tA (wd X) E ml)) (hg : Gl X "sorted" := by rfl) (he : starEach (e :: es) X.env = (false, eval e X.env) :: starEach es X.env := by rfl) (hpl : (backTo pos (starEach es X.env)).any (·.1) = false := by rfl) :
    PE X (.Call (.Name "sorted" p) (e :: es) [] pos) (tO (wd X) E (mBL pSorted ml)) := r_callBL cr_sortedI ok_sorted hg hm (by decide +kernel) ha (by decide) (by decide) he hpl
theorem n_tuple (hm : X.mg "tuple" = none) (ha : PA X (e :: es) (tA (wd X) E ml)) (hg : Gl X "tuple" := by rfl) (he : starEach (e :: es) X.env = (false, eval e X.env) :: starEach es X.env := by rfl) (hpl : (backTo pos (starEach es X.env)).any (·.1) = false := by rfl) :
    PE X (.Call (.Name "tuple" p) (e :: es) [] pos) (tV (wd X) E (mB pTuple ml)) := r_callTy call_tuple_of ok_tuple hg hm (by decide +kernel) ha (by decide) (by decide) he hpl
theorem n_list (hm : X.mg "list" = none) (ha : PA X (e :: es) (tA (wd X) E ml)) (hg : Gl X "list" := by rfl) (he : starEach (e :: es) X.env = (false, eval e X.env) :: starEach es X.env := by rfl) (hpl : (backTo pos (starEach es X.env)).any (·.1) = false := by rfl) :
    PE X (.Call (.Name "list" p) (e :: es) [] pos) (tO (wd X) E (mBL pList ml)) := r_callTyL call_list_of ok_list hg hm (by decide +kernel) ha (by decide) (by decide) he hpl
theorem n_int (hm : X.mg "int" = none) (ha : PA X (e :: es) (tA (wd X) E ml)) (hg : Gl X "int" := by rfl) (he : starEach (e :: es) X.env = (false, eval e X.env) :: starEach es X.env := by rfl) (hpl : (backTo pos (starEach es X.env)).any (·.1) = false := by rfl) :
    PE X (.Call (.Name "int" p) (e :: es) [] pos) (tV (wd X) E (mB pInt ml)) := r_callTy call_int1 ok_int hg hm (by decide +kernel) ha (by decide) (by decide) he hpl
theorem n_all (hc : X.calm = true) (hm : X.mg "all" = none) (ha : PA X (e :: es) (tA (wd X) E ml)) (hg : Gl X "all" := by rfl) (he : starEach (e :: es) X.env = (false, eval e X.env) :: starEach es X.env := by rfl) (hpl : (backTo pos (starEach es X.env)).any (·.1) = false := by rfl) :
    PE X (.Call (.Name "all" p) (e :: es) [] pos) (tV (wd X) E (mB pAll ml)) := r_callB (cr_all hc) ok_all hg hm (by decide +kernel) ha (by decide) (by decide) he hpl
theorem n_any (hc : X.calm = true) (hm : X.mg "any" = none) (ha : PA X (e :: es) (tA (wd X) E ml)) (hg : Gl X "any" := by rfl) (he : starEach (e :: es) X.env = (false, eval e X.env) :: starEach es X.env := by rfl) (hpl : (backTo pos (starEach es X.env)).any (·.1) = false := by rfl) :
    PE X (.Call (.Name "any" p) (e :: es) [] pos) (tV (wd X) E (mB pAny ml)) := r_callB (cr_any hc) ok_any hg hm (by decide +kernel) ha (by decide) (by decide) he hpl
end
end Z

set_option maxHeartbeats 1000000
/-! Part 14: the bottom of a recursion; slices of either kind -/
namespace Z
open PySem PySem.Spec PyProof.Rows L2
variable [HK]
/-- nothing is promised -/
theorem fn_no {P : Program} {w : World} {K : PySem.W.Frag} {mg : Str → Option Value} {base : Heap} {x qual : Str} {s : Stmt} {f : Addr} {fd : FuncData} {N ps : List Str} {k n : Nat} {io : List Nat} (F : Fun K x qual s f fd) (S : FnScope N ps (defScope s)) :
    FnOk P w K mg base (L2.CX P w) k f fd ps (spF ⟨K, mg⟩ n io fun _ => .no) where
  len := fun vs H Q E h => by
    obtain ⟨_, _, _, _, _, _, z⟩ := h
    exact z.elim
  run := fun A outer s H args us vs Q E hr env b r h => by
    obtain ⟨_, _, _, _, _, _, z⟩ := h
    exact z.elim
theorem blk_of {N : List Str} {sc scope : Scope} {own : List (Str × Nat)} (h : decide (scope.kind = .function ∧ (∀ y ∈ scope.names, scope.names.lookup y.1 = some y.2) ∧ (∀ p ∈ own, N[p.2]? = some p.1) ∧ (∀ y ∈ scope.names, y.2 = .free → sc.names.lookup y.1 = some .cell ∨ sc.names.lookup y.1 = some .free) ∧
    (∀ y ∈ scope.names, y.2 = .local ∨ y.2 = .cell → y.1 ∈ own.map (·.1) ∨ y.1 ∉ N)) = true) : BlkOk N sc scope own :=
  let ⟨a, b, c, d, e⟩ := of_decide_eq_true h
  ⟨a, b, c, d, e⟩
end Z

set_option maxHeartbeats 1000000
/-! Part 15: the law's own promise -/
namespace Z
open PySem PySem.Spec PyProof.Rows L2
def scrD (ns : List Int) : PyData := .dict (ns.map fun i => (.int i, .none))
def spLaw (K : PySem.W.Frag) : Sp := fun vs H Q _ => ∃ (a : Addr) (ns : List Int), vs = [.ref a] ∧ SqL K H a (ns.map V.int) ∧ ns.length ≤ 63 ∧ ∀ H', Q (.bl true) H'
theorem sp_law [HK] {mg : Str → Option Value} {F : List OT → FR} (h : ∀ ns : List Int, ns.length ≤ 63 → F [.frz (scrD ns)] = .ok (.frz (.bool true)) []) (vs : List V) (H : Hp) (Q : VK) (E : XK) (s : spLaw HK.K vs H Q E) : spF ⟨HK.K, mg⟩ 1 [] F vs H Q E := by
  obtain ⟨a, ns, rfl, hS, hl, hQ⟩ := s
  refine ⟨rfl, H, [.frz (scrD ns)], Em, ?_, .refl H, ?_⟩
  · have := Reps.cons (W := ⟨HK.K, mg⟩) (H := H) (.frz (Dt.scr ns hS)) .nil (dj_em Em)
    rw [un_em] at this
    exact this
  · rw [h ns hl]
    intro v F' H' Sv Sio b r k dj
    cases r with
    | frz d =>
      cases d
      exact hQ H'
theorem walk_law {k : Nat} {x : Str} {l : PySem.W.OpenLaw} {q : Program} {loose : List Str} {XP : (Str → Option Value) → Heap → Prop} {YP : World → Heap → Prop} {d : DefRec} {K : Params → PySem.W.Frag} (hr : Room k callerA) (hn : l.most = some 63) (hdf : d.params.defaults = [])
    (hY : ∀ (w : World) (h : Heap), YP w h → (K w.params).In h)
    (F : ∀ (w : World) (mg : Str → Option Value) (fa : Addr) (h : Heap), (K w.params).In h → h.Ns mainGlobals mg → mg d.name = some (.ref fa) →
      ∃ fd : FuncData, (∀ (s : Shared) (u : Value), BindsTo s fd ⟨[u], []⟩ [(x, u)]) ∧ ∀ base : Heap, (K w.params).In base → base.Ns mainGlobals mg → FnOk l.prog w (K w.params) mg base (L2.CX l.prog w) k fa fd [x] (spLaw (K w.params))) :
    PySem.W.WalkO q loose XP YP l.row.toRowW d [] (fun f vs => PySem.call f vs) :=
  L2.walk_of (n := 63) (k := k) (x := x) (CX := fun w => L2.CX l.prog w) (sp := fun w => spLaw (K w.params)) hn (by decide) hdf hr hY F (fun _ _ a ns hl _ hS => ⟨a, ns, rfl, hS, hl, fun _ => rfl⟩) fun _ _ _ _ _ z => by
    obtain ⟨_, _, _, _, _, _, _, _, _, _, _, _, z⟩ := z
    exact z
end Z

set_option maxHeartbeats 1000000
/-! Part 16: reckoning with denotations: each word applied to slots; what follows has a name of its own, so that it stands still until its turn -/
namespace Z
open PySem L2
/-- the same, but not to be looked into -/
theorem shut_ex {α : Type} (a : α) : ∃ b, b = a := ⟨a, rfl⟩
noncomputable def shut {α : Type} (a : α) : α := Classical.choose (shut_ex a)
theorem shut_eq {α : Type} (a : α) : shut a = a := Classical.choose_spec (shut_ex a)
/-- lengths that are looked at -/
def Fit (n : Nat) : Prop := n ≤ 100000
instance (n : Nat) : Decidable (Fit n) := inferInstanceAs (Decidable (n ≤ 100000))
def FitS (n : Nat) : Prop := n < 100000
instance (n : Nat) : Decidable (FitS n) := inferInstanceAs (Decidable (n < 100000))
def FitR (n : Int) : Prop := -1000000 ≤ n ∧ n ≤ 1000000
instance (n : Int) : Decidable (FitR n) := inferInstanceAs (Decidable (-1000000 ≤ n ∧ n ≤ 1000000))
def FitM (i j : Int) : Prop := (-(2 ^ 64) < i ∧ i < 2 ^ 64) ∨ (-(2 ^ 64) < j ∧ j < 2 ^ 64)
instance (i j : Int) : Decidable (FitM i j) := inferInstanceAs (Decidable ((-(2 ^ 64) < i ∧ i < 2 ^ 64) ∨ (-(2 ^ 64) < j ∧ j < 2 ^ 64)))
def FitD (j : Int) : Prop := 0 < j ∧ j < 1073741824
instance (j : Int) : Decidable (FitD j) := inferInstanceAs (Decidable (0 < j ∧ j < 1073741824))
def FitR2 (a b : Int) : Prop := -1000000 ≤ a ∧ a ≤ 1000000 ∧ -1000000 ≤ b ∧ b ≤ 1000000
instance (a b : Int) : Decidable (FitR2 a b) := inferInstanceAs (Decidable (-1000000 ≤ a ∧ a ≤ 1000000 ∧ -1000000 ≤ b ∧ b ≤ 1000000))
def FitP (k : Int) (n : Nat) : Prop := -100000 ≤ k ∧ k ≤ 100000 ∧ n ≤ 100000
instance (k : Int) (n : Nat) : Decidable (FitP k n) := inferInstanceAs (Decidable (-100000 ≤ k ∧ k ≤ 100000 ∧ n ≤ 100000))
theorem fitR2 {a b : Int} (h : -10000 ≤ a) (h2 : a ≤ 10000) (h3 : -10000 ≤ b) (h4 : b ≤ 10000) : FitR2 a b := ⟨Int.le_trans (by decide) h, Int.le_trans h2 (by decide), Int.le_trans (by decide) h3, Int.le_trans h4 (by decide)⟩
theorem fitP {k : Int} {n : Nat} (h : -10000 ≤ k) (h2 : k ≤ 10000) (h3 : n ≤ 10000) : FitP k n := ⟨Int.le_trans (by decide) h, Int.le_trans h2 (by decide), Nat.le_trans h3 (by decide)⟩
theorem fit {n : Nat} (h : n ≤ 10000) : Fit n := Nat.le_trans h (by decide)
theorem fitS {n : Nat} (h : n ≤ 10000) : FitS n := Nat.lt_of_le_of_lt h (by decide)
theorem fitR {n : Int} (h : -10000 ≤ n) (h2 : n ≤ 10000) : FitR n := ⟨Int.le_trans (by decide) h, Int.le_trans h2 (by decide)⟩
theorem fitMr {i j : Int} (h : -1000000000 ≤ j) (h2 : j ≤ 1000000000) : FitM i j := .inr ⟨Int.lt_of_lt_of_le (by decide) h, Int.lt_of_le_of_lt h2 (by decide)⟩
theorem fitMl {i j : Int} (h : -1000000000 ≤ i) (h2 : i ≤ 1000000000) : FitM i j := .inl ⟨Int.lt_of_lt_of_le (by decide) h, Int.lt_of_le_of_lt h2 (by decide)⟩
theorem fitD {j : Int} (h : 0 < j) (h2 : j ≤ 1000000000) : FitD j := ⟨h, Int.lt_of_le_of_lt h2 (by decide)⟩
@[simp] theorem fit_0 : Fit 0 := by decide
@[simp] theorem fit_1 : Fit 1 := by decide
@[simp] theorem fit_2 : Fit 2 := by decide
@[simp] theorem fit_3 : Fit 3 := by decide
@[simp] theorem fit_4 : Fit 4 := by decide
@[simp] theorem fit_5 : Fit 5 := by decide
@[simp] theorem fit_6 : Fit 6 := by decide
@[simp] theorem fit_7 : Fit 7 := by decide
@[simp] theorem fit_8 : Fit 8 := by decide
@[simp] theorem fit_9 : Fit 9 := by decide
@[simp] theorem fit_10 : Fit 10 := by decide
@[simp] theorem fitS_0 : FitS 0 := by decide
@[simp] theorem fitM_48271 (i : Int) : FitM i 48271 := fitMr (by decide) (by decide)
@[simp] theorem fitD_2 : FitD 2 := by decide
@[simp] theorem fitD_3 : FitD 3 := by decide
@[simp] theorem fitD_4 : FitD 4 := by decide
@[simp] theorem fitD_5 : FitD 5 := by decide
@[simp] theorem fitD_7 : FitD 7 := by decide
@[simp] theorem lift_s {α : Type} (a : α) (st : Sl) : lift (some a) st = .ok a st := rfl
@[simp] theorem lift_n {α : Type} (st : Sl) : lift (none : Option α) st = .no := rfl
def frK (st : Sl) (r : FR) : R OT := match r with
  | .ok t [] => .ok t st
  | .err e [] => .err e st
  | _ => .no
def frL (i : Nat) (st : Sl) (r : FR) : R OT := match r with
  | .ok t [t1] => .ok t (st.set i (some t1))
  | .err e [t1] => .err e (st.set i (some t1))
  | _ => .no
@[simp] theorem frK_ok (st : Sl) (t : OT) : frK st (.ok t []) = .ok t st := rfl
@[simp] theorem frL_ok (i : Nat) (st : Sl) (t t1 : OT) : frL i st (.ok t [t1]) = .ok t (st.set i (some t1)) := rfl
def kFrz : OT → Sl → R PyData := fun t st => lift (toD t) st
@[simp] theorem kFrz_ap (t : OT) (st : Sl) : kFrz  t st = lift (toD t) st := rfl
def kUp : PyData → Sl → R OT := fun d st => .ok (.frz d) st
@[simp] theorem kUp_ap (d : PyData) (st : Sl) : kUp  d st = .ok (.frz d) st := rfl
def kLift {α β : Type} (u : α → Option β) : α → Sl → R β := fun x st => lift (u x) st
@[simp] theorem kLift_ap {α β : Type} (u : α → Option β) (x : α) (st : Sl) : kLift u x st = lift (u x) st := rfl
def kBin (f : PyData → PyData → Option PyData) (mb : Sl → R PyData) : PyData → Sl → R PyData := fun x st => (mb st).bind (kLift (f x))
@[simp] theorem kBin_ap (f : PyData → PyData → Option PyData) (mb : Sl → R PyData) (x : PyData) (st : Sl) : kBin f mb x st = (mb st).bind (kLift (f x)) := rfl
def kAndT (mu : Sl → R Bool) : Bool → Sl → R Bool := fun b st => if b then mu st else .ok false st
@[simp] theorem kAndT_ap (mu : Sl → R Bool) (b : Bool) (st : Sl) : kAndT mu b st = if b then mu st else .ok false st := rfl
def kOrT (mu : Sl → R Bool) : Bool → Sl → R Bool := fun b st => if b then .ok true st else mu st
@[simp] theorem kOrT_ap (mu : Sl → R Bool) (b : Bool) (st : Sl) : kOrT mu b st = if b then .ok true st else mu st := rfl
def kNotT : Bool → Sl → R Bool := fun b st => .ok (!b) st
@[simp] theorem kNotT_ap (b : Bool) (st : Sl) : kNotT  b st = .ok (!b) st := rfl
def kAnd (mb : Sl → R PyData) : Bool → Sl → R PyData := fun b st => if b then mb st else .ok (.bool false) st
@[simp] theorem kAnd_ap (mb : Sl → R PyData) (b : Bool) (st : Sl) : kAnd mb b st = if b then mb st else .ok (.bool false) st := rfl
def kOr (mb : Sl → R PyData) : Bool → Sl → R PyData := fun b st => if b then .ok (.bool true) st else mb st
@[simp] theorem kOr_ap (mb : Sl → R PyData) (b : Bool) (st : Sl) : kOr mb b st = if b then .ok (.bool true) st else mb st := rfl
def kNot : Bool → Sl → R PyData := fun b st => .ok (.bool (!b)) st
@[simp] theorem kNot_ap (b : Bool) (st : Sl) : kNot  b st = .ok (.bool (!b)) st := rfl
def kIf {α : Type} (ma mb : Sl → R α) : Bool → Sl → R α := fun b st => if b then ma st else mb st
@[simp] theorem kIf_ap {α : Type} (ma mb : Sl → R α) (b : Bool) (st : Sl) : kIf ma mb b st = if b then ma st else mb st := rfl
def kCh3 (g : PyData → PyData → Option PyData) (mc : Sl → R PyData) (y : PyData) : Bool → Sl → R PyData := fun b st => if b then (mc st).bind (kLift (g y)) else .ok (.bool false) st
@[simp] theorem kCh3_ap (g : PyData → PyData → Option PyData) (mc : Sl → R PyData) (y : PyData) (b : Bool) (st : Sl) : kCh3 g mc y b st = if b then (mc st).bind (kLift (g y)) else .ok (.bool false) st := rfl
def kCh2 (f g : PyData → PyData → Option PyData) (mc : Sl → R PyData) (x : PyData) : PyData → Sl → R PyData := fun y st => (lift (f x y) st).bind fun z st => (lift (isB z) st).bind (kCh3 g mc y)
@[simp] theorem kCh2_ap (f g : PyData → PyData → Option PyData) (mc : Sl → R PyData) (x : PyData) (y : PyData) (st : Sl) : kCh2 f g mc x y st = (lift (f x y) st).bind fun z st => (lift (isB z) st).bind (kCh3 g mc y) := rfl
def kCh1 (f g : PyData → PyData → Option PyData) (mb mc : Sl → R PyData) : PyData → Sl → R PyData := fun x st => (mb st).bind (kCh2 f g mc x)
@[simp] theorem kCh1_ap (f g : PyData → PyData → Option PyData) (mb mc : Sl → R PyData) (x : PyData) (st : Sl) : kCh1 f g mb mc x st = (mb st).bind (kCh2 f g mc x) := rfl
def kCons2 {α : Type} (d : α) : List α → Sl → R (List α) := fun ds st => .ok (d :: ds) st
@[simp] theorem kCons2_ap {α : Type} (d : α) (ds : List α) (st : Sl) : kCons2 d ds st = .ok (d :: ds) st := rfl
def kCons {α : Type} (ml : Sl → R (List α)) : α → Sl → R (List α) := fun d st => (ml st).bind (kCons2 d)
@[simp] theorem kCons_ap {α : Type} (ml : Sl → R (List α)) (d : α) (st : Sl) : kCons ml d st = (ml st).bind (kCons2 d) := rfl
noncomputable def kTup : List PyData → Sl → R PyData := shut (fun ds st => if Fit ds.length then .ok (.tuple ds) st else .no)
@[simp] theorem kTup_f {ds : List PyData} (st : Sl) (h : Fit ds.length) : kTup ds st = .ok (.tuple ds) st := by
  rw [kTup, shut_eq]
  exact if_pos h
noncomputable def kLst : List PyData → Sl → R OT := shut (fun ds st => if Fit ds.length then .ok (.nod .lst (ds.map .frz)) st else .no)
@[simp] theorem kLst_f {ds : List PyData} (st : Sl) (h : Fit ds.length) : kLst ds st = .ok (.nod .lst (ds.map .frz)) st := by
  rw [kLst, shut_eq]
  exact if_pos h
def kBL (h : List PyData → Option (List PyData)) : List PyData → Sl → R OT := fun ds st => (lift (h ds) st).bind fun es st => .ok (.nod .lst (es.map .frz)) st
@[simp] theorem kBL_ap (h : List PyData → Option (List PyData)) (ds : List PyData) (st : Sl) : kBL h ds st = (lift (h ds) st).bind fun es st => .ok (.nod .lst (es.map .frz)) st := rfl
def kAsg (h : OT → Sl → Option Sl) : OT → Sl → R Out := fun t st => (lift (h t st) st).bind fun st' _ => .ok .nx st'
@[simp] theorem kAsg_ap (h : OT → Sl → Option Sl) (t : OT) (st : Sl) : kAsg h t st = (lift (h t st) st).bind fun st' _ => .ok .nx st' := rfl
def kRet : OT → Sl → R Out := fun t st => .ok (.ret t) st
@[simp] theorem kRet_ap (t : OT) (st : Sl) : kRet  t st = .ok (.ret t) st := rfl
def kDrop : PyData → Sl → R Out := fun _ st => .ok .nx st
@[simp] theorem kDrop_ap (u : PyData) (st : Sl) : kDrop  u st = .ok .nx st := rfl
noncomputable def kLstB : List OT → Sl → R OT := shut (fun ts st => if Fit ts.length then .ok (.nod .lst ts) st else .no)
@[simp] theorem kLstB_f {ds : List OT} (st : Sl) (h : Fit ds.length) : kLstB ds st = .ok (.nod .lst ds) st := by
  rw [kLstB, shut_eq]
  exact if_pos h
noncomputable def kTupB : List OT → Sl → R OT := shut (fun ts st => if Fit ts.length then .ok (.nod .tup ts) st else .no)
@[simp] theorem kTupB_f {ds : List OT} (st : Sl) (h : Fit ds.length) : kTupB ds st = .ok (.nod .tup ds) st := by
  rw [kTupB, shut_eq]
  exact if_pos h
noncomputable def kRng1 : List PyData → Sl → R (List PyData) := shut (fun ds st => match ds with
  | [.int n] => if FitR n then .ok (rng 0 n) st else .no
  | _ => .no)
@[simp] theorem kRng1_f {n : Int} (st : Sl) (h : FitR n) : kRng1 [.int n] st = .ok (rng 0 n) st := by
  rw [kRng1, shut_eq]
  exact if_pos h
noncomputable def kRng2 : List PyData → Sl → R (List PyData) := shut (fun ds st => match ds with
  | [.int a, .int b] => if FitR2 a b then .ok (rng a b) st else .no
  | _ => .no)
@[simp] theorem kRng2_f {a b : Int} (st : Sl) (h : FitR2 a b) : kRng2 [.int a, .int b] st = .ok (rng a b) st := by
  rw [kRng2, shut_eq]
  exact if_pos h
noncomputable def kRngD : List PyData → Sl → R (List PyData) := shut (fun ds st => match ds with
  | [.int a, .int b, .int c] => if c = -1 ∧ FitR2 a b then .ok (rngD a b) st else .no
  | _ => .no)
@[simp] theorem kRngD_f {a b : Int} (st : Sl) (h : FitR2 a b) : kRngD [.int a, .int b, .int (-1)] st = .ok (rngD a b) st := by
  rw [kRngD, shut_eq]
  exact if_pos ⟨rfl, h⟩
def kFor (h : OT → Sl → Option Sl) (ms : Sl → R Out) : List PyData → Sl → R Out := fun ds st => loopF h ms ds st
@[simp] theorem kFor_ap (h : OT → Sl → Option Sl) (ms : Sl → R Out) (ds : List PyData) (st : Sl) : kFor h ms ds st = loopF h ms ds st := rfl
def kEnumA : List PyData → Sl → R (List PyData) := fun ds st => match ds with
  | [.tuple xs] => .ok (enumD xs) st
  | [.list xs] => .ok (enumD xs) st
  | _ => .no
@[simp] theorem kEnumA_ap (ds : List PyData) (st : Sl) : kEnumA  ds st = match ds with
  | [.tuple xs] => .ok (enumD xs) st
  | [.list xs] => .ok (enumD xs) st
  | _ => .no := rfl
def kZipA : List PyData → Sl → R (List PyData) := fun ds st => match ds with
  | [x, y] => match itA x, itA y with
    | some xs, some ys => .ok (zipD xs ys) st
    | _, _ => .no
  | _ => .no
@[simp] theorem kZipA_ap (ds : List PyData) (st : Sl) : kZipA  ds st = match ds with
  | [x, y] => match itA x, itA y with
    | some xs, some ys => .ok (zipD xs ys) st
    | _, _ => .no
  | _ => .no := rfl
def kCall (F : List OT → FR) (ds : List PyData) : List PyData → Sl → R OT := fun xs st => frK st (F ((xs ++ ds).map .frz))
@[simp] theorem kCall_ap (F : List OT → FR) (ds : List PyData) (xs : List PyData) (st : Sl) : kCall F ds xs st = frK st (F ((xs ++ ds).map .frz)) := rfl
def kCallK2 (F : List OT → FR) (xs : List PyData) : List PyData → Sl → R OT := fun ys st => frK st (F ((xs ++ ys).map .frz))
@[simp] theorem kCallK2_ap (F : List OT → FR) (xs : List PyData) (ys : List PyData) (st : Sl) : kCallK2 F xs ys st = frK st (F ((xs ++ ys).map .frz)) := rfl
def kCallK1 (F : List OT → FR) (mk : Sl → R (List PyData)) : List PyData → Sl → R OT := fun xs st => (mk st).bind (kCallK2 F xs)
@[simp] theorem kCallK1_ap (F : List OT → FR) (mk : Sl → R (List PyData)) (xs : List PyData) (st : Sl) : kCallK1 F mk xs st = (mk st).bind (kCallK2 F xs) := rfl
def kCallL (F : List OT → FR) (i : Nat) (ds : List PyData) : List PyData → Sl → R OT := fun xs st => match st[i]? with
    | some (some t0) => frL i st (F (t0 :: (xs ++ ds).map .frz))
    | _ => .no
@[simp] theorem kCallL_ap (F : List OT → FR) (i : Nat) (ds : List PyData) (xs : List PyData) (st : Sl) : kCallL F i ds xs st = match st[i]? with
    | some (some t0) => frL i st (F (t0 :: (xs ++ ds).map .frz))
    | _ => .no := rfl
def kPar (i j : Nat) : List OT → Sl → R Out := fun ts st => match ts with
  | [a, b] => if i < st.length ∧ j < st.length then .ok .nx ((st.set i (some a)).set j (some b)) else .no
  | _ => .no
@[simp] theorem kPar_ap (i j : Nat) (ts : List OT) (st : Sl) : kPar i j ts st = match ts with
  | [a, b] => if i < st.length ∧ j < st.length then .ok .nx ((st.set i (some a)).set j (some b)) else .no
  | _ => .no := rfl
def kPar3 (i j l : Nat) : List OT → Sl → R Out := fun ts st => match ts with
  | [a, b, c] => if i < st.length ∧ j < st.length ∧ l < st.length then .ok .nx (((st.set i (some a)).set j (some b)).set l (some c)) else .no
  | _ => .no
@[simp] theorem kPar3_ap (i j l : Nat) (ts : List OT) (st : Sl) : kPar3 i j l ts st = match ts with
  | [a, b, c] => if i < st.length ∧ j < st.length ∧ l < st.length then .ok .nx (((st.set i (some a)).set j (some b)).set l (some c)) else .no
  | _ => .no := rfl
def kAug (i : Nat) (h : Int → Int → Int) (a : Int) : PyData → Sl → R Out := fun d st => match d with
    | .int b => .ok .nx (st.set i (some (.frz (.int (h a b)))))
    | _ => .no
@[simp] theorem kAug_ap (i : Nat) (h : Int → Int → Int) (a : Int) (d : PyData) (st : Sl) : kAug i h a d st = match d with
    | .int b => .ok .nx (st.set i (some (.frz (.int (h a b)))))
    | _ => .no := rfl
def kApp (i : Nat) : OT → Sl → R Out := fun t st => match st[i]? with
    | some (some (.nod .lst ts)) => if FitS ts.length then .ok .nx (st.set i (some (.nod .lst (ts ++ [t])))) else .no
    | _ => .no
def appKr (i : Nat) (t : OT) (st : Sl) (o : Option (Option OT)) : R Out := match o with
  | some (some (.nod .lst ts)) => if ts.length < 100000 then .ok .nx (st.set i (some (.nod .lst (ts ++ [t])))) else .no
  | _ => .no
noncomputable def appK (i : Nat) (t : OT) (st : Sl) : Option (Option OT) → R Out := shut (appKr i t st)
@[simp] theorem kApp_ap (i : Nat) (t : OT) (st : Sl) : kApp i t st = appK i t st st[i]? := by
  rw [appK, shut_eq]
  rfl
@[simp] theorem appK_f {ts : List OT} (i : Nat) (t : OT) (st : Sl) (h : FitS ts.length) : appK i t st (some (some (.nod .lst ts))) = .ok .nx (st.set i (some (.nod .lst (ts ++ [t])))) := by
  rw [appK, shut_eq]
  exact if_pos h
def kStore2 (i : Nat) (t : OT) : PyData → Sl → R Out := fun d st => match d, st[i]? with
    | .int k, some (some (.nod .lst ts)) => (lift (ixN ts.length k) st).bind fun j st => .ok .nx (st.set i (some (.nod .lst (ts.set j t))))
    | _, _ => .no
@[simp] theorem kStore2_ap (i : Nat) (t : OT) (d : PyData) (st : Sl) : kStore2 i t d st = match d, st[i]? with
    | .int k, some (some (.nod .lst ts)) => (lift (ixN ts.length k) st).bind fun j st => .ok .nx (st.set i (some (.nod .lst (ts.set j t))))
    | _, _ => .no := rfl
def kStore (i : Nat) (mk : Sl → R PyData) : OT → Sl → R Out := fun t st => match st[i]? with
  | some (some (.nod .lst _)) => (mk st).bind (kStore2 i t)
  | _ => .no
@[simp] theorem kStore_ap (i : Nat) (mk : Sl → R PyData) (t : OT) (st : Sl) : kStore i mk t st = match st[i]? with
  | some (some (.nod .lst _)) => (mk st).bind (kStore2 i t)
  | _ => .no := rfl
def kPop (i : Nat) : PyData → Sl → R OT := fun d st => match d, st[i]? with
    | .int k, some (some (.nod .lst ts)) => if 0 ≤ k ∧ k < ts.length ∧ Fit ts.length then (lift ts[k.toNat]? st).bind fun t st => .ok t (st.set i (some (.nod .lst (ts.eraseIdx k.toNat)))) else .no
    | _, _ => .no
def popKr (i : Nat) (k : Int) (st : Sl) (o : Option (Option OT)) : R OT := match o with
  | some (some (.nod .lst ts)) => if 0 ≤ k ∧ k < ts.length ∧ ts.length ≤ 100000 then (lift ts[k.toNat]? st).bind fun t st => .ok t (st.set i (some (.nod .lst (ts.eraseIdx k.toNat)))) else .no
  | _ => .no
noncomputable def popK (i : Nat) (k : Int) (st : Sl) : Option (Option OT) → R OT := shut (popKr i k st)
@[simp] theorem kPop_ap (i : Nat) (k : Int) (st : Sl) : kPop i (.int k) st = popK i k st st[i]? := by
  rw [popK, shut_eq]
  unfold kPop popKr
  cases st[i]? with
  | none => rfl
  | some o =>
    cases o with
    | none => rfl
    | some t =>
      cases t with
      | frz d => rfl
      | nod kd ts => cases kd <;> rfl
@[simp] theorem popK_f {ts : List OT} (i : Nat) {k : Nat} {t : OT} (st : Sl) (h2 : Fit ts.length) (h : ts[k]? = some t) : popK i (k : Int) st (some (some (.nod .lst ts))) = .ok t (st.set i (some (.nod .lst (ts.eraseIdx k)))) := by
  have hk := (List.getElem?_eq_some_iff.mp h).1
  have e : (k : Int).toNat = k := by omega
  rw [popK, shut_eq]
  show (if (0 ≤ (k : Int) ∧ (k : Int) < ts.length ∧ ts.length ≤ 100000) then (lift ts[(k : Int).toNat]? st).bind fun t st => R.ok t (st.set i (some (.nod .lst (ts.eraseIdx (k : Int).toNat)))) else .no) = _
  rw [if_pos ⟨by omega, by omega, h2⟩, e, h]
  rfl
def kSeq (n : Sl → R Out) : Out → Sl → R Out := fun o st => match o with
  | .nx => n st
  | o => .ok o st
@[simp] theorem kSeq_nx (n : Sl → R Out) (st : Sl) : kSeq n .nx st = n st := rfl
@[simp] theorem kSeq_ret (n : Sl → R Out) (t : OT) (st : Sl) : kSeq n (.ret t) st = .ok (.ret t) st := rfl
@[simp] theorem kSeq_brk (n : Sl → R Out) (st : Sl) : kSeq n .brk st = .ok .brk st := rfl
@[simp] theorem kSeq_cnt (n : Sl → R Out) (st : Sl) : kSeq n .cnt st = .ok .cnt st := rfl
@[simp] theorem w_frz (mo : Sl → R OT) (st : Sl) : mFrz mo st = (mo st).bind kFrz := rfl
@[simp] theorem w_up (m : Sl → R PyData) (st : Sl) : mUp m st = (m st).bind kUp := rfl
@[simp] theorem w_un (u : PyData → Option PyData) (m : Sl → R PyData) (st : Sl) : mUn u m st = (m st).bind (kLift u) := rfl
@[simp] theorem w_bin (f : PyData → PyData → Option PyData) (ma mb : Sl → R PyData) (st : Sl) : mBin f ma mb st = (ma st).bind (kBin f mb) := by cases st <;> rfl
@[simp] theorem w_test (m : Sl → R PyData) (st : Sl) : mTest m st = (m st).bind (kLift isB) := rfl
@[simp] theorem w_andT (mt mu : Sl → R Bool) (st : Sl) : mAndT mt mu st = (mt st).bind (kAndT mu) := rfl
@[simp] theorem w_orT (mt mu : Sl → R Bool) (st : Sl) : mOrT mt mu st = (mt st).bind (kOrT mu) := rfl
@[simp] theorem w_notT (mt : Sl → R Bool) (st : Sl) : mNotT mt st = (mt st).bind kNotT := rfl
@[simp] theorem w_and (ma mb : Sl → R PyData) (st : Sl) : mAnd ma mb st = (mTest ma st).bind (kAnd mb) := rfl
@[simp] theorem w_or (ma mb : Sl → R PyData) (st : Sl) : mOr ma mb st = (mTest ma st).bind (kOr mb) := rfl
@[simp] theorem w_not (ma : Sl → R PyData) (st : Sl) : mNot ma st = (mTest ma st).bind kNot := rfl
@[simp] theorem w_if (mt : Sl → R Bool) (ma mb : Sl → R PyData) (st : Sl) : mIf mt ma mb st = (mt st).bind (kIf ma mb) := rfl
@[simp] theorem w_ifO (mt : Sl → R Bool) (ma mb : Sl → R OT) (st : Sl) : mIfO mt ma mb st = (mt st).bind (kIf ma mb) := rfl
@[simp] theorem w_chain (f g : PyData → PyData → Option PyData) (ma mb mc : Sl → R PyData) (st : Sl) : mChain f g ma mb mc st = (ma st).bind (kCh1 f g mb mc) := rfl
@[simp] theorem w_cons (m : Sl → R PyData) (ml : Sl → R (List PyData)) (st : Sl) : mCons m ml st = (m st).bind (kCons ml) := rfl
@[simp] theorem w_consB (m : Sl → R OT) (ml : Sl → R (List OT)) (st : Sl) : mConsB m ml st = (m st).bind (kCons ml) := rfl
@[simp] theorem w_tup (ml : Sl → R (List PyData)) (st : Sl) : mTup ml st = (ml st).bind kTup := by
  rw [kTup, shut_eq]
  rfl
@[simp] theorem w_lst (ml : Sl → R (List PyData)) (st : Sl) : mLst ml st = (ml st).bind kLst := by
  rw [kLst, shut_eq]
  rfl
@[simp] theorem w_B (h : List PyData → Option PyData) (ml : Sl → R (List PyData)) (st : Sl) : mB h ml st = (ml st).bind (kLift h) := by cases st <;> rfl
@[simp] theorem w_BL (h : List PyData → Option (List PyData)) (ml : Sl → R (List PyData)) (st : Sl) : mBL h ml st = (ml st).bind (kBL h) := by cases st <;> rfl
@[simp] theorem w_asg (h : OT → Sl → Option Sl) (mo : Sl → R OT) (st : Sl) : mAsg mo h st = (mo st).bind (kAsg h) := by cases st <;> rfl
@[simp] theorem w_ret (mo : Sl → R OT) (st : Sl) : mRet mo st = (mo st).bind kRet := by cases st <;> rfl
@[simp] theorem w_drop (m : Sl → R PyData) (st : Sl) : mDrop m st = (m st).bind kDrop := rfl
@[simp] theorem w_ifS (mt : Sl → R Bool) (ma mb : Sl → R Out) (st : Sl) : mIfS mt ma mb st = (mt st).bind (kIf ma mb) := rfl
@[simp] theorem w_lstB (ml : Sl → R (List OT)) (st : Sl) : mLstB ml st = (ml st).bind kLstB := by
  rw [kLstB, shut_eq]
  rfl
@[simp] theorem w_tupB (ml : Sl → R (List OT)) (st : Sl) : mTupB ml st = (ml st).bind kTupB := by
  rw [kTupB, shut_eq]
  rfl
@[simp] theorem w_par (i j : Nat) (ml : Sl → R (List OT)) (st : Sl) : mPar i j ml st = (ml st).bind (kPar i j) := by cases st <;> rfl
@[simp] theorem w_par3 (i j l : Nat) (ml : Sl → R (List OT)) (st : Sl) : mPar3 i j l ml st = (ml st).bind (kPar3 i j l) := by cases st <;> rfl
@[simp] theorem w_aug (i : Nat) (h : Int → Int → Int) (m : Sl → R PyData) (st : Sl) : mAug i h m st = match st[i]? with
  | some (some (.frz (.int a))) => (m st).bind (kAug i h a)
  | _ => .no := rfl
@[simp] theorem w_append (i : Nat) (mo : Sl → R OT) (st : Sl) : mAppend i mo st = match st[i]? with
  | some (some (.nod .lst _)) => (mo st).bind (kApp i)
  | _ => .no := by cases st <;> rfl
@[simp] theorem w_store (i : Nat) (mk : Sl → R PyData) (mo : Sl → R OT) (st : Sl) : mStore i mk mo st = (mo st).bind (kStore i mk) := by cases st <;> rfl
@[simp] theorem w_popAt (i : Nat) (m : Sl → R PyData) (st : Sl) : mPopAt i m st = match st[i]? with
  | some (some (.nod .lst _)) => (m st).bind (kPop i)
  | _ => .no := by cases st <;> rfl
@[simp] theorem w_it (m : Sl → R PyData) (st : Sl) : mIt m st = (m st).bind (kLift itA) := rfl
@[simp] theorem w_rng1 (ml : Sl → R (List PyData)) (st : Sl) : mRng1 ml st = (ml st).bind kRng1 := by
  rw [kRng1, shut_eq]
  rfl
@[simp] theorem w_rng2 (ml : Sl → R (List PyData)) (st : Sl) : mRng2 ml st = (ml st).bind kRng2 := by
  rw [kRng2, shut_eq]
  rfl
@[simp] theorem w_rngD (ml : Sl → R (List PyData)) (st : Sl) : mRngD ml st = (ml st).bind kRngD := by
  rw [kRngD, shut_eq]
  rfl
@[simp] theorem w_for (h : OT → Sl → Option Sl) (ms : Sl → R Out) (ml : Sl → R (List PyData)) (st : Sl) : mFor ml h ms st = (ml st).bind (kFor h ms) := by cases st <;> rfl
@[simp] theorem w_enumA (ml : Sl → R (List PyData)) (st : Sl) : mEnumA ml st = (ml st).bind kEnumA := rfl
@[simp] theorem w_zipA (ml : Sl → R (List PyData)) (st : Sl) : mZipA ml st = (ml st).bind kZipA := rfl
@[simp] theorem w_call (F : List OT → FR) (ds : List PyData) (ml : Sl → R (List PyData)) (st : Sl) : mCall F ds ml st = (ml st).bind (kCall F ds) := by cases st <;> rfl
@[simp] theorem w_callK (F : List OT → FR) (ml mk : Sl → R (List PyData)) (st : Sl) : mCallK2 F ml mk st = (ml st).bind (kCallK1 F mk) := by cases st <;> rfl
@[simp] theorem w_callL (F : List OT → FR) (i : Nat) (ds : List PyData) (ml : Sl → R (List PyData)) (st : Sl) : mCallL F i ds ml st = match st[i]? with
  | some (some _) => (ml st).bind (kCallL F i ds)
  | _ => .no := by cases st <;> rfl
@[simp] theorem w_seq (ms mr : Sl → R Out) (st : Sl) : mSeq ms mr st = (ms st).bind (kSeq mr) := by cases st <;> rfl
@[simp] theorem w_mv (i : Nat) (st : Sl) : mMv i st = match st[i]? with
  | some (some t) => .ok t (st.set i none)
  | _ => .no := rfl
@[simp] theorem w_next  (st : Sl) : mNext st = .ok .nx st := rfl
@[simp] theorem w_no  (st : Sl) : mNo st = .no := rfl
@[simp] theorem w_brk  (st : Sl) : mBrk st = .ok .brk st := rfl
@[simp] theorem w_cnt  (st : Sl) : mCnt st = .ok .cnt st := rfl
@[simp] theorem w_retN  (st : Sl) : mRetN st = .ok (.ret (.frz .none)) st := rfl
@[simp] theorem w_nil  (st : Sl) : mNil st = .ok [] st := rfl
@[simp] theorem w_nilB  (st : Sl) : mNilB st = .ok [] st := rfl
@[simp] theorem w_lit (d : PyData) (st : Sl) : mLit d st = .ok d st := rfl
@[simp] theorem w_yes  (st : Sl) : mYes st = .ok true st := rfl
theorem w_var {i : Nat} {st : Sl} {d : PyData} (h : st[i]? = some (some (.frz d))) : mVar i st = .ok d st := by unfold mVar; rw [h]
def varK (i : Nat) (st : Sl) (o : Option (Option OT)) : R PyData := match o with
  | some (some (.frz d)) => .ok d st
  | some (some t) => match toD t with
    | some d => .ok d (st.set i (some (.frz d)))
    | none => .no
  | _ => .no
@[simp] theorem w_var' (i : Nat) (st : Sl) : mVar i st = varK i st st[i]? := rfl
@[simp] theorem varK_frz (i : Nat) (st : Sl) (d : PyData) : varK i st (some (some (.frz d))) = .ok d st := rfl
@[simp] theorem varK_lst (i : Nat) (st : Sl) (ds : List PyData) : varK i st (some (some (.nod .lst (ds.map .frz)))) = .ok (.list ds) (st.set i (some (.frz (.list ds)))) := by
  simp only [varK, toD_lst]
def pkV (r : R PyData) (st : Sl) : R PyData := match r with
  | .ok d _ => if flatD d then .ok d st else .no
  | _ => .no
def pkT (r : R Bool) (st : Sl) : R Bool := match r with
  | .ok b _ => .ok b st
  | _ => .no
@[simp] theorem w_peek (m : Sl → R PyData) (st : Sl) : mPeek m st = pkV (m (frzAll st)) st := rfl
@[simp] theorem w_peekT (m : Sl → R Bool) (st : Sl) : mPeekT m st = pkT (m (frzAll st)) st := rfl
@[simp] theorem pkV_ok (d : PyData) (s st : Sl) : pkV (.ok d s) st = if flatD d then .ok d st else .no := rfl
@[simp] theorem pkT_ok (b : Bool) (s st : Sl) : pkT (.ok b s) st = .ok b st := rfl
@[simp] theorem frzAll_nil : frzAll [] = [] := rfl
def frz1 (o : Option OT) : Option OT := match o with
  | some t => (toD t).map OT.frz
  | none => none
@[simp] theorem frzAll_cons (o : Option OT) (r : Sl) : frzAll (o :: r) = frz1 o :: frzAll r := rfl
@[simp] theorem frz1_none : frz1 none = none := rfl
@[simp] theorem frz1_some (t : OT) : frz1 (some t) = (toD t).map OT.frz := rfl
@[simp] theorem frz1_map (o : Option PyData) : frz1 (o.map .frz) = o.map .frz := by cases o <;> rfl
@[simp] theorem flat_int (i : Int) : flatD (.int i) = true := rfl
@[simp] theorem flat_bool (i : Bool) : flatD (.bool i) = true := rfl
@[simp] theorem flat_none : flatD .none = true := rfl
@[simp] theorem flat_str (s : Str) : flatD (.str s) = true := rfl
@[simp] theorem fTp_frz (n : Nat) (fs : List OT → Sl → Option Sl) (ds : List PyData) (st : Sl) : fTp n fs (.frz (.tuple ds)) st = if ds.length = n then fs (ds.map .frz) st else none := rfl
@[simp] theorem fTp_nod (n : Nat) (fs : List OT → Sl → Option Sl) (ts : List OT) (st : Sl) : fTp n fs (.nod .tup ts) st = if ts.length = n then fs ts st else none := rfl
@[simp] theorem fsNil_nil (st : Sl) : fsNil [] st = some st := rfl
@[simp] theorem fsCons_cons (h : OT → Sl → Option Sl) (fs : List OT → Sl → Option Sl) (t : OT) (ts : List OT) (st : Sl) : fsCons h fs (t :: ts) st = (h t st).bind fun st => fs ts st := rfl
@[simp] theorem fNm_ap (i : Nat) (t : OT) (st : Sl) : fNm i t st = if i < st.length then some (st.set i (some t)) else none := rfl
@[simp] theorem toD_frz (d : PyData) : toD (.frz d) = some d := rfl
@[simp] theorem toD_nod_lst (ts : List OT) : toD (.nod .lst ts) = (toDs ts).map PyData.list := by rw [toD]
@[simp] theorem toD_nod_tup (ts : List OT) : toD (.nod .tup ts) = (toDs ts).map PyData.tuple := by rw [toD]
@[simp] theorem toDs_nil' : toDs [] = some [] := rfl
theorem toDs_cons' (t : OT) (ts : List OT) : toDs (t :: ts) = match toD t, toDs ts with
  | some d, some ds => some (d :: ds)
  | _, _ => none := rfl
@[simp] theorem toDs_consF (d : PyData) (ts : List OT) : toDs (.frz d :: ts) = (toDs ts).map (d :: ·) := by
  rw [toDs_cons', toD_frz]
  cases toDs ts <;> rfl
@[simp] theorem toDs_map (ds : List PyData) : toDs (ds.map OT.frz) = some ds := toDs_frz ds
@[simp] theorem loopF_nil (h : OT → Sl → Option Sl) (ms : Sl → R Out) (st : Sl) : loopF h ms [] st = .ok .nx st := rfl
@[simp] theorem getIO_nil {st : Sl} : getIO st [] = some [] := rfl
@[simp] theorem getIO_zero {t : OT} {st : Sl} : getIO (some t :: st) [0] = some [t] := rfl
@[simp] theorem isB_bool (b : Bool) : isB (.bool b) = some b := rfl
@[simp] theorem itA_list (ds : List PyData) : itA (.list ds) = some ds := rfl
@[simp] theorem itA_tuple (ds : List PyData) : itA (.tuple ds) = some ds := rfl
@[simp] theorem ap_add (i j : Int) : pAdd (.int i) (.int j) = some (.int (i + j)) := rfl
@[simp] theorem ap_sub (i j : Int) : pSub (.int i) (.int j) = some (.int (i - j)) := rfl
@[simp] theorem ap_lt (i j : Int) : pLt (.int i) (.int j) = some (.bool (decide (i < j))) := rfl
@[simp] theorem ap_le (i j : Int) : pLe (.int i) (.int j) = some (.bool (decide (i ≤ j))) := rfl
@[simp] theorem ap_gt (i j : Int) : pGt (.int i) (.int j) = some (.bool (decide (j < i))) := rfl
@[simp] theorem ap_ge (i j : Int) : pGe (.int i) (.int j) = some (.bool (decide (j ≤ i))) := rfl
@[simp] theorem ap_neg (i : Int) : pNeg (.int i) = some (.int (-i)) := rfl
@[simp] theorem ap_addL {a b : List PyData} (h : Fit (a.length + b.length)) : pAdd (.list a) (.list b) = some (.list (a ++ b)) := if_pos h
@[simp] theorem ap_addT {a b : List PyData} (h0 : a.isEmpty = false) (h : Fit (a.length + b.length)) : pAdd (.tuple a) (.tuple b) = some (.tuple (a ++ b)) := if_pos ⟨h0, h⟩
@[simp] theorem ap_mul {i j : Int} (h : FitM i j) : pMul (.int i) (.int j) = some (.int (i * j)) := if_pos h
@[simp] theorem ap_mulL {a : List PyData} {k : Int} (h : FitP k (a.length * k.toNat)) : pMul (.list a) (.int k) = some (.list (List.replicate k.toNat a).flatten) := if_pos h
@[simp] theorem ap_div {i j : Int} (h : FitD j) : pDiv (.int i) (.int j) = some (.int (i / j)) := if_pos h
@[simp] theorem ap_mod {i j : Int} (h : 0 < j) : pMod (.int i) (.int j) = some (.int (i % j)) := if_pos h
@[simp] theorem ap_pow18 : pPow (.int 10) (.int 18) = some (.int 1000000000000000000) := rfl
@[simp] theorem ap_ixL (ds : List PyData) (i : Int) : pIx (.list ds) (.int i) = atI ds i := rfl
@[simp] theorem ap_ixT (ds : List PyData) (i : Int) : pIx (.tuple ds) (.int i) = atI ds i := rfl
@[simp] theorem ap_ixS (ns : List Int) (i : Int) : pIx (scrD ns) (.int i) = (atI ns i).map .int := by
  show (atI (ns.map fun i => (PyData.int i, PyData.none)) i).map (·.1) = _
  rw [atI_map]
  cases atI ns i <;> rfl
@[simp] theorem ap_lenL (ds : List PyData) : pLen [.list ds] = some (.int ds.length) := rfl
@[simp] theorem ap_lenT (ds : List PyData) : pLen [.tuple ds] = some (.int ds.length) := rfl
@[simp] theorem ap_lenS (ns : List Int) : pLen [scrD ns] = some (.int ns.length) := by
  show some (PyData.int ((ns.map fun i => (PyData.int i, PyData.none)).length)) = _
  rw [List.length_map]
@[simp] theorem ap_min2 (i j : Int) : pMin [.int i, .int j] = some (.int (min i j)) := rfl
@[simp] theorem ap_max2 (i j : Int) : pMax [.int i, .int j] = some (.int (max i j)) := rfl
@[simp] theorem ap_intB (b : Bool) : pInt [.bool b] = some (.int (if b then 1 else 0)) := rfl
@[simp] theorem ap_intI (i : Int) : pInt [.int i] = some (.int i) := rfl
@[simp] theorem ap_tupL (ds : List PyData) : pTuple [.list ds] = some (.tuple ds) := rfl
@[simp] theorem ap_listL (ds : List PyData) : pList [.list ds] = some ds := rfl
@[simp] theorem ap_listT (ds : List PyData) : pList [.tuple ds] = some ds := rfl
theorem ap_minL {l : List Int} (h : l ≠ []) : pMin [.list (l.map .int)] = some (.int (minI l)) := by
  simp only [pMin, intsOf_map]
  cases l with
  | nil => exact absurd rfl h
  | cons _ _ => rfl
theorem ap_maxL {l : List Int} (h : l ≠ []) : pMax [.list (l.map .int)] = some (.int (maxI l)) := by
  simp only [pMax, intsOf_map]
  cases l with
  | nil => exact absurd rfl h
  | cons _ _ => rfl
theorem ap_sumL (l : List Int) : pSum [.list (l.map .int)] = some (.int l.sum) := by
  simp only [pSum, intsOf_map]
  rfl
end Z

set_option maxHeartbeats 1000000
/-! Part 17: loops and comprehensions by invariants -/
namespace Z
open PySem L2
theorem loop_inv {h : OT → Sl → Option Sl} {ms : Sl → R Out} (I : Nat → Sl → Prop) : ∀ (ds : List PyData) (j : Nat) (st : Sl), I j st →
    (∀ k d s, ds[k]? = some d → I (j + k) s → ∃ s1 s2 o, h (.frz d) s = some s1 ∧ ms s1 = .ok o s2 ∧ (o = .nx ∨ o = .cnt) ∧ I (j + k + 1) s2) →
    ∃ st', loopF h ms ds st = .ok .nx st' ∧ I (j + ds.length) st'
  | [], j, st, h0, _ => ⟨st, rfl, h0⟩
  | d :: ds, j, st, h0, step => by
    obtain ⟨s1, s2, o, e1, e2, e3, h1⟩ := step 0 d st rfl h0
    obtain ⟨st', e4, h4⟩ := loop_inv I ds (j + 1) s2 h1 fun k d s hk hi => by
      have := step (k + 1) d s (by simpa using hk) (by rw [show j + (k + 1) = j + 1 + k by omega]; exact hi)
      rw [show j + (k + 1) + 1 = j + 1 + k + 1 by omega] at this
      exact this
    refine ⟨st', ?_, by rw [List.length_cons, show j + (ds.length + 1) = j + 1 + ds.length by omega]; exact h4⟩
    unfold loopF
    rw [e1]
    simp only [lift_s, R.bind_ok]
    rw [e2]
    simp only [R.bind_ok]
    rcases e3 with rfl | rfl <;> exact e4
/-- the same, from the start -/
theorem loop0 {h : OT → Sl → Option Sl} {ms : Sl → R Out} {ds : List PyData} {st : Sl} (I : Nat → Sl → Prop) (h0 : I 0 st)
    (step : ∀ k d s, ds[k]? = some d → I k s → ∃ s1 s2 o, h (.frz d) s = some s1 ∧ ms s1 = .ok o s2 ∧ (o = .nx ∨ o = .cnt) ∧ I (k + 1) s2) : ∃ st', loopF h ms ds st = .ok .nx st' ∧ I ds.length st' := by
  obtain ⟨st', h1, h2⟩ := loop_inv I ds 0 st h0 fun k d s hk hi => by
    rw [Nat.zero_add] at hi ⊢
    exact step k d s hk hi
  rw [Nat.zero_add] at h2
  exact ⟨st', h1, h2⟩
/-- a loop that changes one state at a time, all told -/
theorem loopC_inv {vs : List Nat} {f : OT → Sl → Option Sl} {mc : Sl → R Bool} {me : Sl → R OT} (I : Nat → List OT → Sl → Prop) : ∀ (ds : List PyData) (j : Nat) (acc : List OT) (st : Sl), I j acc (wipeS st vs) →
    (∀ k d ts s, ds[k]? = some d → I (j + k) ts s → ∃ s1 s2 b, f (.frz d) s = some s1 ∧ mc s1 = .ok b s2 ∧ ((b = true ∧ ∃ t s3, me s2 = .ok t s3 ∧ I (j + k + 1) (ts ++ [t]) (wipeS s3 vs)) ∨ (b = false ∧ I (j + k + 1) ts (wipeS s2 vs)))) →
    ∃ ts s, loopC vs f mc me ds acc st = .ok ts s ∧ I (j + ds.length) ts (wipeS s vs)
  | [], j, acc, st, h0, _ => ⟨acc, st, rfl, h0⟩
  | d :: ds, j, acc, st, h0, step => by
    obtain ⟨s1, s2, b, e1, e2, e3⟩ := step 0 d acc _ rfl h0
    have next : ∀ ts s, I (j + 1) ts (wipeS s vs) → ∃ ts' s', loopC vs f mc me ds ts s = .ok ts' s' ∧ I (j + (d :: ds).length) ts' (wipeS s' vs) := fun ts s hi => by
      obtain ⟨ts', s', e4, h4⟩ := loopC_inv I ds (j + 1) ts s hi fun k d s hk ts hi => by
        have := step (k + 1) d s hk (by simpa using ts) (by rw [show j + (k + 1) = j + 1 + k by omega]; exact hi)
        rw [show j + (k + 1) + 1 = j + 1 + k + 1 by omega] at this
        exact this
      exact ⟨ts', s', e4, by rw [List.length_cons, show j + (ds.length + 1) = j + 1 + ds.length by omega]; exact h4⟩
    unfold loopC
    rw [e1]
    simp only [lift_s, R.bind_ok]
    rw [e2]
    simp only [noE_ok, R.bind_ok]
    rcases e3 with ⟨rfl, t, s3, e4, h4⟩ | ⟨rfl, h4⟩
    · rw [if_pos rfl, e4]
      simp only [noE_ok, R.bind_ok]
      exact next _ _ h4
    · rw [if_neg Bool.false_ne_true]
      exact next _ _ h4
theorem lc_inv {vs : List Nat} {mi : Sl → R (List PyData)} {f : OT → Sl → Option Sl} {mc : Sl → R Bool} {me : Sl → R OT} {st st0 : Sl} {ds : List PyData} (hi : mi st = .ok ds st0) (hl : Fit ds.length) (hf : vs.all (fun i => flatS st0[i]?) = true) (I : Nat → List OT → Sl → Prop) (h0 : I 0 [] (wipeS st0 vs))
    (step : ∀ k d ts s, ds[k]? = some d → I k ts s → ∃ s1 s2 b, f (.frz d) s = some s1 ∧ mc s1 = .ok b s2 ∧ ((b = true ∧ ∃ t s3, me s2 = .ok t s3 ∧ I (k + 1) (ts ++ [t]) (wipeS s3 vs)) ∨ (b = false ∧ I (k + 1) ts (wipeS s2 vs)))) :
    ∃ ts s, mLc vs mi f mc me st = .ok (.nod .lst ts) (backS st0 vs s) ∧ I ds.length ts s := by
  obtain ⟨ts, s, e, h⟩ := loopC_inv (vs := vs) (f := f) (mc := mc) (me := me) I ds 0 [] st0 h0 fun k d ts s hk hi => by
    rw [Nat.zero_add] at hi ⊢
    exact step k d ts s hk hi
  rw [Nat.zero_add] at h
  refine ⟨ts, wipeS s vs, ?_, h⟩
  unfold mLc
  rw [hi]
  simp only [R.bind_ok]
  rw [if_pos ⟨hl, hf⟩, e]
  rfl
/-- a comprehension that changes nothing -/
theorem lc_map {vs : List Nat} {mi : Sl → R (List PyData)} {f : OT → Sl → Option Sl} {me : Sl → R OT} {st st0 W : Sl} {ds : List PyData} (g : Nat → PyData) (hi : mi st = .ok ds st0) (hl : Fit ds.length) (hf : vs.all (fun i => flatS st0[i]?) = true) (hW : wipeS st0 vs = W)
    (step : ∀ k d, ds[k]? = some d → ∃ s1 s2, f (.frz d) W = some s1 ∧ me s1 = .ok (.frz (g k)) s2 ∧ wipeS s2 vs = W) : mLc vs mi f mYes me st = .ok (.nod .lst (((List.range ds.length).map g).map .frz)) (backS st0 vs W) := by
  obtain ⟨ts, s, e, h1, h2⟩ := lc_inv (f := f) (mc := mYes) (me := me) hi hl hf (fun k ts s => ts = ((List.range k).map g).map OT.frz ∧ s = W) ⟨rfl, hW⟩ fun k d ts s hk ⟨h1, h2⟩ => by
    subst h2
    obtain ⟨s1, s2, e1, e2, e3⟩ := step k d hk
    exact ⟨s1, s1, true, e1, rfl, .inl ⟨rfl, _, s2, e2, by rw [h1, List.range_succ]; simp, e3⟩⟩
  rw [e, h1, h2]
/-- .. of items that a test lets by -/
theorem lc_filter {vs : List Nat} {mi : Sl → R (List PyData)} {f : OT → Sl → Option Sl} {mc : Sl → R Bool} {me : Sl → R OT} {st st0 W : Sl} {ds : List PyData} (p : Nat → Bool) (g : Nat → PyData) (hi : mi st = .ok ds st0) (hl : Fit ds.length) (hf : vs.all (fun i => flatS st0[i]?) = true) (hW : wipeS st0 vs = W)
    (step : ∀ k d, ds[k]? = some d → ∃ s1 s2, f (.frz d) W = some s1 ∧ mc s1 = .ok (p k) s2 ∧ wipeS s2 vs = W ∧ (p k = true → ∃ s3, me s2 = .ok (.frz (g k)) s3 ∧ wipeS s3 vs = W)) : mLc vs mi f mc me st = .ok (.nod .lst ((((List.range ds.length).filter p).map g).map .frz)) (backS st0 vs W) := by
  obtain ⟨ts, s, e, h1, h2⟩ := lc_inv (f := f) (mc := mc) (me := me) hi hl hf (fun k ts s => ts = (((List.range k).filter p).map g).map OT.frz ∧ s = W) ⟨rfl, hW⟩ fun k d ts s hk ⟨h1, h2⟩ => by
    subst h2
    obtain ⟨s1, s2, e1, e2, e3, e4⟩ := step k d hk
    refine ⟨s1, s2, p k, e1, e2, ?_⟩
    cases hp : p k with
    | true =>
      obtain ⟨s3, e5, e6⟩ := e4 hp
      exact .inl ⟨rfl, _, s3, e5, by rw [h1, List.range_succ, List.filter_append]; simp [hp], e6⟩
    | false => exact .inr ⟨rfl, by rw [h1, List.range_succ, List.filter_append]; simp [hp], e3⟩
  rw [e, h1, h2]
theorem while_inv {c : Sl → R Bool} {ms : Sl → R Out} (I : Nat → Sl → Prop) : ∀ (k n : Nat) (st : Sl), k < n → I k st → (∀ k s, I k s → ∃ b s1, c s = .ok b s1 ∧ (k = 0 → b = false) ∧ (b = false → I 0 s1) ∧ (b = true → ∃ s2 o j, ms s1 = .ok o s2 ∧ (o = .nx ∨ o = .cnt) ∧ j < k ∧ I j s2)) →
    ∃ st', mWhile n c ms st = .ok .nx st' ∧ I 0 st' := by
  intro k
  induction k using Nat.strongRecOn with
  | _ k ih =>
    intro n st hk h0 step
    cases n with
    | zero => omega
    | succ n =>
      obtain ⟨b, s1, e1, e0, e2, e3⟩ := step k st h0
      unfold mWhile
      rw [e1]
      simp only [R.bind_ok]
      cases b with
      | false => exact ⟨s1, rfl, e2 rfl⟩
      | true =>
        obtain ⟨s2, o, j, e4, e5, e6, e7⟩ := e3 rfl
        obtain ⟨st', e8, e9⟩ := ih j e6 n s2 (by omega) e7 step
        refine ⟨st', ?_, e9⟩
        rw [if_pos rfl, e4]
        simp only [R.bind_ok]
        rcases e5 with rfl | rfl <;> exact e8
theorem rng_at {a b : Int} {k : Nat} {d : PyData} (h : (rng a b)[k]? = some d) : d = .int (a + k) ∧ k < (b - a).toNat := ⟨(rng_get h).2, (rng_get h).1⟩
end Z

set_option maxHeartbeats 1000000
/-! Part 18: data that may be compared -/
namespace Z
open PySem L2
/-- what may be compared: no dicts, no texts, not deep -/
def Nice (n : Nat) (d : PyData) : Prop := d.canLay0 = true ∧ d.depth ≤ n
theorem Nice.mono {n m : Nat} {d : PyData} (h : Nice n d) (l : n ≤ m) : Nice m d := ⟨h.1, Nat.le_trans h.2 l⟩
theorem nice_int (n : Nat) (i : Int) : Nice n (.int i) := ⟨by simp [PyData.canLay0], by simp [PyData.depth]⟩
theorem nice_bool (n : Nat) (i : Bool) : Nice n (.bool i) := ⟨by simp [PyData.canLay0], by simp [PyData.depth]⟩
theorem nice_none (n : Nat) : Nice n .none := ⟨by simp [PyData.canLay0], by simp [PyData.depth]⟩
theorem nice_all {n : Nat} : ∀ {ds : List PyData}, (∀ d ∈ ds, Nice n d) → PyData.canLayAll0 ds = true ∧ PyData.depthAll ds ≤ n
  | [], _ => ⟨by simp [PyData.canLayAll0], by simp [PyData.depthAll]⟩
  | d :: ds, h => by
    obtain ⟨h1, h2⟩ := nice_all (ds := ds) fun x hx => h x (List.mem_cons_of_mem _ hx)
    obtain ⟨h3, h4⟩ := h d List.mem_cons_self
    exact ⟨by simp [PyData.canLayAll0, h1, h3], by simp [PyData.depthAll]; omega⟩
theorem nice_list {n : Nat} {ds : List PyData} (h : ∀ d ∈ ds, Nice n d) : Nice (n + 1) (.list ds) := by
  obtain ⟨h1, h2⟩ := nice_all h
  exact ⟨by simp [PyData.canLay0, h1], by simp [PyData.depth]; omega⟩
theorem nice_tuple {n : Nat} {ds : List PyData} (h : ∀ d ∈ ds, Nice n d) : Nice (n + 1) (.tuple ds) := by
  obtain ⟨h1, h2⟩ := nice_all h
  exact ⟨by simp [PyData.canLay0, h1], by simp [PyData.depth]; omega⟩
theorem nice_ints (n : Nat) (l : List Int) : Nice (n + 1) (.list (l.map .int)) := nice_list fun d h => by
  obtain ⟨i, _, rfl⟩ := List.mem_map.mp h
  exact nice_int n i
theorem nice_nil (n : Nat) : Nice (n + 1) (.list []) := nice_list fun _ h => by cases h
theorem nice_intsT (n : Nat) (l : List Int) : Nice (n + 1) (.tuple (l.map .int)) := nice_tuple fun d h => by
  obtain ⟨i, _, rfl⟩ := List.mem_map.mp h
  exact nice_int n i
theorem nice_t2 {n : Nat} {a b : PyData} (ha : Nice n a) (hb : Nice n b) : Nice (n + 1) (.tuple [a, b]) := nice_tuple fun d h => by
  simp at h
  rcases h with rfl | rfl <;> assumption
theorem Nice.shaped {d : PyData} (h : Nice 64 d) : SeqAt.shaped d = true := by
  unfold SeqAt.shaped
  rw [h.1, Bool.true_and]
  exact decide_eq_true h.2
theorem pEq_nice {x y : PyData} (hx : Nice 64 x) (hy : Nice 64 y) : pEq x y = some (.bool (PyData.eqv x y)) := by
  unfold pEq
  rw [if_pos ⟨hx.shaped, hy.shaped⟩]
theorem pNe_nice {x y : PyData} (hx : Nice 64 x) (hy : Nice 64 y) : pNe x y = some (.bool (!PyData.eqv x y)) := by
  unfold pNe
  rw [if_pos ⟨hx.shaped, hy.shaped⟩]
@[simp] theorem ap_eqI (i j : Int) : pEq (.int i) (.int j) = some (.bool (decide (i = j))) := by
  rw [pEq_nice (nice_int _ _) (nice_int _ _), PyData.eqv]
  congr 2
@[simp] theorem ap_neI (i j : Int) : pNe (.int i) (.int j) = some (.bool (!decide (i = j))) := by
  rw [pNe_nice (nice_int _ _) (nice_int _ _), PyData.eqv]
  congr 2
@[simp] theorem ap_eqB (i j : Bool) : pEq (.bool i) (.bool j) = some (.bool (i == j)) := by
  rw [pEq_nice (nice_bool _ _) (nice_bool _ _), PyData.eqv]
@[simp] theorem ap_neB (i j : Bool) : pNe (.bool i) (.bool j) = some (.bool (!(i == j))) := by
  rw [pNe_nice (nice_bool _ _) (nice_bool _ _), PyData.eqv]
mutual
theorem eqv_refl : ∀ d : PyData, d.canLay0 = true → PyData.eqv d d = true
  | .none, _ => by simp [PyData.eqv]
  | .bool _, _ => by simp [PyData.eqv]
  | .int _, _ => by simp [PyData.eqv]
  | .str _, _ => by simp [PyData.eqv]
  | .list ds, h => by rw [PyData.eqv]; exact eqvAll_refl ds (by simpa only [PyData.canLay0] using h)
  | .tuple ds, h => by rw [PyData.eqv]; exact eqvAll_refl ds (by simpa only [PyData.canLay0] using h)
  | .dict _, h => by simp [PyData.canLay0] at h
theorem eqvAll_refl : ∀ ds : List PyData, PyData.canLayAll0 ds = true → PyData.eqvAll ds ds = true
  | [], _ => by simp [PyData.eqvAll]
  | d :: ds, h => by
    simp only [PyData.canLayAll0, Bool.and_eq_true] at h
    rw [PyData.eqvAll, eqv_refl d h.1, eqvAll_refl ds h.2]
    rfl
end
theorem pEq_same {d : PyData} (h : Nice 64 d) : pEq d d = some (.bool true) := by rw [pEq_nice h h, eqv_refl d h.1]
theorem pNe_same {d : PyData} (h : Nice 64 d) : pNe d d = some (.bool false) := by rw [pNe_nice h h, eqv_refl d h.1]; rfl
theorem eqv_ints : ∀ l l' : List Int, PyData.eqvAll (l.map .int) (l'.map .int) = decide (l = l')
  | [], [] => by simp [PyData.eqvAll]
  | [], _ :: _ => by simp [PyData.eqvAll]
  | _ :: _, [] => by simp [PyData.eqvAll]
  | i :: l, j :: l' => by
    rw [List.map_cons, List.map_cons, PyData.eqvAll, eqv_ints l l', PyData.eqv]
    by_cases h : i = j <;> by_cases h2 : l = l' <;> simp [h, h2]
/-- beside the empty list -/
theorem pEq_nilL {ds : List PyData} {n : Nat} (h : ∀ d ∈ ds, Nice n d) (hn : n ≤ 63) : pEq (.list ds) (.list []) = some (.bool ds.isEmpty) := by
  rw [pEq_nice ((nice_list h).mono (by omega)) (nice_nil 63), PyData.eqv]
  cases ds <;> rfl
theorem pNe_nilL {ds : List PyData} {n : Nat} (h : ∀ d ∈ ds, Nice n d) (hn : n ≤ 63) : pNe (.list ds) (.list []) = some (.bool !ds.isEmpty) := by
  rw [pNe_nice ((nice_list h).mono (by omega)) (nice_nil 63), PyData.eqv]
  cases ds <;> rfl
theorem pNe_nilT {ds : List PyData} {n : Nat} (h : ∀ d ∈ ds, Nice n d) (hn : n ≤ 63) : pNe (.tuple ds) (.tuple []) = some (.bool !ds.isEmpty) := by
  rw [pNe_nice ((nice_tuple h).mono (by omega)) ((nice_tuple (n := 63) fun _ h => by cases h)), PyData.eqv]
  cases ds <;> rfl
theorem pEq_nilT {ds : List PyData} {n : Nat} (h : ∀ d ∈ ds, Nice n d) (hn : n ≤ 63) : pEq (.tuple ds) (.tuple []) = some (.bool ds.isEmpty) := by
  rw [pEq_nice ((nice_tuple h).mono (by omega)) ((nice_tuple (n := 63) fun _ h => by cases h)), PyData.eqv]
  cases ds <;> rfl
@[simp] theorem isi_int_i (i : Int) : pIsi "int" (.int i) = some (.bool true) := rfl
@[simp] theorem isi_bool_i (i : Int) : pIsi "bool" (.int i) = some (.bool false) := rfl
@[simp] theorem isi_bool_b (i : Bool) : pIsi "bool" (.bool i) = some (.bool true) := rfl
@[simp] theorem isi_int_b (i : Bool) : pIsi "int" (.bool i) = some (.bool true) := rfl
@[simp] theorem isi_list_l (ds : List PyData) : pIsi "list" (.list ds) = some (.bool true) := rfl
@[simp] theorem isi_tuple_t (ds : List PyData) : pIsi "tuple" (.tuple ds) = some (.bool true) := rfl
@[simp] theorem isi_tuple_l (ds : List PyData) : pIsi "tuple" (.list ds) = some (.bool false) := rfl
@[simp] theorem isi_list_t (ds : List PyData) : pIsi "list" (.tuple ds) = some (.bool false) := rfl
@[simp] theorem isi_bool_l (ds : List PyData) : pIsi "bool" (.list ds) = some (.bool false) := rfl
@[simp] theorem isi_bool_t (ds : List PyData) : pIsi "bool" (.tuple ds) = some (.bool false) := rfl
@[simp] theorem isi_bool_n : pIsi "bool" .none = some (.bool false) := rfl
@[simp] theorem isi2_l (ds : List PyData) : pIsi2 "tuple" "list" (.list ds) = some (.bool true) := rfl
@[simp] theorem isi2_t (ds : List PyData) : pIsi2 "tuple" "list" (.tuple ds) = some (.bool true) := rfl
@[simp] theorem isi2_i (i : Int) : pIsi2 "tuple" "list" (.int i) = some (.bool false) := rfl
@[simp] theorem isi2_b (i : Bool) : pIsi2 "tuple" "list" (.bool i) = some (.bool false) := rfl
@[simp] theorem isi2_n : pIsi2 "tuple" "list" .none = some (.bool false) := rfl
@[simp] theorem isn_i (i : Int) : pIsN (.int i) .none = some (.bool false) := rfl
@[simp] theorem isn_n : pIsN .none .none = some (.bool true) := rfl
@[simp] theorem isn_t (ds : List PyData) : pIsN (.tuple ds) .none = some (.bool false) := rfl
@[simp] theorem notn_i (i : Int) : pNotN (.int i) .none = some (.bool true) := rfl
@[simp] theorem notn_n : pNotN .none .none = some (.bool false) := rfl
@[simp] theorem notn_t (ds : List PyData) : pNotN (.tuple ds) .none = some (.bool true) := rfl
end Z

set_option maxHeartbeats 1000000
/-! Part 19: lists of whole numbers as data -/
namespace Z
open PySem L2
/-- whole numbers as data; as frozen items -/
def iL (l : List Int) : List PyData := l.map .int
def fI (l : List Int) : List OT := (iL l).map .frz
/-- data as frozen items -/
def fL (ds : List PyData) : List OT := ds.map .frz
@[simp] theorem map_frz_iL (l : List Int) : (iL l).map OT.frz = fI l := rfl
theorem map_frz_fL (ds : List PyData) : ds.map OT.frz = fL ds := rfl
@[simp] theorem toDs_fI (l : List Int) : toDs (fI l) = some (iL l) := toDs_frz _
@[simp] theorem toDs_fL (l : List PyData) : toDs (fL l) = some l := toDs_frz _
@[simp] theorem iL_len (l : List Int) : (iL l).length = l.length := List.length_map _
@[simp] theorem fI_len (l : List Int) : (fI l).length = l.length := by rw [fI, List.length_map, iL_len]
@[simp] theorem fL_len (l : List PyData) : (fL l).length = l.length := by simp [fL]
@[simp] theorem fI_app (l : List Int) (x : Int) : fI l ++ [.frz (.int x)] = fI (l ++ [x]) := by simp only [fI, iL, List.map_append, List.map_cons, List.map_nil]
@[simp] theorem fL_app (l : List PyData) (x : PyData) : fL l ++ [.frz x] = fL (l ++ [x]) := by simp [fL]
@[simp] theorem iL_app (a b : List Int) : iL a ++ iL b = iL (a ++ b) := by simp [iL]
@[simp] theorem ix_iL (l : List Int) (i : Int) : atI (iL l) i = (atI l i).map .int := atI_map _ _ _
@[simp] theorem get_iL (l : List Int) (k : Nat) : (iL l)[k]? = l[k]?.map .int := List.getElem?_map
theorem iL_nil : ([] : List PyData) = iL [] := rfl
theorem iL_one (x : Int) : ([.int x] : List PyData) = iL [x] := rfl
theorem iL_cons (x : Int) (l : List Int) : iL (x :: l) = .int x :: iL l := rfl
theorem fI_nil : ([] : List OT) = fI [] := rfl
theorem fI_one (x : Int) : ([.frz (.int x)] : List OT) = fI [x] := rfl
theorem fL_nil : ([] : List OT) = fL [] := rfl
@[simp] theorem intsOf_iL (l : List Int) : intsOf (iL l) = some l := intsOf_map l
theorem ap_min {l : List Int} (h : l ≠ []) : pMin [.list (iL l)] = some (.int (minI l)) := ap_minL h
theorem ap_max {l : List Int} (h : l ≠ []) : pMax [.list (iL l)] = some (.int (maxI l)) := ap_maxL h
@[simp] theorem ap_sum (l : List Int) : pSum [.list (iL l)] = some (.int l.sum) := ap_sumL l
@[simp] theorem toD_fI (l : List Int) : toD (.nod .lst (fI l)) = some (.list (iL l)) := by rw [toD, toDs_fI]; rfl
@[simp] theorem toD_fL (l : List PyData) : toD (.nod .lst (fL l)) = some (.list l) := by rw [toD, toDs_fL]; rfl
@[simp] theorem varK_fI (i : Nat) (st : Sl) (l : List Int) : varK i st (some (some (.nod .lst (fI l)))) = .ok (.list (iL l)) (st.set i (some (.frz (.list (iL l))))) := by
  simp only [varK, toD_fI]
@[simp] theorem varK_fL (i : Nat) (st : Sl) (l : List PyData) : varK i st (some (some (.nod .lst (fL l)))) = .ok (.list l) (st.set i (some (.frz (.list l)))) := by
  simp only [varK, toD_fL]
theorem nice_iL (n : Nat) (l : List Int) : Nice (n + 1) (.list (iL l)) := nice_ints n l
theorem nice_iLs {n : Nat} {l : List Int} : ∀ d ∈ iL l, Nice n d := fun d h => by
  obtain ⟨i, _, rfl⟩ := List.mem_map.mp h
  exact nice_int n i
@[simp] theorem eq_iL (l l' : List Int) : pEq (.list (iL l)) (.list (iL l')) = some (.bool (decide (l = l'))) := by
  rw [pEq_nice (nice_iL 63 l) (nice_iL 63 l'), PyData.eqv]
  unfold iL
  rw [eqv_ints]
@[simp] theorem ne_iL (l l' : List Int) : pNe (.list (iL l)) (.list (iL l')) = some (.bool (!decide (l = l'))) := by
  rw [pNe_nice (nice_iL 63 l) (nice_iL 63 l'), PyData.eqv]
  unfold iL
  rw [eqv_ints]
theorem enum_get {ds : List PyData} {k : Nat} {d : PyData} (h : (enumD ds)[k]? = some d) : ∃ x, ds[k]? = some x ∧ d = .tuple [.int k, x] := by
  unfold enumD at h
  rw [List.getElem?_mapIdx] at h
  cases e : ds[k]? with
  | none => rw [e] at h; cases h
  | some x => rw [e] at h; cases h; exact ⟨x, rfl, rfl⟩
theorem iL_get {l : List Int} {k : Nat} {d : PyData} (h : (iL l)[k]? = some d) : ∃ x, l[k]? = some x ∧ d = .int x ∧ k < l.length := by
  rw [get_iL] at h
  cases e : l[k]? with
  | none => rw [e] at h; cases h
  | some x => rw [e] at h; cases h; exact ⟨x, rfl, rfl, (List.getElem?_eq_some_iff.mp e).1⟩
theorem zip_get {a b : List PyData} {k : Nat} {d : PyData} (h : (zipD a b)[k]? = some d) : ∃ x y, a[k]? = some x ∧ b[k]? = some y ∧ d = .tuple [x, y] := by
  unfold zipD at h
  rw [List.getElem?_zipWith] at h
  cases e : a[k]? with
  | none => rw [e] at h; simp at h
  | some x =>
    cases e2 : b[k]? with
    | none => rw [e, e2] at h; simp at h
    | some y => rw [e, e2] at h; cases h; exact ⟨x, y, rfl, rfl, rfl⟩
@[simp] theorem zip_len (a b : List PyData) : (zipD a b).length = min a.length b.length := by simp [zipD]
@[simp] theorem enum_len (a : List PyData) : (enumD a).length = a.length := by simp [enumD]
theorem ix_last {α : Type} (xs : List α) (x : α) : atI (xs ++ [x]) (-1) = some x := by
  unfold atI ixN
  rw [if_neg (by omega), if_pos (by rw [List.length_append, List.length_singleton]; omega)]
  have : ((-1 : Int) + ((xs ++ [x]).length : Nat)).toNat = xs.length := by rw [List.length_append, List.length_singleton]; omega
  show (xs ++ [x])[((-1 : Int) + ((xs ++ [x]).length : Nat)).toNat]? = some x
  rw [this]
  simp
theorem ix_nat {α : Type} (xs : List α) (k : Nat) : atI xs (k : Int) = xs[k]? := by
  unfold atI ixN
  rw [if_pos (by omega)]
  by_cases h : (k : Int) < xs.length
  · rw [if_pos h]
    simp
  · rw [if_neg h]
    simp
    omega
theorem ix_natS {α : Type} (xs : List α) (k : Nat) : atI xs ((k : Int) + 1) = xs[k + 1]? := ix_nat xs (k + 1)
@[simp] theorem ix_0 {α : Type} (x : α) (xs : List α) : atI (x :: xs) 0 = some x := by
  have := ix_nat (x :: xs) 0
  simpa using this
@[simp] theorem ix_1 {α : Type} (x y : α) (xs : List α) : atI (x :: y :: xs) 1 = some y := by
  have := ix_nat (x :: y :: xs) 1
  simpa using this
@[simp] theorem ix_2 {α : Type} (x y z : α) (xs : List α) : atI (x :: y :: z :: xs) 2 = some z := by
  have := ix_nat (x :: y :: z :: xs) 2
  simpa using this
@[simp] theorem ix_3 {α : Type} (x y z w : α) (xs : List α) : atI (x :: y :: z :: w :: xs) 3 = some w := by
  have := ix_nat (x :: y :: z :: w :: xs) 3
  simpa using this
/-- the first n of a row -/
def pre (f : Nat → Int) (n : Nat) : List Int := (List.range n).map f
theorem pre_succ (f : Nat → Int) (n : Nat) : pre f (n + 1) = pre f n ++ [f n] := by unfold pre; rw [List.range_succ, List.map_append]; rfl
@[simp] theorem pre_len (f : Nat → Int) (n : Nat) : (pre f n).length = n := by unfold pre; simp
theorem pre_get (f : Nat → Int) {n k : Nat} (h : k < n) : (pre f n)[k]? = some (f k) := by
  unfold pre
  rw [List.getElem?_map, List.getElem?_range h]
  rfl
theorem pre_mem {f : Nat → Int} {n : Nat} {x : Int} (h : x ∈ pre f n) : ∃ k, k < n ∧ f k = x := by
  unfold pre at h
  simpa using h
theorem mem_pre {f : Nat → Int} {n k : Nat} (h : k < n) : f k ∈ pre f n := by
  unfold pre
  simp
  exact ⟨k, h, rfl⟩
theorem pre_congr {f g : Nat → Int} {n : Nat} (h : ∀ k, k < n → f k = g k) : pre f n = pre g n := by
  unfold pre
  exact List.map_congr_left fun k hk => h k (List.mem_range.mp hk)
theorem map_pre (f : Nat → Int) (n : Nat) : ((List.range n).map fun k => PyData.int (f k)) = iL (pre f n) := by simp [iL, pre]
theorem map_preF (f : Nat → Int) (n : Nat) : (((List.range n).map fun k => PyData.int (f k)).map OT.frz) = fI (pre f n) := by rw [map_pre]; rfl
end Z

set_option maxHeartbeats 4000000
namespace G
open PySem PySem.Spec PyProof.Rows L2 Z
variable [HK]
def top (i : Nat) : Stmt := PySem.Challenge.pw_sluicetree_k15_whole_promises_in_turn.main.body.getD i (.Pass ⟨0, 0, 0, 0⟩)
abbrev s_is_number : Stmt := top 7
abbrev s_need_flow : Stmt := top 11
abbrev s_need_more : Stmt := top 12
abbrev s_sums : Stmt := top 13
abbrev s_need_promise : Stmt := top 16
abbrev s_promised : Stmt := top 17
abbrev s_lazy : Stmt := top 18
abbrev s_in_turn : Stmt := top 19
abbrev s_law_taken : Stmt := top 21
abbrev s_law_alike : Stmt := top 22
abbrev s_law_line : Stmt := top 23
abbrev s_law_flow : Stmt := top 24
abbrev s_law : Stmt := top 25
def d_is_number : Sl → R Out :=
(mRet (mUp (mAnd (mUn (pIsi "int") (mVar 0)) (mAnd (mNot (mUn (pIsi "bool") (mVar 0))) (mChain pLe pLe (mVar 1) (mVar 0) (mVar 2))))))
def dF_is_number : List OT → FR := runDef 3 [] d_is_number
def d_need_flow_b1 : Sl → R Out :=
(mIfS (mOrT (mTest (mBin pEq (mVar 1) (mLit (.int 200)))) (mNotT (mTest (mFrz (mCall dF_is_number [] (mCons (mVar 2) (mCons (mLit (.int 0)) (mCons (mLit (.int 9999)) mNil))))))))
  mNo
  mNext)
def d_need_flow : Sl → R Out :=
(mSeq (mIfS (mNotT (mTest (mUn (pIsi "list") (mVar 0))))
  mNo
  mNext)
(mFor (mEnumA (mCons (mVar 0) mNil)) (fTp 2 (fsCons (fNm 1) (fsCons (fNm 2) fsNil))) d_need_flow_b1))
def dF_need_flow : List OT → FR := runDef 3 [] d_need_flow
def d_need_more : Sl → R Out :=
(mIfS (mNotT (mTest (mFrz (mCall dF_is_number [] (mCons (mVar 0) (mCons (mLit (.int 0)) (mCons (mLit (.int 200)) mNil)))))))
  mNo
  mNext)
def dF_need_more : List OT → FR := runDef 1 [] d_need_more
def d_sums_b1 : Sl → R Out :=
(mAppend 1 (mUp (mPeek (mBin pAdd (mBin pIx (mVar 1) (mUn pNeg (mLit (.int 1)))) (mVar 2)))))
def d_sums : Sl → R Out :=
(mSeq (mAsg (mLst (mCons (mLit (.int 0)) mNil)) (fNm 1))
(mSeq (mFor (mIt (mVar 0)) (fNm 2) d_sums_b1)
(mRet (mMv 1))))
def dF_sums : List OT → FR := runDef 3 [] d_sums
def d_need_promise : Sl → R Out :=
(mSeq (mIfS (mOrT (mNotT (mTest (mUn (pIsi "tuple") (mVar 0)))) (mTest (mBin pNe (mB pLen (mCons (mVar 0) mNil)) (mLit (.int 2)))))
  mNo
  mNext)
(mIfS (mOrT (mNotT (mTest (mFrz (mCall dF_is_number [] (mCons (mBin pIx (mVar 0) (mLit (.int 0))) (mCons (mLit (.int 1)) (mCons (mLit (.int 9999)) mNil))))))) (mNotT (mTest (mFrz (mCall dF_is_number [] (mCons (mBin pIx (mVar 0) (mLit (.int 1))) (mCons (mLit (.int 0)) (mCons (mLit (.int 200)) mNil))))))))
  mNo
  mNext))
def dF_need_promise : List OT → FR := runDef 1 [] d_need_promise
def d_promised : Sl → R Out :=
(mRet (mUp (mBin pMul (mBin pIx (mVar 0) (mLit (.int 0))) (mB pMax (mCons (mLit (.int 0)) (mCons (mBin pSub (mVar 1) (mBin pIx (mVar 0) (mLit (.int 1)))) mNil))))))
def dF_promised : List OT → FR := runDef 2 [] d_promised
def d_lazy_e1 : Sl → R OT :=
(mUp (mBin pAdd (mBin pIx (mVar 3) (mVar 7)) (mFrz (mCall dF_promised [] (mCons (mVar 1) (mCons (mBin pSub (mBin pAdd (mVar 5) (mLit (.int 1))) (mVar 7)) mNil))))))
def d_lazy_l1 : Sl → R OT :=
(mLc [7] (mRng1 (mCons (mBin pAdd (mVar 5) (mLit (.int 1))) mNil)) (fNm 7) mYes d_lazy_e1)
def d_lazy_b1 : Sl → R Out :=
(mSeq (mAsg (mUp (mFrz d_lazy_l1)) (fNm 6))
(mAppend 4 (mUp (mB pMin (mCons (mBin pAdd (mVar 6) (mFrz (mLst (mCons (mBin pIx (mVar 3) (mBin pAdd (mVar 5) (mLit (.int 1)))) mNil)))) mNil)))))
def d_lazy_e2 : Sl → R OT :=
(mUp (mPeek (mBin pSub (mBin pIx (mVar 4) (mBin pAdd (mVar 5) (mLit (.int 1)))) (mBin pIx (mVar 4) (mVar 5)))))
def d_lazy_l2 : Sl → R OT :=
(mLc [5] (mRng1 (mCons (mPeek (mBin pSub (mB pLen (mCons (mVar 4) mNil)) (mLit (.int 1)))) mNil)) (fNm 5) mYes d_lazy_e2)
def d_lazy : Sl → R Out :=
(mSeq (mDrop (mFrz (mCall dF_need_flow [] (mCons (mVar 0) mNil))))
(mSeq (mDrop (mFrz (mCall dF_need_promise [] (mCons (mVar 1) mNil))))
(mSeq (mDrop (mFrz (mCall dF_need_more [] (mCons (mVar 2) mNil))))
(mSeq (mAsg (mUp (mFrz (mCall dF_sums [] (mCons (mBin pAdd (mVar 0) (mBin pMul (mFrz (mLst (mCons (mLit (.int 0)) mNil))) (mVar 2))) mNil)))) (fNm 3))
(mSeq (mAsg (mLst (mCons (mLit (.int 0)) mNil)) (fNm 4))
(mSeq (mFor (mRng1 (mCons (mBin pSub (mB pLen (mCons (mVar 3) mNil)) (mLit (.int 1))) mNil)) (fNm 5) d_lazy_b1)
(mSeq (mAsg (mUp (mFrz d_lazy_l2)) (fNm 8))
(mRet (mUp (mTup (mCons (mVar 8) (mCons (mPeek (mBin pSub (mBin pIx (mVar 3) (mUn pNeg (mLit (.int 1)))) (mBin pIx (mVar 4) (mUn pNeg (mLit (.int 1)))))) mNil))))))))))))
def dF_lazy : List OT → FR := runDef 9 [] d_lazy
def d_in_turn_b1 : Sl → R Out :=
(mDrop (mFrz (mCall dF_need_promise [] (mCons (mVar 1) mNil))))
def d_in_turn_e1 : Sl → R OT :=
(mUp (mVar 2))
def d_in_turn_l1 : Sl → R OT :=
(mLc [2, 3] (mIt (mVar 0)) (fTp 2 (fsCons (fNm 2) (fsCons (fNm 3) fsNil))) mYes d_in_turn_e1)
def d_in_turn_e2 : Sl → R OT :=
(mUp (mVar 3))
def d_in_turn_l2 : Sl → R OT :=
(mLc [2, 3] (mIt (mVar 0)) (fTp 2 (fsCons (fNm 2) (fsCons (fNm 3) fsNil))) mYes d_in_turn_e2)
def d_in_turn : Sl → R Out :=
(mSeq (mIfS (mOrT (mNotT (mTest (mUn (pIsi "list") (mVar 0)))) (mNotT (mTest (mChain pLe pLe (mLit (.int 1)) (mB pLen (mCons (mVar 0) mNil)) (mLit (.int 12))))))
  mNo
  mNext)
(mSeq (mFor (mIt (mVar 0)) (fNm 1) d_in_turn_b1)
(mRet (mUp (mTup (mCons (mB pMin (mCons (mFrz d_in_turn_l1) mNil)) (mCons (mB pSum (mCons (mFrz d_in_turn_l2) mNil)) mNil)))))))
def dF_in_turn : List OT → FR := runDef 4 [] d_in_turn
def d_law_taken : Sl → R Out :=
(mSeq (mIfS (mPeekT (mTest (mBin pGt (mBin pIx (mVar 0) (mLit (.int 3))) (mLit (.int 0)))))
  (mSeq (mAsg (mUp (mPeek (mBin pMod (mBin pIx (mVar 0) (mLit (.int 3))) (mVar 1)))) (fNm 2))
  (mSeq (mStore 0 (mLit (.int 3)) (mUp (mPeek (mBin pDiv (mBin pIx (mVar 0) (mLit (.int 3))) (mVar 1)))))
  (mRet (mUp (mVar 2)))))
  mNext)
(mSeq (mStore 0 (mLit (.int 1)) (mUp (mPeek (mBin pAdd (mBin pIx (mVar 0) (mLit (.int 1))) (mLit (.int 1))))))
(mSeq (mIfS (mPeekT (mTest (mBin pGt (mBin pIx (mVar 0) (mLit (.int 1))) (mB pLen (mCons (mBin pIx (mVar 0) (mLit (.int 0))) mNil)))))
  (mSeq (mStore 0 (mLit (.int 2)) (mUp (mPeek (mBin pMod (mBin pAdd (mBin pMul (mBin pIx (mVar 0) (mLit (.int 2))) (mLit (.int 48271))) (mLit (.int 11))) (mLit (.int 2147483647))))))
  (mRet (mUp (mPeek (mBin pMod (mBin pDiv (mBin pIx (mVar 0) (mLit (.int 2))) (mLit (.int 7))) (mVar 1))))))
  mNext)
(mSeq (mAsg (mUp (mPeek (mBin pIx (mBin pIx (mVar 0) (mLit (.int 0))) (mBin pSub (mBin pIx (mVar 0) (mLit (.int 1))) (mLit (.int 1)))))) (fNm 3))
(mSeq (mStore 0 (mLit (.int 2)) (mUp (mPeek (mBin pMod (mBin pAdd (mBin pAdd (mBin pMul (mBin pIx (mVar 0) (mLit (.int 2))) (mLit (.int 48271))) (mVar 3)) (mLit (.int 11))) (mLit (.int 2147483647))))))
(mSeq (mIfS (mTest (mBin pGe (mVar 3) (mBin pPow (mLit (.int 10)) (mLit (.int 18)))))
  (mStore 0 (mLit (.int 3)) (mUp (mBin pDiv (mVar 3) (mVar 1))))
  mNext)
(mRet (mUp (mBin pMod (mVar 3) (mVar 1))))))))))
def dF_law_taken : List OT → FR := runDef 4 [0] d_law_taken
def d_law_alike_c1 (Frec : List OT → FR) : Sl → R Bool :=
(mNotT (mTest (mFrz (mCall Frec [] (mCons (mBin pIx (mVar 0) (mVar 2)) (mCons (mBin pIx (mVar 1) (mVar 2)) mNil))))))
def d_law_alike_e1 (Frec : List OT → FR) : Sl → R OT :=
(mUp (mVar 2))
def d_law_alike_l1 (Frec : List OT → FR) : Sl → R OT :=
(mLc [2] (mRng1 (mCons (mB pLen (mCons (mVar 0) mNil)) mNil)) (fNm 2) (d_law_alike_c1 Frec) (d_law_alike_e1 Frec))
def d_law_alike (Frec : List OT → FR) : Sl → R Out :=
(mSeq (mIfS (mAndT (mTest (mUn (pIsi2 "tuple" "list") (mVar 0))) (mTest (mUn (pIsi2 "tuple" "list") (mVar 1))))
  (mSeq (mIfS (mOrT (mTest (mBin pNe (mUn (pIsi "tuple") (mVar 0)) (mUn (pIsi "tuple") (mVar 1)))) (mTest (mBin pNe (mB pLen (mCons (mVar 0) mNil)) (mB pLen (mCons (mVar 1) mNil)))))
    (mRet (mUp (mLit (.bool false))))
    mNext)
  (mRet (mUp (mBin pEq (mFrz (d_law_alike_l1 Frec)) (mFrz (mLst mNil))))))
  mNext)
(mRet (mUp (mAnd (mBin pEq (mVar 0) (mVar 1)) (mBin pEq (mUn (pIsi "bool") (mVar 0)) (mUn (pIsi "bool") (mVar 1)))))))
def dF_law_alike : Nat → List OT → FR
  | 0 => fun _ => .no
  | n + 1 => runDef 3 [] (d_law_alike (dF_law_alike n))
def d_law_line_b1 : Sl → R Out :=
(mSeq (mAsg (mUp (mBin pAdd (mLit (.int 1)) (mFrz (mCallL dF_law_taken 0 [] (mCons (mVar 3) mNil))))) (fNm 6))
(mSeq (mAsg (mUp (mBin pIx (mFrz (mLst (mCons (mVar 6) (mCons (mB pMin (mCons (mVar 6) (mCons (mLit (.int 4)) mNil))) mNil)))) (mFrz (mCallL dF_law_taken 0 [] (mCons (mLit (.int 2)) mNil))))) (fNm 7))
(mAppend 4 (mUp (mTup (mCons (mVar 6) (mCons (mFrz (mCallL dF_law_taken 0 [] (mCons (mBin pAdd (mVar 7) (mLit (.int 1))) mNil))) mNil)))))))
def d_law_line : Sl → R Out :=
(mSeq (mAsg (mUp (mBin pIx (mFrz (mLst (mCons (mBin pAdd (mLit (.int 1)) (mFrz (mCallL dF_law_taken 0 [] (mCons (mLit (.int 3)) mNil)))) (mCons (mBin pAdd (mLit (.int 1)) (mFrz (mCallL dF_law_taken 0 [] (mCons (mLit (.int 5)) mNil)))) (mCons (mLit (.int 12)) mNil))))) (mBin pMod (mBin pDiv (mFrz (mCallL dF_law_taken 0 [] (mCons (mLit (.int 12)) mNil))) (mLit (.int 5))) (mLit (.int 3))))) (fNm 2))
(mSeq (mAsg (mUp (mBin pIx (mFrz (mLst (mCons (mB pMin (mCons (mVar 1) (mCons (mLit (.int 12)) mNil))) (mCons (mB pMin (mCons (mVar 1) (mCons (mLit (.int 40)) mNil))) (mCons (mVar 1) mNil))))) (mFrz (mCallL dF_law_taken 0 [] (mCons (mLit (.int 3)) mNil))))) (fNm 3))
(mSeq (mAsg (mLst mNil) (fNm 4))
(mSeq (mFor (mRng1 (mCons (mVar 2) mNil)) (fNm 5) d_law_line_b1)
(mRet (mUp (mB pTuple (mCons (mVar 4) mNil))))))))
def dF_law_line : List OT → FR := runDef 8 [0] d_law_line
def d_law_flow_e1 : Sl → R OT :=
(mUp (mBin pIx (mVar 6) (mLit (.int 0))))
def d_law_flow_l1 : Sl → R OT :=
(mLc [6] (mIt (mVar 1)) (fNm 6) mYes d_law_flow_e1)
def d_law_flow_e2 : Sl → R OT :=
(mUp (mB pMin (mCons (mBin pIx (mVar 6) (mLit (.int 0))) (mCons (mBin pAdd (mVar 9) (mBin pIx (mVar 6) (mLit (.int 1)))) mNil))))
def d_law_flow_l2 : Sl → R OT :=
(mLc [6, 9] (mZipA (mCons (mVar 1) (mCons (mVar 4) mNil))) (fTp 2 (fsCons (fNm 6) (fsCons (fNm 9) fsNil))) mYes d_law_flow_e2)
def d_law_flow_e3 : Sl → R OT :=
(mUp (mB pMax (mCons (mLit (.int 0)) (mCons (mBin pSub (mVar 9) (mVar 12)) mNil))))
def d_law_flow_l3 : Sl → R OT :=
(mLc [9] (mIt (mVar 4)) (fNm 9) mYes d_law_flow_e3)
def d_law_flow_b1 : Sl → R Out :=
(mSeq (mIfS (mTest (mBin pGt (mVar 8) (mLit (.int 0))))
  (mAsg (mUp (mFrz d_law_flow_l2)) (fNm 4))
  mNext)
(mSeq (mAsg (mUp (mB pMin (mCons (mVar 4) mNil))) (fNm 10))
(mSeq (mAsg (mUp (mFrz (mLst (mCons (mVar 10) (mCons (mLit (.int 0)) (mCons (mFrz (mCallL dF_law_taken 0 [] (mCons (mBin pAdd (mVar 10) (mLit (.int 1))) mNil))) (mCons (mBin pIx (mFrz (mLst (mCons (mFrz (mCallL dF_law_taken 0 [] (mCons (mBin pAdd (mVar 3) (mLit (.int 1))) mNil))) (mCons (mVar 10) mNil)))) (mB pInt (mCons (mBin pGt (mVar 7) (mLit (.int 0))) mNil))) mNil))))))) (fNm 11))
(mSeq (mAsg (mUp (mIf (mTest (mBin pLt (mVar 7) (mLit (.int 3)))) (mBin pIx (mVar 11) (mFrz (mCallL dF_law_taken 0 [] (mCons (mLit (.int 4)) mNil)))) (mVar 10))) (fNm 12))
(mSeq (mAppend 5 (mUp (mVar 12)))
(mAsg (mUp (mFrz d_law_flow_l3)) (fNm 4)))))))
def d_law_flow : Sl → R Out :=
(mSeq (mPar 4 5 (mConsB (mUp (mFrz d_law_flow_l1)) (mConsB (mLst mNil) mNilB)))
(mSeq (mAsg (mUp (mFrz (mCallL dF_law_taken 0 [] (mCons (mLit (.int 4)) mNil)))) (fNm 7))
(mSeq (mFor (mRng1 (mCons (mVar 2) mNil)) (fNm 8) d_law_flow_b1)
(mRet (mMv 5)))))
def dF_law_flow : List OT → FR := runDef 13 [0] d_law_flow
def d_law_e1 : Sl → R OT :=
(mUp (mTup (mCons (mBin pAdd (mLit (.int 1)) (mFrz (mCallL dF_law_taken 1 [] (mCons (mLit (.int 40)) mNil)))) (mCons (mFrz (mCallL dF_law_taken 1 [] (mCons (mLit (.int 5)) mNil))) mNil))))
def d_law_l1 : Sl → R OT :=
(mLc [5] (mRng1 (mCons (mBin pAdd (mLit (.int 2)) (mFrz (mCallL dF_law_taken 1 [] (mCons (mLit (.int 3)) mNil)))) mNil)) (fNm 5) mYes d_law_e1)
def d_law_b1 : Sl → R Out :=
(mAsg (mUp (mBin pIx (mFrz (mCallK2 dF_lazy (mCons (mVar 6) (mCons (mVar 7) mNil)) (mCons (mLit (.int 0)) mNil))) (mLit (.int 0)))) (fNm 6))
def d_law_w1 : Sl → R Bool :=
(mPeekT (mTest (mBin pNe (mVar 8) (mFrz (mLst mNil)))))
def d_law_b2 : Sl → R Out :=
(mAsg (mUp (mBin pIx (mFrz (mCallK2 dF_lazy (mCons (mVar 9) (mCons (mFrz (mPopAt 8 (mFrz (mCallL dF_law_taken 1 [] (mCons (mPeek (mB pLen (mCons (mVar 8) mNil))) mNil))))) mNil)) (mCons (mLit (.int 0)) mNil))) (mLit (.int 0)))) (fNm 9))
def d_law_e2 : Sl → R OT :=
(mUp (mBin pIx (mVar 7) (mLit (.int 0))))
def d_law_l2 : Sl → R OT :=
(mLc [7] (mIt (mVar 4)) (fNm 7) mYes d_law_e2)
def d_law_e3 : Sl → R OT :=
(mUp (mBin pIx (mVar 7) (mLit (.int 1))))
def d_law_l3 : Sl → R OT :=
(mLc [7] (mIt (mVar 4)) (fNm 7) mYes d_law_e3)
def d_law_e4 : Sl → R OT :=
(mUp (mTup (mCons (mBin pAdd (mLit (.int 1)) (mFrz (mCallL dF_law_taken 1 [] (mCons (mLit (.int 9999)) mNil)))) (mCons (mFrz (mCallL dF_law_taken 1 [] (mCons (mLit (.int 201)) mNil))) mNil))))
def d_law_l4 : Sl → R OT :=
(mLc [5] (mRng1 (mCons (mBin pAdd (mLit (.int 1)) (mFrz (mCallL dF_law_taken 1 [] (mCons (mLit (.int 12)) mNil)))) mNil)) (fNm 5) mYes d_law_e4)
def d_law_e5 : Sl → R OT :=
(mUp (mBin pIx (mVar 13) (mLit (.int 0))))
def d_law_l5 : Sl → R OT :=
(mLc [13] (mIt (mVar 12)) (fNm 13) mYes d_law_e5)
def d_law_e6 : Sl → R OT :=
(mUp (mBin pIx (mVar 13) (mLit (.int 1))))
def d_law_l6 : Sl → R OT :=
(mLc [13] (mIt (mVar 12)) (fNm 13) mYes d_law_e6)
def d_law_b3 : Sl → R Out :=
(mSeq (mPar 14 15 (mConsB (mUp (mBin pAdd (mVar 14) (mBin pIx (mVar 17) (mVar 18)))) (mConsB (mUp (mBin pAdd (mVar 15) (mBin pIx (mVar 16) (mVar 18)))) mNilB)))
(mIfS (mTest (mBin pGt (mVar 15) (mVar 14)))
  (mRet (mUp (mLit (.bool false))))
  mNext))
def d_law_b4 : Sl → R Out :=
(mSeq (mAsg (mUp (mFrz (mCallL dF_law_flow 1 [] (mCons (mFrz (mCallL dF_law_line 1 [] (mCons (mLit (.int 60)) mNil))) (mCons (mBin pAdd (mLit (.int 1)) (mFrz (mCallL dF_law_taken 1 [] (mCons (mLit (.int 30)) mNil)))) (mCons (mLit (.int 90)) mNil)))))) (fNm 3))
(mSeq (mAsg (mUp (mFrz d_law_l1)) (fNm 4))
(mSeq (mAsg (mUp (mBin pAdd (mVar 3) (mBin pMul (mFrz (mLst (mCons (mLit (.int 0)) mNil))) (mLit (.int 40))))) (fNm 6))
(mSeq (mFor (mIt (mVar 4)) (fNm 7) d_law_b1)
(mSeq (mPar 8 9 (mConsB (mBL pList (mCons (mVar 4) mNil)) (mConsB (mUp (mBin pAdd (mVar 3) (mBin pMul (mFrz (mLst (mCons (mLit (.int 0)) mNil))) (mLit (.int 40))))) mNilB)))
(mSeq (mWhile 1000 d_law_w1 d_law_b2)
(mSeq (mAsg (mUp (mFrz (mCall dF_in_turn [] (mCons (mVar 4) mNil)))) (fNm 10))
(mSeq (mIfS (mTest (mBin pNe (mVar 10) (mTup (mCons (mB pMin (mCons (mFrz d_law_l2) mNil)) (mCons (mB pSum (mCons (mFrz d_law_l3) mNil)) mNil)))))
  (mRet (mUp (mLit (.bool false))))
  mNext)
(mSeq (mAsg (mUp (mBin pIx (mFrz (mCallK2 dF_lazy (mCons (mVar 3) (mCons (mVar 10) mNil)) (mCons (mLit (.int 40)) mNil))) (mLit (.int 0)))) (fNm 11))
(mSeq (mIfS (mOrT (mNotT (mTest (mFrz (mCall (dF_law_alike 8) [] (mCons (mVar 6) (mCons (mVar 11) mNil)))))) (mNotT (mTest (mFrz (mCall (dF_law_alike 8) [] (mCons (mVar 9) (mCons (mVar 11) mNil)))))))
  (mRet (mUp (mLit (.bool false))))
  mNext)
(mSeq (mAsg (mUp (mFrz d_law_l4)) (fNm 12))
(mSeq (mIfS (mTest (mBin pNe (mFrz (mCall dF_in_turn [] (mCons (mVar 12) mNil))) (mTup (mCons (mB pMin (mCons (mFrz d_law_l5) mNil)) (mCons (mB pSum (mCons (mFrz d_law_l6) mNil)) mNil)))))
  (mRet (mUp (mLit (.bool false))))
  mNext)
(mSeq (mPar3 7 14 15 (mConsB (mUp (mBin pIx (mVar 4) (mLit (.int 0)))) (mConsB (mUp (mLit (.int 0))) (mConsB (mUp (mLit (.int 0))) mNilB))))
(mSeq (mAsg (mUp (mBin pIx (mFrz (mCallK2 dF_lazy (mCons (mVar 3) (mCons (mTup (mCons (mB pMax (mCons (mLit (.int 1)) (mCons (mBin pSub (mBin pIx (mVar 7) (mLit (.int 0))) (mFrz (mCallL dF_law_taken 1 [] (mCons (mLit (.int 5)) mNil)))) mNil))) (mCons (mBin pAdd (mBin pIx (mVar 7) (mLit (.int 1))) (mFrz (mCallL dF_law_taken 1 [] (mCons (mLit (.int 3)) mNil)))) mNil))) mNil)) (mCons (mLit (.int 40)) mNil))) (mLit (.int 0)))) (fNm 16))
(mSeq (mAsg (mUp (mBin pIx (mFrz (mCallK2 dF_lazy (mCons (mVar 3) (mCons (mVar 7) mNil)) (mCons (mLit (.int 40)) mNil))) (mLit (.int 0)))) (fNm 17))
(mSeq (mFor (mRng1 (mCons (mB pLen (mCons (mVar 16) mNil)) mNil)) (fNm 18) d_law_b3)
(mIfS (mTest (mBin pNe (mFrz (mCallK2 dF_lazy (mCons (mVar 3) (mCons (mTup (mCons (mB pMax (mCons (mBin pAdd (mFrz (mLst (mCons (mLit (.int 1)) mNil))) (mVar 3)) mNil)) (mCons (mLit (.int 0)) mNil))) mNil)) (mCons (mLit (.int 0)) mNil))) (mTup (mCons (mVar 3) (mCons (mLit (.int 0)) mNil)))))
  (mRet (mUp (mLit (.bool false))))
  mNext)))))))))))))))))
def d_law : Sl → R Out :=
(mSeq (mAsg (mLst (mCons (mVar 0) (mCons (mLit (.int 0)) (mCons (mLit (.int 0)) (mCons (mLit (.int 0)) mNil))))) (fNm 1))
(mSeq (mFor (mRng1 (mCons (mLit (.int 4)) mNil)) (fNm 2) d_law_b4)
(mRet (mUp (mLit (.bool true))))))
def dF_law : List OT → FR := runDef 19 [] d_law
structure Txt (mg : Str → Option Value) : Prop where
  f_is_number : ∃ f fd, mg "is_number" = some (.ref f) ∧ Fun HK.K "is_number" "is_number" s_is_number f fd
  f_need_flow : ∃ f fd, mg "need_flow" = some (.ref f) ∧ Fun HK.K "need_flow" "need_flow" s_need_flow f fd
  f_need_more : ∃ f fd, mg "need_more" = some (.ref f) ∧ Fun HK.K "need_more" "need_more" s_need_more f fd
  f_sums : ∃ f fd, mg "sums" = some (.ref f) ∧ Fun HK.K "sums" "sums" s_sums f fd
  f_need_promise : ∃ f fd, mg "need_promise" = some (.ref f) ∧ Fun HK.K "need_promise" "need_promise" s_need_promise f fd
  f_promised : ∃ f fd, mg "promised" = some (.ref f) ∧ Fun HK.K "promised" "promised" s_promised f fd
  f_lazy : ∃ f fd, mg "lazy" = some (.ref f) ∧ Fun HK.K "lazy" "lazy" s_lazy f fd
  f_in_turn : ∃ f fd, mg "in_turn" = some (.ref f) ∧ Fun HK.K "in_turn" "in_turn" s_in_turn f fd
  f_law_taken : ∃ f fd, mg "_law_taken" = some (.ref f) ∧ Fun HK.K "_law_taken" "_law_taken" s_law_taken f fd
  f_law_alike : ∃ f fd, mg "_law_alike" = some (.ref f) ∧ Fun HK.K "_law_alike" "_law_alike" s_law_alike f fd
  f_law_line : ∃ f fd, mg "_law_line" = some (.ref f) ∧ Fun HK.K "_law_line" "_law_line" s_law_line f fd
  f_law_flow : ∃ f fd, mg "_law_flow" = some (.ref f) ∧ Fun HK.K "_law_flow" "_law_flow" s_law_flow f fd
  f_law : ∃ f fd, mg "law" = some (.ref f) ∧ Fun HK.K "law" "law" s_law f fd
  h_bool : mg "bool" = none
  h_enumerate : mg "enumerate" = none
  h_int : mg "int" = none
  h_isinstance : mg "isinstance" = none
  h_len : mg "len" = none
  h_list : mg "list" = none
  h_max : mg "max" = none
  h_min : mg "min" = none
  h_range : mg "range" = none
  h_sum : mg "sum" = none
  h_tuple : mg "tuple" = none
  h_zip : mg "zip" = none
  h_LONGEST : ∃ t, mg "LONGEST" = some (.int 200 t)
  h_MOST : ∃ t, mg "MOST" = some (.int 9999 t)
  h_TOGETHER : ∃ t, mg "TOGETHER" = some (.int 12 t)
section
variable {P : Program} {w : World} {mg : Str → Option Value} {base : Heap}
theorem sc_is_number : FnScope ["thing", "low", "high"] ["thing", "low", "high"] (defScope s_is_number) := ⟨rfl, rfl, rfl, by decide +kernel, rfl, by decide +kernel, by decide +kernel⟩
theorem bi_is_number {f : Addr} {fd : FuncData} (F : Fun HK.K "is_number" "is_number" s_is_number f fd) : Binds HK.K fd ["thing", "low", "high"] [] := F.binds fun _ _ _ _ _ _ us hl => match us, hl with | [_, _, _], _ => rfl
theorem ok_is_number (T : Txt mg) {f : Addr} {fd : FuncData} (F : Fun HK.K "is_number" "is_number" s_is_number f fd) : FnOk P w HK.K mg base (L2.CX P w) 1 f fd ["thing", "low", "high"] (spF ⟨HK.K, mg⟩ 3 [] dF_is_number) := by
  have h_bool := T.h_bool
  have h_int := T.h_int
  have h_isinstance := T.h_isinstance
  refine fn_ok F sc_is_number (by decide) (by decide) (by decide) fun X E hX hr => ?_
  obtain ⟨cdv, A, outer, sh, H, rfl⟩ := hX
  have nd := (sc_is_number).nd
  have hu := hr.units
  exact (s_one (s_ret (r_up (r_and (r_isi (T := "int") (.inl rfl) rfl h_isinstance rfl h_int (by decide +kernel) (r_var 0)) (r_and (r_not (r_isi (T := "bool") (.inr (.inl rfl)) rfl h_isinstance rfl h_bool (by decide +kernel) (r_var 0))) (r_one (r_chain op_leZ le_ok op_leZ le_ok (r_var 1) (r_var 0) (r_var 2))))))))
theorem sc_need_flow : FnScope ["flow", "number", "many"] ["flow"] (defScope s_need_flow) := ⟨rfl, rfl, rfl, by decide +kernel, rfl, by decide +kernel, by decide +kernel⟩
theorem bi_need_flow {f : Addr} {fd : FuncData} (F : Fun HK.K "need_flow" "need_flow" s_need_flow f fd) : Binds HK.K fd ["flow"] [] := F.binds fun _ _ _ _ _ _ us hl => match us, hl with | [_], _ => rfl
theorem ok_need_flow (T : Txt mg) {f : Addr} {fd : FuncData} (F : Fun HK.K "need_flow" "need_flow" s_need_flow f fd) : FnOk P w HK.K mg base (L2.CX P w) 2 f fd ["flow"] (spF ⟨HK.K, mg⟩ 1 [] dF_need_flow) := by
  have h_enumerate := T.h_enumerate
  have h_isinstance := T.h_isinstance
  have h_list := T.h_list
  obtain ⟨t_LONGEST, h_LONGEST⟩ := T.h_LONGEST
  obtain ⟨t_MOST, h_MOST⟩ := T.h_MOST
  obtain ⟨f_is_number, fd_is_number, m_is_number, F_is_number⟩ := T.f_is_number
  have G_is_number : FnOk P w HK.K mg base (L2.CX P w) 1 f_is_number fd_is_number ["thing", "low", "high"] (spF ⟨HK.K, mg⟩ 3 [] dF_is_number) := ok_is_number T F_is_number
  have b_is_number := bi_is_number F_is_number
  refine fn_ok F sc_need_flow (by decide) (by decide) (by decide) fun X E hX hr => ?_
  obtain ⟨cdv, A, outer, sh, H, rfl⟩ := hX
  have nd := (sc_need_flow).nd
  have hu := hr.units
  exact (s_cons (s_if (r_notT (r_val (r_isi (T := "list") (.inr (.inr (.inr (.inr rfl)))) rfl h_isinstance rfl h_list (by decide +kernel) (r_var 0))))
   (s_one s_no)
   s_nil)
   (s_one (s_for (passes_of rfl) rfl (i_enumA rfl h_enumerate (r_cons (r_var 0) r_nil)) (pg_tup (n := 2) rfl (pgs_cons (pg_name (i := 1) nd rfl (by first | exact Or.inl rfl | exact Or.inr rfl)) (pgs_cons (pg_name (i := 2) nd rfl (by first | exact Or.inl rfl | exact Or.inr rfl)) pgs_nil))) (tg_tup (n := 2) (tgs_cons (tg_name 1 (by decide)) (tgs_cons (tg_name 2 (by decide)) tgs_nil)))
   (s_one (s_if (PW.pt (r_orT (t_eq hu (r_var 1) (r_cst rfl h_LONGEST)) (r_or1 (r_notT (r_val (r_frz (q_call G_is_number (hr.mono (by decide)) (takes_of rfl rfl rfl rfl) rfl m_is_number F_is_number.kp b_is_number (ml_cons (ml_cons (ml_cons ml_nil))) (r_cons (r_var 2) (r_cons r_int (r_cons (r_cst rfl h_MOST) r_nil))))))))))
   (s_one s_no)
   s_nil)))))
theorem sc_need_more : FnScope ["more"] ["more"] (defScope s_need_more) := ⟨rfl, rfl, rfl, by decide +kernel, rfl, by decide +kernel, by decide +kernel⟩
theorem bi_need_more {f : Addr} {fd : FuncData} (F : Fun HK.K "need_more" "need_more" s_need_more f fd) : Binds HK.K fd ["more"] [] := F.binds fun _ _ _ _ _ _ us hl => match us, hl with | [_], _ => rfl
theorem ok_need_more (T : Txt mg) {f : Addr} {fd : FuncData} (F : Fun HK.K "need_more" "need_more" s_need_more f fd) : FnOk P w HK.K mg base (L2.CX P w) 2 f fd ["more"] (spF ⟨HK.K, mg⟩ 1 [] dF_need_more) := by
  obtain ⟨t_LONGEST, h_LONGEST⟩ := T.h_LONGEST
  obtain ⟨f_is_number, fd_is_number, m_is_number, F_is_number⟩ := T.f_is_number
  have G_is_number : FnOk P w HK.K mg base (L2.CX P w) 1 f_is_number fd_is_number ["thing", "low", "high"] (spF ⟨HK.K, mg⟩ 3 [] dF_is_number) := ok_is_number T F_is_number
  have b_is_number := bi_is_number F_is_number
  refine fn_ok F sc_need_more (by decide) (by decide) (by decide) fun X E hX hr => ?_
  obtain ⟨cdv, A, outer, sh, H, rfl⟩ := hX
  have nd := (sc_need_more).nd
  have hu := hr.units
  exact (s_one (s_if (r_notT (r_val (r_frz (q_call G_is_number (hr.mono (by decide)) (takes_of rfl rfl rfl rfl) rfl m_is_number F_is_number.kp b_is_number (ml_cons (ml_cons (ml_cons ml_nil))) (r_cons (r_var 0) (r_cons r_int (r_cons (r_cst rfl h_LONGEST) r_nil)))))))
   (s_one s_no)
   s_nil))
theorem sc_sums : FnScope ["flow", "found", "many"] ["flow"] (defScope s_sums) := ⟨rfl, rfl, rfl, by decide +kernel, rfl, by decide +kernel, by decide +kernel⟩
theorem bi_sums {f : Addr} {fd : FuncData} (F : Fun HK.K "sums" "sums" s_sums f fd) : Binds HK.K fd ["flow"] [] := F.binds fun _ _ _ _ _ _ us hl => match us, hl with | [_], _ => rfl
theorem ok_sums (T : Txt mg) {f : Addr} {fd : FuncData} (F : Fun HK.K "sums" "sums" s_sums f fd) : FnOk P w HK.K mg base (L2.CX P w) 1 f fd ["flow"] (spF ⟨HK.K, mg⟩ 1 [] dF_sums) := by
  refine fn_ok F sc_sums (by decide) (by decide) (by decide) fun X E hX hr => ?_
  obtain ⟨cdv, A, outer, sh, H, rfl⟩ := hX
  have nd := (sc_sums).nd
  have hu := hr.units
  exact (s_cons (s_asg (r_lst (r_cons r_int r_nil)) (pg_name (i := 1) nd rfl (by first | exact Or.inl rfl | exact Or.inr rfl)) (tg_name 1 (by decide)))
   (s_cons (s_for (passes_of rfl) rfl (i_seq (r_var 0)) (pg_name (i := 2) nd rfl (by first | exact Or.inl rfl | exact Or.inr rfl)) (tg_name 2 (by decide))
   (s_one (s_append 1 (r_up (r_peek (z_add (z_ix rfl (r_var 1) (z_neg r_int)) (r_var 2)))))))
   (s_one (s_ret (r_mv 1)))))
theorem sc_need_promise : FnScope ["promise"] ["promise"] (defScope s_need_promise) := ⟨rfl, rfl, rfl, by decide +kernel, rfl, by decide +kernel, by decide +kernel⟩
theorem bi_need_promise {f : Addr} {fd : FuncData} (F : Fun HK.K "need_promise" "need_promise" s_need_promise f fd) : Binds HK.K fd ["promise"] [] := F.binds fun _ _ _ _ _ _ us hl => match us, hl with | [_], _ => rfl
theorem ok_need_promise (T : Txt mg) {f : Addr} {fd : FuncData} (F : Fun HK.K "need_promise" "need_promise" s_need_promise f fd) : FnOk P w HK.K mg base (L2.CX P w) 2 f fd ["promise"] (spF ⟨HK.K, mg⟩ 1 [] dF_need_promise) := by
  have h_isinstance := T.h_isinstance
  have h_len := T.h_len
  have h_tuple := T.h_tuple
  obtain ⟨t_LONGEST, h_LONGEST⟩ := T.h_LONGEST
  obtain ⟨t_MOST, h_MOST⟩ := T.h_MOST
  obtain ⟨f_is_number, fd_is_number, m_is_number, F_is_number⟩ := T.f_is_number
  have G_is_number : FnOk P w HK.K mg base (L2.CX P w) 1 f_is_number fd_is_number ["thing", "low", "high"] (spF ⟨HK.K, mg⟩ 3 [] dF_is_number) := ok_is_number T F_is_number
  have b_is_number := bi_is_number F_is_number
  refine fn_ok F sc_need_promise (by decide) (by decide) (by decide) fun X E hX hr => ?_
  obtain ⟨cdv, A, outer, sh, H, rfl⟩ := hX
  have nd := (sc_need_promise).nd
  have hu := hr.units
  exact (s_cons (s_if (PW.pt (r_orT (r_notT (r_val (r_isi (T := "tuple") (.inr (.inr (.inr (.inl rfl)))) rfl h_isinstance rfl h_tuple (by decide +kernel) (r_var 0)))) (r_or1 (t_ne hu (n_len rfl h_len (r_cons (r_var 0) r_nil)) r_int))))
   (s_one s_no)
   s_nil)
   (s_one (s_if (PW.pt (r_orT (r_notT (r_val (r_frz (q_call G_is_number (hr.mono (by decide)) (takes_of rfl rfl rfl rfl) rfl m_is_number F_is_number.kp b_is_number (ml_cons (ml_cons (ml_cons ml_nil))) (r_cons (z_ix rfl (r_var 0) r_int) (r_cons r_int (r_cons (r_cst rfl h_MOST) r_nil))))))) (r_or1 (r_notT (r_val (r_frz (q_call G_is_number (hr.mono (by decide)) (takes_of rfl rfl rfl rfl) rfl m_is_number F_is_number.kp b_is_number (ml_cons (ml_cons (ml_cons ml_nil))) (r_cons (z_ix rfl (r_var 0) r_int) (r_cons r_int (r_cons (r_cst rfl h_LONGEST) r_nil))))))))))
   (s_one s_no)
   s_nil)))
theorem sc_promised : FnScope ["promise", "ticks"] ["promise", "ticks"] (defScope s_promised) := ⟨rfl, rfl, rfl, by decide +kernel, rfl, by decide +kernel, by decide +kernel⟩
theorem bi_promised {f : Addr} {fd : FuncData} (F : Fun HK.K "promised" "promised" s_promised f fd) : Binds HK.K fd ["promise", "ticks"] [] := F.binds fun _ _ _ _ _ _ us hl => match us, hl with | [_, _], _ => rfl
theorem ok_promised (T : Txt mg) {f : Addr} {fd : FuncData} (F : Fun HK.K "promised" "promised" s_promised f fd) : FnOk P w HK.K mg base (L2.CX P w) 1 f fd ["promise", "ticks"] (spF ⟨HK.K, mg⟩ 2 [] dF_promised) := by
  have h_max := T.h_max
  refine fn_ok F sc_promised (by decide) (by decide) (by decide) fun X E hX hr => ?_
  obtain ⟨cdv, A, outer, sh, H, rfl⟩ := hX
  have nd := (sc_promised).nd
  have hu := hr.units
  exact (s_one (s_ret (r_up (z_mul (z_ix rfl (r_var 0) r_int) (n_max rfl h_max (r_cons r_int (r_cons (z_sub (r_var 1) (z_ix rfl (r_var 0) r_int)) r_nil)))))))
theorem sc_lazy : FnScope ["flow", "promise", "more", "total", "gone", "tick", "some", "begin", "found"] ["flow", "promise", "more"] (defScope s_lazy) := ⟨rfl, rfl, rfl, by decide +kernel, rfl, by decide +kernel, by decide +kernel⟩
theorem kb_lazy {f : Addr} {fd : FuncData} (F : Fun HK.K "lazy" "lazy" s_lazy f fd) : KBn HK.K fd ["flow", "promise", "more"] 2 ["more"] (fun us ws => us ++ ws) (fun vs zs => vs ++ zs) := Fun.kbn F fun _ _ _ _ _ _ us ws h1 h2 => match us, h1, ws, h2 with | [_, _], _, [_], _ => rfl
theorem ok_lazy (T : Txt mg) {f : Addr} {fd : FuncData} (F : Fun HK.K "lazy" "lazy" s_lazy f fd) : FnOk P w HK.K mg base (L2.CX P w) 3 f fd ["flow", "promise", "more"] (spF ⟨HK.K, mg⟩ 3 [] dF_lazy) := by
  have h_len := T.h_len
  have h_min := T.h_min
  have h_range := T.h_range
  obtain ⟨f_need_flow, fd_need_flow, m_need_flow, F_need_flow⟩ := T.f_need_flow
  have G_need_flow : FnOk P w HK.K mg base (L2.CX P w) 2 f_need_flow fd_need_flow ["flow"] (spF ⟨HK.K, mg⟩ 1 [] dF_need_flow) := ok_need_flow T F_need_flow
  have b_need_flow := bi_need_flow F_need_flow
  obtain ⟨f_need_more, fd_need_more, m_need_more, F_need_more⟩ := T.f_need_more
  have G_need_more : FnOk P w HK.K mg base (L2.CX P w) 2 f_need_more fd_need_more ["more"] (spF ⟨HK.K, mg⟩ 1 [] dF_need_more) := ok_need_more T F_need_more
  have b_need_more := bi_need_more F_need_more
  obtain ⟨f_sums, fd_sums, m_sums, F_sums⟩ := T.f_sums
  have G_sums : FnOk P w HK.K mg base (L2.CX P w) 1 f_sums fd_sums ["flow"] (spF ⟨HK.K, mg⟩ 1 [] dF_sums) := ok_sums T F_sums
  have b_sums := bi_sums F_sums
  obtain ⟨f_need_promise, fd_need_promise, m_need_promise, F_need_promise⟩ := T.f_need_promise
  have G_need_promise : FnOk P w HK.K mg base (L2.CX P w) 2 f_need_promise fd_need_promise ["promise"] (spF ⟨HK.K, mg⟩ 1 [] dF_need_promise) := ok_need_promise T F_need_promise
  have b_need_promise := bi_need_promise F_need_promise
  obtain ⟨f_promised, fd_promised, m_promised, F_promised⟩ := T.f_promised
  have G_promised : FnOk P w HK.K mg base (L2.CX P w) 1 f_promised fd_promised ["promise", "ticks"] (spF ⟨HK.K, mg⟩ 2 [] dF_promised) := ok_promised T F_promised
  have b_promised := bi_promised F_promised
  refine fn_ok F sc_lazy (by decide) (by decide) (by decide) fun X E hX hr => ?_
  obtain ⟨cdv, A, outer, sh, H, rfl⟩ := hX
  have nd := (sc_lazy).nd
  have hu := hr.units
  exact (s_cons (s_drop (r_frz (q_call G_need_flow (hr.mono (by decide)) (takes_of rfl rfl rfl rfl) rfl m_need_flow F_need_flow.kp b_need_flow (ml_cons ml_nil) (r_cons (r_var 0) r_nil))))
   (s_cons (s_drop (r_frz (q_call G_need_promise (hr.mono (by decide)) (takes_of rfl rfl rfl rfl) rfl m_need_promise F_need_promise.kp b_need_promise (ml_cons ml_nil) (r_cons (r_var 1) r_nil))))
   (s_cons (s_drop (r_frz (q_call G_need_more (hr.mono (by decide)) (takes_of rfl rfl rfl rfl) rfl m_need_more F_need_more.kp b_need_more (ml_cons ml_nil) (r_cons (r_var 2) r_nil))))
   (s_cons (s_asg (r_up (r_frz (q_call G_sums (hr.mono (by decide)) (takes_of rfl rfl rfl rfl) rfl m_sums F_sums.kp b_sums (ml_cons ml_nil) (r_cons (z_add (r_var 0) (z_mul (r_frz (r_lst (r_cons r_int r_nil))) (r_var 2))) r_nil)))) (pg_name (i := 3) nd rfl (by first | exact Or.inl rfl | exact Or.inr rfl)) (tg_name 3 (by decide)))
   (s_cons (s_asg (r_lst (r_cons r_int r_nil)) (pg_name (i := 4) nd rfl (by first | exact Or.inl rfl | exact Or.inr rfl)) (tg_name 4 (by decide)))
   (s_cons (s_for (passes_of rfl) rfl (i_rng1 rfl h_range (r_cons (z_sub (n_len rfl h_len (r_cons (r_var 3) r_nil)) r_int) r_nil)) (pg_name (i := 5) nd rfl (by first | exact Or.inl rfl | exact Or.inr rfl)) (tg_name 5 (by decide))
   (s_cons (s_setLcF (i := 6) (own := [("begin", 7)]) rfl nd rfl rfl (by decide) rfl (i_rng1 rfl h_range (r_cons (z_add (r_var 5) r_int) r_nil)) (blk_of (by kernel_rfl)) mo_name (in_name (by decide)) (tg_name 7 (by decide)) (by decide) (fun _ _ _ _ _ => (pg_name (i := 7) nd rfl (by first | exact Or.inl rfl | exact Or.inr rfl))) (fun _ _ _ _ _ => r_yes) (fun _ _ _ _ _ => (r_up (z_add (z_ix rfl (r_var 3) (r_var 7)) (r_frz (q_call G_promised (hr.mono (by decide)) takes0 rfl m_promised F_promised.kp b_promised (ml_cons (ml_cons ml_nil)) (r_cons (r_var 1) (r_cons (z_sub (z_add (r_var 5) r_int) (r_var 7)) r_nil))))))))
   (s_one (s_append 4 (r_up (n_min rfl h_min (r_cons (z_add (r_var 6) (r_frz (r_lst (r_cons (z_ix rfl (r_var 3) (z_add (r_var 5) r_int)) r_nil)))) r_nil)))))))
   (s_cons (s_setLcF (i := 8) (own := [("tick", 5)]) rfl nd rfl rfl (by decide) rfl (i_rng1 rfl h_range (r_cons (r_peek (z_sub (n_len rfl h_len (r_cons (r_var 4) r_nil)) r_int)) r_nil)) (blk_of (by kernel_rfl)) mo_name (in_name (by decide)) (tg_name 5 (by decide)) (by decide) (fun _ _ _ _ _ => (pg_name (i := 5) nd rfl (by first | exact Or.inl rfl | exact Or.inr rfl))) (fun _ _ _ _ _ => r_yes) (fun _ _ _ _ _ => (r_up (r_peek (z_sub (z_ix rfl (r_var 4) (z_add (r_var 5) r_int)) (z_ix rfl (r_var 4) (r_var 5)))))))
   (s_one (s_ret (r_up (r_tup (r_cons (r_var 8) (r_cons (r_peek (z_sub (z_ix rfl (r_var 3) (z_neg r_int)) (z_ix rfl (r_var 4) (z_neg r_int)))) r_nil)))))))))))))
theorem sc_in_turn : FnScope ["promises", "promise", "rate", "late"] ["promises"] (defScope s_in_turn) := ⟨rfl, rfl, rfl, by decide +kernel, rfl, by decide +kernel, by decide +kernel⟩
theorem bi_in_turn {f : Addr} {fd : FuncData} (F : Fun HK.K "in_turn" "in_turn" s_in_turn f fd) : Binds HK.K fd ["promises"] [] := F.binds fun _ _ _ _ _ _ us hl => match us, hl with | [_], _ => rfl
theorem ok_in_turn (T : Txt mg) {f : Addr} {fd : FuncData} (F : Fun HK.K "in_turn" "in_turn" s_in_turn f fd) : FnOk P w HK.K mg base (L2.CX P w) 3 f fd ["promises"] (spF ⟨HK.K, mg⟩ 1 [] dF_in_turn) := by
  have h_isinstance := T.h_isinstance
  have h_len := T.h_len
  have h_list := T.h_list
  have h_min := T.h_min
  have h_sum := T.h_sum
  obtain ⟨t_TOGETHER, h_TOGETHER⟩ := T.h_TOGETHER
  obtain ⟨f_need_promise, fd_need_promise, m_need_promise, F_need_promise⟩ := T.f_need_promise
  have G_need_promise : FnOk P w HK.K mg base (L2.CX P w) 2 f_need_promise fd_need_promise ["promise"] (spF ⟨HK.K, mg⟩ 1 [] dF_need_promise) := ok_need_promise T F_need_promise
  have b_need_promise := bi_need_promise F_need_promise
  refine fn_ok F sc_in_turn (by decide) (by decide) (by decide) fun X E hX hr => ?_
  obtain ⟨cdv, A, outer, sh, H, rfl⟩ := hX
  have nd := (sc_in_turn).nd
  have hu := hr.units
  exact (s_cons (s_if (PW.pt (r_orT (r_notT (r_val (r_isi (T := "list") (.inr (.inr (.inr (.inr rfl)))) rfl h_isinstance rfl h_list (by decide +kernel) (r_var 0)))) (r_or1 (r_notT (r_chainT op_leZ le_ok op_leZ le_ok r_int (n_len rfl h_len (r_cons (r_var 0) r_nil)) (r_cst rfl h_TOGETHER))))))
   (s_one s_no)
   s_nil)
   (s_cons (s_for (passes_of rfl) rfl (i_seq (r_var 0)) (pg_name (i := 1) nd rfl (by first | exact Or.inl rfl | exact Or.inr rfl)) (tg_name 1 (by decide))
   (s_one (s_drop (r_frz (q_call G_need_promise (hr.mono (by decide)) (takes_of rfl rfl rfl rfl) rfl m_need_promise F_need_promise.kp b_need_promise (ml_cons ml_nil) (r_cons (r_var 1) r_nil))))))
   (s_one (s_ret (r_up (r_tup (r_cons (n_min rfl h_min (r_cons (r_frz (r_lc (own := [("rate", 2), ("late", 3)]) rfl nd (i_seq (r_var 0)) (blk_of (by kernel_rfl)) (mo_tup (mos_cons mo_name (mos_cons mo_name mos_nil))) (in_tup (ins_cons mo_name (mos_cons mo_name mos_nil) (in_name (by decide)) (ins_cons mo_name mos_nil (in_name (by decide)) ins_nil))) (show TgOk _ [] _ _ from (tg_tup (n := 2) (tgs_cons (tg_name 2 (by decide)) (tgs_cons (tg_name 3 (by decide)) tgs_nil)))) (by decide) (fun _ _ _ _ _ => (pg_tup (n := 2) rfl (pgs_cons (pg_name (i := 2) nd rfl (by first | exact Or.inl rfl | exact Or.inr rfl)) (pgs_cons (pg_name (i := 3) nd rfl (by first | exact Or.inl rfl | exact Or.inr rfl)) pgs_nil)))) (fun _ _ _ _ _ => r_yes) (fun _ _ _ _ _ => (r_up (r_var 2))))) r_nil)) (r_cons (n_sum rfl h_sum (r_cons (r_frz (r_lc (own := [("rate", 2), ("late", 3)]) rfl nd (i_seq (r_var 0)) (blk_of (by kernel_rfl)) (mo_tup (mos_cons mo_name (mos_cons mo_name mos_nil))) (in_tup (ins_cons mo_name (mos_cons mo_name mos_nil) (in_name (by decide)) (ins_cons mo_name mos_nil (in_name (by decide)) ins_nil))) (show TgOk _ [] _ _ from (tg_tup (n := 2) (tgs_cons (tg_name 2 (by decide)) (tgs_cons (tg_name 3 (by decide)) tgs_nil)))) (by decide) (fun _ _ _ _ _ => (pg_tup (n := 2) rfl (pgs_cons (pg_name (i := 2) nd rfl (by first | exact Or.inl rfl | exact Or.inr rfl)) (pgs_cons (pg_name (i := 3) nd rfl (by first | exact Or.inl rfl | exact Or.inr rfl)) pgs_nil)))) (fun _ _ _ _ _ => r_yes) (fun _ _ _ _ _ => (r_up (r_var 3))))) r_nil)) r_nil))))))))
theorem sc_law_taken : FnScope ["_law_row", "_law_many", "_law_found", "_law_cell"] ["_law_row", "_law_many"] (defScope s_law_taken) := ⟨rfl, rfl, rfl, by decide +kernel, rfl, by decide +kernel, by decide +kernel⟩
theorem bi_law_taken {f : Addr} {fd : FuncData} (F : Fun HK.K "_law_taken" "_law_taken" s_law_taken f fd) : Binds HK.K fd ["_law_row", "_law_many"] [] := F.binds fun _ _ _ _ _ _ us hl => match us, hl with | [_, _], _ => rfl
theorem ok_law_taken (T : Txt mg) {f : Addr} {fd : FuncData} (F : Fun HK.K "_law_taken" "_law_taken" s_law_taken f fd) : FnOk P w HK.K mg base (L2.CX P w) 1 f fd ["_law_row", "_law_many"] (spF ⟨HK.K, mg⟩ 2 [0] dF_law_taken) := by
  have h_len := T.h_len
  refine fn_ok F sc_law_taken (by decide) (by decide) (by decide) fun X E hX hr => ?_
  obtain ⟨cdv, A, outer, sh, H, rfl⟩ := hX
  have nd := (sc_law_taken).nd
  have hu := hr.units
  exact (s_cons (s_if (r_peekT (t_gt (z_ix rfl (r_var 0) r_int) r_int))
   (s_cons (s_asg (r_up (r_peek (z_mod (z_ix rfl (r_var 0) r_int) (r_var 1)))) (pg_name (i := 2) nd rfl (by first | exact Or.inl rfl | exact Or.inr rfl)) (tg_name 2 (by decide)))
   (s_cons (s_store 0 (r_up (r_peek (z_div (z_ix rfl (r_var 0) r_int) (r_var 1)))) r_int)
   (s_one (s_ret (r_up (r_var 2))))))
   s_nil)
   (s_cons (s_store 0 (r_up (r_peek (z_add (z_ix rfl (r_var 0) r_int) r_int))) r_int)
   (s_cons (s_if (r_peekT (t_gt (z_ix rfl (r_var 0) r_int) (n_len rfl h_len (r_cons (z_ix rfl (r_var 0) r_int) r_nil))))
   (s_cons (s_store 0 (r_up (r_peek (z_mod (z_add (z_mul (z_ix rfl (r_var 0) r_int) r_int) r_int) r_int))) r_int)
   (s_one (s_ret (r_up (r_peek (z_mod (z_div (z_ix rfl (r_var 0) r_int) r_int) (r_var 1)))))))
   s_nil)
   (s_cons (s_asg (r_up (r_peek (z_ix rfl (z_ix rfl (r_var 0) r_int) (z_sub (z_ix rfl (r_var 0) r_int) r_int)))) (pg_name (i := 3) nd rfl (by first | exact Or.inl rfl | exact Or.inr rfl)) (tg_name 3 (by decide)))
   (s_cons (s_store 0 (r_up (r_peek (z_mod (z_add (z_add (z_mul (z_ix rfl (r_var 0) r_int) r_int) (r_var 3)) r_int) r_int))) r_int)
   (s_cons (s_if (t_ge (r_var 3) (z_pow r_int r_int))
   (s_one (s_store 0 (r_up (z_div (r_var 3) (r_var 1))) r_int))
   s_nil)
   (s_one (s_ret (r_up (z_mod (r_var 3) (r_var 1)))))))))))
theorem sc_law_alike : FnScope ["_law_one", "_law_other", "_law_k"] ["_law_one", "_law_other"] (defScope s_law_alike) := ⟨rfl, rfl, rfl, by decide +kernel, rfl, by decide +kernel, by decide +kernel⟩
theorem bi_law_alike {f : Addr} {fd : FuncData} (F : Fun HK.K "_law_alike" "_law_alike" s_law_alike f fd) : Binds HK.K fd ["_law_one", "_law_other"] [] := F.binds fun _ _ _ _ _ _ us hl => match us, hl with | [_, _], _ => rfl
theorem ok_law_alike (T : Txt mg) {f : Addr} {fd : FuncData} (F : Fun HK.K "_law_alike" "_law_alike" s_law_alike f fd) : ∀ n : Nat, FnOk P w HK.K mg base (L2.CX P w) (n + 0) f fd ["_law_one", "_law_other"] (spF ⟨HK.K, mg⟩ 2 [] (dF_law_alike n))
  | 0 => fn_no F sc_law_alike
  | n + 1 => by
    have h_bool := T.h_bool
    have h_isinstance := T.h_isinstance
    have h_len := T.h_len
    have h_list := T.h_list
    have h_range := T.h_range
    have h_tuple := T.h_tuple
    obtain ⟨f_law_alike, fd_law_alike, m_law_alike, F_law_alike⟩ := T.f_law_alike
    have G_law_alike : FnOk P w HK.K mg base (L2.CX P w) (n + 0) f_law_alike fd_law_alike ["_law_one", "_law_other"] (spF ⟨HK.K, mg⟩ 2 [] (dF_law_alike n)) := ok_law_alike T F_law_alike n
    have b_law_alike := bi_law_alike F_law_alike
    refine fn_ok (k := n + 0) F sc_law_alike (by decide) (by decide) (by decide) fun X E hX hr => ?_
    obtain ⟨cdv, A, outer, sh, H, rfl⟩ := hX
    have nd := (sc_law_alike).nd
    have hu := hr.units
    exact (s_cons (s_if (PW.pt (r_andT (r_val (r_isi2 (T := "tuple") (U := "list") (.inr (.inr (.inr (.inl rfl)))) (.inr (.inr (.inr (.inr rfl)))) rfl h_isinstance rfl h_tuple (by decide +kernel) rfl h_list (by decide +kernel) (r_var 0))) (r_and1 (r_val (r_isi2 (T := "tuple") (U := "list") (.inr (.inr (.inr (.inl rfl)))) (.inr (.inr (.inr (.inr rfl)))) rfl h_isinstance rfl h_tuple (by decide +kernel) rfl h_list (by decide +kernel) (r_var 1))))))
     (s_cons (s_if (PW.pt (r_orT (t_ne hu (r_isi (T := "tuple") (.inr (.inr (.inr (.inl rfl)))) rfl h_isinstance rfl h_tuple (by decide +kernel) (r_var 0)) (r_isi (T := "tuple") (.inr (.inr (.inr (.inl rfl)))) rfl h_isinstance rfl h_tuple (by decide +kernel) (r_var 1))) (r_or1 (t_ne hu (n_len rfl h_len (r_cons (r_var 0) r_nil)) (n_len rfl h_len (r_cons (r_var 1) r_nil))))))
     (s_one (s_ret (r_up r_bl)))
     s_nil)
     (s_one (s_ret (r_up (z_eq hu (r_frz (r_lc (own := [("_law_k", 2)]) rfl nd (i_rng1 rfl h_range (r_cons (n_len rfl h_len (r_cons (r_var 0) r_nil)) r_nil)) (blk_of (by kernel_rfl)) mo_name (in_name (by decide)) (show TgOk _ [] _ _ from (tg_name 2 (by decide))) (by decide) (fun _ _ _ _ _ => (pg_name (i := 2) nd rfl (by first | exact Or.inl rfl | exact Or.inr rfl))) (fun _ _ _ _ _ => (r_one1 (r_notT (r_val (r_frz (q_call G_law_alike (hr.mono (by omega)) takes0 rfl m_law_alike F_law_alike.kp b_law_alike (ml_cons (ml_cons ml_nil)) (r_cons (z_ix rfl (r_var 0) (r_var 2)) (r_cons (z_ix rfl (r_var 1) (r_var 2)) r_nil)))))))) (fun _ _ _ _ _ => (r_up (r_var 2))))) (r_frz (r_lst r_nil)))))))
     s_nil)
     (s_one (s_ret (r_up (r_and (z_eq hu (r_var 0) (r_var 1)) (r_one (z_eq hu (r_isi (T := "bool") (.inr (.inl rfl)) rfl h_isinstance rfl h_bool (by decide +kernel) (r_var 0)) (r_isi (T := "bool") (.inr (.inl rfl)) rfl h_isinstance rfl h_bool (by decide +kernel) (r_var 1)))))))))
theorem sc_law_line : FnScope ["_law_row", "_law_most", "_law_many", "_law_wide", "_law_found", "_law_k", "_law_high", "_law_few"] ["_law_row", "_law_most"] (defScope s_law_line) := ⟨rfl, rfl, rfl, by decide +kernel, rfl, by decide +kernel, by decide +kernel⟩
theorem bi_law_line {f : Addr} {fd : FuncData} (F : Fun HK.K "_law_line" "_law_line" s_law_line f fd) : Binds HK.K fd ["_law_row", "_law_most"] [] := F.binds fun _ _ _ _ _ _ us hl => match us, hl with | [_, _], _ => rfl
theorem ok_law_line (T : Txt mg) {f : Addr} {fd : FuncData} (F : Fun HK.K "_law_line" "_law_line" s_law_line f fd) : FnOk P w HK.K mg base (L2.CX P w) 2 f fd ["_law_row", "_law_most"] (spF ⟨HK.K, mg⟩ 2 [0] dF_law_line) := by
  have h_min := T.h_min
  have h_range := T.h_range
  have h_tuple := T.h_tuple
  obtain ⟨f_law_taken, fd_law_taken, m_law_taken, F_law_taken⟩ := T.f_law_taken
  have G_law_taken : FnOk P w HK.K mg base (L2.CX P w) 1 f_law_taken fd_law_taken ["_law_row", "_law_many"] (spF ⟨HK.K, mg⟩ 2 [0] dF_law_taken) := ok_law_taken T F_law_taken
  have b_law_taken := bi_law_taken F_law_taken
  refine fn_ok F sc_law_line (by decide) (by decide) (by decide) fun X E hX hr => ?_
  obtain ⟨cdv, A, outer, sh, H, rfl⟩ := hX
  have nd := (sc_law_line).nd
  have hu := hr.units
  exact (s_cons (s_asg (r_up (z_ix rfl (r_frz (r_lst (r_cons (z_add r_int (r_frz (q_callL 0 (n := 1) G_law_taken (hr.mono (by decide)) (takes_of rfl rfl rfl rfl) rfl m_law_taken F_law_taken.kp b_law_taken (ml_cons ml_nil) (r_cons r_int r_nil)))) (r_cons (z_add r_int (r_frz (q_callL 0 (n := 1) G_law_taken (hr.mono (by decide)) (takes_of rfl rfl rfl rfl) rfl m_law_taken F_law_taken.kp b_law_taken (ml_cons ml_nil) (r_cons r_int r_nil)))) (r_cons r_int r_nil))))) (z_mod (z_div (r_frz (q_callL 0 (n := 1) G_law_taken (hr.mono (by decide)) (takes_of rfl rfl rfl rfl) rfl m_law_taken F_law_taken.kp b_law_taken (ml_cons ml_nil) (r_cons r_int r_nil))) r_int) r_int))) (pg_name (i := 2) nd rfl (by first | exact Or.inl rfl | exact Or.inr rfl)) (tg_name 2 (by decide)))
   (s_cons (s_asg (r_up (z_ix rfl (r_frz (r_lst (r_cons (n_min rfl h_min (r_cons (r_var 1) (r_cons r_int r_nil))) (r_cons (n_min rfl h_min (r_cons (r_var 1) (r_cons r_int r_nil))) (r_cons (r_var 1) r_nil))))) (r_frz (q_callL 0 (n := 1) G_law_taken (hr.mono (by decide)) (takes_of rfl rfl rfl rfl) rfl m_law_taken F_law_taken.kp b_law_taken (ml_cons ml_nil) (r_cons r_int r_nil))))) (pg_name (i := 3) nd rfl (by first | exact Or.inl rfl | exact Or.inr rfl)) (tg_name 3 (by decide)))
   (s_cons (s_asg (r_lst r_nil) (pg_name (i := 4) nd rfl (by first | exact Or.inl rfl | exact Or.inr rfl)) (tg_name 4 (by decide)))
   (s_cons (s_for (passes_of rfl) rfl (i_rng1 rfl h_range (r_cons (r_var 2) r_nil)) (pg_name (i := 5) nd rfl (by first | exact Or.inl rfl | exact Or.inr rfl)) (tg_name 5 (by decide))
   (s_cons (s_asg (r_up (z_add r_int (r_frz (q_callL 0 (n := 1) G_law_taken (hr.mono (by decide)) (takes_of rfl rfl rfl rfl) rfl m_law_taken F_law_taken.kp b_law_taken (ml_cons ml_nil) (r_cons (r_var 3) r_nil))))) (pg_name (i := 6) nd rfl (by first | exact Or.inl rfl | exact Or.inr rfl)) (tg_name 6 (by decide)))
   (s_cons (s_asg (r_up (z_ix rfl (r_frz (r_lst (r_cons (r_var 6) (r_cons (n_min rfl h_min (r_cons (r_var 6) (r_cons r_int r_nil))) r_nil)))) (r_frz (q_callL 0 (n := 1) G_law_taken (hr.mono (by decide)) (takes_of rfl rfl rfl rfl) rfl m_law_taken F_law_taken.kp b_law_taken (ml_cons ml_nil) (r_cons r_int r_nil))))) (pg_name (i := 7) nd rfl (by first | exact Or.inl rfl | exact Or.inr rfl)) (tg_name 7 (by decide)))
   (s_one (s_append 4 (r_up (r_tup (r_cons (r_var 6) (r_cons (r_frz (q_callL 0 (n := 1) G_law_taken (hr.mono (by decide)) (takes_of rfl rfl rfl rfl) rfl m_law_taken F_law_taken.kp b_law_taken (ml_cons ml_nil) (r_cons (z_add (r_var 7) r_int) r_nil))) r_nil)))))))))
   (s_one (s_ret (r_up (n_tuple h_tuple (r_cons (r_var 4) r_nil)))))))))
theorem sc_law_flow : FnScope ["_law_row", "_law_line_here", "_law_count", "_law_most", "_law_tokens", "_law_found", "_law_pair", "_law_way", "_law_tick", "_law_here", "_law_room", "_law_some", "_law_many"] ["_law_row", "_law_line_here", "_law_count", "_law_most"] (defScope s_law_flow) := ⟨rfl, rfl, rfl, by decide +kernel, rfl, by decide +kernel, by decide +kernel⟩
theorem bi_law_flow {f : Addr} {fd : FuncData} (F : Fun HK.K "_law_flow" "_law_flow" s_law_flow f fd) : Binds HK.K fd ["_law_row", "_law_line_here", "_law_count", "_law_most"] [] := F.binds fun _ _ _ _ _ _ us hl => match us, hl with | [_, _, _, _], _ => rfl
theorem ok_law_flow (T : Txt mg) {f : Addr} {fd : FuncData} (F : Fun HK.K "_law_flow" "_law_flow" s_law_flow f fd) : FnOk P w HK.K mg base (L2.CX P w) 2 f fd ["_law_row", "_law_line_here", "_law_count", "_law_most"] (spF ⟨HK.K, mg⟩ 4 [0] dF_law_flow) := by
  have h_int := T.h_int
  have h_max := T.h_max
  have h_min := T.h_min
  have h_range := T.h_range
  have h_zip := T.h_zip
  obtain ⟨f_law_taken, fd_law_taken, m_law_taken, F_law_taken⟩ := T.f_law_taken
  have G_law_taken : FnOk P w HK.K mg base (L2.CX P w) 1 f_law_taken fd_law_taken ["_law_row", "_law_many"] (spF ⟨HK.K, mg⟩ 2 [0] dF_law_taken) := ok_law_taken T F_law_taken
  have b_law_taken := bi_law_taken F_law_taken
  refine fn_ok F sc_law_flow (by decide) (by decide) (by decide) fun X E hX hr => ?_
  obtain ⟨cdv, A, outer, sh, H, rfl⟩ := hX
  have nd := (sc_law_flow).nd
  have hu := hr.units
  exact (s_cons (s_par (i := 4) (j := 5) rfl nd rfl rfl (by decide) (by decide) (by decide) rfl rfl (b_cons (r_up (r_frz (r_lc (own := [("_law_pair", 6)]) rfl nd (i_seq (r_var 1)) (blk_of (by kernel_rfl)) mo_name (in_name (by decide)) (show TgOk _ [] _ _ from (tg_name 6 (by decide))) (by decide) (fun _ _ _ _ _ => (pg_name (i := 6) nd rfl (by first | exact Or.inl rfl | exact Or.inr rfl))) (fun _ _ _ _ _ => r_yes) (fun _ _ _ _ _ => (r_up (z_ix rfl (r_var 6) r_int)))))) (b_cons (r_lst r_nil) b_nil)) rfl)
   (s_cons (s_asg (r_up (r_frz (q_callL 0 (n := 1) G_law_taken (hr.mono (by decide)) (takes_of rfl rfl rfl rfl) rfl m_law_taken F_law_taken.kp b_law_taken (ml_cons ml_nil) (r_cons r_int r_nil)))) (pg_name (i := 7) nd rfl (by first | exact Or.inl rfl | exact Or.inr rfl)) (tg_name 7 (by decide)))
   (s_cons (s_for (passes_of rfl) rfl (i_rng1 rfl h_range (r_cons (r_var 2) r_nil)) (pg_name (i := 8) nd rfl (by first | exact Or.inl rfl | exact Or.inr rfl)) (tg_name 8 (by decide))
   (s_cons (s_if (t_gt (r_var 8) r_int)
   (s_one (s_setLcF (i := 4) (own := [("_law_pair", 6), ("_law_here", 9)]) rfl nd rfl rfl (by decide) rfl (i_zipA rfl h_zip (r_cons (r_var 1) (r_cons (r_var 4) r_nil))) (blk_of (by kernel_rfl)) (mo_tup (mos_cons mo_name (mos_cons mo_name mos_nil))) (in_tup (ins_cons mo_name (mos_cons mo_name mos_nil) (in_name (by decide)) (ins_cons mo_name mos_nil (in_name (by decide)) ins_nil))) (tg_tup (n := 2) (tgs_cons (tg_name 6 (by decide)) (tgs_cons (tg_name 9 (by decide)) tgs_nil))) (by decide) (fun _ _ _ _ _ => (pg_tup (n := 2) rfl (pgs_cons (pg_name (i := 6) nd rfl (by first | exact Or.inl rfl | exact Or.inr rfl)) (pgs_cons (pg_name (i := 9) nd rfl (by first | exact Or.inl rfl | exact Or.inr rfl)) pgs_nil)))) (fun _ _ _ _ _ => r_yes) (fun _ _ _ _ _ => (r_up (n_min rfl h_min (r_cons (z_ix rfl (r_var 6) r_int) (r_cons (z_add (r_var 9) (z_ix rfl (r_var 6) r_int)) r_nil)))))))
   s_nil)
   (s_cons (s_asg (r_up (n_min rfl h_min (r_cons (r_var 4) r_nil))) (pg_name (i := 10) nd rfl (by first | exact Or.inl rfl | exact Or.inr rfl)) (tg_name 10 (by decide)))
   (s_cons (s_asg (r_up (r_frz (r_lst (r_cons (r_var 10) (r_cons r_int (r_cons (r_frz (q_callL 0 (n := 1) G_law_taken (hr.mono (by decide)) (takes_of rfl rfl rfl rfl) rfl m_law_taken F_law_taken.kp b_law_taken (ml_cons ml_nil) (r_cons (z_add (r_var 10) r_int) r_nil))) (r_cons (z_ix rfl (r_frz (r_lst (r_cons (r_frz (q_callL 0 (n := 1) G_law_taken (hr.mono (by decide)) (takes_of rfl rfl rfl rfl) rfl m_law_taken F_law_taken.kp b_law_taken (ml_cons ml_nil) (r_cons (z_add (r_var 3) r_int) r_nil))) (r_cons (r_var 10) r_nil)))) (n_int h_int (r_cons (z_gt (r_var 7) r_int) r_nil))) r_nil))))))) (pg_name (i := 11) nd rfl (by first | exact Or.inl rfl | exact Or.inr rfl)) (tg_name 11 (by decide)))
   (s_cons (s_asg (r_up (r_if (t_lt (r_var 7) r_int) (z_ix rfl (r_var 11) (r_frz (q_callL 0 (n := 1) G_law_taken (hr.mono (by decide)) (takes_of rfl rfl rfl rfl) rfl m_law_taken F_law_taken.kp b_law_taken (ml_cons ml_nil) (r_cons r_int r_nil)))) (r_var 10))) (pg_name (i := 12) nd rfl (by first | exact Or.inl rfl | exact Or.inr rfl)) (tg_name 12 (by decide)))
   (s_cons (s_append 5 (r_up (r_var 12)))
   (s_one (s_setLcF (i := 4) (own := [("_law_here", 9)]) rfl nd rfl rfl (by decide) rfl (i_seq (r_var 4)) (blk_of (by kernel_rfl)) mo_name (in_name (by decide)) (tg_name 9 (by decide)) (by decide) (fun _ _ _ _ _ => (pg_name (i := 9) nd rfl (by first | exact Or.inl rfl | exact Or.inr rfl))) (fun _ _ _ _ _ => r_yes) (fun _ _ _ _ _ => (r_up (n_max rfl h_max (r_cons r_int (r_cons (z_sub (r_var 9) (r_var 12)) r_nil)))))))))))))
   (s_one (s_ret (r_mv 5))))))
theorem sc_law : FnScope ["_law_script", "_law_row", "_law_turn", "_law_flow_here", "_law_some", "_law_k", "_law_out", "_law_promise", "_law_mixed", "_law_back", "_law_whole", "_law_due", "_law_far", "_law_one", "_law_gone", "_law_less", "_law_slow", "_law_fast", "_law_tick"] ["_law_script"] (defScope s_law) := ⟨rfl, rfl, rfl, by decide +kernel, rfl, by decide +kernel, by decide +kernel⟩
theorem bi_law {f : Addr} {fd : FuncData} (F : Fun HK.K "law" "law" s_law f fd) : Binds HK.K fd ["_law_script"] [] := F.binds fun _ _ _ _ _ _ us hl => match us, hl with | [_], _ => rfl
theorem ok_law (T : Txt mg) {f : Addr} {fd : FuncData} (F : Fun HK.K "law" "law" s_law f fd) : FnOk P w HK.K mg base (L2.CX P w) 9 f fd ["_law_script"] (spF ⟨HK.K, mg⟩ 1 [] dF_law) := by
  have h_len := T.h_len
  have h_list := T.h_list
  have h_max := T.h_max
  have h_min := T.h_min
  have h_range := T.h_range
  have h_sum := T.h_sum
  obtain ⟨f_lazy, fd_lazy, m_lazy, F_lazy⟩ := T.f_lazy
  have G_lazy : FnOk P w HK.K mg base (L2.CX P w) 3 f_lazy fd_lazy ["flow", "promise", "more"] (spF ⟨HK.K, mg⟩ 3 [] dF_lazy) := ok_lazy T F_lazy
  have kb_lazy := kb_lazy F_lazy
  obtain ⟨f_in_turn, fd_in_turn, m_in_turn, F_in_turn⟩ := T.f_in_turn
  have G_in_turn : FnOk P w HK.K mg base (L2.CX P w) 3 f_in_turn fd_in_turn ["promises"] (spF ⟨HK.K, mg⟩ 1 [] dF_in_turn) := ok_in_turn T F_in_turn
  have b_in_turn := bi_in_turn F_in_turn
  obtain ⟨f_law_taken, fd_law_taken, m_law_taken, F_law_taken⟩ := T.f_law_taken
  have G_law_taken : FnOk P w HK.K mg base (L2.CX P w) 1 f_law_taken fd_law_taken ["_law_row", "_law_many"] (spF ⟨HK.K, mg⟩ 2 [0] dF_law_taken) := ok_law_taken T F_law_taken
  have b_law_taken := bi_law_taken F_law_taken
  obtain ⟨f_law_alike, fd_law_alike, m_law_alike, F_law_alike⟩ := T.f_law_alike
  have G_law_alike : FnOk P w HK.K mg base (L2.CX P w) 8 f_law_alike fd_law_alike ["_law_one", "_law_other"] (spF ⟨HK.K, mg⟩ 2 [] (dF_law_alike 8)) := ok_law_alike T F_law_alike 8
  have b_law_alike := bi_law_alike F_law_alike
  obtain ⟨f_law_line, fd_law_line, m_law_line, F_law_line⟩ := T.f_law_line
  have G_law_line : FnOk P w HK.K mg base (L2.CX P w) 2 f_law_line fd_law_line ["_law_row", "_law_most"] (spF ⟨HK.K, mg⟩ 2 [0] dF_law_line) := ok_law_line T F_law_line
  have b_law_line := bi_law_line F_law_line
  obtain ⟨f_law_flow, fd_law_flow, m_law_flow, F_law_flow⟩ := T.f_law_flow
  have G_law_flow : FnOk P w HK.K mg base (L2.CX P w) 2 f_law_flow fd_law_flow ["_law_row", "_law_line_here", "_law_count", "_law_most"] (spF ⟨HK.K, mg⟩ 4 [0] dF_law_flow) := ok_law_flow T F_law_flow
  have b_law_flow := bi_law_flow F_law_flow
  refine fn_ok F sc_law (by decide) (by decide) (by decide) fun X E hX hr => ?_
  obtain ⟨cdv, A, outer, sh, H, rfl⟩ := hX
  have nd := (sc_law).nd
  have hu := hr.units
  exact (s_cons (s_asg (r_lst (r_cons (r_var 0) (r_cons r_int (r_cons r_int (r_cons r_int r_nil))))) (pg_name (i := 1) nd rfl (by first | exact Or.inl rfl | exact Or.inr rfl)) (tg_name 1 (by decide)))
   (s_cons (s_for (passes_of rfl) rfl (i_rng1 rfl h_range (r_cons r_int r_nil)) (pg_name (i := 2) nd rfl (by first | exact Or.inl rfl | exact Or.inr rfl)) (tg_name 2 (by decide))
   (s_cons (s_asg (r_up (r_frz (q_callL 1 (n := 3) G_law_flow (hr.mono (by decide)) (takes_of rfl rfl rfl rfl) rfl m_law_flow F_law_flow.kp b_law_flow (ml_cons (ml_cons (ml_cons ml_nil))) (r_cons (r_frz (q_callL 1 (n := 1) G_law_line (hr.mono (by decide)) (takes_of rfl rfl rfl rfl) rfl m_law_line F_law_line.kp b_law_line (ml_cons ml_nil) (r_cons r_int r_nil))) (r_cons (z_add r_int (r_frz (q_callL 1 (n := 1) G_law_taken (hr.mono (by decide)) (takes_of rfl rfl rfl rfl) rfl m_law_taken F_law_taken.kp b_law_taken (ml_cons ml_nil) (r_cons r_int r_nil)))) (r_cons r_int r_nil)))))) (pg_name (i := 3) nd rfl (by first | exact Or.inl rfl | exact Or.inr rfl)) (tg_name 3 (by decide)))
   (s_cons (s_setLcF (i := 4) (own := [("_law_k", 5)]) rfl nd rfl rfl (by decide) rfl (i_rng1 rfl h_range (r_cons (z_add r_int (r_frz (q_callL 1 (n := 1) G_law_taken (hr.mono (by decide)) (takes_of rfl rfl rfl rfl) rfl m_law_taken F_law_taken.kp b_law_taken (ml_cons ml_nil) (r_cons r_int r_nil)))) r_nil)) (blk_of (by kernel_rfl)) mo_name (in_name (by decide)) (tg_name 5 (by decide)) (by decide) (fun _ _ _ _ _ => (pg_name (i := 5) nd rfl (by first | exact Or.inl rfl | exact Or.inr rfl))) (fun _ _ _ _ _ => r_yes) (fun _ _ _ _ _ => (r_up (r_tup (r_cons (z_add r_int (r_frz (q_callL 1 (n := 1) G_law_taken (hr.mono (by decide)) takes0 rfl m_law_taken F_law_taken.kp b_law_taken (ml_cons ml_nil) (r_cons r_int r_nil)))) (r_cons (r_frz (q_callL 1 (n := 1) G_law_taken (hr.mono (by decide)) takes0 rfl m_law_taken F_law_taken.kp b_law_taken (ml_cons ml_nil) (r_cons r_int r_nil))) r_nil))))))
   (s_cons (s_asg (r_up (z_add (r_var 3) (z_mul (r_frz (r_lst (r_cons r_int r_nil))) r_int))) (pg_name (i := 6) nd rfl (by first | exact Or.inl rfl | exact Or.inr rfl)) (tg_name 6 (by decide)))
   (s_cons (s_for (passes_of rfl) rfl (i_seq (r_var 4)) (pg_name (i := 7) nd rfl (by first | exact Or.inl rfl | exact Or.inr rfl)) (tg_name 7 (by decide))
   (s_one (s_asg (r_up (z_ix rfl (r_frz (q_callK (a := 2) (b := 1) G_lazy (hr.mono (by decide)) (takes_of rfl rfl rfl rfl) rfl m_lazy F_lazy.kp kb_lazy (ml_cons (ml_cons ml_nil)) (ml_cons ml_nil) rfl (r_cons (r_var 6) (r_cons (r_var 7) r_nil)) (k_cons r_int k_nil))) r_int)) (pg_name (i := 6) nd rfl (by first | exact Or.inl rfl | exact Or.inr rfl)) (tg_name 6 (by decide)))))
   (s_cons (s_par (i := 8) (j := 9) rfl nd rfl rfl (by decide) (by decide) (by decide) rfl rfl (b_cons (n_list h_list (r_cons (r_var 4) r_nil)) (b_cons (r_up (z_add (r_var 3) (z_mul (r_frz (r_lst (r_cons r_int r_nil))) r_int))) b_nil)) rfl)
   (s_cons (s_while 1000 (passes_of rfl) (r_peekT (t_ne hu (r_var 8) (r_frz (r_lst r_nil))))
   (s_one (s_asg (r_up (z_ix rfl (r_frz (q_callK (a := 2) (b := 1) G_lazy (hr.mono (by decide)) (takes_of rfl rfl rfl rfl) rfl m_lazy F_lazy.kp kb_lazy (ml_cons (ml_cons ml_nil)) (ml_cons ml_nil) rfl (r_cons (r_var 9) (r_cons (r_frz (r_popAt 8 (r_frz (q_callL 1 (n := 1) G_law_taken (hr.mono (by decide)) (takes_of rfl rfl rfl rfl) rfl m_law_taken F_law_taken.kp b_law_taken (ml_cons ml_nil) (r_cons (r_peek (n_len rfl h_len (r_cons (r_var 8) r_nil))) r_nil))))) r_nil)) (k_cons r_int k_nil))) r_int)) (pg_name (i := 9) nd rfl (by first | exact Or.inl rfl | exact Or.inr rfl)) (tg_name 9 (by decide)))))
   (s_cons (s_asg (r_up (r_frz (q_call G_in_turn (hr.mono (by decide)) (takes_of rfl rfl rfl rfl) rfl m_in_turn F_in_turn.kp b_in_turn (ml_cons ml_nil) (r_cons (r_var 4) r_nil)))) (pg_name (i := 10) nd rfl (by first | exact Or.inl rfl | exact Or.inr rfl)) (tg_name 10 (by decide)))
   (s_cons (s_if (t_ne hu (r_var 10) (r_tup (r_cons (n_min rfl h_min (r_cons (r_frz (r_lc (own := [("_law_promise", 7)]) rfl nd (i_seq (r_var 4)) (blk_of (by kernel_rfl)) mo_name (in_name (by decide)) (show TgOk _ [] _ _ from (tg_name 7 (by decide))) (by decide) (fun _ _ _ _ _ => (pg_name (i := 7) nd rfl (by first | exact Or.inl rfl | exact Or.inr rfl))) (fun _ _ _ _ _ => r_yes) (fun _ _ _ _ _ => (r_up (z_ix rfl (r_var 7) r_int))))) r_nil)) (r_cons (n_sum rfl h_sum (r_cons (r_frz (r_lc (own := [("_law_promise", 7)]) rfl nd (i_seq (r_var 4)) (blk_of (by kernel_rfl)) mo_name (in_name (by decide)) (show TgOk _ [] _ _ from (tg_name 7 (by decide))) (by decide) (fun _ _ _ _ _ => (pg_name (i := 7) nd rfl (by first | exact Or.inl rfl | exact Or.inr rfl))) (fun _ _ _ _ _ => r_yes) (fun _ _ _ _ _ => (r_up (z_ix rfl (r_var 7) r_int))))) r_nil)) r_nil))))
   (s_one (s_ret (r_up r_bl)))
   s_nil)
   (s_cons (s_asg (r_up (z_ix rfl (r_frz (q_callK (a := 2) (b := 1) G_lazy (hr.mono (by decide)) (takes_of rfl rfl rfl rfl) rfl m_lazy F_lazy.kp kb_lazy (ml_cons (ml_cons ml_nil)) (ml_cons ml_nil) rfl (r_cons (r_var 3) (r_cons (r_var 10) r_nil)) (k_cons r_int k_nil))) r_int)) (pg_name (i := 11) nd rfl (by first | exact Or.inl rfl | exact Or.inr rfl)) (tg_name 11 (by decide)))
   (s_cons (s_if (PW.pt (r_orT (r_notT (r_val (r_frz (q_call G_law_alike (hr.mono (by decide)) (takes_of rfl rfl rfl rfl) rfl m_law_alike F_law_alike.kp b_law_alike (ml_cons (ml_cons ml_nil)) (r_cons (r_var 6) (r_cons (r_var 11) r_nil)))))) (r_or1 (r_notT (r_val (r_frz (q_call G_law_alike (hr.mono (by decide)) (takes_of rfl rfl rfl rfl) rfl m_law_alike F_law_alike.kp b_law_alike (ml_cons (ml_cons ml_nil)) (r_cons (r_var 9) (r_cons (r_var 11) r_nil)))))))))
   (s_one (s_ret (r_up r_bl)))
   s_nil)
   (s_cons (s_setLcF (i := 12) (own := [("_law_k", 5)]) rfl nd rfl rfl (by decide) rfl (i_rng1 rfl h_range (r_cons (z_add r_int (r_frz (q_callL 1 (n := 1) G_law_taken (hr.mono (by decide)) (takes_of rfl rfl rfl rfl) rfl m_law_taken F_law_taken.kp b_law_taken (ml_cons ml_nil) (r_cons r_int r_nil)))) r_nil)) (blk_of (by kernel_rfl)) mo_name (in_name (by decide)) (tg_name 5 (by decide)) (by decide) (fun _ _ _ _ _ => (pg_name (i := 5) nd rfl (by first | exact Or.inl rfl | exact Or.inr rfl))) (fun _ _ _ _ _ => r_yes) (fun _ _ _ _ _ => (r_up (r_tup (r_cons (z_add r_int (r_frz (q_callL 1 (n := 1) G_law_taken (hr.mono (by decide)) takes0 rfl m_law_taken F_law_taken.kp b_law_taken (ml_cons ml_nil) (r_cons r_int r_nil)))) (r_cons (r_frz (q_callL 1 (n := 1) G_law_taken (hr.mono (by decide)) takes0 rfl m_law_taken F_law_taken.kp b_law_taken (ml_cons ml_nil) (r_cons r_int r_nil))) r_nil))))))
   (s_cons (s_if (t_ne hu (r_frz (q_call G_in_turn (hr.mono (by decide)) (takes_of rfl rfl rfl rfl) rfl m_in_turn F_in_turn.kp b_in_turn (ml_cons ml_nil) (r_cons (r_var 12) r_nil))) (r_tup (r_cons (n_min rfl h_min (r_cons (r_frz (r_lc (own := [("_law_one", 13)]) rfl nd (i_seq (r_var 12)) (blk_of (by kernel_rfl)) mo_name (in_name (by decide)) (show TgOk _ [] _ _ from (tg_name 13 (by decide))) (by decide) (fun _ _ _ _ _ => (pg_name (i := 13) nd rfl (by first | exact Or.inl rfl | exact Or.inr rfl))) (fun _ _ _ _ _ => r_yes) (fun _ _ _ _ _ => (r_up (z_ix rfl (r_var 13) r_int))))) r_nil)) (r_cons (n_sum rfl h_sum (r_cons (r_frz (r_lc (own := [("_law_one", 13)]) rfl nd (i_seq (r_var 12)) (blk_of (by kernel_rfl)) mo_name (in_name (by decide)) (show TgOk _ [] _ _ from (tg_name 13 (by decide))) (by decide) (fun _ _ _ _ _ => (pg_name (i := 13) nd rfl (by first | exact Or.inl rfl | exact Or.inr rfl))) (fun _ _ _ _ _ => r_yes) (fun _ _ _ _ _ => (r_up (z_ix rfl (r_var 13) r_int))))) r_nil)) r_nil))))
   (s_one (s_ret (r_up r_bl)))
   s_nil)
   (s_cons (s_par3 (i := 7) (j := 14) (l := 15) rfl nd rfl rfl rfl (by decide) (by decide) (by decide) (by decide) (by decide) (by decide) rfl rfl rfl (b_cons (r_up (z_ix rfl (r_var 4) r_int)) (b_cons (r_up r_int) (b_cons (r_up r_int) b_nil))) rfl)
   (s_cons (s_asg (r_up (z_ix rfl (r_frz (q_callK (a := 2) (b := 1) G_lazy (hr.mono (by decide)) (takes_of rfl rfl rfl rfl) rfl m_lazy F_lazy.kp kb_lazy (ml_cons (ml_cons ml_nil)) (ml_cons ml_nil) rfl (r_cons (r_var 3) (r_cons (r_tup (r_cons (n_max rfl h_max (r_cons r_int (r_cons (z_sub (z_ix rfl (r_var 7) r_int) (r_frz (q_callL 1 (n := 1) G_law_taken (hr.mono (by decide)) (takes_of rfl rfl rfl rfl) rfl m_law_taken F_law_taken.kp b_law_taken (ml_cons ml_nil) (r_cons r_int r_nil)))) r_nil))) (r_cons (z_add (z_ix rfl (r_var 7) r_int) (r_frz (q_callL 1 (n := 1) G_law_taken (hr.mono (by decide)) (takes_of rfl rfl rfl rfl) rfl m_law_taken F_law_taken.kp b_law_taken (ml_cons ml_nil) (r_cons r_int r_nil)))) r_nil))) r_nil)) (k_cons r_int k_nil))) r_int)) (pg_name (i := 16) nd rfl (by first | exact Or.inl rfl | exact Or.inr rfl)) (tg_name 16 (by decide)))
   (s_cons (s_asg (r_up (z_ix rfl (r_frz (q_callK (a := 2) (b := 1) G_lazy (hr.mono (by decide)) (takes_of rfl rfl rfl rfl) rfl m_lazy F_lazy.kp kb_lazy (ml_cons (ml_cons ml_nil)) (ml_cons ml_nil) rfl (r_cons (r_var 3) (r_cons (r_var 7) r_nil)) (k_cons r_int k_nil))) r_int)) (pg_name (i := 17) nd rfl (by first | exact Or.inl rfl | exact Or.inr rfl)) (tg_name 17 (by decide)))
   (s_cons (s_for (passes_of rfl) rfl (i_rng1 rfl h_range (r_cons (n_len rfl h_len (r_cons (r_var 16) r_nil)) r_nil)) (pg_name (i := 18) nd rfl (by first | exact Or.inl rfl | exact Or.inr rfl)) (tg_name 18 (by decide))
   (s_cons (s_par (i := 14) (j := 15) rfl nd rfl rfl (by decide) (by decide) (by decide) rfl rfl (b_cons (r_up (z_add (r_var 14) (z_ix rfl (r_var 17) (r_var 18)))) (b_cons (r_up (z_add (r_var 15) (z_ix rfl (r_var 16) (r_var 18)))) b_nil)) rfl)
   (s_one (s_if (t_gt (r_var 15) (r_var 14))
   (s_one (s_ret (r_up r_bl)))
   s_nil))))
   (s_one (s_if (t_ne hu (r_frz (q_callK (a := 2) (b := 1) G_lazy (hr.mono (by decide)) (takes_of rfl rfl rfl rfl) rfl m_lazy F_lazy.kp kb_lazy (ml_cons (ml_cons ml_nil)) (ml_cons ml_nil) rfl (r_cons (r_var 3) (r_cons (r_tup (r_cons (n_max rfl h_max (r_cons (z_add (r_frz (r_lst (r_cons r_int r_nil))) (r_var 3)) r_nil)) (r_cons r_int r_nil))) r_nil)) (k_cons r_int k_nil))) (r_tup (r_cons (r_var 3) (r_cons r_int r_nil))))
   (s_one (s_ret (r_up r_bl)))
   s_nil)))))))))))))))))))
   (s_one (s_ret (r_up r_bl)))))
end
end G

set_option maxHeartbeats 4000000
namespace G
open PySem L2 Z
def row (ns : List Int) (a b c : Int) : OT := .nod .lst [.frz (scrD ns), .frz (.int a), .frz (.int b), .frz (.int c)]
/-- the row of draws -/
def IsRow (t : OT) : Prop := ∃ ns a b c, t = row ns a b c ∧ 0 ≤ a
theorem taken {t : OT} {m : Int} (ht : IsRow t) (hm : 0 < m) (hm2 : m ≤ 1000000000) : ∃ v t', dF_law_taken [t, .frz (.int m)] = .ok (.frz (.int v)) [t'] ∧ IsRow t' ∧ 0 ≤ v ∧ v < m := by
  obtain ⟨ns, a, b, c, rfl, ha⟩ := ht
  by_cases hc : 0 < c
  · exact ⟨c % m, row ns a b (c / m), by simp [dF_law_taken, runDef, d_law_taken, row, atI, ixN, hm, fitD hm hm2, hc], ⟨ns, a, b, _, rfl, ha⟩, Int.emod_nonneg _ (by omega), Int.emod_lt_of_pos _ hm⟩
  · by_cases hl : (ns.length : Int) < a + 1
    · refine ⟨_, row ns (a + 1) _ c, by simp [dF_law_taken, runDef, d_law_taken, row, atI, ixN, hm, fitD hm hm2, hc, hl]; exact ⟨rfl, rfl⟩, ⟨ns, _, _, _, rfl, by omega⟩, Int.emod_nonneg _ (by omega), Int.emod_lt_of_pos _ hm⟩
    · have h2 : a < (ns.length : Int) := by omega
      obtain ⟨x, hx⟩ : ∃ x, ns[a.toNat]'(by omega) = x := ⟨_, rfl⟩
      by_cases hg : (1000000000000000000 : Int) ≤ x
      · exact ⟨x % m, row ns (a + 1) ((b * 48271 + x + 11) % 2147483647) (x / m), by simp [dF_law_taken, runDef, d_law_taken, row, atI, ixN, hm, fitD hm hm2, hc, hl, h2, ha, hx, hg], ⟨ns, _, _, _, rfl, by omega⟩, Int.emod_nonneg _ (by omega), Int.emod_lt_of_pos _ hm⟩
      · exact ⟨x % m, row ns (a + 1) ((b * 48271 + x + 11) % 2147483647) c, by simp [dF_law_taken, runDef, d_law_taken, row, atI, ixN, hm, fitD hm hm2, hc, hl, h2, ha, hx, hg], ⟨ns, _, _, _, rfl, by omega⟩, Int.emod_nonneg _ (by omega), Int.emod_lt_of_pos _ hm⟩
theorem row0 (ns : List Int) : IsRow (row ns 0 0 0) := ⟨ns, 0, 0, 0, rfl, Int.le_refl _⟩
@[simp] theorem f_is_number (i lo hi : Int) : dF_is_number [.frz (.int i), .frz (.int lo), .frz (.int hi)] = .ok (.frz (.bool (decide (lo ≤ i ∧ i ≤ hi)))) [] := by
  by_cases h : lo ≤ i <;> simp [dF_is_number, runDef, d_is_number, h]
theorem f_need_flow {l : List Int} (hl : l.length ≤ 200) (h : ∀ x ∈ l, 0 ≤ x ∧ x ≤ 9999) : dF_need_flow [.frz (.list (iL l))] = .ok (.frz .none) [] := by
  obtain ⟨st', e, ⟨a, b, rfl⟩⟩ := loop0 (h := fTp 2 (fsCons (fNm 1) (fsCons (fNm 2) fsNil))) (ms := d_need_flow_b1)
    (ds := enumD (iL l)) (st := [some (.frz (.list (iL l))), none, none]) (fun k s => ∃ a b, s = [some (.frz (.list (iL l))), a, b]) ⟨none, none, rfl⟩ fun k d s hk ⟨a, b, hs⟩ => by
      subst hs
      obtain ⟨y, hk1, rfl⟩ := enum_get hk
      obtain ⟨x, e, rfl, hk2⟩ := iL_get hk1
      have hx := h x (List.mem_of_getElem? e)
      have : ¬ ((k : Int) = 200) := by omega
      exact ⟨[some (.frz (.list (iL l))), some (.frz (.int k)), some (.frz (.int x))], [some (.frz (.list (iL l))), some (.frz (.int k)), some (.frz (.int x))], .nx, by simp, by simp [this, hx, d_need_flow_b1], .inl rfl, _, _, rfl⟩
  simp [dF_need_flow, runDef, d_need_flow, e]
theorem f_need_more {m : Int} (h : 0 ≤ m ∧ m ≤ 200) : dF_need_more [.frz (.int m)] = .ok (.frz .none) [] := by
  simp [dF_need_more, runDef, d_need_more, h]
def pr (R L : Int) : PyData := .tuple [.int R, .int L]
theorem f_need_promise {R L : Int} (h : 1 ≤ R ∧ R ≤ 9999) (h2 : 0 ≤ L ∧ L ≤ 200) : dF_need_promise [.frz (pr R L)] = .ok (.frz .none) [] := by
  simp [dF_need_promise, runDef, d_need_promise, pr, h, h2]
theorem f_promised {R L t : Int} (h : 1 ≤ R ∧ R ≤ 9999) : dF_promised [.frz (pr R L), .frz (.int t)] = .ok (.frz (.int (R * max 0 (t - L)))) [] := by
  simp [dF_promised, runDef, d_promised, pr, fitMl (show -1000000000 ≤ R by omega) (show R ≤ 1000000000 by omega)]
end G

set_option maxHeartbeats 4000000
namespace G
open PySem L2 Z
/-- sums of the first so many -/
def S (l : List Int) (k : Nat) : Int := (l.take k).sum
theorem S_succ (l : List Int) {k : Nat} {x : Int} (h : l[k]? = some x) : S l (k + 1) = S l k + x := by
  unfold S
  rw [List.take_add_one, h, List.sum_append]
  simp
theorem f_sums {l : List Int} (hl : l.length ≤ 1000) : dF_sums [.frz (.list (iL l))] = .ok (.nod .lst (fI (pre (S l) (l.length + 1)))) [] := by
  obtain ⟨st', e, ⟨x, rfl⟩⟩ := loop0 (h := fNm 2) (ms := d_sums_b1)
    (ds := iL l) (st := [some (.frz (.list (iL l))), some (.nod .lst (fI (pre (S l) 1))), none]) (fun k s => ∃ x, s = [some (.frz (.list (iL l))), some (.nod .lst (fI (pre (S l) (k + 1)))), x]) ⟨none, rfl⟩ fun k d s hk ⟨x, hs⟩ => by
      subst hs
      obtain ⟨v, e, rfl, hk2⟩ := iL_get hk
      refine ⟨[some (.frz (.list (iL l))), some (.nod .lst (fI (pre (S l) (k + 1)))), some (.frz (.int v))], [some (.frz (.list (iL l))), some (.nod .lst (fI (pre (S l) (k + 2)))), some (.frz (.int v))], .nx, by simp, ?_, .inl rfl, _, rfl⟩
      rw [pre_succ _ (k + 1), S_succ l e, pre_succ _ k]
      simp [ix_last, d_sums_b1, fitS (show k + 1 ≤ 10000 by omega)]
  have e1 : (pre (S l) 1) = [0] := rfl
  rw [iL_len, e1] at e
  simp [dF_sums, runDef, d_sums, fI_one, e]
end G

set_option maxHeartbeats 4000000
namespace G
open PySem L2 Z
theorem lazy_e1 {a0 a2 a4 a6 a8 : Option OT} {R L : Int} {w : List Int} {n k j : Nat} (hR : 1 ≤ R ∧ R ≤ 9999) (hj : j < n + 1) :
    d_lazy_e1 [a0, some (.frz (pr R L)), a2, some (.frz (.list (iL (pre (S w) (n + 1))))), a4, some (.frz (.int k)), a6, some (.frz (.int j)), a8] =
      .ok (.frz (.int (S w j + R * max 0 ((k : Int) + 1 - j - L)))) [a0, some (.frz (pr R L)), a2, some (.frz (.list (iL (pre (S w) (n + 1))))), a4, some (.frz (.int k)), a6, some (.frz (.int j)), a8] := by
  have e6 := f_promised (R := R) (L := L) (t := (k : Int) + 1 - j) hR
  have e7 := pre_get (S w) hj
  simp [d_lazy_e1, e6, ix_nat, e7]
theorem lazy_l1 {a0 a2 : Option OT} {a4 : Option OT} {x6 : Option PyData} {R L : Int} {w : List Int} {n k : Nat} (hR : 1 ≤ R ∧ R ≤ 9999) (hk : k < n) (hn : n ≤ 1000) :
    d_lazy_l1 [a0, some (.frz (pr R L)), a2, some (.frz (.list (iL (pre (S w) (n + 1))))), a4, some (.frz (.int k)), Option.map OT.frz x6, none, none] =
      .ok (.nod .lst (fI (pre (fun b => S w b + R * max 0 ((k : Int) + 1 - b - L)) (k + 1)))) [a0, some (.frz (pr R L)), a2, some (.frz (.list (iL (pre (S w) (n + 1))))), a4, some (.frz (.int k)), Option.map OT.frz x6, none, none] := by
  have hc1 : FitR ((k : Int) + 1) := fitR (by omega) (by omega)
  have hlen : (rng 0 ((k : Int) + 1)).length = k + 1 := by rw [rng_len]; omega
  unfold d_lazy_l1
  rw [lc_map (ds := rng 0 ((k : Int) + 1)) (st0 := [a0, some (.frz (pr R L)), a2, some (.frz (.list (iL (pre (S w) (n + 1))))), a4, some (.frz (.int k)), Option.map OT.frz x6, none, none])
    (W := [a0, some (.frz (pr R L)), a2, some (.frz (.list (iL (pre (S w) (n + 1))))), a4, some (.frz (.int k)), Option.map OT.frz x6, none, none])
    (fun b => .int (S w b + R * max 0 ((k : Int) + 1 - b - L))) (by simp [hc1]) (by rw [hlen]; exact fit (by omega)) rfl rfl fun j d hj => by
      obtain ⟨rfl, hj2⟩ := rng_at hj
      rw [Int.zero_add]
      exact ⟨_, _, rfl, lazy_e1 hR (by omega), rfl⟩]
  rw [hlen, map_preF]
  rfl
end G

set_option maxHeartbeats 4000000
namespace G
open PySem L2 Z
/-- what is gone by a tick, of a laziest -/
def cv (f : Nat → Int) (R L : Int) (t : Nat) : Int := minI (pre (fun b => f b + R * max 0 ((t : Int) - b - L)) (t + 1))
theorem cv_step (f : Nat → Int) {R L : Int} (hL : 0 ≤ L) (k : Nat) : pMin [.list (iL (pre (fun b => f b + R * max 0 ((k : Int) + 1 - b - L)) (k + 1) ++ [f (k + 1)]))] = some (.int (cv f R L (k + 1))) := by
  have e : pre (fun b => f b + R * max 0 ((k : Int) + 1 - b - L)) (k + 1) ++ [f (k + 1)] = pre (fun b => f b + R * max 0 (((k + 1 : Nat) : Int) - b - L)) (k + 2) := by
    rw [pre_succ _ (k + 1)]
    have h1 : max 0 (((k + 1 : Nat) : Int) - ((k + 1 : Nat) : Int) - L) = 0 := by omega
    rw [h1, Int.mul_zero, Int.add_zero]
    rfl
  rw [e]
  exact ap_min (by rw [pre_succ]; simp)
theorem lazy_b1 {a0 a2 : Option OT} {x5 x6 : Option PyData} {R L : Int} {w : List Int} {n k : Nat} {g : Nat → Int} (hR : 1 ≤ R ∧ R ≤ 9999) (hL : 0 ≤ L) (hk : k < n) (hn : n ≤ 1000) :
    d_lazy_b1 [a0, some (.frz (pr R L)), a2, some (.frz (.list (iL (pre (S w) (n + 1))))), some (.nod .lst (fI (pre g (k + 1)))), some (.frz (.int k)), Option.map OT.frz x6, none, none] =
      .ok .nx [a0, some (.frz (pr R L)), a2, some (.frz (.list (iL (pre (S w) (n + 1))))), some (.nod .lst (fI (pre g (k + 1) ++ [cv (S w) R L (k + 1)]))), some (.frz (.int k)), some (.frz (.list (iL (pre (fun b => S w b + R * max 0 ((k : Int) + 1 - b - L)) (k + 1))))), none, none] := by
  have e10 := pre_get (S w) (show k + 1 < n + 1 by omega)
  simp [d_lazy_b1, lazy_l1 hR hk hn, ix_natS, e10, iL_one, cv_step _ hL, fit (show k + 1 + 1 ≤ 10000 by omega), fitS (show k + 1 ≤ 10000 by omega)]
theorem lazy_e2 {a0 a1 a2 a3 a6 a7 a8 : Option OT} {n k : Nat} {g : Nat → Int} (hk : k < n) :
    d_lazy_e2 [a0, a1, a2, a3, some (.nod .lst (fI (pre g (n + 1)))), some (.frz (.int k)), a6, a7, a8] = .ok (.frz (.int (g (k + 1) - g k))) [a0, a1, a2, a3, some (.nod .lst (fI (pre g (n + 1)))), some (.frz (.int k)), a6, a7, a8] := by
  have e1 := pre_get g (show k + 1 < n + 1 by omega)
  have e2 := pre_get g (show k < n + 1 by omega)
  simp [d_lazy_e2, ix_natS, ix_nat, e1, e2]
theorem lazy_l2 {a0 a1 a2 a3 a6 a7 a8 : Option OT} {x5 : Option PyData} {n : Nat} {g : Nat → Int} (hn : n ≤ 1000) :
    d_lazy_l2 [a0, a1, a2, a3, some (.nod .lst (fI (pre g (n + 1)))), Option.map OT.frz x5, a6, a7, a8] = .ok (.nod .lst (fI (pre (fun k => g (k + 1) - g k) n))) [a0, a1, a2, a3, some (.nod .lst (fI (pre g (n + 1)))), Option.map OT.frz x5, a6, a7, a8] := by
  have hlen : (rng 0 (n : Int)).length = n := by rw [rng_len]; omega
  unfold d_lazy_l2
  rw [lc_map (ds := rng 0 (n : Int)) (st0 := [a0, a1, a2, a3, some (.nod .lst (fI (pre g (n + 1)))), Option.map OT.frz x5, a6, a7, a8]) (W := [a0, a1, a2, a3, some (.nod .lst (fI (pre g (n + 1)))), none, a6, a7, a8])
    (fun k => .int (g (k + 1) - g k)) (by simp [fitR (show -10000 ≤ (n : Int) by omega) (show (n : Int) ≤ 10000 by omega)]) (by rw [hlen]; exact fit (by omega)) (by cases x5 <;> rfl) rfl fun j d hj => by
      obtain ⟨rfl, hj2⟩ := rng_at hj
      rw [Int.zero_add]
      exact ⟨_, _, rfl, lazy_e2 (by omega), rfl⟩]
  rw [hlen, map_preF]
  cases x5 <;> rfl
theorem mul_zeros {more : Nat} (h : more ≤ 10000) : pMul (.list [.int 0]) (.int more) = some (.list (iL (List.replicate more 0))) := by
  rw [ap_mulL (fitP (by omega) (by omega) (by simp; omega))]
  congr 2
  have : ((more : Int)).toNat = more := by omega
  rw [this]
  clear h this
  induction more with
  | zero => rfl
  | succ k ih => rw [List.replicate_succ, List.flatten_cons, ih]; rfl
theorem f_lazy {l : List Int} {R L : Int} {more : Nat} (hl : l.length ≤ 200) (h : ∀ x ∈ l, 0 ≤ x ∧ x ≤ 9999) (hR : 1 ≤ R ∧ R ≤ 9999) (hL : 0 ≤ L ∧ L ≤ 200) (hm : more ≤ 200) :
    dF_lazy [.frz (.list (iL l)), .frz (pr R L), .frz (.int more)] =
      .ok (.frz (.tuple [.list (iL (pre (fun t => cv (S (l ++ List.replicate more 0)) R L (t + 1) - cv (S (l ++ List.replicate more 0)) R L t) (l.length + more))), .int (S (l ++ List.replicate more 0) (l.length + more) - cv (S (l ++ List.replicate more 0)) R L (l.length + more))])) [] := by
  obtain ⟨w, hw⟩ : ∃ w, w = l ++ List.replicate more 0 := ⟨_, rfl⟩
  obtain ⟨n, hn⟩ : ∃ n, n = l.length + more := ⟨_, rfl⟩
  have hwn : w.length = n := by rw [hw, hn]; simp
  rw [← hw, ← hn]
  have e0 : pMul (.list [.int 0]) (.int more) = some (.list (iL (List.replicate more 0))) := mul_zeros (by omega)
  have e1 := f_need_flow hl h
  have e2 := f_need_promise hR hL
  have e3 := f_need_more (m := more) (by omega)
  have e4 := f_sums (l := w) (by omega)
  rw [hwn] at e4
  have c0 : (1 : Int) = cv (S w) R L 0 + 1 := by
    have : cv (S w) R L 0 = 0 := by
      show minI [S w 0 + R * max 0 ((0 : Nat) - (0 : Nat) - L)] = 0
      have : max 0 (((0 : Nat) : Int) - ((0 : Nat) : Int) - L) = 0 := by omega
      rw [this, Int.mul_zero]
      rfl
    omega
  have c0' : ([0] : List Int) = pre (cv (S w) R L) 1 := by
    show [0] = [cv (S w) R L 0]
    congr 1
    omega
  obtain ⟨st', e5, ⟨x5, x6, rfl⟩⟩ := loop0 (h := fNm 5) (ms := d_lazy_b1) (ds := rng 0 n) (st := [some (.frz (.list (iL l))), some (.frz (pr R L)), some (.frz (.int more)), some (.frz (.list (iL (pre (S w) (n + 1))))), some (.nod .lst (fI (pre (cv (S w) R L) 1))), none, none, none, none])
    (fun k s => ∃ x5 x6, s = [some (.frz (.list (iL l))), some (.frz (pr R L)), some (.frz (.int more)), some (.frz (.list (iL (pre (S w) (n + 1))))), some (.nod .lst (fI (pre (cv (S w) R L) (k + 1)))), Option.map OT.frz x5, Option.map OT.frz x6, none, none]) ⟨none, none, rfl⟩ fun k d s hk ⟨x5, x6, hs⟩ => by
      subst hs
      obtain ⟨rfl, hk2⟩ := rng_at hk
      rw [Int.zero_add]
      have e := lazy_b1 (a0 := some (.frz (.list (iL l)))) (a2 := some (.frz (.int more))) (x5 := x5) (x6 := x6) (w := w) (g := cv (S w) R L) hR hL.1 (show k < n by omega) (by omega)
      rw [← pre_succ] at e
      exact ⟨_, _, .nx, rfl, e, .inl rfl, some (.int k), some (.list _), rfl⟩
  have hlen : (rng 0 (n : Int)).length = n := by rw [rng_len]; omega
  rw [hlen, show fI (pre (cv (S w) R L) 1) = [.frz (.int 0)] from by rw [← c0']; rfl] at e5
  have e6 := lazy_l2 (a0 := some (.frz (.list (iL l)))) (a1 := some (.frz (pr R L))) (a2 := some (.frz (.int more))) (a3 := some (.frz (.list (iL (pre (S w) (n + 1)))))) (a6 := x6.map .frz) (a7 := none) (a8 := none) (x5 := x5) (g := cv (S w) R L) (show n ≤ 1000 by omega)
  have e7 : atI (pre (S w) (n + 1)) (-1) = some (S w n) := by rw [pre_succ]; exact ix_last _ _
  have e8 : atI (pre (cv (S w) R L) (n + 1)) (-1) = some (cv (S w) R L n) := by rw [pre_succ]; exact ix_last _ _
  simp [dF_lazy, runDef, d_lazy, e1, e2, e3, e0, e4, e5, e6, e7, e8, ← hw, fitR (show -10000 ≤ (n : Int) by omega) (show (n : Int) ≤ 10000 by omega), fit (show l.length + more ≤ 10000 by omega)]
end G

set_option maxHeartbeats 4000000
namespace G
open PySem L2 Z
def prD (p : Int × Int) : PyData := .tuple [.int p.1, .int p.2]
def pL (ps : List (Int × Int)) : List PyData := ps.map prD
@[simp] theorem pL_len (ps : List (Int × Int)) : (pL ps).length = ps.length := List.length_map _
@[simp] theorem pL_app (ps : List (Int × Int)) (h r : Int) : pL ps ++ [.tuple [.int h, .int r]] = pL (ps ++ [(h, r)]) := by simp [pL, prD]
theorem pL_get {ps : List (Int × Int)} {k : Nat} {d : PyData} (h : (pL ps)[k]? = some d) : ∃ p, ps[k]? = some p ∧ d = prD p ∧ k < ps.length := by
  unfold pL at h
  rw [List.getElem?_map] at h
  cases e : ps[k]? with
  | none => rw [e] at h; cases h
  | some x => rw [e] at h; cases h; exact ⟨x, rfl, rfl, (List.getElem?_eq_some_iff.mp e).1⟩
theorem line_b1 {t : OT} {a1 a2 a5 a6 a7 : Option OT} {w : Int} {ps : List (Int × Int)} (ht : IsRow t) (hw : 1 ≤ w ∧ w ≤ 10000) (hl : ps.length ≤ 100) : ∃ t' h r x6 x7,
    d_law_line_b1 [some t, a1, a2, some (.frz (.int w)), some (.nod .lst (fL (pL ps))), a5, a6, a7] = .ok .nx [some t', a1, a2, some (.frz (.int w)), some (.nod .lst (fL (pL (ps ++ [(h, r)])))), a5, some (.frz x6), some (.frz x7)] ∧ IsRow t' ∧ 1 ≤ h ∧ h ≤ w ∧ 0 ≤ r ∧ r ≤ h := by
  obtain ⟨v1, t1, e1, h1, l1, u1⟩ := taken ht (show 0 < w by omega) (by omega)
  obtain ⟨v2, t2, e2, h2, l2, u2⟩ := taken h1 (show (0 : Int) < 2 by omega) (by omega)
  have hv : v2 = 0 ∨ v2 = 1 := by omega
  have f := fitS (show ps.length ≤ 10000 by omega)
  rcases hv with rfl | rfl
  · obtain ⟨v3, t3, e3, h3, l3, u3⟩ := taken h2 (show 0 < 1 + v1 + 1 by omega) (by omega)
    exact ⟨t3, 1 + v1, v3, .int (1 + v1), .int (1 + v1), by simp [d_law_line_b1, e1, e2, e3, f], h3, by omega, by omega, by omega, by omega⟩
  · obtain ⟨v3, t3, e3, h3, l3, u3⟩ := taken h2 (show 0 < min (1 + v1) 4 + 1 by omega) (by omega)
    exact ⟨t3, 1 + v1, v3, .int (1 + v1), .int (min (1 + v1) 4), by simp [d_law_line_b1, e1, e2, e3, f], h3, by omega, by omega, by omega, by omega⟩
/-- a drawn line -/
def GoodL (M : Int) (ps : List (Int × Int)) : Prop := ps ≠ [] ∧ ps.length ≤ 12 ∧ ∀ p ∈ ps, 1 ≤ p.1 ∧ p.1 ≤ M ∧ 0 ≤ p.2 ∧ p.2 ≤ p.1
theorem line_loop {t : OT} {M w : Int} {n : Nat} (ht : IsRow t) (hw : 1 ≤ w ∧ w ≤ M) (hM : M ≤ 10000) (hn : 1 ≤ n ∧ n ≤ 12) : ∃ t' ps x5 x6 x7,
    loopF (fNm 5) d_law_line_b1 (rng 0 n) [some t, some (.frz (.int M)), some (.frz (.int n)), some (.frz (.int w)), some (.nod .lst []), none, none, none] = .ok .nx [some t', some (.frz (.int M)), some (.frz (.int n)), some (.frz (.int w)), some (.nod .lst (fL (pL ps))), x5, x6, x7] ∧ IsRow t' ∧ GoodL M ps := by
  obtain ⟨st', e, t', ps, x5, x6, x7, rfl, h1, h2, h3⟩ := loop0 (h := fNm 5) (ms := d_law_line_b1) (ds := rng 0 n) (st := [some t, some (.frz (.int M)), some (.frz (.int n)), some (.frz (.int w)), some (.nod .lst []), none, none, none])
    (fun k s => ∃ t' ps x5 x6 x7, s = [some t', some (.frz (.int M)), some (.frz (.int n)), some (.frz (.int w)), some (.nod .lst (fL (pL ps))), x5, x6, x7] ∧ IsRow t' ∧ ps.length = k ∧ ∀ p ∈ ps, 1 ≤ p.1 ∧ p.1 ≤ M ∧ 0 ≤ p.2 ∧ p.2 ≤ p.1) ⟨t, [], none, none, none, rfl, ht, rfl, fun _ h => by cases h⟩ fun k d s hk ⟨t', ps, x5, x6, x7, hs, h1, h2, h3⟩ => by
      subst hs
      obtain ⟨rfl, hk2⟩ := rng_at hk
      obtain ⟨t2, h, r, y6, y7, e, g1, g2, g3, g4, g5⟩ := line_b1 (a1 := some (.frz (.int M))) (a2 := some (.frz (.int n))) (a5 := some (.frz (.int (0 + k)))) (a6 := x6) (a7 := x7) h1 (show 1 ≤ w ∧ w ≤ 10000 by omega) (show ps.length ≤ 100 by omega)
      refine ⟨_, _, .nx, rfl, e, .inl rfl, t2, _, _, _, _, rfl, g1, by rw [List.length_append, h2]; rfl, fun p hp => ?_⟩
      rcases List.mem_append.mp hp with hp | hp
      · exact h3 p hp
      · simp at hp
        subst hp
        exact ⟨g2, by omega, g4, g5⟩
  rw [rng_len] at h2
  exact ⟨t', ps, x5, x6, x7, e, h1, fun z => by rw [z] at h2; simp at h2; omega, by omega, h3⟩
theorem f_line {t : OT} {M : Int} (ht : IsRow t) (hM : 1 ≤ M ∧ M ≤ 10000) : ∃ t' ps, dF_law_line [t, .frz (.int M)] = .ok (.frz (.tuple (pL ps))) [t'] ∧ IsRow t' ∧ GoodL M ps := by
  obtain ⟨v1, t1, e1, h1, l1, u1⟩ := taken ht (show (0 : Int) < 3 by omega) (by omega)
  obtain ⟨v2, t2, e2, h2, l2, u2⟩ := taken h1 (show (0 : Int) < 5 by omega) (by omega)
  obtain ⟨v3, t3, e3, h3, l3, u3⟩ := taken h2 (show (0 : Int) < 12 by omega) (by omega)
  obtain ⟨v4, t4, e4, h4, l4, u4⟩ := taken h3 (show (0 : Int) < 3 by omega) (by omega)
  obtain ⟨n, hn, en⟩ : ∃ n : Nat, (1 ≤ n ∧ n ≤ 12) ∧ atI [PyData.int (1 + v1), .int (1 + v2), .int 12] (v3 / 5 % 3) = some (.int n) := by
    have : v3 / 5 % 3 = 0 ∨ v3 / 5 % 3 = 1 ∨ v3 / 5 % 3 = 2 := by omega
    rcases this with h | h | h
    · exact ⟨(1 + v1).toNat, by omega, by rw [h, ix_0]; congr 2; omega⟩
    · exact ⟨(1 + v2).toNat, by omega, by rw [h, ix_1]; congr 2; omega⟩
    · exact ⟨12, by omega, by rw [h, ix_2]; rfl⟩
  obtain ⟨w, hw, ew⟩ : ∃ w : Int, (1 ≤ w ∧ w ≤ M) ∧ atI [PyData.int (min M 12), .int (min M 40), .int M] v4 = some (.int w) := by
    have : v4 = 0 ∨ v4 = 1 ∨ v4 = 2 := by omega
    rcases this with rfl | rfl | rfl
    · exact ⟨_, by omega, ix_0 _ _⟩
    · exact ⟨_, by omega, ix_1 _ _ _⟩
    · exact ⟨_, by omega, ix_2 _ _ _ _⟩
  obtain ⟨t', ps, x5, x6, x7, e, g1, g2⟩ := line_loop h4 hw hM.2 hn
  exact ⟨t', ps, by simp [dF_law_line, runDef, d_law_line, e1, e2, e3, e4, en, ew, e, fitR (show -10000 ≤ (n : Int) by omega) (show (n : Int) ≤ 10000 by omega)], g1, g2⟩
end G

set_option maxHeartbeats 4000000
namespace G
open PySem L2 Z
/-- a comprehension over whole numbers' places, all told by f -/
theorem pre_map (l : List Int) (g : Int → Int) : pre (fun k => g (l.getD k 0)) l.length = l.map g := by
  apply List.ext_getElem
  · simp
  · intro k h1 h2
    simp [pre] at h1 h2 ⊢
    simp [h1]
theorem pre_self (l : List Int) : pre (fun k => l.getD k 0) l.length = l := by
  have := pre_map l fun x => x
  rw [List.map_id'] at this
  exact this
theorem flow_l1 {a0 a2 a3 a4 a5 : Option OT} {ps : List (Int × Int)} (hl : ps.length ≤ 100) :
    d_law_flow_l1 [a0, some (.frz (.tuple (pL ps))), a2, a3, a4, a5, none, none, none, none, none, none, none] = .ok (.nod .lst (fI (ps.map (·.1)))) [a0, some (.frz (.tuple (pL ps))), a2, a3, a4, a5, none, none, none, none, none, none, none] := by
  unfold d_law_flow_l1
  rw [lc_map (ds := pL ps) (st0 := [a0, some (.frz (.tuple (pL ps))), a2, a3, a4, a5, none, none, none, none, none, none, none]) (W := [a0, some (.frz (.tuple (pL ps))), a2, a3, a4, a5, none, none, none, none, none, none, none])
    (fun k => .int ((ps.map (·.1)).getD k 0)) (by simp) (fit (by rw [pL_len]; omega)) rfl rfl fun j d hj => by
      obtain ⟨p, hp, rfl, hj2⟩ := pL_get hj
      exact ⟨_, _, rfl, by simp [d_law_flow_e1, prD, hp]; rfl, rfl⟩]
  rw [pL_len, map_preF, show ps.length = (ps.map (·.1)).length by simp, pre_self]
  rfl
theorem flow_l2 {a0 a2 a3 a5 a7 a8 a10 a11 a12 : Option OT} {x6 x9 : Option PyData} {ps : List (Int × Int)} {ts : List Int} (hl : ps.length ≤ 100) (ht : ts.length = ps.length) :
    d_law_flow_l2 [a0, some (.frz (.tuple (pL ps))), a2, a3, some (.frz (.list (iL ts))), a5, x6.map .frz, a7, a8, x9.map .frz, a10, a11, a12] =
      .ok (.nod .lst (fI (pre (fun k => min ((ps.map (·.1)).getD k 0) (ts.getD k 0 + (ps.map (·.2)).getD k 0)) ps.length))) [a0, some (.frz (.tuple (pL ps))), a2, a3, some (.frz (.list (iL ts))), a5, x6.map .frz, a7, a8, x9.map .frz, a10, a11, a12] := by
  unfold d_law_flow_l2
  rw [lc_map (ds := zipD (pL ps) (iL ts)) (st0 := [a0, some (.frz (.tuple (pL ps))), a2, a3, some (.frz (.list (iL ts))), a5, x6.map .frz, a7, a8, x9.map .frz, a10, a11, a12]) (W := [a0, some (.frz (.tuple (pL ps))), a2, a3, some (.frz (.list (iL ts))), a5, none, a7, a8, none, a10, a11, a12])
    (fun k => .int (min ((ps.map (·.1)).getD k 0) (ts.getD k 0 + (ps.map (·.2)).getD k 0))) (by simp) (fit (by simp; omega)) (by cases x6 <;> cases x9 <;> rfl) rfl fun j d hj => by
      obtain ⟨x, y, hx, hy, rfl⟩ := zip_get hj
      obtain ⟨p, hp, rfl, hj2⟩ := pL_get hx
      obtain ⟨v, hv, rfl, hj3⟩ := iL_get hy
      exact ⟨_, _, rfl, by simp [d_law_flow_e2, prD, hp, hv]; rfl, rfl⟩]
  rw [zip_len, pL_len, iL_len, ht, Nat.min_self, map_preF]
  cases x6 <;> cases x9 <;> rfl
theorem flow_l3 {a0 a1 a2 a3 a5 a6 a7 a8 a10 a11 : Option OT} {m : Int} {x9 : Option PyData} {ts : List Int} (hl : ts.length ≤ 100) :
    d_law_flow_l3 [a0, a1, a2, a3, some (.frz (.list (iL ts))), a5, a6, a7, a8, x9.map .frz, a10, a11, some (.frz (.int m))] =
      .ok (.nod .lst (fI (ts.map fun x => max 0 (x - m)))) [a0, a1, a2, a3, some (.frz (.list (iL ts))), a5, a6, a7, a8, x9.map .frz, a10, a11, some (.frz (.int m))] := by
  unfold d_law_flow_l3
  rw [lc_map (ds := iL ts) (st0 := [a0, a1, a2, a3, some (.frz (.list (iL ts))), a5, a6, a7, a8, x9.map .frz, a10, a11, some (.frz (.int m))]) (W := [a0, a1, a2, a3, some (.frz (.list (iL ts))), a5, a6, a7, a8, none, a10, a11, some (.frz (.int m))])
    (fun k => .int (max 0 (ts.getD k 0 - m))) (by simp) (fit (by simp; omega)) (by cases x9 <;> rfl) rfl fun j d hj => by
      obtain ⟨v, hv, rfl, hj3⟩ := iL_get hj
      exact ⟨_, _, rfl, by simp [d_law_flow_e3, hv]; rfl, rfl⟩]
  rw [iL_len, map_preF, pre_map ts fun x => max 0 (x - m)]
  cases x9 <;> rfl
def Toks (B : Int) (n : Nat) (ts : List Int) : Prop := ts.length = n ∧ ∀ x ∈ ts, 0 ≤ x ∧ x ≤ B
theorem flow_b1 {t : OT} {a2 : Option OT} {B M way : Int} {ps : List (Int × Int)} {ts fl : List Int} {k : Nat} {x6 x9 x10 x11 x12 : Option PyData} (ht : IsRow t) (hp : GoodL B ps) (hB : B ≤ 10000) (hM : 1 ≤ M ∧ M ≤ 10000) (htk : Toks B ps.length ts) (hw : 0 ≤ way ∧ way < 4) (hf : fl.length ≤ 1000) :
    ∃ t' ts' v y6 y9 y10 y11, d_law_flow_b1 [some t, some (.frz (.tuple (pL ps))), a2, some (.frz (.int M)), some (.frz (.list (iL ts))), some (.nod .lst (fI fl)), x6.map .frz, some (.frz (.int way)), some (.frz (.int k)), x9.map .frz, x10.map .frz, x11.map .frz, x12.map .frz] =
      .ok .nx [some t', some (.frz (.tuple (pL ps))), a2, some (.frz (.int M)), some (.frz (.list (iL ts'))), some (.nod .lst (fI (fl ++ [v]))), y6, some (.frz (.int way)), some (.frz (.int k)), y9, y10, y11, some (.frz (.int v))] ∧ IsRow t' ∧ Toks B ps.length ts' ∧ 0 ≤ v ∧ v ≤ max B M ∧ y6 = x6.map .frz ∧ y9 = x9.map .frz ∧ (∃ q, y10 = some (.frz q)) ∧ ∃ q, y11 = some (.frz q) := by
  obtain ⟨ts1, e0, htk1⟩ : ∃ ts1, (if 0 < (k : Int) then d_law_flow_l2 [some t, some (.frz (.tuple (pL ps))), a2, some (.frz (.int M)), some (.frz (.list (iL ts))), some (.nod .lst (fI fl)), x6.map .frz, some (.frz (.int way)), some (.frz (.int k)), x9.map .frz, x10.map .frz, x11.map .frz, x12.map .frz] =
        .ok (.nod .lst (fI ts1)) [some t, some (.frz (.tuple (pL ps))), a2, some (.frz (.int M)), some (.frz (.list (iL ts))), some (.nod .lst (fI fl)), x6.map .frz, some (.frz (.int way)), some (.frz (.int k)), x9.map .frz, x10.map .frz, x11.map .frz, x12.map .frz] else ts1 = ts) ∧ Toks B ps.length ts1 := by
    by_cases hk : 0 < (k : Int)
    · simp only [if_pos hk]
      refine ⟨_, flow_l2 (by have := hp.2.1; omega) htk.1, by simp, fun x hx => ?_⟩
      obtain ⟨j, hj, rfl⟩ := pre_mem hx
      have e1 : ts.getD j 0 = ts[j]'(by rw [htk.1]; exact hj) := by rw [List.getD_eq_getElem?_getD, List.getElem?_eq_getElem (by rw [htk.1]; exact hj)]; rfl
      have e2 : (ps.map (·.1)).getD j 0 = (ps[j]'hj).1 := by rw [List.getD_eq_getElem?_getD, List.getElem?_map, List.getElem?_eq_getElem hj]; rfl
      have e3 : (ps.map (·.2)).getD j 0 = (ps[j]'hj).2 := by rw [List.getD_eq_getElem?_getD, List.getElem?_map, List.getElem?_eq_getElem hj]; rfl
      rw [e1, e2, e3]
      have h1 := htk.2 _ (List.getElem_mem (show j < ts.length by rw [htk.1]; exact hj))
      have h2 := hp.2.2 _ (List.getElem_mem hj)
      omega
    · simp only [if_neg hk]
      exact ⟨ts, rfl, htk⟩
  have hne : ts1 ≠ [] := fun z => by
    have := htk1.1
    rw [z] at this
    exact hp.1 (List.eq_nil_of_length_eq_zero this.symm)
  have hr := htk1.2 _ (minI_mem hne)
  have em := ap_min hne
  obtain ⟨room, hroom⟩ : ∃ r, r = minI ts1 := ⟨_, rfl⟩
  rw [← hroom] at hr em
  obtain ⟨v1, t1, e1, h1, l1, u1⟩ := taken ht (show 0 < room + 1 by omega) (by omega)
  obtain ⟨v2, t2, e2, h2, l2, u2⟩ := taken h1 (show 0 < M + 1 by omega) (by omega)
  obtain ⟨v3, t3, e3, h3, l3, u3⟩ := taken h2 (show (0 : Int) < 4 by omega) (by omega)
  obtain ⟨s4, es4, hs4⟩ : ∃ s4 : Int, atI [PyData.int v2, .int room] (if 0 < way then 1 else 0) = some (.int s4) ∧ 0 ≤ s4 ∧ s4 ≤ max B M := by
    by_cases hw : 0 < way
    · rw [if_pos hw]; exact ⟨room, ix_1 _ _ _, by omega, by omega⟩
    · rw [if_neg hw]; exact ⟨v2, ix_0 _ _, by omega, by omega⟩
  obtain ⟨m, em2, hm⟩ : ∃ m : Int, atI [PyData.int room, .int 0, .int v1, .int s4] v3 = some (.int m) ∧ 0 ≤ m ∧ m ≤ max B M := by
    have : v3 = 0 ∨ v3 = 1 ∨ v3 = 2 ∨ v3 = 3 := by omega
    rcases this with rfl | rfl | rfl | rfl
    · exact ⟨_, ix_0 _ _, by omega, by omega⟩
    · exact ⟨_, ix_1 _ _ _, by omega, by omega⟩
    · exact ⟨_, ix_2 _ _ _ _, by omega, by omega⟩
    · exact ⟨_, ix_3 _ _ _ _ _, hs4⟩
  have f := fitS (show fl.length ≤ 10000 by omega)
  have hl1 : ts1.length ≤ 100 := by rw [htk1.1]; have := hp.2.1; omega
  have fin : ∀ v : Int, 0 ≤ v → Toks B ps.length (ts1.map fun x => max 0 (x - v)) := fun v hv => ⟨by rw [List.length_map]; exact htk1.1, fun x hx => by
    obtain ⟨y, hy, rfl⟩ := List.mem_map.mp hx
    have := htk1.2 y hy
    omega⟩
  by_cases hw3 : way < 3
  · refine ⟨t3, _, m, x6.map .frz, x9.map .frz, some (.frz (.int room)), some (.frz (.list [.int room, .int 0, .int v1, .int s4])), ?_, h3, fin m hm.1, hm.1, hm.2, rfl, rfl, ⟨_, rfl⟩, _, rfl⟩
    by_cases hk : 0 < (k : Int)
    · rw [if_pos hk] at e0
      have hk' : 0 < k := by omega
      simp [d_law_flow_b1, hk', e0, em, e1, e2, e3, es4, em2, hw3, f, flow_l3 hl1]
    · rw [if_neg hk] at e0
      subst e0
      have hk' : ¬ 0 < k := by omega
      simp [d_law_flow_b1, hk', em, e1, e2, e3, es4, em2, hw3, f, flow_l3 hl1]
  · refine ⟨t2, _, room, x6.map .frz, x9.map .frz, some (.frz (.int room)), some (.frz (.list [.int room, .int 0, .int v1, .int s4])), ?_, h2, fin room hr.1, hr.1, by omega, rfl, rfl, ⟨_, rfl⟩, _, rfl⟩
    by_cases hk : 0 < (k : Int)
    · rw [if_pos hk] at e0
      have hk' : 0 < k := by omega
      simp [d_law_flow_b1, hk', e0, em, e1, e2, e3, es4, em2, hw3, f, flow_l3 hl1]
    · rw [if_neg hk] at e0
      subst e0
      have hk' : ¬ 0 < k := by omega
      simp [d_law_flow_b1, hk', em, e1, e2, e3, es4, em2, hw3, f, flow_l3 hl1]
theorem f_flow {t : OT} {B M : Int} {ps : List (Int × Int)} {n : Nat} (ht : IsRow t) (hp : GoodL B ps) (hB : B ≤ 10000) (hM : 1 ≤ M ∧ M ≤ 10000) (hn : n ≤ 1000) : ∃ t' fl, dF_law_flow [t, .frz (.tuple (pL ps)), .frz (.int n), .frz (.int M)] = .ok (.nod .lst (fI fl)) [t'] ∧ IsRow t' ∧ fl.length = n ∧ ∀ x ∈ fl, 0 ≤ x ∧ x ≤ max B M := by
  obtain ⟨way, t1, e1, h1, l1, u1⟩ := taken ht (show (0 : Int) < 4 by omega) (by omega)
  obtain ⟨st', e, t', ts, fl, x6, x9, x10, x11, x12, x8, rfl, g1, g2, g3, g4⟩ := loop0 (h := fNm 8) (ms := d_law_flow_b1) (ds := rng 0 n) (st := [some t1, some (.frz (.tuple (pL ps))), some (.frz (.int n)), some (.frz (.int M)), some (.frz (.list (iL (ps.map (·.1))))), some (.nod .lst []), none, some (.frz (.int way)), none, none, none, none, none])
    (fun k s => ∃ t' ts fl x6 x9 x10 x11 x12 x8, s = [some t', some (.frz (.tuple (pL ps))), some (.frz (.int n)), some (.frz (.int M)), some (.frz (.list (iL ts))), some (.nod .lst (fI fl)), Option.map OT.frz x6, some (.frz (.int way)), x8, Option.map OT.frz x9, Option.map OT.frz x10, Option.map OT.frz x11, Option.map OT.frz x12] ∧ IsRow t' ∧ Toks B ps.length ts ∧ fl.length = k ∧ ∀ x ∈ fl, 0 ≤ x ∧ x ≤ max B M)
    ⟨t1, _, [], none, none, none, none, none, none, rfl, h1, ⟨by simp, fun x hx => by
      obtain ⟨p, hp', rfl⟩ := List.mem_map.mp hx
      have := hp.2.2 p hp'
      omega⟩, rfl, fun _ h => by cases h⟩ fun k d s hk ⟨t', ts, fl, x6, x9, x10, x11, x12, x8, hs, g1, g2, g3, g4⟩ => by
      subst hs
      obtain ⟨rfl, hk2⟩ := rng_at hk
      rw [Int.zero_add]
      obtain ⟨t2, ts2, v, y6, y9, y10, y11, e, q1, q2, q3, q4, rfl, rfl, ⟨z10, rfl⟩, z11, rfl⟩ := flow_b1 (a2 := some (.frz (.int n))) (k := k) (x6 := x6) (x9 := x9) (x10 := x10) (x11 := x11) (x12 := x12) (fl := fl) g1 hp hB hM g2 ⟨l1, u1⟩ (by omega)
      refine ⟨_, _, .nx, rfl, e, .inl rfl, t2, ts2, _, x6, x9, some z10, some z11, some (.int v), _, rfl, q1, q2, by rw [List.length_append, g3]; rfl, fun x hx => ?_⟩
      rcases List.mem_append.mp hx with hx | hx
      · exact g4 x hx
      · simp at hx
        subst hx
        exact ⟨q3, q4⟩
  have hlen : (rng 0 (n : Int)).length = n := by rw [rng_len]; omega
  rw [hlen] at g3
  exact ⟨t', fl, by simp [dF_law_flow, runDef, d_law_flow, flow_l1 (show ps.length ≤ 100 by have := hp.2.1; omega), e1, e, fitR (show -10000 ≤ (n : Int) by omega) (show (n : Int) ≤ 10000 by omega)], g1, g3, g4⟩
end G

set_option maxHeartbeats 4000000
namespace G
open PySem L2 Z
theorem nice_prD (n : Nat) (p : Int × Int) : Nice (n + 1) (prD p) := nice_t2 (nice_int n _) (nice_int n _)
theorem nice_pL (n : Nat) (ps : List (Int × Int)) : ∀ d ∈ pL ps, Nice (n + 1) d := fun d h => by
  obtain ⟨p, _, rfl⟩ := List.mem_map.mp h
  exact nice_prD n p
theorem turn_l1 {a1 : Option OT} {ps : List (Int × Int)} (hl : ps.length ≤ 100) :
    d_in_turn_l1 [some (.frz (.list (pL ps))), a1, none, none] = .ok (.nod .lst (fI (ps.map (·.1)))) [some (.frz (.list (pL ps))), a1, none, none] := by
  unfold d_in_turn_l1
  rw [lc_map (ds := pL ps) (st0 := [some (.frz (.list (pL ps))), a1, none, none]) (W := [some (.frz (.list (pL ps))), a1, none, none])
    (fun k => .int ((ps.map (·.1)).getD k 0)) (by simp) (fit (by rw [pL_len]; omega)) rfl rfl fun j d hj => by
      obtain ⟨p, hp, rfl, hj2⟩ := pL_get hj
      exact ⟨_, _, rfl, by simp [d_in_turn_e1, prD, hp]; rfl, rfl⟩]
  rw [pL_len, map_preF, show ps.length = (ps.map (·.1)).length by simp, pre_self]
  rfl
theorem turn_l2 {a1 : Option OT} {ps : List (Int × Int)} (hl : ps.length ≤ 100) :
    d_in_turn_l2 [some (.frz (.list (pL ps))), a1, none, none] = .ok (.nod .lst (fI (ps.map (·.2)))) [some (.frz (.list (pL ps))), a1, none, none] := by
  unfold d_in_turn_l2
  rw [lc_map (ds := pL ps) (st0 := [some (.frz (.list (pL ps))), a1, none, none]) (W := [some (.frz (.list (pL ps))), a1, none, none])
    (fun k => .int ((ps.map (·.2)).getD k 0)) (by simp) (fit (by rw [pL_len]; omega)) rfl rfl fun j d hj => by
      obtain ⟨p, hp, rfl, hj2⟩ := pL_get hj
      exact ⟨_, _, rfl, by simp [d_in_turn_e2, prD, hp]; rfl, rfl⟩]
  rw [pL_len, map_preF, show ps.length = (ps.map (·.2)).length by simp, pre_self]
  rfl
/-- promises that may be handed in -/
def GoodP (ps : List (Int × Int)) : Prop := ps ≠ [] ∧ ps.length ≤ 12 ∧ ∀ p ∈ ps, (1 ≤ p.1 ∧ p.1 ≤ 9999) ∧ 0 ≤ p.2 ∧ p.2 ≤ 200
theorem f_in_turn {ps : List (Int × Int)} (h : GoodP ps) : dF_in_turn [.frz (.list (pL ps))] = .ok (.frz (prD (minI (ps.map (·.1)), (ps.map (·.2)).sum))) [] := by
  obtain ⟨h1, h2, h3⟩ := h
  have h0 : 0 < ps.length := List.length_pos_iff.mpr h1
  obtain ⟨st', e, x, rfl⟩ := loop0 (h := fNm 1) (ms := d_in_turn_b1) (ds := pL ps) (st := [some (.frz (.list (pL ps))), none, none, none]) (fun k s => ∃ x, s = [some (.frz (.list (pL ps))), x, none, none]) ⟨none, rfl⟩ fun k d s hk ⟨x, hs⟩ => by
    subst hs
    obtain ⟨p, hp, rfl, hj2⟩ := pL_get hk
    have hq := h3 p (List.mem_of_getElem? hp)
    have e1 := f_need_promise hq.1 hq.2
    unfold pr at e1
    exact ⟨_, [some (.frz (.list (pL ps))), some (.frz (prD p)), none, none], .nx, rfl, by simp [d_in_turn_b1, prD, e1], .inl rfl, _, rfl⟩
  have hm : ps.map (·.1) ≠ [] := by simpa using h1
  have hlen : (1 : Int) ≤ ps.length ∧ (ps.length : Int) ≤ 12 := by omega
  have e3 : ¬ ps.length = 0 := by omega
  simp [dF_in_turn, runDef, d_in_turn, e, turn_l1 (show ps.length ≤ 100 by omega), turn_l2 (show ps.length ≤ 100 by omega), ap_min hm, prD, hlen, h1, h2]
  try omega
theorem f_alike_int (n : Nat) (i : Int) : dF_law_alike (n + 1) [.frz (.int i), .frz (.int i)] = .ok (.frz (.bool true)) [] := by
  simp [dF_law_alike, runDef, d_law_alike]
theorem alike_l1 {n : Nat} {l : List Int} (hl : l.length ≤ 1000) : d_law_alike_l1 (dF_law_alike (n + 1)) [some (.frz (.list (iL l))), some (.frz (.list (iL l))), none] = .ok (.nod .lst []) [some (.frz (.list (iL l))), some (.frz (.list (iL l))), none] := by
  have hlen : (rng 0 (l.length : Int)).length = l.length := by rw [rng_len]; omega
  unfold d_law_alike_l1
  rw [lc_filter (ds := rng 0 (l.length : Int)) (st0 := [some (.frz (.list (iL l))), some (.frz (.list (iL l))), none]) (W := [some (.frz (.list (iL l))), some (.frz (.list (iL l))), none])
    (fun _ => false) (fun k => .int k) (by simp [fitR (show -10000 ≤ (l.length : Int) by omega) (show (l.length : Int) ≤ 10000 by omega)]) (by rw [hlen]; exact fit (by omega)) rfl rfl fun j d hj => by
      obtain ⟨rfl, hj2⟩ := rng_at hj
      rw [Int.zero_add]
      have e1 : l[j]? = some (l[j]'(by omega)) := List.getElem?_eq_getElem (by omega)
      exact ⟨_, _, rfl, by simp [d_law_alike_c1, ix_nat, e1, f_alike_int]; rfl, rfl, fun h => by cases h⟩]
  rw [List.filter_eq_nil_iff.mpr fun _ _ => by simp]
  rfl
theorem f_alike {n : Nat} {l : List Int} (hl : l.length ≤ 1000) : dF_law_alike (n + 2) [.frz (.list (iL l)), .frz (.list (iL l))] = .ok (.frz (.bool true)) [] := by
  have e := pEq_same (nice_nil 63)
  rw [dF_law_alike]
  simp [runDef, d_law_alike, alike_l1 hl, e]
end G

set_option maxHeartbeats 4000000
namespace G
open PySem L2 Z
/-! ### the least over all ticks -/
theorem cv_le (f : Nat → Int) (R L : Int) {b t : Nat} (h : b ≤ t) : cv f R L t ≤ f b + R * max 0 ((t : Int) - b - L) := minI_le (mem_pre (f := fun b => f b + R * max 0 ((t : Int) - b - L)) (show b < t + 1 by omega))
theorem cv_ex (f : Nat → Int) (R L : Int) (t : Nat) : ∃ b, b ≤ t ∧ cv f R L t = f b + R * max 0 ((t : Int) - b - L) := by
  have h : cv f R L t ∈ pre (fun b => f b + R * max 0 ((t : Int) - b - L)) (t + 1) := minI_mem (by rw [pre_succ]; simp)
  obtain ⟨b, hb, e⟩ := pre_mem h
  exact ⟨b, by omega, e.symm⟩
theorem cv_congr {f g : Nat → Int} {R L : Int} {t : Nat} (h : ∀ b, b ≤ t → f b = g b) : cv f R L t = cv g R L t := by
  unfold cv
  rw [pre_congr fun k hk => by rw [h k (by omega)]]
theorem cv_ge {f : Nat → Int} {R L : Int} {t : Nat} {x : Int} (h : ∀ b, b ≤ t → x ≤ f b + R * max 0 ((t : Int) - b - L)) : x ≤ cv f R L t := by
  obtain ⟨b, hb, e⟩ := cv_ex f R L t
  rw [e]
  exact h b hb
theorem cv_zero {f : Nat → Int} {R L : Int} (hL : 0 ≤ L) : cv f R L 0 = f 0 := by
  have h1 : max 0 (((0 : Nat) : Int) - ((0 : Nat) : Int) - L) = 0 := by omega
  refine Int.le_antisymm ?_ (cv_ge fun b hb => ?_)
  · have := cv_le f R L (Nat.le_refl 0)
    rw [h1, Int.mul_zero] at this
    omega
  · have : b = 0 := by omega
    subst this
    rw [h1, Int.mul_zero]
    omega
theorem mulmono {R x y : Int} (hR : 0 ≤ R) (h : x ≤ y) : R * x ≤ R * y := Int.mul_le_mul_of_nonneg_left h hR
theorem mulmono2 {R R' x : Int} (hx : 0 ≤ x) (h : R ≤ R') : R * x ≤ R' * x := Int.mul_le_mul_of_nonneg_right h hx
theorem cv_self {f : Nat → Int} {R L : Int} (hL : 0 ≤ L) (t : Nat) : cv f R L t ≤ f t := by
  have := cv_le f R L (Nat.le_refl t)
  rw [show max 0 ((t : Int) - (t : Int) - L) = 0 by omega, Int.mul_zero] at this
  omega
theorem cv_mono {f : Nat → Int} {R L : Int} (hR : 0 ≤ R) (hL : 0 ≤ L) {t : Nat} (hf : f t ≤ f (t + 1)) : cv f R L t ≤ cv f R L (t + 1) := by
  refine cv_ge fun b hb => ?_
  by_cases h : b ≤ t
  · have h1 := cv_le f R L h
    have h2 := mulmono hR (show max 0 ((t : Int) - b - L) ≤ max 0 (((t + 1 : Nat) : Int) - b - L) by omega)
    omega
  · have : b = t + 1 := by omega
    subst this
    have h1 := cv_self (f := f) (R := R) hL t
    have h2 := mulmono hR (show 0 ≤ max 0 (((t + 1 : Nat) : Int) - ((t + 1 : Nat) : Int) - L) by omega)
    rw [Int.mul_zero] at h2
    omega
/-- two behind one another -/
theorem cv_cv {f : Nat → Int} {R1 L1 R2 L2 : Int} (h1 : 0 ≤ R1) (g1 : 0 ≤ L1) (h2 : 0 ≤ R2) (g2 : 0 ≤ L2) (t : Nat) : cv (cv f R1 L1) R2 L2 t = cv f (min R1 R2) (L1 + L2) t := by
  apply Int.le_antisymm
  · refine cv_ge fun b hb => ?_
    by_cases h : R1 ≤ R2
    · -- the second has no more to do than its lateness
      obtain ⟨c, hc⟩ : ∃ c : Nat, (c : Int) = max (b : Int) ((t : Int) - L2) := ⟨(max (b : Int) ((t : Int) - L2)).toNat, by omega⟩
      have e1 := cv_le (cv f R1 L1) R2 L2 (show c ≤ t by omega)
      have e2 := cv_le f R1 L1 (show b ≤ c by omega)
      rw [show max 0 ((t : Int) - c - L2) = 0 by omega, Int.mul_zero] at e1
      rw [show min R1 R2 = R1 by omega]
      have e3 := mulmono h1 (show max 0 ((c : Int) - b - L1) ≤ max 0 ((t : Int) - b - (L1 + L2)) by omega)
      omega
    · obtain ⟨c, hc⟩ : ∃ c : Nat, (c : Int) = min (t : Int) (b + L1) := ⟨(min (t : Int) (b + L1)).toNat, by omega⟩
      have e1 := cv_le (cv f R1 L1) R2 L2 (show c ≤ t by omega)
      have e2 := cv_le f R1 L1 (show b ≤ c by omega)
      rw [show max 0 ((c : Int) - b - L1) = 0 by omega, Int.mul_zero] at e2
      rw [show min R1 R2 = R2 by omega]
      have e3 := mulmono h2 (show max 0 ((t : Int) - c - L2) ≤ max 0 ((t : Int) - b - (L1 + L2)) by omega)
      omega
  · refine cv_ge fun c hc => ?_
    obtain ⟨b, hb, e⟩ := cv_ex f R1 L1 c
    rw [e]
    have e1 := cv_le f (min R1 R2) (L1 + L2) (show b ≤ t by omega)
    have hm : 0 ≤ min R1 R2 := by omega
    have e2 := mulmono2 (show 0 ≤ max 0 ((c : Int) - b - L1) by omega) (show min R1 R2 ≤ R1 by omega)
    have e3 := mulmono2 (show 0 ≤ max 0 ((t : Int) - c - L2) by omega) (show min R1 R2 ≤ R2 by omega)
    have e4 := mulmono hm (show max 0 ((t : Int) - b - (L1 + L2)) ≤ max 0 ((c : Int) - b - L1) + max 0 ((t : Int) - c - L2) by omega)
    rw [Int.mul_add] at e4
    omega
/-! ### flows by their sums -/
def dl (g : Nat → Int) (n : Nat) : List Int := pre (fun t => g (t + 1) - g t) n
theorem dl_len (g : Nat → Int) (n : Nat) : (dl g n).length = n := pre_len _ _
theorem dl_congr {f g : Nat → Int} {n : Nat} (h : ∀ k, k ≤ n → f k = g k) : dl f n = dl g n := pre_congr fun k hk => by rw [h k (by omega), h (k + 1) (by omega)]
theorem S_zero (l : List Int) : S l 0 = 0 := rfl
theorem dl_get {g : Nat → Int} {n k : Nat} (h : k < n) : (dl g n)[k]? = some (g (k + 1) - g k) := pre_get _ h
theorem S_dl {g : Nat → Int} {n : Nat} (h0 : g 0 = 0) : ∀ k, k ≤ n → S (dl g n) k = g k
  | 0, _ => by rw [S_zero, h0]
  | k + 1, h => by rw [S_succ _ (dl_get (show k < n by omega)), S_dl h0 k (by omega)]; omega
theorem dl_S (l : List Int) : dl (S l) l.length = l := by
  apply List.ext_getElem
  · rw [dl_len]
  · intro k h1 h2
    have e := dl_get (g := S l) (show k < l.length from h2)
    rw [List.getElem?_eq_getElem h1, S_succ l (List.getElem?_eq_getElem h2)] at e
    have := Option.some.inj e
    omega
theorem dl_mem {g : Nat → Int} {n : Nat} {x : Int} (h : x ∈ dl g n) : ∃ k, k < n ∧ x = g (k + 1) - g k := by
  obtain ⟨k, hk, e⟩ := pre_mem h
  exact ⟨k, hk, e.symm⟩
/-- a flow that may be handed in, by its sums -/
structure Fl (g : Nat → Int) (n : Nat) : Prop where
  z : g 0 = 0
  m : ∀ k, k < n → g k ≤ g (k + 1)
  b : g n ≤ 9999
theorem Fl.pos {g : Nat → Int} {n : Nat} (h : Fl g n) : ∀ k, k ≤ n → 0 ≤ g k
  | 0, _ => by rw [h.z]; exact Int.le_refl 0
  | k + 1, hk => Int.le_trans (h.pos k (by omega)) (h.m k (by omega))
theorem Fl.top {g : Nat → Int} {n : Nat} (h : Fl g n) : ∀ j k, k + j = n → g k ≤ 9999
  | 0, k, e => by rw [show k = n by omega]; exact h.b
  | j + 1, k, e => Int.le_trans (h.m k (by omega)) (h.top j (k + 1) (by omega))
theorem Fl.ok {g : Nat → Int} {n : Nat} (h : Fl g n) : ∀ x ∈ dl g n, 0 ≤ x ∧ x ≤ 9999 := fun x hx => by
  obtain ⟨k, hk, rfl⟩ := dl_mem hx
  have h1 := h.m k hk
  have h2 := h.pos k (by omega)
  have h3 := h.top (n - (k + 1)) (k + 1) (by omega)
  omega
theorem Fl.cv {g : Nat → Int} {n : Nat} {R L : Int} (h : Fl g n) (hR : 0 ≤ R) (hL : 0 ≤ L) : Fl (cv g R L) n :=
  ⟨by rw [cv_zero hL, h.z], fun k hk => cv_mono hR hL (h.m k hk), Int.le_trans (cv_self hL n) h.b⟩
theorem Fl.of {l : List Int} {n : Nat} {c : Int} (hn : l.length ≤ n) (h : ∀ x ∈ l, 0 ≤ x ∧ x ≤ c) (hc : 0 ≤ c) (hb : c * l.length ≤ 9999) : Fl (S l) n := by
  have step : ∀ k, S l k ≤ S l (k + 1) ∧ S l (k + 1) ≤ S l k + c := fun k => by
    by_cases hk : k < l.length
    · have e := S_succ l (List.getElem?_eq_getElem hk)
      have := h _ (List.getElem_mem hk)
      omega
    · have : S l (k + 1) = S l k := by unfold S; rw [List.take_of_length_le (by omega), List.take_of_length_le (by omega)]
      omega
  refine ⟨rfl, fun k _ => (step k).1, ?_⟩
  have up : ∀ k : Nat, S l k ≤ c * k := by
    intro k
    induction k with
    | zero => rw [S_zero]; simp
    | succ k ih =>
      have := (step k).2
      rw [Int.natCast_succ, Int.mul_add]
      omega
  have : S l n = S l l.length := by unfold S; rw [List.take_of_length_le hn, List.take_of_length_le (Nat.le_refl _)]
  rw [this]
  exact Int.le_trans (up _) hb
theorem lazy_dl {g : Nat → Int} {n : Nat} {R L : Int} (h : Fl g n) (hn : n ≤ 200) (hR : 1 ≤ R ∧ R ≤ 9999) (hL : 0 ≤ L ∧ L ≤ 200) :
    dF_lazy [.frz (.list (iL (dl g n))), .frz (pr R L), .frz (.int 0)] = .ok (.frz (.tuple [.list (iL (dl (cv g R L) n)), .int (g n - cv g R L n)])) [] := by
  have e := f_lazy (l := dl g n) (R := R) (L := L) (more := 0) (by rw [dl_len]; exact hn) h.ok hR hL (by omega)
  have e2 : ∀ t, t ≤ n → cv (S (dl g n ++ List.replicate 0 0)) R L t = cv g R L t := fun t ht => cv_congr fun b hb => by
    rw [List.replicate_zero, List.append_nil]
    exact S_dl h.z b (by omega)
  rw [dl_len, Nat.add_zero] at e
  rw [show pre (fun t => cv (S (dl g n ++ List.replicate 0 0)) R L (t + 1) - cv (S (dl g n ++ List.replicate 0 0)) R L t) n = dl (cv g R L) n from pre_congr fun k hk => by rw [e2 _ (by omega), e2 _ (by omega)],
    e2 n (Nat.le_refl n), List.replicate_zero, List.append_nil, S_dl h.z n (Nat.le_refl n)] at e
  exact e
/-! ### many behind one another -/
def cvs (g : Nat → Int) (ps : List (Int × Int)) : Nat → Int := ps.foldl (fun f p => cv f p.1 p.2) g
theorem cvs_app (g : Nat → Int) (ps : List (Int × Int)) (p : Int × Int) : cvs g (ps ++ [p]) = cv (cvs g ps) p.1 p.2 := by unfold cvs; rw [List.foldl_append]; rfl
theorem cvs_fl {g : Nat → Int} {n : Nat} : ∀ {ps : List (Int × Int)}, Fl g n → (∀ p ∈ ps, 0 ≤ p.1 ∧ 0 ≤ p.2) → Fl (cvs g ps) n
  | [], h, _ => h
  | p :: ps, h, hp => cvs_fl (ps := ps) (h.cv (hp p List.mem_cons_self).1 (hp p List.mem_cons_self).2) fun q hq => hp q (List.mem_cons_of_mem _ hq)
theorem cvs_go {g : Nat → Int} : ∀ {ps : List (Int × Int)} {R L : Int}, 0 ≤ R → 0 ≤ L → (∀ p ∈ ps, 0 ≤ p.1 ∧ 0 ≤ p.2) → cvs (cv g R L) ps = cv g ((ps.map (·.1)).foldl min R) (L + (ps.map (·.2)).sum)
  | [], R, L, _, _, _ => by simp [cvs]
  | p :: ps, R, L, hR, hL, h => by
    have hp := h p List.mem_cons_self
    have e : cv (cv g R L) p.1 p.2 = cv g (min R p.1) (L + p.2) := funext fun t => cv_cv hR hL hp.1 hp.2 t
    show cvs (cv (cv g R L) p.1 p.2) ps = _
    rw [e, cvs_go (by omega) (by omega) fun q hq => h q (List.mem_cons_of_mem _ hq)]
    rw [List.map_cons, List.map_cons, List.foldl_cons, List.sum_cons, Int.add_assoc]
theorem cvs_all {g : Nat → Int} {ps : List (Int × Int)} (h0 : ps ≠ []) (h : ∀ p ∈ ps, 0 ≤ p.1 ∧ 0 ≤ p.2) : cvs g ps = cv g (minI (ps.map (·.1))) ((ps.map (·.2)).sum) := by
  cases ps with
  | nil => exact absurd rfl h0
  | cons p ps =>
    have hp := h p List.mem_cons_self
    show cvs (cv g p.1 p.2) ps = _
    rw [cvs_go hp.1 hp.2 fun q hq => h q (List.mem_cons_of_mem _ hq)]
    rw [List.map_cons, List.map_cons, List.sum_cons]
    rfl
theorem minI_perm {l m : List Int} (h : l.Perm m) (h0 : l ≠ []) : minI l = minI m := by
  have h1 : m ≠ [] := fun z => h0 (by rw [z] at h; exact h.eq_nil)
  exact Int.le_antisymm (minI_le (h.mem_iff.mpr (minI_mem h1))) (minI_le (h.mem_iff.mp (minI_mem h0)))
theorem sum_perm {l m : List Int} (h : l.Perm m) : l.sum = m.sum := by
  induction h with
  | nil => rfl
  | cons x _ ih => rw [List.sum_cons, List.sum_cons, ih]
  | swap x y l => simp only [List.sum_cons]; omega
  | trans _ _ a b => exact a.trans b
theorem cvs_perm {g : Nat → Int} {ps qs : List (Int × Int)} (hp : ps.Perm qs) (h0 : ps ≠ []) (h : ∀ p ∈ ps, 0 ≤ p.1 ∧ 0 ≤ p.2) : cvs g ps = cvs g qs := by
  have h1 : qs ≠ [] := fun z => h0 (by rw [z] at hp; exact hp.eq_nil)
  rw [cvs_all h0 h, cvs_all h1 fun p hq => h p (hp.mem_iff.mpr hq), minI_perm (hp.map _) (by simpa using h0), sum_perm (hp.map _)]
/-- a lazier one -/
theorem cv_lazier {g : Nat → Int} {R R' L L' : Int} (hR : R' ≤ R) (h0 : 0 ≤ R') (hL : L ≤ L') (t : Nat) : cv g R' L' t ≤ cv g R L t := cv_ge fun b hb => by
  have h1 := cv_le g R' L' hb
  have h2 := mulmono h0 (show max 0 ((t : Int) - b - L') ≤ max 0 ((t : Int) - b - L) by omega)
  have h3 := mulmono2 (show 0 ≤ max 0 ((t : Int) - b - L) by omega) hR
  omega
/-- one that is never in the way -/
theorem cv_wide {g : Nat → Int} {R : Int} {n : Nat} (h : ∀ k, k < n → g (k + 1) ≤ g k + R) (hR : 0 ≤ R) : ∀ t, t ≤ n → cv g R 0 t = g t := fun t ht => by
  refine Int.le_antisymm (cv_self (Int.le_refl 0) t) (cv_ge fun b hb => ?_)
  have key : ∀ j : Nat, b + j ≤ n → g (b + j) ≤ g b + R * j := by
    intro j
    induction j with
    | zero => intro _; simp
    | succ j ih =>
      intro hj
      have h1 := ih (by omega)
      have h2 := h (b + j) (by omega)
      rw [Int.natCast_succ, Int.mul_add]
      have e : b + (j + 1) = b + j + 1 := by omega
      rw [e]
      omega
  have h1 := key (t - b) (by omega)
  rw [show b + (t - b) = t by omega] at h1
  rw [show max 0 ((t : Int) - b - 0) = ((t - b : Nat) : Int) by omega]
  exact h1
end G

set_option maxHeartbeats 4000000
namespace G
open PySem L2 Z
def stt (scr : PyData) (t : OT) (x2 x3 x4 x6 x7 : Option PyData) (x8 : Option OT) (x9 x10 x11 x12 x14 x15 x16 x17 x18 : Option PyData) : Sl :=
  [some (.frz scr), some t, x2.map .frz, x3.map .frz, x4.map .frz, none, x6.map .frz, x7.map .frz, x8, x9.map .frz, x10.map .frz, x11.map .frz, x12.map .frz, none, x14.map .frz, x15.map .frz, x16.map .frz, x17.map .frz, x18.map .frz]
theorem fL_get {ps : List (Int × Int)} {j : Nat} {p : Int × Int} (h : ps[j]? = some p) : (fL (pL ps))[j]? = some (.frz (prD p)) := by simp [fL, pL, h]
theorem fL_del (ps : List (Int × Int)) : ∀ j, (fL (pL ps)).eraseIdx j = fL (pL (ps.eraseIdx j)) := by
  induction ps with
  | nil => intro j; rfl
  | cons p ps ih =>
    intro j
    cases j with
    | zero => rfl
    | succ j => exact congrArg (OT.frz (prD p) :: ·) (ih j)
section
variable {scr : PyData} {t : OT} {x2 x3 x4 x6 x7 : Option PyData} {x8 : Option OT} {x9 x10 x11 x12 x14 x15 x16 x17 x18 : Option PyData}
theorem law_l1 (ht : IsRow t) : ∃ t' ps, d_law_l1 (stt scr t x2 x3 x4 x6 x7 x8 x9 x10 x11 x12 x14 x15 x16 x17 x18) = .ok (.nod .lst (fL (pL ps))) (stt scr t' x2 x3 x4 x6 x7 x8 x9 x10 x11 x12 x14 x15 x16 x17 x18) ∧ IsRow t' ∧ ps ≠ [] ∧ ps.length ≤ 4 ∧ ∀ p ∈ ps, 1 ≤ p.1 ∧ p.1 ≤ 40 ∧ 0 ≤ p.2 ∧ p.2 ≤ 4 := by
  obtain ⟨v, t1, e1, h1, l1, u1⟩ := taken ht (show (0 : Int) < 3 by omega) (by omega)
  have hlen : (rng 0 (2 + v)).length = (2 + v).toNat := by rw [rng_len]; omega
  obtain ⟨ts, s, e, t', ps, rfl, rfl, g1, g2, g3⟩ := lc_inv (vs := [5]) (mi := mRng1 (mCons (mBin pAdd (mLit (.int 2)) (mFrz (mCallL dF_law_taken 1 [] (mCons (mLit (.int 3)) mNil)))) mNil)) (f := fNm 5) (mc := mYes) (me := d_law_e1)
    (ds := rng 0 (2 + v)) (st := stt scr t x2 x3 x4 x6 x7 x8 x9 x10 x11 x12 x14 x15 x16 x17 x18) (st0 := stt scr t1 x2 x3 x4 x6 x7 x8 x9 x10 x11 x12 x14 x15 x16 x17 x18) (by simp [stt, e1, fitR (show -10000 ≤ 2 + v by omega) (show 2 + v ≤ 10000 by omega)]) (by rw [hlen]; exact fit (by omega)) rfl
    (fun k ts s => ∃ t' ps, ts = fL (pL ps) ∧ s = stt scr t' x2 x3 x4 x6 x7 x8 x9 x10 x11 x12 x14 x15 x16 x17 x18 ∧ IsRow t' ∧ ps.length = k ∧ ∀ p ∈ ps, 1 ≤ p.1 ∧ p.1 ≤ 40 ∧ 0 ≤ p.2 ∧ p.2 ≤ 4) ⟨t1, [], rfl, rfl, h1, rfl, fun _ h => by cases h⟩ fun k d ts s hk ⟨t', ps, h1, h2, h3, h4, h5⟩ => by
      subst h1
      subst h2
      obtain ⟨rfl, hk2⟩ := rng_at hk
      obtain ⟨a, ta, ea, ha, la, ua⟩ := taken h3 (show (0 : Int) < 40 by omega) (by omega)
      obtain ⟨b, tb, eb, hb, lb, ub⟩ := taken ha (show (0 : Int) < 5 by omega) (by omega)
      refine ⟨_, _, true, rfl, rfl, .inl ⟨rfl, .frz (.tuple [.int (1 + a), .int b]), [some (.frz scr), some tb, x2.map .frz, x3.map .frz, x4.map .frz, some (.frz (.int (0 + k))), x6.map .frz, x7.map .frz, x8, x9.map .frz, x10.map .frz, x11.map .frz, x12.map .frz, none, x14.map .frz, x15.map .frz, x16.map .frz, x17.map .frz, x18.map .frz], by simp [d_law_e1, stt, ea, eb], tb, ps ++ [(1 + a, b)], by simp, rfl, hb, by rw [List.length_append, h4]; rfl, fun p hp => ?_⟩⟩
      rcases List.mem_append.mp hp with hp | hp
      · exact h5 p hp
      · simp at hp
        subst hp
        exact ⟨by show 1 ≤ 1 + a; omega, by show 1 + a ≤ 40; omega, lb, by show b ≤ 4; omega⟩
  rw [hlen] at g2
  exact ⟨t', ps, e, g1, fun z => by rw [z] at g2; simp at g2; omega, by omega, g3⟩
theorem law_l4 (ht : IsRow t) : ∃ t' ps, d_law_l4 (stt scr t x2 x3 x4 x6 x7 x8 x9 x10 x11 x12 x14 x15 x16 x17 x18) = .ok (.nod .lst (fL (pL ps))) (stt scr t' x2 x3 x4 x6 x7 x8 x9 x10 x11 x12 x14 x15 x16 x17 x18) ∧ IsRow t' ∧ GoodP ps := by
  obtain ⟨v, t1, e1, h1, l1, u1⟩ := taken ht (show (0 : Int) < 12 by omega) (by omega)
  have hlen : (rng 0 (1 + v)).length = (1 + v).toNat := by rw [rng_len]; omega
  obtain ⟨ts, s, e, t', ps, rfl, rfl, g1, g2, g3⟩ := lc_inv (vs := [5]) (mi := mRng1 (mCons (mBin pAdd (mLit (.int 1)) (mFrz (mCallL dF_law_taken 1 [] (mCons (mLit (.int 12)) mNil)))) mNil)) (f := fNm 5) (mc := mYes) (me := d_law_e4)
    (ds := rng 0 (1 + v)) (st := stt scr t x2 x3 x4 x6 x7 x8 x9 x10 x11 x12 x14 x15 x16 x17 x18) (st0 := stt scr t1 x2 x3 x4 x6 x7 x8 x9 x10 x11 x12 x14 x15 x16 x17 x18) (by simp [stt, e1, fitR (show -10000 ≤ 1 + v by omega) (show 1 + v ≤ 10000 by omega)]) (by rw [hlen]; exact fit (by omega)) rfl
    (fun k ts s => ∃ t' ps, ts = fL (pL ps) ∧ s = stt scr t' x2 x3 x4 x6 x7 x8 x9 x10 x11 x12 x14 x15 x16 x17 x18 ∧ IsRow t' ∧ ps.length = k ∧ ∀ p ∈ ps, (1 ≤ p.1 ∧ p.1 ≤ 9999) ∧ 0 ≤ p.2 ∧ p.2 ≤ 200) ⟨t1, [], rfl, rfl, h1, rfl, fun _ h => by cases h⟩ fun k d ts s hk ⟨t', ps, h1, h2, h3, h4, h5⟩ => by
      subst h1
      subst h2
      obtain ⟨rfl, hk2⟩ := rng_at hk
      obtain ⟨a, ta, ea, ha, la, ua⟩ := taken h3 (show (0 : Int) < 9999 by omega) (by omega)
      obtain ⟨b, tb, eb, hb, lb, ub⟩ := taken ha (show (0 : Int) < 201 by omega) (by omega)
      refine ⟨_, _, true, rfl, rfl, .inl ⟨rfl, .frz (.tuple [.int (1 + a), .int b]), [some (.frz scr), some tb, x2.map .frz, x3.map .frz, x4.map .frz, some (.frz (.int (0 + k))), x6.map .frz, x7.map .frz, x8, x9.map .frz, x10.map .frz, x11.map .frz, x12.map .frz, none, x14.map .frz, x15.map .frz, x16.map .frz, x17.map .frz, x18.map .frz], by simp [d_law_e4, stt, ea, eb], tb, ps ++ [(1 + a, b)], by simp, rfl, hb, by rw [List.length_append, h4]; rfl, fun p hp => ?_⟩⟩
      rcases List.mem_append.mp hp with hp | hp
      · exact h5 p hp
      · simp at hp
        subst hp
        exact ⟨⟨by show 1 ≤ 1 + a; omega, by show 1 + a ≤ 9999; omega⟩, lb, by show b ≤ 200; omega⟩
  rw [hlen] at g2
  exact ⟨t', ps, e, g1, fun z => by rw [z] at g2; simp at g2; omega, by omega, g3⟩
theorem law_l2 {ps : List (Int × Int)} (hl : ps.length ≤ 100) : d_law_l2 (stt scr t x2 x3 (some (.list (pL ps))) x6 x7 x8 x9 x10 x11 x12 x14 x15 x16 x17 x18) = .ok (.nod .lst (fI (ps.map (·.1)))) (stt scr t x2 x3 (some (.list (pL ps))) x6 x7 x8 x9 x10 x11 x12 x14 x15 x16 x17 x18) := by
  unfold d_law_l2
  rw [lc_map (ds := pL ps) (st0 := stt scr t x2 x3 (some (.list (pL ps))) x6 x7 x8 x9 x10 x11 x12 x14 x15 x16 x17 x18) (W := stt scr t x2 x3 (some (.list (pL ps))) x6 none x8 x9 x10 x11 x12 x14 x15 x16 x17 x18)
    (fun k => .int ((ps.map (·.1)).getD k 0)) (by simp [stt]) (fit (by rw [pL_len]; omega)) (by cases x7 <;> rfl) rfl fun j d hj => by
      obtain ⟨p, hp, rfl, hj2⟩ := pL_get hj
      exact ⟨_, stt scr t x2 x3 (some (.list (pL ps))) x6 (some (prD p)) x8 x9 x10 x11 x12 x14 x15 x16 x17 x18, rfl, by simp [d_law_e2, stt, prD, hp], rfl⟩]
  rw [pL_len, map_preF, show ps.length = (ps.map (·.1)).length by simp, pre_self]
  cases x7 <;> rfl
theorem law_l3 {ps : List (Int × Int)} (hl : ps.length ≤ 100) : d_law_l3 (stt scr t x2 x3 (some (.list (pL ps))) x6 x7 x8 x9 x10 x11 x12 x14 x15 x16 x17 x18) = .ok (.nod .lst (fI (ps.map (·.2)))) (stt scr t x2 x3 (some (.list (pL ps))) x6 x7 x8 x9 x10 x11 x12 x14 x15 x16 x17 x18) := by
  unfold d_law_l3
  rw [lc_map (ds := pL ps) (st0 := stt scr t x2 x3 (some (.list (pL ps))) x6 x7 x8 x9 x10 x11 x12 x14 x15 x16 x17 x18) (W := stt scr t x2 x3 (some (.list (pL ps))) x6 none x8 x9 x10 x11 x12 x14 x15 x16 x17 x18)
    (fun k => .int ((ps.map (·.2)).getD k 0)) (by simp [stt]) (fit (by rw [pL_len]; omega)) (by cases x7 <;> rfl) rfl fun j d hj => by
      obtain ⟨p, hp, rfl, hj2⟩ := pL_get hj
      exact ⟨_, stt scr t x2 x3 (some (.list (pL ps))) x6 (some (prD p)) x8 x9 x10 x11 x12 x14 x15 x16 x17 x18, rfl, by simp [d_law_e3, stt, prD, hp], rfl⟩]
  rw [pL_len, map_preF, show ps.length = (ps.map (·.2)).length by simp, pre_self]
  cases x7 <;> rfl
theorem law_l5 {ps : List (Int × Int)} (hl : ps.length ≤ 100) : d_law_l5 (stt scr t x2 x3 x4 x6 x7 x8 x9 x10 x11 (some (.list (pL ps))) x14 x15 x16 x17 x18) = .ok (.nod .lst (fI (ps.map (·.1)))) (stt scr t x2 x3 x4 x6 x7 x8 x9 x10 x11 (some (.list (pL ps))) x14 x15 x16 x17 x18) := by
  unfold d_law_l5
  rw [lc_map (ds := pL ps) (st0 := stt scr t x2 x3 x4 x6 x7 x8 x9 x10 x11 (some (.list (pL ps))) x14 x15 x16 x17 x18) (W := stt scr t x2 x3 x4 x6 x7 x8 x9 x10 x11 (some (.list (pL ps))) x14 x15 x16 x17 x18)
    (fun k => .int ((ps.map (·.1)).getD k 0)) (by simp [stt]) (fit (by rw [pL_len]; omega)) rfl rfl fun j d hj => by
      obtain ⟨p, hp, rfl, hj2⟩ := pL_get hj
      exact ⟨_, (stt scr t x2 x3 x4 x6 x7 x8 x9 x10 x11 (some (.list (pL ps))) x14 x15 x16 x17 x18).set 13 (some (.frz (prD p))), rfl, by simp [d_law_e5, stt, prD, hp], rfl⟩]
  rw [pL_len, map_preF, show ps.length = (ps.map (·.1)).length by simp, pre_self]
  rfl
theorem law_l6 {ps : List (Int × Int)} (hl : ps.length ≤ 100) : d_law_l6 (stt scr t x2 x3 x4 x6 x7 x8 x9 x10 x11 (some (.list (pL ps))) x14 x15 x16 x17 x18) = .ok (.nod .lst (fI (ps.map (·.2)))) (stt scr t x2 x3 x4 x6 x7 x8 x9 x10 x11 (some (.list (pL ps))) x14 x15 x16 x17 x18) := by
  unfold d_law_l6
  rw [lc_map (ds := pL ps) (st0 := stt scr t x2 x3 x4 x6 x7 x8 x9 x10 x11 (some (.list (pL ps))) x14 x15 x16 x17 x18) (W := stt scr t x2 x3 x4 x6 x7 x8 x9 x10 x11 (some (.list (pL ps))) x14 x15 x16 x17 x18)
    (fun k => .int ((ps.map (·.2)).getD k 0)) (by simp [stt]) (fit (by rw [pL_len]; omega)) rfl rfl fun j d hj => by
      obtain ⟨p, hp, rfl, hj2⟩ := pL_get hj
      exact ⟨_, (stt scr t x2 x3 x4 x6 x7 x8 x9 x10 x11 (some (.list (pL ps))) x14 x15 x16 x17 x18).set 13 (some (.frz (prD p))), rfl, by simp [d_law_e6, stt, prD, hp], rfl⟩]
  rw [pL_len, map_preF, show ps.length = (ps.map (·.2)).length by simp, pre_self]
  rfl
end
end G

set_option maxHeartbeats 4000000
namespace G
open PySem L2 Z
theorem seq_to {m n : Sl → R Out} {st st' : Sl} {r : R Out} (h : m st = .ok .nx st') (h2 : n st' = r) : mSeq m n st = r := by
  rw [w_seq, h]
  exact h2
theorem erase_perm {α : Type} : ∀ {ms : List α} {j : Nat} {p : α}, ms[j]? = some p → (p :: ms.eraseIdx j).Perm ms
  | [], _, _, h => by simp at h
  | m :: ms, 0, p, h => by
    have : m = p := by simpa using h
    subst this
    exact .refl _
  | m :: ms, j + 1, p, h => by
    have ih := erase_perm (ms := ms) (j := j) (p := p) (by simpa using h)
    exact (List.Perm.swap m p _).trans (ih.cons m)
section
variable {scr : PyData} {t : OT} {x2 x3 x4 x6 x7 : Option PyData} {x8 : Option OT} {x9 x10 x11 x12 x14 x15 x16 x17 x18 : Option PyData}
theorem law_out {g : Nat → Int} {n : Nat} {ps : List (Int × Int)} (hg : Fl g n) (hn : n ≤ 200) (hp : ∀ p ∈ ps, (1 ≤ p.1 ∧ p.1 ≤ 9999) ∧ 0 ≤ p.2 ∧ p.2 ≤ 200) : ∃ y7,
    loopF (fNm 7) d_law_b1 (pL ps) (stt scr t x2 x3 x4 (some (.list (iL (dl g n)))) x7 x8 x9 x10 x11 x12 x14 x15 x16 x17 x18) = .ok .nx (stt scr t x2 x3 x4 (some (.list (iL (dl (cvs g ps) n)))) y7 x8 x9 x10 x11 x12 x14 x15 x16 x17 x18) := by
  obtain ⟨st', e, y7, rfl⟩ := loop0 (h := fNm 7) (ms := d_law_b1) (ds := pL ps) (st := stt scr t x2 x3 x4 (some (.list (iL (dl g n)))) x7 x8 x9 x10 x11 x12 x14 x15 x16 x17 x18)
    (fun k s => ∃ y7, s = stt scr t x2 x3 x4 (some (.list (iL (dl (cvs g (ps.take k)) n)))) y7 x8 x9 x10 x11 x12 x14 x15 x16 x17 x18) ⟨x7, rfl⟩ fun k d s hk ⟨y7, hs⟩ => by
      subst hs
      obtain ⟨p, hpk, rfl, hk2⟩ := pL_get hk
      have hq := hp p (List.mem_of_getElem? hpk)
      have hF : Fl (cvs g (ps.take k)) n := cvs_fl hg fun q hq => by have := hp q (List.mem_of_mem_take hq); omega
      have e : dF_lazy [.frz (.list (iL (dl (cvs g (ps.take k)) n))), .frz (prD p), .frz (.int 0)] = _ := lazy_dl hF hn hq.1 hq.2
      refine ⟨stt scr t x2 x3 x4 (some (.list (iL (dl (cvs g (ps.take k)) n)))) (some (prD p)) x8 x9 x10 x11 x12 x14 x15 x16 x17 x18, stt scr t x2 x3 x4 (some (.list (iL (dl (cvs g (ps.take (k + 1))) n)))) (some (prD p)) x8 x9 x10 x11 x12 x14 x15 x16 x17 x18, .nx, rfl, ?_, .inl rfl, _, rfl⟩
      have e2 : ps.take (k + 1) = ps.take k ++ [p] := by rw [List.take_add_one, hpk]; rfl
      rw [e2, cvs_app]
      simp [d_law_b1, stt, e]
  rw [pL_len, List.take_length] at e
  exact ⟨y7, e⟩
theorem law_back {g : Nat → Int} {n : Nat} {ps : List (Int × Int)} (ht : IsRow t) (hg : Fl g n) (hn : n ≤ 200) (hl : ps.length ≤ 100) (hp : ∀ p ∈ ps, (1 ≤ p.1 ∧ p.1 ≤ 9999) ∧ 0 ≤ p.2 ∧ p.2 ≤ 200) : ∃ t' qs,
    mWhile 1000 d_law_w1 d_law_b2 (stt scr t x2 x3 x4 x6 x7 (some (.nod .lst (fL (pL ps)))) (some (.list (iL (dl g n)))) x10 x11 x12 x14 x15 x16 x17 x18) = .ok .nx (stt scr t' x2 x3 x4 x6 x7 (some (.nod .lst [])) (some (.list (iL (dl (cvs g qs) n)))) x10 x11 x12 x14 x15 x16 x17 x18) ∧ IsRow t' ∧ qs.Perm ps := by
  obtain ⟨st', e, t', qs, ms, rfl, h1, h2, h3⟩ := while_inv (c := d_law_w1) (ms := d_law_b2) (fun k s => ∃ t' qs ms, s = stt scr t' x2 x3 x4 x6 x7 (some (.nod .lst (fL (pL ms)))) (some (.list (iL (dl (cvs g qs) n)))) x10 x11 x12 x14 x15 x16 x17 x18 ∧ IsRow t' ∧ (qs ++ ms).Perm ps ∧ ms.length = k)
    ps.length 1000 (stt scr t x2 x3 x4 x6 x7 (some (.nod .lst (fL (pL ps)))) (some (.list (iL (dl g n)))) x10 x11 x12 x14 x15 x16 x17 x18) (by omega) ⟨t, [], ps, rfl, ht, .refl _, rfl⟩ fun k s ⟨t', qs, ms, hs, h1, h2, h3⟩ => by
      subst hs
      have en := pNe_nilL (nice_pL 5 ms) (by omega)
      refine ⟨!(pL ms).isEmpty, _, by simp [d_law_w1, stt, en]; rfl, fun hk => ?_, fun hb => ?_, fun hb => ?_⟩
      · have : ms = [] := List.eq_nil_of_length_eq_zero (h3.trans hk)
        subst this
        rfl
      · have : ms = [] := by
          cases ms with
          | nil => rfl
          | cons _ _ => simp [pL] at hb
        subst this
        exact ⟨t', qs, [], rfl, h1, h2, rfl⟩
      · have hm0 : 0 < ms.length := by
          cases ms with
          | nil => simp [pL] at hb
          | cons _ _ => simp
        have hle : ms.length ≤ ps.length := by have := h2.length_eq; rw [List.length_append] at this; omega
        obtain ⟨v, t2, e2, g2, l2, u2⟩ := taken h1 (show (0 : Int) < ms.length by omega) (by omega)
        obtain ⟨j, rfl⟩ : ∃ j : Nat, v = (j : Int) := ⟨v.toNat, by omega⟩
        have hj : j < ms.length := by omega
        obtain ⟨p, hpj⟩ : ∃ p, ms[j]? = some p := ⟨ms[j], List.getElem?_eq_getElem hj⟩
        have hmem : p ∈ ps := h2.mem_iff.mp (List.mem_append_right _ (List.mem_of_getElem? hpj))
        have hq := hp p hmem
        have hF : Fl (cvs g qs) n := cvs_fl hg fun q hq => by have := hp q (h2.mem_iff.mp (List.mem_append_left _ hq)); omega
        have e : dF_lazy [.frz (.list (iL (dl (cvs g qs) n))), .frz (prD p), .frz (.int 0)] = _ := lazy_dl hF hn hq.1 hq.2
        have e5 := popK_f (ts := fL (pL ms)) 8 (k := j) (stt scr t2 x2 x3 x4 x6 x7 (some (.nod .lst (fL (pL ms)))) (some (.list (iL (dl (cvs g qs) n)))) x10 x11 x12 x14 x15 x16 x17 x18) (fit (by simp; omega)) (fL_get hpj)
        rw [fL_del] at e5
        refine ⟨stt scr t2 x2 x3 x4 x6 x7 (some (.nod .lst (fL (pL (ms.eraseIdx j))))) (some (.list (iL (dl (cvs g (qs ++ [p])) n)))) x10 x11 x12 x14 x15 x16 x17 x18, .nx, ms.length - 1, ?_, .inl rfl, by omega, t2, qs ++ [p], ms.eraseIdx j, rfl, g2, ?_, by rw [List.length_eraseIdx, if_pos hj]⟩
        · rw [cvs_app]
          simp [stt] at e5
          simp [d_law_b2, stt, e2, e5, e]
        · have pm := erase_perm hpj
          rw [List.append_assoc]
          exact ((List.Perm.append_left qs pm)).trans h2
  have : ms = [] := List.eq_nil_of_length_eq_zero h3
  subst this
  rw [List.append_nil] at h2
  exact ⟨t', qs, e, h1, h2⟩
theorem law_less {g f : Nat → Int} {n : Nat} (hn : n ≤ 1000) (hz : g 0 = 0) (hz2 : f 0 = 0) (h : ∀ k, k ≤ n → f k ≤ g k) : ∃ y14 y15 y18,
    loopF (fNm 18) d_law_b3 (rng 0 n) (stt scr t x2 x3 x4 x6 x7 x8 x9 x10 x11 x12 (some (.int 0)) (some (.int 0)) (some (.list (iL (dl f n)))) (some (.list (iL (dl g n)))) x18) = .ok .nx (stt scr t x2 x3 x4 x6 x7 x8 x9 x10 x11 x12 y14 y15 (some (.list (iL (dl f n)))) (some (.list (iL (dl g n)))) y18) := by
  obtain ⟨st', e, y18, rfl⟩ := loop0 (h := fNm 18) (ms := d_law_b3) (ds := rng 0 n) (st := stt scr t x2 x3 x4 x6 x7 x8 x9 x10 x11 x12 (some (.int (g 0))) (some (.int (f 0))) (some (.list (iL (dl f n)))) (some (.list (iL (dl g n)))) x18)
    (fun k s => ∃ y18, s = stt scr t x2 x3 x4 x6 x7 x8 x9 x10 x11 x12 (some (.int (g k))) (some (.int (f k))) (some (.list (iL (dl f n)))) (some (.list (iL (dl g n)))) y18) ⟨x18, rfl⟩ fun k d s hk ⟨y18, hs⟩ => by
      subst hs
      obtain ⟨rfl, hk2⟩ := rng_at hk
      rw [Int.zero_add]
      have hkn : k < n := by omega
      refine ⟨stt scr t x2 x3 x4 x6 x7 x8 x9 x10 x11 x12 (some (.int (g k))) (some (.int (f k))) (some (.list (iL (dl f n)))) (some (.list (iL (dl g n)))) (some (.int k)), stt scr t x2 x3 x4 x6 x7 x8 x9 x10 x11 x12 (some (.int (g (k + 1)))) (some (.int (f (k + 1)))) (some (.list (iL (dl f n)))) (some (.list (iL (dl g n)))) (some (.int k)), .nx, rfl, ?_, .inl rfl, _, rfl⟩
      have e1 := dl_get (g := g) hkn
      have e2 := dl_get (g := f) hkn
      have e3 : g k + (g (k + 1) - g k) = g (k + 1) := by omega
      have e4 : f k + (f (k + 1) - f k) = f (k + 1) := by omega
      have e5 : ¬ g (k + 1) < f (k + 1) := by have := h (k + 1) (by omega); omega
      simp [d_law_b3, stt, ix_nat, e1, e2, e3, e4, e5]
  rw [hz, hz2] at e
  exact ⟨_, _, y18, e⟩
end
end G

set_option maxHeartbeats 4000000
namespace G
open PySem L2 Z
theorem fL_pL (ps : List (Int × Int)) : (pL ps).map OT.frz = fL (pL ps) := rfl
section
variable {scr : PyData} {t : OT} {x2 x3 x4 x6 x7 : Option PyData} {x8 : Option OT} {x9 x10 x11 x12 x14 x15 x16 x17 x18 : Option PyData}
theorem turn (ht : IsRow t) : ∃ t' y3 y4 y6 y7 y8 y9 y10 y11 y12 y14 y15 y16 y17 y18, d_law_b4 (stt scr t x2 x3 x4 x6 x7 x8 x9 x10 x11 x12 x14 x15 x16 x17 x18) = .ok .nx (stt scr t' x2 y3 y4 y6 y7 y8 y9 y10 y11 y12 y14 y15 y16 y17 y18) ∧ IsRow t' := by
  obtain ⟨t1, ps0, e1, h1, g1⟩ := f_line ht (M := 60) (by omega)
  obtain ⟨v, t2, e2, h2, l2, u2⟩ := taken h1 (show (0 : Int) < 30 by omega) (by omega)
  obtain ⟨c, hc⟩ : ∃ c : Nat, (c : Int) = 1 + v := ⟨(1 + v).toNat, by omega⟩
  obtain ⟨t3, fl, e3, h3, g3, k3⟩ := f_flow (M := 90) (n := c) h2 g1 (by omega) (by omega) (by omega)
  rw [hc] at e3
  have hfl : fl.length ≤ 30 := by omega
  have k3' : ∀ x ∈ fl, 0 ≤ x ∧ x ≤ 90 := fun x hx => by have := k3 x hx; omega
  obtain ⟨w, hw⟩ : ∃ w, w = fl ++ List.replicate 40 0 := ⟨_, rfl⟩
  obtain ⟨n, hn⟩ : ∃ n, n = fl.length + 40 := ⟨_, rfl⟩
  have hwn : w.length = n := by rw [hw, hn]; simp
  have hw90 : ∀ x ∈ w, 0 ≤ x ∧ x ≤ 90 := fun x hx => by
    rw [hw] at hx
    rcases List.mem_append.mp hx with hx | hx
    · exact k3' x hx
    · rw [List.eq_of_mem_replicate hx]; omega
  have hF : Fl (S w) n := Fl.of (by omega) hw90 (by omega) (by omega)
  have ew : w = dl (S w) n := by rw [← hwn]; exact (dl_S w).symm
  have e40 : pMul (.list [.int 0]) (.int 40) = some (.list (iL (List.replicate 40 0))) := mul_zeros (more := 40) (by decide)
  have f40 : Fit (fl.length + 40) := fit (by omega)
  -- the promises
  obtain ⟨t4, ps, e4, h4, p0, pl, pb⟩ := law_l1 (scr := scr) (x2 := x2) (x3 := some (.list (iL fl))) (x4 := x4) (x6 := x6) (x7 := x7) (x8 := x8) (x9 := x9) (x10 := x10) (x11 := x11) (x12 := x12) (x14 := x14) (x15 := x15) (x16 := x16) (x17 := x17) (x18 := x18) h3
  have pb' : ∀ p ∈ ps, (1 ≤ p.1 ∧ p.1 ≤ 9999) ∧ 0 ≤ p.2 ∧ p.2 ≤ 200 := fun p hp => by have := pb p hp; omega
  have pb0 : ∀ p ∈ ps, 0 ≤ p.1 ∧ 0 ≤ p.2 := fun p hp => by have := pb p hp; omega
  obtain ⟨y7, e5⟩ := law_out (scr := scr) (t := t4) (x2 := x2) (x3 := some (.list (iL fl))) (x4 := some (.list (pL ps))) (x7 := x7) (x8 := x8) (x9 := x9) (x10 := x10) (x11 := x11) (x12 := x12) (x14 := x14) (x15 := x15) (x16 := x16) (x17 := x17) (x18 := x18) hF (by omega) pb'
  obtain ⟨t5, qs, e6, h5, pq⟩ := law_back (scr := scr) (x2 := x2) (x3 := some (.list (iL fl))) (x4 := some (.list (pL ps))) (x6 := some (.list (iL (dl (cvs (S w) ps) n)))) (x7 := y7) (x10 := x10) (x11 := x11) (x12 := x12) (x14 := x14) (x15 := x15) (x16 := x16) (x17 := x17) (x18 := x18) h4 hF (by omega) (by omega) pb'
  rw [← ew] at e5 e6
  rw [cvs_perm pq (fun z => p0 (by rw [z] at pq; exact pq.symm.eq_nil)) fun p hp => pb0 p (pq.mem_iff.mp hp)] at e6
  -- their promise in turn
  have gp : GoodP ps := ⟨p0, by omega, pb'⟩
  have e7 := f_in_turn gp
  have hm0 : ps.map (·.1) ≠ [] := by simpa using p0
  obtain ⟨R, hR⟩ : ∃ R, R = minI (ps.map (·.1)) := ⟨_, rfl⟩
  obtain ⟨Lt, hLt⟩ : ∃ Lt, Lt = (ps.map (·.2)).sum := ⟨_, rfl⟩
  have hRb : 1 ≤ R ∧ R ≤ 40 := by
    obtain ⟨p, hp, e⟩ := List.mem_map.mp (minI_mem hm0)
    have := pb p hp
    rw [hR, ← e]
    omega
  have hLb : 0 ≤ Lt ∧ Lt ≤ 16 := by
    have key : ∀ l : List Int, (∀ x ∈ l, 0 ≤ x ∧ x ≤ 4) → 0 ≤ l.sum ∧ l.sum ≤ 4 * l.length := by
      intro l
      induction l with
      | nil => intro _; simp
      | cons a l ih =>
        intro h
        have h1 := ih fun x hx => h x (List.mem_cons_of_mem _ hx)
        have h2 := h a List.mem_cons_self
        rw [List.sum_cons, List.length_cons, Int.natCast_succ, Int.mul_add]
        omega
    have := key (ps.map (·.2)) fun x hx => by
      obtain ⟨p, hp, rfl⟩ := List.mem_map.mp hx
      have := pb p hp
      omega
    rw [List.length_map] at this
    omega
  have ec : cvs (S w) ps = cv (S w) R Lt := by rw [hR, hLt]; exact cvs_all p0 pb0
  rw [← hR, ← hLt] at e7
  rw [ec] at e5 e6
  have lz40 : ∀ {R L : Int}, 1 ≤ R ∧ R ≤ 9999 → 0 ≤ L ∧ L ≤ 200 → dF_lazy [.frz (.list (iL fl)), .frz (prD (R, L)), .frz (.int 40)] = .ok (.frz (.tuple [.list (iL (dl (cv (S w) R L) n)), .int (S w n - cv (S w) R L n)])) [] := fun hR hL => by
    have := f_lazy (more := 40) (l := fl) (by omega) (fun x hx => by have := k3' x hx; omega) hR hL (by omega)
    rw [← hw, ← hn] at this
    exact this
  have e8 := lz40 (R := R) (L := Lt) (by omega) (by omega)
  have al := f_alike (n := 6) (l := dl (cv (S w) R Lt) n) (by rw [dl_len]; omega)
  -- others
  obtain ⟨t6, qs2, e9, h6, g6⟩ := law_l4 (scr := scr) (t := t5) (x2 := x2) (x3 := some (.list (iL fl))) (x4 := some (.list (pL ps))) (x6 := some (.list (iL (dl (cv (S w) R Lt) n)))) (x7 := y7) (x8 := some (.nod .lst [])) (x9 := some (.list (iL (dl (cv (S w) R Lt) n)))) (x10 := some (prD (R, Lt))) (x11 := some (.list (iL (dl (cv (S w) R Lt) n)))) (x12 := x12) (x14 := x14) (x15 := x15) (x16 := x16) (x17 := x17) (x18 := x18) h5
  have e10 := f_in_turn g6
  have hm1 : qs2.map (·.1) ≠ [] := by simpa using g6.1
  obtain ⟨p, hp0⟩ : ∃ p, ps[0]? = some p := by
    cases ps with
    | nil => exact absurd rfl p0
    | cons p _ => exact ⟨p, rfl⟩
  have hp := pb p (List.mem_of_getElem? hp0)
  have eix : atI (pL ps) 0 = some (prD p) := by
    have := ix_nat (pL ps) 0
    rw [show ((0 : Nat) : Int) = 0 from rfl] at this
    rw [this]
    unfold pL
    rw [List.getElem?_map, hp0]
    rfl
  obtain ⟨a, ta, ea, ha, la, ua⟩ := taken h6 (show (0 : Int) < 5 by omega) (by omega)
  obtain ⟨b, tb, eb, hb, lb, ub⟩ := taken ha (show (0 : Int) < 3 by omega) (by omega)
  have e11 := lz40 (R := max 1 (p.1 - a)) (L := p.2 + b) (by omega) (by omega)
  have e12 := lz40 (R := p.1) (L := p.2) (by omega) (by omega)
  obtain ⟨y14, y15, y18, e13⟩ := law_less (scr := scr) (t := tb) (x2 := x2) (x3 := some (.list (iL fl))) (x4 := some (.list (pL ps))) (x6 := some (.list (iL (dl (cv (S w) R Lt) n)))) (x7 := some (prD p)) (x8 := some (.nod .lst [])) (x9 := some (.list (iL (dl (cv (S w) R Lt) n)))) (x10 := some (prD (R, Lt))) (x11 := some (.list (iL (dl (cv (S w) R Lt) n)))) (x12 := some (.list (pL qs2))) (x18 := x18)
    (g := cv (S w) p.1 p.2) (f := cv (S w) (max 1 (p.1 - a)) (p.2 + b)) (n := n) (by omega) (by rw [cv_zero (by omega)]; rfl) (by rw [cv_zero (by omega)]; rfl) fun k _ => cv_lazier (by omega) (by omega) (by omega) k
  -- never in the way
  have hmx : maxI (1 :: fl) ∈ (1 :: fl) := maxI_mem (by simp)
  obtain ⟨M, hM⟩ : ∃ M, M = maxI (1 :: fl) := ⟨_, rfl⟩
  have hMb : 1 ≤ M ∧ M ≤ 9999 := by
    rw [← hM] at hmx
    have h1 : (1 : Int) ≤ M := by rw [hM]; exact maxI_le List.mem_cons_self
    rcases List.mem_cons.mp hmx with h | h
    · omega
    · have := k3' _ h; omega
  have hFl : Fl (S fl) fl.length := Fl.of (Nat.le_refl _) k3' (by omega) (by omega)
  have ewd : ∀ k, k ≤ fl.length → cv (S fl) M 0 k = S fl k := cv_wide (fun k hk => by
    rw [S_succ fl (List.getElem?_eq_getElem hk)]
    have : fl[k] ≤ M := by rw [hM]; exact maxI_le (List.mem_cons_of_mem _ (List.getElem_mem hk))
    omega) (by omega)
  have e14 : dF_lazy [.frz (.list (iL fl)), .frz (prD (M, 0)), .frz (.int 0)] = .ok (.frz (.tuple [.list (iL fl), .int 0])) [] := by
    have := lazy_dl (R := M) (L := 0) hFl (by omega) hMb (by omega)
    rw [dl_congr ewd, dl_S, ewd _ (Nat.le_refl _), Int.sub_self] at this
    exact this
  have emx : pMax [.list (iL (1 :: fl))] = some (.int M) := by rw [hM]; exact ap_max (by simp)
  have e1fl : pAdd (.list [.int 1]) (.list (iL fl)) = some (.list (iL (1 :: fl))) := by
    rw [iL_one, ap_addL (fit (by simp; omega)), iL_app]
    rfl
  have n1 := pNe_same (nice_prD 63 (R, Lt))
  have n2 := pNe_same (nice_prD 63 (minI (qs2.map (·.1)), (qs2.map (·.2)).sum))
  have n3 : pNe (.tuple [.list (iL fl), .int 0]) (.tuple [.list (iL fl), .int 0]) = some (.bool false) := pNe_same (nice_t2 (nice_iL 62 fl) (nice_int _ _))
  refine ⟨tb, some (.list (iL fl)), some (.list (pL ps)), some (.list (iL (dl (cv (S w) R Lt) n))), some (prD p), some (.nod .lst []), some (.list (iL (dl (cv (S w) R Lt) n))), some (prD (R, Lt)), some (.list (iL (dl (cv (S w) R Lt) n))), some (.list (pL qs2)), y14, y15, some (.list (iL (dl (cv (S w) (max 1 (p.1 - a)) (p.2 + b)) n))), some (.list (iL (dl (cv (S w) p.1 p.2) n))), y18, ?_, hb⟩
  unfold d_law_b4
  refine seq_to (st' := stt scr t3 x2 (some (.list (iL fl))) x4 x6 x7 x8 x9 x10 x11 x12 x14 x15 x16 x17 x18) (by simp [stt, e1, e2, e3]) ?_
  refine seq_to (st' := stt scr t4 x2 (some (.list (iL fl))) (some (.list (pL ps))) x6 x7 x8 x9 x10 x11 x12 x14 x15 x16 x17 x18) (by simp [e4]; rfl) ?_
  refine seq_to (st' := stt scr t4 x2 (some (.list (iL fl))) (some (.list (pL ps))) (some (.list (iL w))) x7 x8 x9 x10 x11 x12 x14 x15 x16 x17 x18) (by simp [stt, e40, f40, hw]) ?_
  refine seq_to (st' := stt scr t4 x2 (some (.list (iL fl))) (some (.list (pL ps))) (some (.list (iL (dl (cv (S w) R Lt) n)))) y7 x8 x9 x10 x11 x12 x14 x15 x16 x17 x18) ?_ ?_
  · have : mIt (mVar 4) (stt scr t4 x2 (some (.list (iL fl))) (some (.list (pL ps))) (some (.list (iL w))) x7 x8 x9 x10 x11 x12 x14 x15 x16 x17 x18) = .ok (pL ps) (stt scr t4 x2 (some (.list (iL fl))) (some (.list (pL ps))) (some (.list (iL w))) x7 x8 x9 x10 x11 x12 x14 x15 x16 x17 x18) := by simp [stt]
    rw [w_for, this]
    exact e5
  refine seq_to (st' := stt scr t4 x2 (some (.list (iL fl))) (some (.list (pL ps))) (some (.list (iL (dl (cv (S w) R Lt) n)))) y7 (some (.nod .lst (fL (pL ps)))) (some (.list (iL w))) x10 x11 x12 x14 x15 x16 x17 x18) (by simp [stt, e40, f40, hw, fL_pL]) ?_
  refine seq_to e6 ?_
  refine seq_to (st' := stt scr t5 x2 (some (.list (iL fl))) (some (.list (pL ps))) (some (.list (iL (dl (cv (S w) R Lt) n)))) y7 (some (.nod .lst [])) (some (.list (iL (dl (cv (S w) R Lt) n)))) (some (prD (R, Lt))) x11 x12 x14 x15 x16 x17 x18) (by simp [stt, e7]) ?_
  refine seq_to (st' := stt scr t5 x2 (some (.list (iL fl))) (some (.list (pL ps))) (some (.list (iL (dl (cv (S w) R Lt) n)))) y7 (some (.nod .lst [])) (some (.list (iL (dl (cv (S w) R Lt) n)))) (some (prD (R, Lt))) x11 x12 x14 x15 x16 x17 x18) ?_ ?_
  · have v10 : mVar 10 (stt scr t5 x2 (some (.list (iL fl))) (some (.list (pL ps))) (some (.list (iL (dl (cv (S w) R Lt) n)))) y7 (some (.nod .lst [])) (some (.list (iL (dl (cv (S w) R Lt) n)))) (some (prD (R, Lt))) x11 x12 x14 x15 x16 x17 x18) = .ok (prD (R, Lt)) (stt scr t5 x2 (some (.list (iL fl))) (some (.list (pL ps))) (some (.list (iL (dl (cv (S w) R Lt) n)))) y7 (some (.nod .lst [])) (some (.list (iL (dl (cv (S w) R Lt) n)))) (some (prD (R, Lt))) x11 x12 x14 x15 x16 x17 x18) := rfl
    have n1' : pNe (prD (R, Lt)) (.tuple [.int R, .int Lt]) = some (.bool false) := n1
    simp [-w_var', v10, law_l2 (show ps.length ≤ 100 by omega), law_l3 (show ps.length ≤ 100 by omega), ap_min hm0, ← hR, ← hLt, n1']
  refine seq_to (st' := stt scr t5 x2 (some (.list (iL fl))) (some (.list (pL ps))) (some (.list (iL (dl (cv (S w) R Lt) n)))) y7 (some (.nod .lst [])) (some (.list (iL (dl (cv (S w) R Lt) n)))) (some (prD (R, Lt))) (some (.list (iL (dl (cv (S w) R Lt) n)))) x12 x14 x15 x16 x17 x18) (by simp [stt, e8]) ?_
  refine seq_to (st' := stt scr t5 x2 (some (.list (iL fl))) (some (.list (pL ps))) (some (.list (iL (dl (cv (S w) R Lt) n)))) y7 (some (.nod .lst [])) (some (.list (iL (dl (cv (S w) R Lt) n)))) (some (prD (R, Lt))) (some (.list (iL (dl (cv (S w) R Lt) n)))) x12 x14 x15 x16 x17 x18) (by simp [stt, al]) ?_
  refine seq_to (st' := stt scr t6 x2 (some (.list (iL fl))) (some (.list (pL ps))) (some (.list (iL (dl (cv (S w) R Lt) n)))) y7 (some (.nod .lst [])) (some (.list (iL (dl (cv (S w) R Lt) n)))) (some (prD (R, Lt))) (some (.list (iL (dl (cv (S w) R Lt) n)))) (some (.list (pL qs2))) x14 x15 x16 x17 x18) (by simp [e9]; rfl) ?_
  refine seq_to (st' := stt scr t6 x2 (some (.list (iL fl))) (some (.list (pL ps))) (some (.list (iL (dl (cv (S w) R Lt) n)))) y7 (some (.nod .lst [])) (some (.list (iL (dl (cv (S w) R Lt) n)))) (some (prD (R, Lt))) (some (.list (iL (dl (cv (S w) R Lt) n)))) (some (.list (pL qs2))) x14 x15 x16 x17 x18) ?_ ?_
  · have v12 : mVar 12 (stt scr t6 x2 (some (.list (iL fl))) (some (.list (pL ps))) (some (.list (iL (dl (cv (S w) R Lt) n)))) y7 (some (.nod .lst [])) (some (.list (iL (dl (cv (S w) R Lt) n)))) (some (prD (R, Lt))) (some (.list (iL (dl (cv (S w) R Lt) n)))) (some (.list (pL qs2))) x14 x15 x16 x17 x18) = .ok (.list (pL qs2)) (stt scr t6 x2 (some (.list (iL fl))) (some (.list (pL ps))) (some (.list (iL (dl (cv (S w) R Lt) n)))) y7 (some (.nod .lst [])) (some (.list (iL (dl (cv (S w) R Lt) n)))) (some (prD (R, Lt))) (some (.list (iL (dl (cv (S w) R Lt) n)))) (some (.list (pL qs2))) x14 x15 x16 x17 x18) := rfl
    have n2' : pNe (prD (minI (qs2.map (·.1)), (qs2.map (·.2)).sum)) (.tuple [.int (minI (qs2.map (·.1))), .int (qs2.map (·.2)).sum]) = some (.bool false) := n2
    simp [-w_var', v12, e10, law_l5 (show qs2.length ≤ 100 by have := g6.2.1; omega), law_l6 (show qs2.length ≤ 100 by have := g6.2.1; omega), ap_min hm1, n2']
  refine seq_to (st' := stt scr t6 x2 (some (.list (iL fl))) (some (.list (pL ps))) (some (.list (iL (dl (cv (S w) R Lt) n)))) (some (prD p)) (some (.nod .lst [])) (some (.list (iL (dl (cv (S w) R Lt) n)))) (some (prD (R, Lt))) (some (.list (iL (dl (cv (S w) R Lt) n)))) (some (.list (pL qs2))) (some (.int 0)) (some (.int 0)) x16 x17 x18) (by simp [stt, eix]) ?_
  refine seq_to (st' := stt scr tb x2 (some (.list (iL fl))) (some (.list (pL ps))) (some (.list (iL (dl (cv (S w) R Lt) n)))) (some (prD p)) (some (.nod .lst [])) (some (.list (iL (dl (cv (S w) R Lt) n)))) (some (prD (R, Lt))) (some (.list (iL (dl (cv (S w) R Lt) n)))) (some (.list (pL qs2))) (some (.int 0)) (some (.int 0)) (some (.list (iL (dl (cv (S w) (max 1 (p.1 - a)) (p.2 + b)) n)))) x17 x18) ?_ ?_
  · unfold prD at e11
    simp [stt, prD, ea, eb, e11]
  refine seq_to (st' := stt scr tb x2 (some (.list (iL fl))) (some (.list (pL ps))) (some (.list (iL (dl (cv (S w) R Lt) n)))) (some (prD p)) (some (.nod .lst [])) (some (.list (iL (dl (cv (S w) R Lt) n)))) (some (prD (R, Lt))) (some (.list (iL (dl (cv (S w) R Lt) n)))) (some (.list (pL qs2))) (some (.int 0)) (some (.int 0)) (some (.list (iL (dl (cv (S w) (max 1 (p.1 - a)) (p.2 + b)) n)))) (some (.list (iL (dl (cv (S w) p.1 p.2) n)))) x18) (by simp [stt, e12]) ?_
  refine seq_to (st' := stt scr tb x2 (some (.list (iL fl))) (some (.list (pL ps))) (some (.list (iL (dl (cv (S w) R Lt) n)))) (some (prD p)) (some (.nod .lst [])) (some (.list (iL (dl (cv (S w) R Lt) n)))) (some (prD (R, Lt))) (some (.list (iL (dl (cv (S w) R Lt) n)))) (some (.list (pL qs2))) y14 y15 (some (.list (iL (dl (cv (S w) (max 1 (p.1 - a)) (p.2 + b)) n)))) (some (.list (iL (dl (cv (S w) p.1 p.2) n)))) y18) ?_ ?_
  · have hd := dl_len (cv (S w) (max 1 (p.1 - a)) (p.2 + b)) n
    have : mRng1 (mCons (mB pLen (mCons (mVar 16) mNil)) mNil) (stt scr tb x2 (some (.list (iL fl))) (some (.list (pL ps))) (some (.list (iL (dl (cv (S w) R Lt) n)))) (some (prD p)) (some (.nod .lst [])) (some (.list (iL (dl (cv (S w) R Lt) n)))) (some (prD (R, Lt))) (some (.list (iL (dl (cv (S w) R Lt) n)))) (some (.list (pL qs2))) (some (.int 0)) (some (.int 0)) (some (.list (iL (dl (cv (S w) (max 1 (p.1 - a)) (p.2 + b)) n)))) (some (.list (iL (dl (cv (S w) p.1 p.2) n)))) x18) =
        .ok (rng 0 n) (stt scr tb x2 (some (.list (iL fl))) (some (.list (pL ps))) (some (.list (iL (dl (cv (S w) R Lt) n)))) (some (prD p)) (some (.nod .lst [])) (some (.list (iL (dl (cv (S w) R Lt) n)))) (some (prD (R, Lt))) (some (.list (iL (dl (cv (S w) R Lt) n)))) (some (.list (pL qs2))) (some (.int 0)) (some (.int 0)) (some (.list (iL (dl (cv (S w) (max 1 (p.1 - a)) (p.2 + b)) n)))) (some (.list (iL (dl (cv (S w) p.1 p.2) n)))) x18) := by
      simp [stt, hd, fitR (show -10000 ≤ (n : Int) by omega) (show (n : Int) ≤ 10000 by omega)]
    rw [w_for, this]
    exact e13
  unfold prD at e14
  simp [stt, e1fl, emx, e14, n3]
end
theorem law_math (ns : List Int) (h : ns.length ≤ 63) : dF_law [.frz (scrD ns)] = .ok (.frz (.bool true)) [] := by
  obtain ⟨st', e, t, x2, x3, x4, x6, x7, x8, x9, x10, x11, x12, x14, x15, x16, x17, x18, rfl, _⟩ := loop0 (h := fNm 2) (ms := d_law_b4) (ds := rng 0 4) (st := stt (scrD ns) (row ns 0 0 0) none none none none none none none none none none none none none none none)
    (fun k s => ∃ t x2 x3 x4 x6 x7 x8 x9 x10 x11 x12 x14 x15 x16 x17 x18, s = stt (scrD ns) t x2 x3 x4 x6 x7 x8 x9 x10 x11 x12 x14 x15 x16 x17 x18 ∧ IsRow t) ⟨_, none, none, none, none, none, none, none, none, none, none, none, none, none, none, none, rfl, row0 ns⟩
    fun k d s hk ⟨t, x2, x3, x4, x6, x7, x8, x9, x10, x11, x12, x14, x15, x16, x17, x18, hs, ht⟩ => by
      subst hs
      obtain ⟨t', y3, y4, y6, y7, y8, y9, y10, y11, y12, y14, y15, y16, y17, y18, e, h'⟩ := turn (scr := scrD ns) (x2 := some d) (x3 := x3) (x4 := x4) (x6 := x6) (x7 := x7) (x8 := x8) (x9 := x9) (x10 := x10) (x11 := x11) (x12 := x12) (x14 := x14) (x15 := x15) (x16 := x16) (x17 := x17) (x18 := x18) ht
      exact ⟨_, _, .nx, rfl, e, .inl rfl, _, _, _, _, _, _, _, _, _, _, _, _, _, _, _, _, rfl, h'⟩
  simp [stt, row] at e
  simp [dF_law, runDef, d_law, e, fitR]
end G

set_option maxHeartbeats 4000000
namespace G
open PySem PySem.Spec PyProof.Rows L2 Z
theorem all_mk {l : PySem.W.OpenLaw} {w : World} {K : PySem.W.Frag} {h : Heap} {mg : Str → Option Value} {fa : Addr} (X : K.In h) (G : h.Ns mainGlobals mg) (hfa : mg "law" = some (.ref fa))
    {f0 : Addr} {od0 an0 : Option Addr} {sl0 : Array (Option Value)} {oc0 kV0 dc0 pm0 cd0 ct0 : Value}
    (a0 : PySem.W.nsIn K mainGlobals "is_number" = some (some (.ref f0))) (l0 : K.lookup f0 = some ⟨oc0, od0, .func (PySem.W.fnOf "is_number" "is_number" (defArgs s_is_number) (defBody s_is_number) (defScope s_is_number) .none kV0 dc0 pm0 an0 cd0 ct0), sl0⟩) (c0 : PySem.W.codeIn K cd0 "is_number" = true) (k0 : PySem.W.keepIn K (.ref f0) = true)
    {f1 : Addr} {od1 an1 : Option Addr} {sl1 : Array (Option Value)} {oc1 kV1 dc1 pm1 cd1 ct1 : Value}
    (a1 : PySem.W.nsIn K mainGlobals "need_flow" = some (some (.ref f1))) (l1 : K.lookup f1 = some ⟨oc1, od1, .func (PySem.W.fnOf "need_flow" "need_flow" (defArgs s_need_flow) (defBody s_need_flow) (defScope s_need_flow) .none kV1 dc1 pm1 an1 cd1 ct1), sl1⟩) (c1 : PySem.W.codeIn K cd1 "need_flow" = true) (k1 : PySem.W.keepIn K (.ref f1) = true)
    {f2 : Addr} {od2 an2 : Option Addr} {sl2 : Array (Option Value)} {oc2 kV2 dc2 pm2 cd2 ct2 : Value}
    (a2 : PySem.W.nsIn K mainGlobals "need_more" = some (some (.ref f2))) (l2 : K.lookup f2 = some ⟨oc2, od2, .func (PySem.W.fnOf "need_more" "need_more" (defArgs s_need_more) (defBody s_need_more) (defScope s_need_more) .none kV2 dc2 pm2 an2 cd2 ct2), sl2⟩) (c2 : PySem.W.codeIn K cd2 "need_more" = true) (k2 : PySem.W.keepIn K (.ref f2) = true)
    {f3 : Addr} {od3 an3 : Option Addr} {sl3 : Array (Option Value)} {oc3 kV3 dc3 pm3 cd3 ct3 : Value}
    (a3 : PySem.W.nsIn K mainGlobals "sums" = some (some (.ref f3))) (l3 : K.lookup f3 = some ⟨oc3, od3, .func (PySem.W.fnOf "sums" "sums" (defArgs s_sums) (defBody s_sums) (defScope s_sums) .none kV3 dc3 pm3 an3 cd3 ct3), sl3⟩) (c3 : PySem.W.codeIn K cd3 "sums" = true) (k3 : PySem.W.keepIn K (.ref f3) = true)
    {f4 : Addr} {od4 an4 : Option Addr} {sl4 : Array (Option Value)} {oc4 kV4 dc4 pm4 cd4 ct4 : Value}
    (a4 : PySem.W.nsIn K mainGlobals "need_promise" = some (some (.ref f4))) (l4 : K.lookup f4 = some ⟨oc4, od4, .func (PySem.W.fnOf "need_promise" "need_promise" (defArgs s_need_promise) (defBody s_need_promise) (defScope s_need_promise) .none kV4 dc4 pm4 an4 cd4 ct4), sl4⟩) (c4 : PySem.W.codeIn K cd4 "need_promise" = true) (k4 : PySem.W.keepIn K (.ref f4) = true)
    {f5 : Addr} {od5 an5 : Option Addr} {sl5 : Array (Option Value)} {oc5 kV5 dc5 pm5 cd5 ct5 : Value}
    (a5 : PySem.W.nsIn K mainGlobals "promised" = some (some (.ref f5))) (l5 : K.lookup f5 = some ⟨oc5, od5, .func (PySem.W.fnOf "promised" "promised" (defArgs s_promised) (defBody s_promised) (defScope s_promised) .none kV5 dc5 pm5 an5 cd5 ct5), sl5⟩) (c5 : PySem.W.codeIn K cd5 "promised" = true) (k5 : PySem.W.keepIn K (.ref f5) = true)
    {f6 : Addr} {od6 an6 : Option Addr} {sl6 : Array (Option Value)} {oc6 kV6 dc6 pm6 cd6 ct6 : Value}
    (a6 : PySem.W.nsIn K mainGlobals "lazy" = some (some (.ref f6))) (l6 : K.lookup f6 = some ⟨oc6, od6, .func (PySem.W.fnOf "lazy" "lazy" (defArgs s_lazy) (defBody s_lazy) (defScope s_lazy) .none kV6 dc6 pm6 an6 cd6 ct6), sl6⟩) (c6 : PySem.W.codeIn K cd6 "lazy" = true) (k6 : PySem.W.keepIn K (.ref f6) = true)
    {f7 : Addr} {od7 an7 : Option Addr} {sl7 : Array (Option Value)} {oc7 kV7 dc7 pm7 cd7 ct7 : Value}
    (a7 : PySem.W.nsIn K mainGlobals "in_turn" = some (some (.ref f7))) (l7 : K.lookup f7 = some ⟨oc7, od7, .func (PySem.W.fnOf "in_turn" "in_turn" (defArgs s_in_turn) (defBody s_in_turn) (defScope s_in_turn) .none kV7 dc7 pm7 an7 cd7 ct7), sl7⟩) (c7 : PySem.W.codeIn K cd7 "in_turn" = true) (k7 : PySem.W.keepIn K (.ref f7) = true)
    {f8 : Addr} {od8 an8 : Option Addr} {sl8 : Array (Option Value)} {oc8 kV8 dc8 pm8 cd8 ct8 : Value}
    (a8 : PySem.W.nsIn K mainGlobals "_law_taken" = some (some (.ref f8))) (l8 : K.lookup f8 = some ⟨oc8, od8, .func (PySem.W.fnOf "_law_taken" "_law_taken" (defArgs s_law_taken) (defBody s_law_taken) (defScope s_law_taken) .none kV8 dc8 pm8 an8 cd8 ct8), sl8⟩) (c8 : PySem.W.codeIn K cd8 "_law_taken" = true) (k8 : PySem.W.keepIn K (.ref f8) = true)
    {f9 : Addr} {od9 an9 : Option Addr} {sl9 : Array (Option Value)} {oc9 kV9 dc9 pm9 cd9 ct9 : Value}
    (a9 : PySem.W.nsIn K mainGlobals "_law_alike" = some (some (.ref f9))) (l9 : K.lookup f9 = some ⟨oc9, od9, .func (PySem.W.fnOf "_law_alike" "_law_alike" (defArgs s_law_alike) (defBody s_law_alike) (defScope s_law_alike) .none kV9 dc9 pm9 an9 cd9 ct9), sl9⟩) (c9 : PySem.W.codeIn K cd9 "_law_alike" = true) (k9 : PySem.W.keepIn K (.ref f9) = true)
    {f10 : Addr} {od10 an10 : Option Addr} {sl10 : Array (Option Value)} {oc10 kV10 dc10 pm10 cd10 ct10 : Value}
    (a10 : PySem.W.nsIn K mainGlobals "_law_line" = some (some (.ref f10))) (l10 : K.lookup f10 = some ⟨oc10, od10, .func (PySem.W.fnOf "_law_line" "_law_line" (defArgs s_law_line) (defBody s_law_line) (defScope s_law_line) .none kV10 dc10 pm10 an10 cd10 ct10), sl10⟩) (c10 : PySem.W.codeIn K cd10 "_law_line" = true) (k10 : PySem.W.keepIn K (.ref f10) = true)
    {f11 : Addr} {od11 an11 : Option Addr} {sl11 : Array (Option Value)} {oc11 kV11 dc11 pm11 cd11 ct11 : Value}
    (a11 : PySem.W.nsIn K mainGlobals "_law_flow" = some (some (.ref f11))) (l11 : K.lookup f11 = some ⟨oc11, od11, .func (PySem.W.fnOf "_law_flow" "_law_flow" (defArgs s_law_flow) (defBody s_law_flow) (defScope s_law_flow) .none kV11 dc11 pm11 an11 cd11 ct11), sl11⟩) (c11 : PySem.W.codeIn K cd11 "_law_flow" = true) (k11 : PySem.W.keepIn K (.ref f11) = true)
    {f12 : Addr} {od12 an12 : Option Addr} {sl12 : Array (Option Value)} {oc12 kV12 dc12 pm12 cd12 ct12 : Value}
    (a12 : PySem.W.nsIn K mainGlobals "law" = some (some (.ref f12))) (l12 : K.lookup f12 = some ⟨oc12, od12, .func (PySem.W.fnOf "law" "law" (defArgs s_law) (defBody s_law) (defScope s_law) .none kV12 dc12 pm12 an12 cd12 ct12), sl12⟩) (c12 : PySem.W.codeIn K cd12 "law" = true) (k12 : PySem.W.keepIn K (.ref f12) = true)
    (z_bool : PySem.W.nsIn K mainGlobals "bool" = some none)
    (z_enumerate : PySem.W.nsIn K mainGlobals "enumerate" = some none)
    (z_int : PySem.W.nsIn K mainGlobals "int" = some none)
    (z_isinstance : PySem.W.nsIn K mainGlobals "isinstance" = some none)
    (z_len : PySem.W.nsIn K mainGlobals "len" = some none)
    (z_list : PySem.W.nsIn K mainGlobals "list" = some none)
    (z_max : PySem.W.nsIn K mainGlobals "max" = some none)
    (z_min : PySem.W.nsIn K mainGlobals "min" = some none)
    (z_range : PySem.W.nsIn K mainGlobals "range" = some none)
    (z_sum : PySem.W.nsIn K mainGlobals "sum" = some none)
    (z_tuple : PySem.W.nsIn K mainGlobals "tuple" = some none)
    (z_zip : PySem.W.nsIn K mainGlobals "zip" = some none)
    {t_LONGEST : Tok} (v_LONGEST : PySem.W.nsIn K mainGlobals "LONGEST" = some (some (.int 200 t_LONGEST)))
    {t_MOST : Tok} (v_MOST : PySem.W.nsIn K mainGlobals "MOST" = some (some (.int 9999 t_MOST)))
    {t_TOGETHER : Tok} (v_TOGETHER : PySem.W.nsIn K mainGlobals "TOGETHER" = some (some (.int 12 t_TOGETHER)))
    (math : ∀ ns : List Int, ns.length ≤ 63 → dF_law [.frz (scrD ns)] = .ok (.frz (.bool true)) []) :
    ∃ fd : FuncData, (∀ (s : Shared) (u : Value), BindsTo s fd ⟨[u], []⟩ [("_law_script", u)]) ∧ ∀ base : Heap, K.In base → base.Ns mainGlobals mg → FnOk l.prog w K mg base (L2.CX l.prog w) 9 fa fd ["_law_script"] (spLaw K) := by
  have e := hfa.symm.trans (PySem.W.mg_of X G a12)
  cases e
  let i : HK := ⟨K⟩
  have T : @Txt i mg := ⟨⟨f0, _, PySem.W.mg_of X G a0, fun_mk (st := s_is_number) l0 c0 k0⟩,
    ⟨f1, _, PySem.W.mg_of X G a1, fun_mk (st := s_need_flow) l1 c1 k1⟩,
    ⟨f2, _, PySem.W.mg_of X G a2, fun_mk (st := s_need_more) l2 c2 k2⟩,
    ⟨f3, _, PySem.W.mg_of X G a3, fun_mk (st := s_sums) l3 c3 k3⟩,
    ⟨f4, _, PySem.W.mg_of X G a4, fun_mk (st := s_need_promise) l4 c4 k4⟩,
    ⟨f5, _, PySem.W.mg_of X G a5, fun_mk (st := s_promised) l5 c5 k5⟩,
    ⟨f6, _, PySem.W.mg_of X G a6, fun_mk (st := s_lazy) l6 c6 k6⟩,
    ⟨f7, _, PySem.W.mg_of X G a7, fun_mk (st := s_in_turn) l7 c7 k7⟩,
    ⟨f8, _, PySem.W.mg_of X G a8, fun_mk (st := s_law_taken) l8 c8 k8⟩,
    ⟨f9, _, PySem.W.mg_of X G a9, fun_mk (st := s_law_alike) l9 c9 k9⟩,
    ⟨f10, _, PySem.W.mg_of X G a10, fun_mk (st := s_law_line) l10 c10 k10⟩,
    ⟨f11, _, PySem.W.mg_of X G a11, fun_mk (st := s_law_flow) l11 c11 k11⟩,
    ⟨fa, _, PySem.W.mg_of X G a12, fun_mk (st := s_law) l12 c12 k12⟩,
    PySem.W.mg_none_of X G z_bool,
    PySem.W.mg_none_of X G z_enumerate,
    PySem.W.mg_none_of X G z_int,
    PySem.W.mg_none_of X G z_isinstance,
    PySem.W.mg_none_of X G z_len,
    PySem.W.mg_none_of X G z_list,
    PySem.W.mg_none_of X G z_max,
    PySem.W.mg_none_of X G z_min,
    PySem.W.mg_none_of X G z_range,
    PySem.W.mg_none_of X G z_sum,
    PySem.W.mg_none_of X G z_tuple,
    PySem.W.mg_none_of X G z_zip,
    ⟨_, PySem.W.mg_of X G v_LONGEST⟩,
    ⟨_, PySem.W.mg_of X G v_MOST⟩,
    ⟨_, PySem.W.mg_of X G v_TOGETHER⟩⟩
  refine ⟨_, fun s u => ?_, fun base _ _ => (@ok_law i l.prog w mg base T _ _ (fun_mk (st := s_law) l12 c12 k12)).imp fun vs H Q E hs => @sp_law i mg _ math vs H Q E hs⟩
  exact .of_eq rfl
end G
open PySem PySem.W PyProof.Rows in
set_option maxRecDepth 100000 in
set_option maxHeartbeats 0 in
theorem PySem.Challenge.cw_sluicetree_k15_whole_promises_in_turn_holds : PySem.Challenge.rw_sluicetree_k15_whole_promises_in_turn.Holds := by
  w_on; o_law; k_head; (case hw => w_witness2)
  k_fill
  refine Z.walk_law (k := 9) (x := "_law_script") (l := PySem.Challenge.rw_sluicetree_k15_whole_promises_in_turn) ⟨rfl, by decide, by decide⟩ rfl rfl (fun w h Y => PySem.W.kIn_of Y) ?F
  case F =>
    intro w mg fa h KX Gn hmg
    refine' G.all_mk KX Gn hmg ?a0 ?l0 ?c0 ?k0 ?a1 ?l1 ?c1 ?k1 ?a2 ?l2 ?c2 ?k2 ?a3 ?l3 ?c3 ?k3 ?a4 ?l4 ?c4 ?k4 ?a5 ?l5 ?c5 ?k5 ?a6 ?l6 ?c6 ?k6 ?a7 ?l7 ?c7 ?k7 ?a8 ?l8 ?c8 ?k8 ?a9 ?l9 ?c9 ?k9 ?a10 ?l10 ?c10 ?k10 ?a11 ?l11 ?c11 ?k11 ?a12 ?l12 ?c12 ?k12 ?z_bool ?z_enumerate ?z_int ?z_isinstance ?z_len ?z_list ?z_max ?z_min ?z_range ?z_sum ?z_tuple ?z_zip ?v_LONGEST ?v_MOST ?v_TOGETHER G.law_math
    (case a0 => k_is)
    (case l0 => k_is)
    (case c0 => k_is)
    (case k0 => k_is)
    (case a1 => k_is)
    (case l1 => k_is)
    (case c1 => k_is)
    (case k1 => k_is)
    (case a2 => k_is)
    (case l2 => k_is)
    (case c2 => k_is)
    (case k2 => k_is)
    (case a3 => k_is)
    (case l3 => k_is)
    (case c3 => k_is)
    (case k3 => k_is)
    (case a4 => k_is)
    (case l4 => k_is)
    (case c4 => k_is)
    (case k4 => k_is)
    (case a5 => k_is)
    (case l5 => k_is)
    (case c5 => k_is)
    (case k5 => k_is)
    (case a6 => k_is)
    (case l6 => k_is)
    (case c6 => k_is)
    (case k6 => k_is)
    (case a7 => k_is)
    (case l7 => k_is)
    (case c7 => k_is)
    (case k7 => k_is)
    (case a8 => k_is)
    (case l8 => k_is)
    (case c8 => k_is)
    (case k8 => k_is)
    (case a9 => k_is)
    (case l9 => k_is)
    (case c9 => k_is)
    (case k9 => k_is)
    (case a10 => k_is)
    (case l10 => k_is)
    (case c10 => k_is)
    (case k10 => k_is)
    (case a11 => k_is)
    (case l11 => k_is)
    (case c11 => k_is)
    (case k11 => k_is)
    (case a12 => k_is)
    (case l12 => k_is)
    (case c12 => k_is)
    (case k12 => k_is)
    (case z_bool => k_is)
    (case z_enumerate => k_is)
    (case z_int => k_is)
    (case z_isinstance => k_is)
    (case z_len => k_is)
    (case z_list => k_is)
    (case z_max => k_is)
    (case z_min => k_is)
    (case z_range => k_is)
    (case z_sum => k_is)
    (case z_tuple => k_is)
    (case z_zip => k_is)
    (case v_LONGEST => k_is)
    (case v_MOST => k_is)
    (case v_TOGETHER => k_is)

