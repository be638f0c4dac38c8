import PyProof.Rows.All
import Wide.All
import OpenK.AllK
import Wide.FinOn
import HandS.ForMost
import HandS.TupAny
import HandS.Wide
import PyProof.Rows.StrMul
import HandS.TupLen
import HandS.IsInst
import HandS.Flow
import HandS.StrMore
import HandS.Zip
import HandS.Rev
import HandS.Style
import HandS.Codes
import HandS.DictComp
import HandS.Conv
import PyProof.CompUse
import KE.DataMinKey
import KE.SortKeyHeap
import HandS.SortKw
import HandS.FltList
import HandS.SetBool
import KE.KDictZip
import KE.KItemsList
import HandS.ListItems
import HandS.Exc
import HandS.ExcOwn
import HandS.ExcInit
import HandS.ExcField
import HandS.TryMany
import HandS.WordsExc
import HandS.Lambda
import HandS.EndOwn
import HandS.ExcIs
import PySem.Challenge.RW_forkwander_k06_points_that_are_good
set_option Elab.async false
set_option linter.all false
set_option maxRecDepth 100000
set_option maxHeartbeats 1000000
/-! Fw1: values as data; the state of a def as data; what a reading is worth in data. -/
namespace Fw
open PySem L2

abbrev AS := Addr → Prop

/-- data -/
inductive D where
  | non | bl (b : Bool) | int (i : Int) | str (x : Str)
  | tup (xs : List D) | lst (xs : List D)
  | dk (kvs : List (Key × D)) | dt (kvs : List (List Key × D))
  | ins (C : Addr) (fs : List (Str × D))
  | scr (ns : List Int)
  | ref (a : Addr)
  | ty (n : String)

/-- a locked dict counts as the dict -/
def core : HO → HO
  | .frz _ (.dK k) => .dK k
  | .frz _ (.dT k) => .dT k
  | o => o
def hc (H : Hp) (a : Addr) : Option HO := (H a).map core
theorem hc_of {H : Hp} {a : Addr} {o : HO} (h : H a = some o) : hc H a = some (core o) := by unfold hc; rw [h]; rfl
theorem hc_none {H : Hp} {a : Addr} : hc H a = none ↔ H a = none := by unfold hc; cases H a <;> simp
theorem hc_lst {H : Hp} {a : Addr} {xs : List V} : hc H a = some (.lst xs) ↔ H a = some (.lst xs) := by
  unfold hc
  cases h : H a with
  | none => simp
  | some o =>
    constructor
    · intro e
      have e' : core o = .lst xs := by simpa using e
      unfold core at e'
      split at e'
      · cases e'
      · cases e'
      · rw [e']
    · intro e; cases e; rfl
theorem hc_tup {H : Hp} {a : Addr} {xs : List V} : hc H a = some (.tup xs) ↔ H a = some (.tup xs) := by
  unfold hc
  cases h : H a with
  | none => simp
  | some o =>
    constructor
    · intro e
      have e' : core o = .tup xs := by simpa using e
      unfold core at e'
      split at e'
      · cases e'
      · cases e'
      · rw [e']
    · intro e; cases e; rfl
theorem hc_ins {H : Hp} {a C dx : Addr} {xs : List (Str × V)} : hc H a = some (.ins C dx xs) ↔ H a = some (.ins C dx xs) := by
  unfold hc
  cases h : H a with
  | none => simp
  | some o =>
    constructor
    · intro e
      have e' : core o = .ins C dx xs := by simpa using e
      unfold core at e'
      split at e'
      · cases e'
      · cases e'
      · rw [e']
    · intro e; cases e; rfl
theorem hc_frz {H : Hp} {a : Addr} {o : Obj} {xs : List V} : hc H a = some (.frz o (.lst xs)) ↔ H a = some (.frz o (.lst xs)) := by
  unfold hc
  cases h : H a with
  | none => simp
  | some u =>
    constructor
    · intro e
      have e' : core u = .frz o (.lst xs) := by simpa using e
      unfold core at e'
      split at e'
      · cases e'
      · cases e'
      · rw [e']
    · intro e; cases e; rfl
theorem hc_dk {H : Hp} {a : Addr} {k : List (Key × V)} : hc H a = some (.dK k) ↔ Rd H a (.dK k) := by
  unfold hc Rd
  cases h : H a with
  | none => simp
  | some u =>
    constructor
    · intro e
      have e' : core u = .dK k := by simpa using e
      unfold core at e'
      split at e'
      · cases e'; exact .inr ⟨_, rfl⟩
      · cases e'
      · exact .inl (by rw [e'])
    · rintro (e | ⟨o, e⟩) <;> (cases e; rfl)
theorem hc_dt {H : Hp} {a : Addr} {k : List (List Key × V)} : hc H a = some (.dT k) ↔ Rd H a (.dT k) := by
  unfold hc Rd
  cases h : H a with
  | none => simp
  | some u =>
    constructor
    · intro e
      have e' : core u = .dT k := by simpa using e
      unfold core at e'
      split at e'
      · cases e'
      · cases e'; exact .inr ⟨_, rfl⟩
      · exact .inl (by rw [e'])
    · rintro (e | ⟨o, e⟩) <;> (cases e; rfl)

mutual
/-- v stands for the data d in H, its objects stand off A -/
inductive Rp (K : PySem.W.Frag) (A : AS) (H : Hp) : V → D → Prop
  | non : Rp K A H .non .non
  | bl (b : Bool) : Rp K A H (.bl b) (.bl b)
  | int (i : Int) : Rp K A H (.int i) (.int i)
  | str (x : Str) : Rp K A H (.str x) (.str x)
  | tup {p : Addr} {vs : List V} {ds : List D} : ¬ A p → hc H p = some (.tup vs) → RpL K A H vs ds → Rp K A H (.ref p) (.tup ds)
  | tupK {p : Addr} {vs : List V} {ds : List D} : (∀ H', SqT K H' p vs) → RpL K A H vs ds → Rp K A H (.ref p) (.tup ds)
  | lst {p : Addr} {vs : List V} {ds : List D} : ¬ A p → hc H p = some (.lst vs) → RpL K A H vs ds → Rp K A H (.ref p) (.lst ds)
  | dk {p : Addr} {vs : List (Key × V)} {ds : List (Key × D)} : ¬ A p → hc H p = some (.dK vs) → RpK K A H vs ds → Rp K A H (.ref p) (.dk ds)
  | dt {p : Addr} {vs : List (List Key × V)} {ds : List (List Key × D)} : ¬ A p → hc H p = some (.dT vs) → RpT K A H vs ds → Rp K A H (.ref p) (.dt ds)
  | ins {p C dx : Addr} {vs : List (Str × V)} {ds : List (Str × D)} : ¬ A p → hc H p = some (.ins C dx vs) → RpF K A H vs ds → Rp K A H (.ref p) (.ins C ds)
  | scr {p : Addr} {o : Obj} {ns : List Int} : ¬ A p → hc H p = some (.frz o (.lst (ns.map V.int))) → Rp K A H (.ref p) (.scr ns)
  | scrK {p : Addr} {ns : List Int} : (∀ H', SqL K H' p (ns.map V.int)) → Rp K A H (.ref p) (.scr ns)
  | ref (a : Addr) : Rp K A H (.ref a) (.ref a)
  | ty (n : String) : Rp K A H (.ty n) (.ty n)
inductive RpL (K : PySem.W.Frag) (A : AS) (H : Hp) : List V → List D → Prop
  | nil : RpL K A H [] []
  | cons {v : V} {d : D} {vs : List V} {ds : List D} : Rp K A H v d → RpL K A H vs ds → RpL K A H (v :: vs) (d :: ds)
inductive RpK (K : PySem.W.Frag) (A : AS) (H : Hp) : List (Key × V) → List (Key × D) → Prop
  | nil : RpK K A H [] []
  | cons {k : Key} {v : V} {d : D} {vs : List (Key × V)} {ds : List (Key × D)} : Rp K A H v d → RpK K A H vs ds → RpK K A H ((k, v) :: vs) ((k, d) :: ds)
inductive RpT (K : PySem.W.Frag) (A : AS) (H : Hp) : List (List Key × V) → List (List Key × D) → Prop
  | nil : RpT K A H [] []
  | cons {k : List Key} {v : V} {d : D} {vs : List (List Key × V)} {ds : List (List Key × D)} : Rp K A H v d → RpT K A H vs ds → RpT K A H ((k, v) :: vs) ((k, d) :: ds)
inductive RpF (K : PySem.W.Frag) (A : AS) (H : Hp) : List (Str × V) → List (Str × D) → Prop
  | nil : RpF K A H [] []
  | cons {k : Str} {v : V} {d : D} {vs : List (Str × V)} {ds : List (Str × D)} : Rp K A H v d → RpF K A H vs ds → RpF K A H ((k, v) :: vs) ((k, d) :: ds)
end

/-- nothing that stood off A changed; what is avoided anew is new -/
structure Mo (A A' : AS) (H H' : Hp) : Prop where
  keep : ∀ a o, ¬ A a → hc H a = some o → hc H' a = some o
  av : ∀ a, A' a → A a ∨ H a = none
theorem Mo.refl {A : AS} {H : Hp} : Mo A A H H := ⟨fun _ _ _ e => e, fun _ h => .inl h⟩
theorem Mo.off {A A' : AS} {H H' : Hp} (m : Mo A A' H H') {a : Addr} {o : HO} (e : hc H a = some o) (n : ¬ A a) : ¬ A' a := fun h => by
  rcases m.av a h with z | z
  · exact n z
  · rw [hc_none.mpr z] at e; cases e
section
variable {K : PySem.W.Frag} {A A' : AS} {H H' : Hp}
mutual
theorem Rp.mono (m : Mo A A' H H') : ∀ {v : V} {d : D}, Rp K A H v d → Rp K A' H' v d
  | _, _, .non => .non
  | _, _, .bl b => .bl b
  | _, _, .int i => .int i
  | _, _, .str x => .str x
  | _, _, .tup n e r => .tup (m.off e n) (m.keep _ _ n e) (RpL.mono m r)
  | _, _, .tupK e r => .tupK e (RpL.mono m r)
  | _, _, .lst n e r => .lst (m.off e n) (m.keep _ _ n e) (RpL.mono m r)
  | _, _, .dk n e r => .dk (m.off e n) (m.keep _ _ n e) (RpK.mono m r)
  | _, _, .dt n e r => .dt (m.off e n) (m.keep _ _ n e) (RpT.mono m r)
  | _, _, .ins n e r => .ins (m.off e n) (m.keep _ _ n e) (RpF.mono m r)
  | _, _, .scr n e => .scr (m.off e n) (m.keep _ _ n e)
  | _, _, .scrK e => .scrK e
  | _, _, .ref a => .ref a
  | _, _, .ty n => .ty n
theorem RpL.mono (m : Mo A A' H H') : ∀ {v : List V} {d : List D}, RpL K A H v d → RpL K A' H' v d
  | _, _, .nil => .nil
  | _, _, .cons h t => .cons (Rp.mono m h) (RpL.mono m t)
theorem RpK.mono (m : Mo A A' H H') : ∀ {v : List (Key × V)} {d : List (Key × D)}, RpK K A H v d → RpK K A' H' v d
  | _, _, .nil => .nil
  | _, _, .cons h t => .cons (Rp.mono m h) (RpK.mono m t)
theorem RpT.mono (m : Mo A A' H H') : ∀ {v : List (List Key × V)} {d : List (List Key × D)}, RpT K A H v d → RpT K A' H' v d
  | _, _, .nil => .nil
  | _, _, .cons h t => .cons (Rp.mono m h) (RpT.mono m t)
theorem RpF.mono (m : Mo A A' H H') : ∀ {v : List (Str × V)} {d : List (Str × D)}, RpF K A H v d → RpF K A' H' v d
  | _, _, .nil => .nil
  | _, _, .cons h t => .cons (Rp.mono m h) (RpF.mono m t)
end
theorem RpL.length : ∀ {vs : List V} {ds : List D}, RpL K A H vs ds → vs.length = ds.length
  | _, _, .nil => rfl
  | _, _, .cons _ t => by rw [List.length_cons, List.length_cons, RpL.length t]
theorem RpL.append : ∀ {vs us : List V} {ds es : List D}, RpL K A H vs ds → RpL K A H us es → RpL K A H (vs ++ us) (ds ++ es)
  | _, _, _, _, .nil, q => q
  | _, _, _, _, .cons h t, q => .cons h (RpL.append t q)
theorem RpL.get : ∀ {vs : List V} {ds : List D} {i : Nat} {d : D}, RpL K A H vs ds → ds[i]? = some d → ∃ v, vs[i]? = some v ∧ Rp K A H v d
  | _, _, _, _, .nil, e => by simp at e
  | _, _, 0, _, .cons h _, e => by simp at e; subst e; exact ⟨_, rfl, h⟩
  | _, _, i + 1, d, .cons _ t, e => by
    obtain ⟨v, h1, h2⟩ := RpL.get (i := i) (d := d) t (by simpa using e)
    exact ⟨v, by simpa using h1, h2⟩
theorem RpL.getV : ∀ {vs : List V} {ds : List D} {i : Nat} {v : V}, RpL K A H vs ds → vs[i]? = some v → ∃ d, ds[i]? = some d ∧ Rp K A H v d
  | _, _, _, _, .nil, e => by simp at e
  | _, _, 0, _, .cons h _, e => by simp at e; subst e; exact ⟨_, rfl, h⟩
  | _, _, i + 1, d, .cons _ t, e => by
    obtain ⟨v, h1, h2⟩ := RpL.getV (i := i) (v := d) t (by simpa using e)
    exact ⟨v, by simpa using h1, h2⟩
theorem RpL.take : ∀ {vs : List V} {ds : List D} (n : Nat), RpL K A H vs ds → RpL K A H (vs.take n) (ds.take n)
  | _, _, 0, _ => by simpa using .nil
  | _, _, _ + 1, .nil => by simpa using .nil
  | _, _, n + 1, .cons h t => by simpa using .cons h (RpL.take n t)
theorem RpL.drop : ∀ {vs : List V} {ds : List D} (n : Nat), RpL K A H vs ds → RpL K A H (vs.drop n) (ds.drop n)
  | _, _, 0, r => r
  | _, _, _ + 1, .nil => by simpa using .nil
  | _, _, n + 1, .cons _ t => by simpa using RpL.drop n t
theorem RpL.set : ∀ {vs : List V} {ds : List D} {v : V} {d : D} (n : Nat), RpL K A H vs ds → Rp K A H v d → RpL K A H (vs.set n v) (ds.set n d)
  | _, _, _, _, _, .nil, _ => .nil
  | _, _, _, _, 0, .cons _ t, q => .cons q t
  | _, _, _, _, n + 1, .cons h t, q => .cons h (RpL.set n t q)
theorem RpL.reverse : ∀ {vs : List V} {ds : List D}, RpL K A H vs ds → RpL K A H vs.reverse ds.reverse
  | _, _, .nil => .nil
  | _, _, .cons h t => by
    rw [List.reverse_cons, List.reverse_cons]
    exact (RpL.reverse t).append (.cons h .nil)
theorem RpL.ints : ∀ {ns : List Int}, RpL K A H (ns.map V.int) (ns.map D.int)
  | [] => .nil
  | _ :: _ => .cons (.int _) RpL.ints
theorem RpL.strs : ∀ {ns : List Str}, RpL K A H (ns.map V.str) (ns.map D.str)
  | [] => .nil
  | _ :: _ => .cons (.str _) RpL.strs
theorem RpL.ints_inv : ∀ {vs : List V} {ns : List Int}, RpL K A H vs (ns.map D.int) → vs = ns.map V.int
  | _, [], .nil => rfl
  | _, _ :: _, .cons (.int _) t => by rw [List.map_cons, ← RpL.ints_inv t]
theorem RpL.strs_inv : ∀ {vs : List V} {ns : List Str}, RpL K A H vs (ns.map D.str) → vs = ns.map V.str
  | _, [], .nil => rfl
  | _, _ :: _, .cons (.str _) t => by rw [List.map_cons, ← RpL.strs_inv t]
theorem RpL.bls_inv : ∀ {vs : List V} {ns : List Bool}, RpL K A H vs (ns.map D.bl) → vs = ns.map V.bl
  | _, [], .nil => rfl
  | _, _ :: _, .cons (.bl _) t => by rw [List.map_cons, ← RpL.bls_inv t]
/-- what is told of a list or tuple to read it -/
theorem Rp.sqL {p : Addr} {ds : List D} (h : Rp K A H (.ref p) (.lst ds)) : ∃ vs, ¬ A p ∧ H p = some (.lst vs) ∧ RpL K A H vs ds := by
  cases h with
  | lst n e r => exact ⟨_, n, hc_lst.mp e, r⟩
theorem Rp.sqT {v : V} {ds : List D} (h : Rp K A H v (.tup ds)) : ∃ p vs, v = .ref p ∧ SqT K H p vs ∧ RpL K A H vs ds := by
  cases h with
  | tup n e r => exact ⟨_, _, rfl, .of (hc_tup.mp e), r⟩
  | tupK e r => exact ⟨_, _, rfl, e H, r⟩
end

/-! ### readable at the top -/
/-- the top object may stand in A; what it holds stands off A -/
inductive RT (K : PySem.W.Frag) (A : AS) (H : Hp) : V → D → Prop
  | of {v : V} {d : D} : Rp K A H v d → RT K A H v d
  | lst {p : Addr} {vs : List V} {ds : List D} : hc H p = some (.lst vs) → RpL K A H vs ds → RT K A H (.ref p) (.lst ds)
  | dk {p : Addr} {vs : List (Key × V)} {ds : List (Key × D)} : hc H p = some (.dK vs) → RpK K A H vs ds → RT K A H (.ref p) (.dk ds)
  | dt {p : Addr} {vs : List (List Key × V)} {ds : List (List Key × D)} : hc H p = some (.dT vs) → RpT K A H vs ds → RT K A H (.ref p) (.dt ds)
section
variable {K : PySem.W.Frag} {A A' : AS} {H H' : Hp}
theorem RT.lst_inv {v : V} {ds : List D} (h : RT K A H v (.lst ds)) : ∃ p vs, v = .ref p ∧ H p = some (.lst vs) ∧ RpL K A H vs ds := by
  cases h with
  | of h => cases h with
    | lst n e r => exact ⟨_, _, rfl, hc_lst.mp e, r⟩
  | lst e r => exact ⟨_, _, rfl, hc_lst.mp e, r⟩
theorem RT.tup_inv {v : V} {ds : List D} (h : RT K A H v (.tup ds)) : ∃ p vs, v = .ref p ∧ SqT K H p vs ∧ RpL K A H vs ds := by
  cases h with
  | of h => exact h.sqT
theorem RT.scr_inv {v : V} {ns : List Int} (h : RT K A H v (.scr ns)) : ∃ p, v = .ref p ∧ SqL K H p (ns.map V.int) := by
  cases h with
  | of h => cases h with
    | scr n e => exact ⟨_, rfl, .inl (.inr ⟨_, hc_frz.mp e⟩)⟩
    | scrK e => exact ⟨_, rfl, e H⟩
theorem RT.dk_inv {v : V} {ds : List (Key × D)} (h : RT K A H v (.dk ds)) : ∃ p vs, v = .ref p ∧ Rd H p (.dK vs) ∧ RpK K A H vs ds := by
  cases h with
  | of h => cases h with
    | dk n e r => exact ⟨_, _, rfl, hc_dk.mp e, r⟩
  | dk e r => exact ⟨_, _, rfl, hc_dk.mp e, r⟩
theorem RT.dt_inv {v : V} {ds : List (List Key × D)} (h : RT K A H v (.dt ds)) : ∃ p vs, v = .ref p ∧ Rd H p (.dT vs) ∧ RpT K A H vs ds := by
  cases h with
  | of h => cases h with
    | dt n e r => exact ⟨_, _, rfl, hc_dt.mp e, r⟩
  | dt e r => exact ⟨_, _, rfl, hc_dt.mp e, r⟩
theorem RT.int_inv {v : V} {i : Int} (h : RT K A H v (.int i)) : v = .int i := by cases h with | of h => cases h; rfl
theorem RT.str_inv {v : V} {i : Str} (h : RT K A H v (.str i)) : v = .str i := by cases h with | of h => cases h; rfl
theorem RT.bl_inv {v : V} {i : Bool} (h : RT K A H v (.bl i)) : v = .bl i := by cases h with | of h => cases h; rfl
theorem RT.non_inv {v : V} (h : RT K A H v .non) : v = .non := by cases h with | of h => cases h; rfl
theorem RT.mono (m : Mo A A' H H') (top : ∀ p, ∀ v : V, v = .ref p → ∀ o, hc H p = some o → hc H' p = some o) {v : V} {d : D} (h : RT K A H v d) : RT K A' H' v d := by
  cases h with
  | of h => exact .of (h.mono m)
  | lst e r => exact .lst (top _ _ rfl _ e) (r.mono m)
  | dk e r => exact .dk (top _ _ rfl _ e) (r.mono m)
  | dt e r => exact .dt (top _ _ rfl _ e) (r.mono m)
theorem RT.monoAt (m : Mo A A' H H') {v : V} {d : D} (top : ∀ p, v = .ref p → ∀ o, hc H p = some o → hc H' p = some o) (h : RT K A H v d) : RT K A' H' v d := by
  cases h with
  | of h => exact .of (h.mono m)
  | lst e r => exact .lst (top _ rfl _ e) (r.mono m)
  | dk e r => exact .dk (top _ rfl _ e) (r.mono m)
  | dt e r => exact .dt (top _ rfl _ e) (r.mono m)
end
end Fw

/-! Fw2: shapes of owned objects, slots, the state as data, what a reading is worth. -/
namespace Fw
open PySem L2

/-- a shape of an object that its holder alone may change: rep K A H v d F, F the objects that are owned -/
structure Shp where
  rep : PySem.W.Frag → AS → Hp → V → D → AS → Prop
  mono : ∀ {K : PySem.W.Frag} {A A' : AS} {H H' : Hp} {v : V} {d : D} {F : AS}, rep K A H v d F → Mo A A' H H' → (∀ a, F a → H' a = H a) → rep K A' H' v d F
  dom : ∀ {K : PySem.W.Frag} {A : AS} {H : Hp} {v : V} {d : D} {F : AS}, rep K A H v d F → ∀ a, F a → H a ≠ none
  frz : ∀ {K : PySem.W.Frag} {A A' : AS} {H : Hp} {v : V} {d : D} {F : AS}, rep K A H v d F → (∀ a, F a → ¬ A' a) → (∀ a, A' a → A a) → Rp K A' H v d

theorem Mo.less {A A' : AS} {H : Hp} (h : ∀ a, A' a → A a) : Mo A A' H H := ⟨fun _ _ _ e => e, fun a z => .inl (h a z)⟩

def repL (K : PySem.W.Frag) (A : AS) (H : Hp) (v : V) (d : D) (F : AS) : Prop :=
  ∃ (p : Addr) (vs : List V) (ds : List D), v = .ref p ∧ d = .lst ds ∧ (∀ a, F a ↔ a = p) ∧ H p = some (.lst vs) ∧ RpL K A H vs ds
def shL : Shp where
  rep := repL
  mono := by
    rintro K A A' H H' v d F ⟨p, vs, ds, rfl, rfl, hF, e, r⟩ m k
    exact ⟨p, vs, ds, rfl, rfl, hF, by rw [k p ((hF p).mpr rfl)]; exact e, r.mono m⟩
  dom := by
    rintro K A H v d F ⟨p, vs, ds, rfl, rfl, hF, e, r⟩ a ha z
    rw [(hF a).mp ha, e] at z
    cases z
  frz := by
    rintro K A A' H v d F ⟨p, vs, ds, rfl, rfl, hF, e, r⟩ h1 h2
    exact .lst (h1 p ((hF p).mpr rfl)) (hc_lst.mpr e) (r.mono (.less h2))
def repK (K : PySem.W.Frag) (A : AS) (H : Hp) (v : V) (d : D) (F : AS) : Prop :=
  ∃ (p : Addr) (vs : List (Key × V)) (ds : List (Key × D)), v = .ref p ∧ d = .dk ds ∧ (∀ a, F a ↔ a = p) ∧ H p = some (.dK vs) ∧ RpK K A H vs ds
def shK : Shp where
  rep := repK
  mono := by
    rintro K A A' H H' v d F ⟨p, vs, ds, rfl, rfl, hF, e, r⟩ m k
    exact ⟨p, vs, ds, rfl, rfl, hF, by rw [k p ((hF p).mpr rfl)]; exact e, r.mono m⟩
  dom := by
    rintro K A H v d F ⟨p, vs, ds, rfl, rfl, hF, e, r⟩ a ha z
    rw [(hF a).mp ha, e] at z
    cases z
  frz := by
    rintro K A A' H v d F ⟨p, vs, ds, rfl, rfl, hF, e, r⟩ h1 h2
    exact .dk (h1 p ((hF p).mpr rfl)) (hc_dk.mpr (.inl e)) (r.mono (.less h2))
def repT (K : PySem.W.Frag) (A : AS) (H : Hp) (v : V) (d : D) (F : AS) : Prop :=
  ∃ (p : Addr) (vs : List (List Key × V)) (ds : List (List Key × D)), v = .ref p ∧ d = .dt ds ∧ (∀ a, F a ↔ a = p) ∧ H p = some (.dT vs) ∧ RpT K A H vs ds
def shT : Shp where
  rep := repT
  mono := by
    rintro K A A' H H' v d F ⟨p, vs, ds, rfl, rfl, hF, e, r⟩ m k
    exact ⟨p, vs, ds, rfl, rfl, hF, by rw [k p ((hF p).mpr rfl)]; exact e, r.mono m⟩
  dom := by
    rintro K A H v d F ⟨p, vs, ds, rfl, rfl, hF, e, r⟩ a ha z
    rw [(hF a).mp ha, e] at z
    cases z
  frz := by
    rintro K A A' H v d F ⟨p, vs, ds, rfl, rfl, hF, e, r⟩ h1 h2
    exact .dt (h1 p ((hF p).mpr rfl)) (hc_dt.mpr (.inl e)) (r.mono (.less h2))

/-- a shape that may be read as a whole -/
def Flat (s : Shp) : Prop := ∀ {K : PySem.W.Frag} {A : AS} {H : Hp} {v : V} {d : D} {F : AS}, s.rep K A H v d F → RT K A H v d ∧ ∀ p, v = .ref p → F p
theorem flat_L : Flat shL := by
  rintro K A H v d F ⟨p, vs, ds, rfl, rfl, hF, e, r⟩
  exact ⟨.lst (hc_lst.mpr e) r, fun q z => by cases z; exact (hF _).mpr rfl⟩
theorem flat_K : Flat shK := by
  rintro K A H v d F ⟨p, vs, ds, rfl, rfl, hF, e, r⟩
  exact ⟨.dk (hc_dk.mpr (.inl e)) r, fun q z => by cases z; exact (hF _).mpr rfl⟩
theorem flat_T : Flat shT := by
  rintro K A H v d F ⟨p, vs, ds, rfl, rfl, hF, e, r⟩
  exact ⟨.dt (hc_dt.mpr (.inl e)) r, fun q z => by cases z; exact (hF _).mpr rfl⟩

/-- kinds of slots: plain data; readable at the top; a shape lent; a shape owned; a shape of the caller's that may be changed -/
inductive SK where
  | z | t | ln (s : Shp) | ow (s : Shp) | io (s : Shp)

abbrev Env := List (Option D)
/-- O: what the callers own; B: what is busy just now (owned, in no slot) -/
structure Gh where
  O : AS
  B : AS
  /-- the objects that the slots of kind io hold -/
  io : Nat → V → Prop
def Gh.add (G : Gh) (F : AS) : Gh := ⟨G.O, fun a => G.B a ∨ F a, G.io⟩
def av (G : Gh) (Fs : Nat → AS) : AS := fun a => G.O a ∨ G.B a ∨ ∃ i, Fs i a
def RSl (K : PySem.W.Frag) (O : Gh) (Fs : Nat → AS) (H : Hp) (i : Nat) (k : SK) (v : V) (d : D) : Prop :=
  match k with
  | .z => Rp K (av O Fs) H v d
  | .t => Rp K (av O Fs) H v d ∨ (RT K (av O Fs) H v d ∧ ∃ p, v = .ref p ∧ H p ≠ none ∧ ¬ O.B p ∧ ∀ j, ¬ Fs j p)
  | .ln s => ∃ F, s.rep K (av O Fs) H v d F ∧ ∀ a, F a → ¬ O.B a ∧ ∀ j, ¬ Fs j a
  | .ow s => s.rep K (av O Fs) H v d (Fs i) ∧ ∀ a, Fs i a → ¬ O.O a
  | .io s => s.rep K (av O Fs) H v d (Fs i) ∧ O.io i v
structure Repr (K : PySem.W.Frag) (ks : List SK) (O : Gh) (Fs : Nat → AS) (ρ : Env) (σ : St) (H : Hp) : Prop where
  lρ : ρ.length = ks.length
  lσ : σ.length = ks.length
  dj : ∀ i j a, Fs i a → Fs j a → i = j
  od : ∀ a, O.O a → H a ≠ none
  bd : ∀ a, O.B a → H a ≠ none
  fb : ∀ i a, Fs i a → ¬ O.B a
  fd : ∀ i a, Fs i a → H a ≠ none
  sl : ∀ i k d, ks[i]? = some k → ρ[i]? = some (some d) → ∃ v, σ[i]? = some (some v) ∧ RSl K O Fs H i k v d

/-- the step of a piece of code -/
structure Fr (Fs : Nat → AS) (H : Hp) (Fs' : Nat → AS) (H' : Hp) : Prop where
  keep : ∀ a, (∀ i, ¬ Fs i a) → H a ≠ none → H' a = H a
  dom : ∀ a, H a ≠ none → H' a ≠ none
  fp : ∀ i a, Fs' i a → (∃ j, Fs j a) ∨ H a = none
/-- nothing changed but what is new -/
def Ext (H H' : Hp) : Prop := ∀ a, H a ≠ none → H' a = H a

theorem Ext.refl (H : Hp) : Ext H H := fun _ _ => rfl
theorem Ext.trans {H H1 H2 : Hp} (a : Ext H H1) (b : Ext H1 H2) : Ext H H2 := fun c h => by rw [b c (by rw [a c h]; exact h), a c h]
theorem Ext.dom {H H' : Hp} (e : Ext H H') {a : Addr} (h : H a ≠ none) : H' a ≠ none := by rw [e a h]; exact h
theorem Ext.none {H H' : Hp} (e : Ext H H') {a : Addr} (h : H' a = none) : H a = none := by
  cases q : H a with
  | none => rfl
  | some o => rw [e a (by rw [q]; simp), q] at h; cases h
theorem Ext.upd {H : Hp} {p : Addr} {o : HO} (h : H p = Option.none) : Ext H (upd H p o) := fun a ha => upd_ne (fun e => ha (e ▸ h))
theorem Ext.hc {H H' : Hp} (e : Ext H H') {a : Addr} {o : HO} (h : hc H a = some o) : Fw.hc H' a = some o := by
  unfold Fw.hc at h ⊢
  rw [e a (fun z => by rw [z] at h; cases h)]
  exact h
theorem Ext.mo {A : AS} {H H' : Hp} (e : Ext H H') : Mo A A H H' := ⟨fun _ _ _ h => e.hc h, fun _ h => .inl h⟩
theorem Ext.fr {Fs : Nat → AS} {H H' : Hp} (e : Ext H H') : Fr Fs H Fs H' := ⟨fun a _ h => e a h, fun _ h => e.dom h, fun i _ h => .inl ⟨i, h⟩⟩
theorem Fr.refl (Fs : Nat → AS) (H : Hp) : Fr Fs H Fs H := (Ext.refl H).fr
theorem Fr.trans {Fs Fs1 Fs2 : Nat → AS} {H H1 H2 : Hp} (a : Fr Fs H Fs1 H1) (b : Fr Fs1 H1 Fs2 H2) : Fr Fs H Fs2 H2 where
  keep := fun c n h => by
    rw [b.keep c (fun i z => ?_) (a.dom c h), a.keep c n h]
    rcases a.fp i c z with ⟨j, y⟩ | y
    · exact n j y
    · exact h y
  dom := fun c h => b.dom c (a.dom c h)
  fp := fun i c z => by
    rcases b.fp i c z with ⟨j, y⟩ | y
    · exact a.fp j c y
    · refine .inr ?_
      cases q : H c with
      | none => rfl
      | some o => exact absurd y (a.dom c (by rw [q]; simp))
theorem Fr.mo {O : Gh} {Fs Fs' : Nat → AS} {H H' : Hp} (f : Fr Fs H Fs' H') : Mo (av O Fs) (av O Fs') H H' where
  keep := fun a o n h => by
    have hn : H a ≠ none := fun z => by rw [hc_none.mpr z] at h; cases h
    unfold hc at h ⊢
    rw [f.keep a (fun i z => n (.inr (.inr ⟨i, z⟩))) hn]
    exact h
  av := fun a h => by
    rcases h with h | h | ⟨i, h⟩
    · exact .inl (.inl h)
    · exact .inl (.inr (.inl h))
    · rcases f.fp i a h with z | z
      · exact .inl (.inr (.inr z))
      · exact .inr z

section
variable {K : PySem.W.Frag} {ks : List SK} {O : Gh} {Fs Fs' : Nat → AS} {ρ : Env} {σ : St} {H H' : Hp}
theorem RSl.ext {i : Nat} {k : SK} {v : V} {d : D} (h : RSl K O Fs H i k v d) (fd : ∀ i a, Fs i a → H a ≠ none) (e : Ext H H') : RSl K O Fs H' i k v d := by
  cases k with
  | z => exact Rp.mono e.mo h
  | t => exact h.imp (Rp.mono e.mo) fun ⟨r, p, e1, e2, e3⟩ => ⟨r.mono e.mo fun p v _ o q => e.hc q, p, e1, e.dom e2, e3⟩
  | ln s => obtain ⟨F, r, n⟩ := h; exact ⟨F, s.mono r e.mo fun a ha => e a (s.dom r a ha), n⟩
  | ow s => exact ⟨s.mono h.1 e.mo fun a ha => e a (fd i a ha), h.2⟩
  | io s => exact ⟨s.mono h.1 e.mo fun a ha => e a (fd i a ha), h.2⟩
theorem Repr.ext (R : Repr K ks O Fs ρ σ H) (e : Ext H H') : Repr K ks O Fs ρ σ H' :=
  ⟨R.lρ, R.lσ, R.dj, fun a h => e.dom (R.od a h), fun a h => e.dom (R.bd a h), R.fb, fun i a h => e.dom (R.fd i a h), fun i k d h1 h2 => let ⟨v, h3, h4⟩ := R.sl i k d h1 h2; ⟨v, h3, h4.ext R.fd e⟩⟩
theorem Repr.adom (R : Repr K ks O Fs ρ σ H) {a : Addr} (h : av O Fs a) : H a ≠ none := by
  rcases h with h | h | ⟨i, h⟩
  · exact R.od a h
  · exact R.bd a h
  · exact R.fd i a h
theorem Repr.new (R : Repr K ks O Fs ρ σ H) {a : Addr} (h : H a = none) : ¬ av O Fs a := fun z => R.adom z h

/-! ### what an expression's reading is worth -/
structure Exc where
  C : Addr
  fs : List (Str × D)
/-- the exception x, its class cls, its dict's address od -/
def XRep (K : PySem.W.Frag) (A : AS) (H : Hp) (x : Exc) (cls : Value) (od : Option Addr) : Prop := cls = .ref x.C ∧ ∃ d vs, od = some d ∧ H d = some (.xd vs) ∧ RpF K A H vs x.fs ∧ ¬ A d
def LkX (K : PySem.W.Frag) (ks : List SK) (O : Gh) (Fs : Nat → AS) (σ : St) (H : Hp) (Ξ : Exc → Env → Prop) (E : XK) : Prop :=
  ∀ x ρ' Fs' cls od H', Repr K ks O Fs' ρ' σ H' → Fr Fs H Fs' H' → XRep K (av O Fs') H' x cls od → Ξ x ρ' → E cls od H'


/-- what is told: plain data; readable at the top; an object that is lent; an owned object -/
inductive Kd where
  | z | t | s | ln (s : Shp) | o (s : Shp)
def Res (K : PySem.W.Frag) (ks : List SK) (O : Gh) (Fs : Nat → AS) (H : Hp) (kd : Kd) (ρ' : Env) (Fs' : Nat → AS) (σ : St) (v : V) (d : D) (H' : Hp) : Prop :=
  match kd with
  | .z => Repr K ks O Fs' ρ' σ H' ∧ Rp K (av O Fs') H' v d
  | .t => Repr K ks O Fs' ρ' σ H' ∧ RT K (av O Fs') H' v d
  | .s => Repr K ks O Fs' ρ' σ H' ∧ RSl K O Fs' H' 0 .t v d
  | .ln s => Repr K ks O Fs' ρ' σ H' ∧ ∃ F, s.rep K (av O Fs') H' v d F
  | .o s => ∃ Fv : AS, Repr K ks (O.add Fv) Fs' ρ' σ H' ∧ s.rep K (av (O.add Fv) Fs') H' v d Fv ∧ ∀ a, Fv a → ¬ O.O a ∧ ¬ O.B a ∧ ((∃ j, Fs j a) ∨ H a = none)
abbrev WE := Env → (D → Env → Prop) → (Exc → Env → Prop) → Prop
abbrev WB := Env → (Bool → Env → Prop) → (Exc → Env → Prop) → Prop
def Pu (pu : Bool) (ρ ρ' : Env) (Fs Fs' : Nat → AS) (H H' : Hp) : Prop := pu = true → ρ' = ρ ∧ Fs' = Fs ∧ Ext H H'
/-- the reading t of an expression is worth w -/
def Snd (K : PySem.W.Frag) (ks : List SK) (E : St → XK) (pu : Bool) (kd : Kd) (t : TE) (w : WE) : Prop :=
  ∀ O Fs ρ σ H Ψ Ξ Q, Repr K ks O Fs ρ σ H → w ρ Ψ Ξ → (∀ d ρ' Fs' v H', Pu pu ρ ρ' Fs Fs' H H' → Fr Fs H Fs' H' → Res K ks O Fs H kd ρ' Fs' σ v d H' → Ψ d ρ' → Q v H') → LkX K ks O Fs σ H Ξ (E σ) → t σ H Q
def SndB (K : PySem.W.Frag) (ks : List SK) (E : St → XK) (pu : Bool) (t : TT) (w : WB) : Prop :=
  ∀ O Fs ρ σ H Ψ Ξ Q, Repr K ks O Fs ρ σ H → w ρ Ψ Ξ → (∀ b ρ' Fs' H', Pu pu ρ ρ' Fs Fs' H H' → Fr Fs H Fs' H' → Repr K ks O Fs' ρ' σ H' → Ψ b ρ' → Q b H') → LkX K ks O Fs σ H Ξ (E σ) → t σ H Q

theorem av_add {Fv : AS} {a : Addr} (h : av O Fs a) : av (O.add Fv) Fs a := h.elim .inl fun z => .inr (z.elim (fun q => .inl (.inl q)) .inr)
theorem av_add_inv {Fv : AS} {a : Addr} (h : av (O.add Fv) Fs a) : av O Fs a ∨ Fv a := by
  rcases h with h | (h | h) | h
  · exact .inl (.inl h)
  · exact .inl (.inr (.inl h))
  · exact .inr h
  · exact .inl (.inr (.inr h))
theorem Repr.less {Fv : AS} (R : Repr K ks (O.add Fv) Fs ρ σ H) : Repr K ks O Fs ρ σ H := by
  have m : Mo (av (O.add Fv) Fs) (av O Fs) H H := .less fun a z => av_add z
  refine ⟨R.lρ, R.lσ, R.dj, R.od, fun a z => R.bd a (.inl z), fun i a z q => R.fb i a z (.inl q), R.fd, fun i k d h1 h2 => ?_⟩
  obtain ⟨v, h3, h4⟩ := R.sl i k d h1 h2
  refine ⟨v, h3, ?_⟩
  cases k with
  | z => exact Rp.mono m h4
  | t => exact h4.imp (Rp.mono m) fun ⟨r, p, e1, e2, e3, e4⟩ => ⟨r.mono m fun _ _ _ _ q => q, p, e1, e2, fun z => e3 (.inl z), e4⟩
  | ln s => obtain ⟨F, r, n⟩ := h4; exact ⟨F, s.mono r m fun _ _ => rfl, fun a ha => ⟨fun z => (n a ha).1 (.inl z), (n a ha).2⟩⟩
  | ow s => exact ⟨s.mono h4.1 m fun _ _ => rfl, h4.2⟩
  | io s => exact ⟨s.mono h4.1 m fun _ _ => rfl, h4.2⟩
/-- a new thing is to be avoided from now on -/
theorem Repr.add {Fv : AS} (R : Repr K ks O Fs ρ σ H) (e : Ext H H') (h : ∀ a, Fv a → H a = none ∧ H' a ≠ none) : Repr K ks (O.add Fv) Fs ρ σ H' := by
  have m : Mo (av O Fs) (av (O.add Fv) Fs) H H' := ⟨fun a o _ q => e.hc q, fun a z => (av_add_inv z).imp id fun q => (h a q).1⟩
  refine ⟨R.lρ, R.lσ, R.dj, fun a z => e.dom (R.od a z), fun a z => z.elim (fun q => e.dom (R.bd a q)) fun q => (h a q).2, fun i a z q => q.elim (R.fb i a z) fun q => R.fd i a z (h a q).1, fun i a z => e.dom (R.fd i a z), fun i k d h1 h2 => ?_⟩
  obtain ⟨v, h3, h4⟩ := R.sl i k d h1 h2
  refine ⟨v, h3, ?_⟩
  cases k with
  | z => exact Rp.mono m h4
  | t => exact h4.imp (Rp.mono m) fun ⟨r, p, e1, e2, e3, e4⟩ => ⟨r.mono m fun _ _ _ _ q => e.hc q, p, e1, fun z => e2 (e.none z), fun z => z.elim e3 fun q => e2 (h p q).1, e4⟩
  | ln s => obtain ⟨F, r, n⟩ := h4; exact ⟨F, s.mono r m fun a ha => e a (s.dom r a ha), fun a ha => ⟨fun z => z.elim (n a ha).1 fun q => s.dom r a ha (h a q).1, (n a ha).2⟩⟩
  | ow s => exact ⟨s.mono h4.1 m fun a ha => e a (R.fd i a ha), h4.2⟩
  | io s => exact ⟨s.mono h4.1 m fun a ha => e a (R.fd i a ha), h4.2⟩

variable {E : St → XK} {pu : Bool} {kd : Kd} {t : TE} {w : WE}
theorem Snd.weak (h : Snd K ks E pu kd t w) : Snd K ks E false kd t w := fun O Fs ρ σ H Ψ Ξ Q R hw hq hx =>
  h O Fs ρ σ H Ψ Ξ Q R hw (fun d ρ' Fs' v H' _ f r p => hq d ρ' Fs' v H' (fun z => by cases z) f r p) hx
theorem Snd.any (h : Snd K ks E true kd t w) : Snd K ks E pu kd t w := fun O Fs ρ σ H Ψ Ξ Q R hw hq hx =>
  h O Fs ρ σ H Ψ Ξ Q R hw (fun d ρ' Fs' v H' u f r p => hq d ρ' Fs' v H' (fun _ => u rfl) f r p) hx
theorem Snd.toT (h : Snd K ks E pu .z t w) : Snd K ks E pu .t t w := fun O Fs ρ σ H Ψ Ξ Q R hw hq hx =>
  h O Fs ρ σ H Ψ Ξ Q R hw (fun d ρ' Fs' v H' u f r p => hq d ρ' Fs' v H' u f ⟨r.1, .of r.2⟩ p) hx
theorem Snd.toZ {s : Shp} (h : Snd K ks E pu (.o s) t w) : Snd K ks E pu .z t w := fun O Fs ρ σ H Ψ Ξ Q R hw hq hx =>
  h O Fs ρ σ H Ψ Ξ Q R hw (fun d ρ' Fs' v H' u f r p => by
    obtain ⟨Fv, R', q, n⟩ := r
    refine hq d ρ' Fs' v H' u f ⟨R'.less, s.frz q (fun a ha z => ?_) fun a z => av_add z⟩ p
    rcases z with z | z | ⟨i, z⟩
    · exact (n a ha).1 z
    · exact (n a ha).2.1 z
    · exact R'.fb i a z (.inr ha)) hx
theorem LkX.step {Ξ : Exc → Env → Prop} {Ex : XK} (h : LkX K ks O Fs σ H Ξ Ex) (f : Fr Fs H Fs' H') : LkX K ks O Fs' σ H' Ξ Ex := fun x ρ1 Fs1 cls od H1 R1 f1 r p => h x ρ1 Fs1 cls od H1 R1 (f.trans f1) r p
/-- a new list at p -/
theorem res_new {vs : List V} {ds : List D} {p : Addr} (R : Repr K ks O Fs' ρ σ H) (hp : H p = none) (h0 : ∀ a, (H' a ≠ none → H a ≠ none)) (r : RpL K (av O Fs') H vs ds) : Res K ks O Fs H' (.o shL) ρ Fs' σ (.ref p) (.lst ds) (upd H p (.lst vs)) := by
  have e : Ext H (upd H p (.lst vs)) := Ext.upd hp
  have hn : H' p = none := by
    cases q : H' p with
    | none => rfl
    | some o => exact absurd hp (h0 p (by rw [q]; simp))
  refine ⟨fun a => a = p, R.add e (fun a z => by subst z; exact ⟨hp, by rw [upd_same]; simp⟩), ⟨p, vs, ds, rfl, rfl, fun _ => Iff.rfl, upd_same, ?_⟩, fun a z => ?_⟩
  · exact r.mono ⟨fun a o _ q => e.hc q, fun a z => (av_add_inv z).imp id fun q => by rw [q]; exact hp⟩
  · subst z
    exact ⟨fun q => R.od _ q hp, fun q => R.bd _ q hp, .inr hn⟩
end
end Fw

/-! Fw3: expressions: names, constants, operators, tests, subscripts, slices, displays, built-ins. -/
namespace Fw
open PySem L2

structure PX (X : Cx) (K : PySem.W.Frag) (ks : List SK) (E : St → XK) (pu : Bool) (kd : Kd) (e : Expr) (t : TE) (w : WE) : Prop where
  hK : X.K = K
  pe : PE X e t
  snd : Snd K ks E pu kd t w
structure PB (X : Cx) (K : PySem.W.Frag) (ks : List SK) (E : St → XK) (pu : Bool) (e : Expr) (t : TT) (w : WB) : Prop where
  hK : X.K = K
  pt : PT X e t
  snd : SndB K ks E pu t w
structure PBW (X : Cx) (K : PySem.W.Frag) (ks : List SK) (E : St → XK) (pu : Bool) (e : Expr) (t : TT) (w : WB) : Prop where
  hK : X.K = K
  pw : PW X e t
  snd : SndB K ks E pu t w

section
variable {X : Cx} {K : PySem.W.Frag} {ks : List SK} {E : St → XK} {pu pa pb pc : Bool} {kd ka kb kc : Kd} {e a b c : Expr} {t ta tb tc : TE} {w wa wb wc : WE} {pos : Pos}

theorem PX.toT (h : PX X K ks E pu .z e t w) : PX X K ks E pu .t e t w := by cases h.hK; exact ⟨rfl, h.pe, h.snd.toT⟩
theorem PX.toZ {s : Shp} (h : PX X K ks E pu (.o s) e t w) : PX X K ks E pu .z e t w := by cases h.hK; exact ⟨rfl, h.pe, h.snd.toZ⟩
theorem PX.weak (h : PX X K ks E pu kd e t w) : PX X K ks E false kd e t w := by cases h.hK; exact ⟨rfl, h.pe, h.snd.weak⟩

/-! ### names, constants -/
def SK.top : SK → Prop
  | .z => True
  | .t => True
  | .ln s => Flat s
  | .ow s => Flat s
  | .io s => Flat s
def wVar (i : Nat) : WE := fun ρ Ψ _ => ∃ d, ρ[i]? = some (some d) ∧ Ψ d ρ
theorem snd_var (i : Nat) (hk : ks[i]? = some .z) : Snd K ks E true .z (tVar i) (wVar i) := fun O Fs ρ σ H Ψ Ξ Q R hw hq hx => by
  obtain ⟨d, h1, h2⟩ := hw
  obtain ⟨v, h3, h4⟩ := R.sl i _ d hk h1
  exact ⟨v, h3, hq d ρ Fs v H (fun _ => ⟨rfl, rfl, Ext.refl H⟩) (Fr.refl _ _) ⟨R, h4⟩ h2⟩
theorem RSl.top {K : PySem.W.Frag} {O : Gh} {Fs : Nat → AS} {H : Hp} {i : Nat} {k : SK} {v : V} {d : D} (h : RSl K O Fs H i k v d) (ht : k.top) : RT K (av O Fs) H v d := by
  cases k with
  | z => exact .of h
  | t => exact h.elim .of fun z => z.1
  | ln s => obtain ⟨F, r, _⟩ := h; exact (ht r).1
  | ow s => exact (ht h.1).1
  | io s => exact (ht h.1).1
theorem snd_varT (i : Nat) {k : SK} (hk : ks[i]? = some k) (ht : k.top) : Snd K ks E true .t (tVar i) (wVar i) := fun O Fs ρ σ H Ψ Ξ Q R hw hq hx => by
  obtain ⟨d, h1, h2⟩ := hw
  obtain ⟨v, h3, h4⟩ := R.sl i k d hk h1
  exact ⟨v, h3, hq d ρ Fs v H (fun _ => ⟨rfl, rfl, Ext.refl H⟩) (Fr.refl _ _) ⟨R, h4.top ht⟩ h2⟩
theorem xv (i : Nat) {x : Str} (hk : ks[i]? = some .z := by rfl) (hN : X.N[i]? = some x := by rfl) (hv : Vis X.env.scope x := by first | exact Or.inl rfl | exact Or.inr (Or.inl rfl) | exact Or.inr (Or.inr rfl)) (hd : (x == ("__debug__" : Str)) = false := by decide)
    (hcd : (x == ("__classdict__" : Str)) = false := by decide) (hK : X.K = K := by rfl) : PX X K ks E pu .z (.Name x pos) (tVar i) (wVar i) := by cases hK; exact ⟨rfl, pe_var hN hv hd hcd, (snd_var i hk).any⟩
theorem xvt (i : Nat) {k : SK} {x : Str} (ht : k.top) (hk : ks[i]? = some k := by rfl) (hN : X.N[i]? = some x := by rfl) (hv : Vis X.env.scope x := by first | exact Or.inl rfl | exact Or.inr (Or.inl rfl) | exact Or.inr (Or.inr rfl)) (hd : (x == ("__debug__" : Str)) = false := by decide)
    (hcd : (x == ("__classdict__" : Str)) = false := by decide) (hK : X.K = K := by rfl) : PX X K ks E pu .t (.Name x pos) (tVar i) (wVar i) := by cases hK; exact ⟨rfl, pe_var hN hv hd hcd, (snd_varT i hk ht).any⟩
/-- a parameter that is readable at the top -/
theorem snd_varS (i : Nat) (hk : ks[i]? = some .t) : Snd K ks E true .s (tVar i) (wVar i) := fun O Fs ρ σ H Ψ Ξ Q R hw hq hx => by
  obtain ⟨d, h1, h2⟩ := hw
  obtain ⟨v, h3, h4⟩ := R.sl i _ d hk h1
  exact ⟨v, h3, hq d ρ Fs v H (fun _ => ⟨rfl, rfl, Ext.refl H⟩) (Fr.refl _ _) ⟨R, h4⟩ h2⟩
theorem xvs (i : Nat) {x : Str} (hk : ks[i]? = some .t := by rfl) (hN : X.N[i]? = some x := by rfl) (hv : Vis X.env.scope x := by first | exact Or.inl rfl | exact Or.inr (Or.inl rfl) | exact Or.inr (Or.inr rfl)) (hd : (x == ("__debug__" : Str)) = false := by decide)
    (hcd : (x == ("__classdict__" : Str)) = false := by decide) (hK : X.K = K := by rfl) : PX X K ks E pu .s (.Name x pos) (tVar i) (wVar i) := by cases hK; exact ⟨rfl, pe_var hN hv hd hcd, (snd_varS i hk).any⟩
def wC (d : D) : WE := fun ρ Ψ _ => Ψ d ρ
theorem snd_c {v : V} {d : D} (h : ∀ A H, Rp K A H v d) : Snd K ks E true .z (tC v) (wC d) := fun O Fs ρ σ H Ψ Ξ Q R hw hq hx =>
  hq d ρ Fs v H (fun _ => ⟨rfl, rfl, Ext.refl H⟩) (Fr.refl _ _) ⟨R, h _ _⟩ hw
theorem x_int {i : Int} {j : Nat} (hK : X.K = K := by rfl) : PX X K ks E pu .z (.Constant (.int i) j pos) (tC (.int i)) (wC (.int i)) := by cases hK; exact ⟨rfl, pe_int, (snd_c fun _ _ => .int i).any⟩
theorem x_str {i : Str} {j : Nat} (hK : X.K = K := by rfl) : PX X K ks E pu .z (.Constant (.str i) j pos) (tC (.str i)) (wC (.str i)) := by cases hK; exact ⟨rfl, pe_str, (snd_c fun _ _ => .str i).any⟩
theorem x_bl {i : Bool} {j : Nat} (hK : X.K = K := by rfl) : PX X K ks E pu .z (.Constant (.bool i) j pos) (tC (.bl i)) (wC (.bl i)) := by cases hK; exact ⟨rfl, pe_bl, (snd_c fun _ _ => .bl i).any⟩
theorem x_non {j : Nat} (hK : X.K = K := by rfl) : PX X K ks E pu .z (.Constant .none j pos) (tC .non) (wC .non) := by cases hK; exact ⟨rfl, pe_non, (snd_c fun _ _ => .non).any⟩
/-- a number or a text of the module -/
theorem x_gint {x : Str} {i : Int} {u : Value} (hg : Gl X x) (hm : X.mg x = some u) (r : RelV (.int i) u) (hd : (x == ("__debug__" : Str)) = false := by decide) (hK : X.K = K := by rfl) : PX X K ks E pu .z (.Name x pos) (tC (.int i)) (wC (.int i)) := by cases hK; exact ⟨rfl, pe_glob hg hm r hd, (snd_c fun _ _ => .int i).any⟩
theorem x_gstr {x : Str} {i : Str} {u : Value} (hg : Gl X x) (hm : X.mg x = some u) (r : RelV (.str i) u) (hd : (x == ("__debug__" : Str)) = false := by decide) (hK : X.K = K := by rfl) : PX X K ks E pu .z (.Name x pos) (tC (.str i)) (wC (.str i)) := by cases hK; exact ⟨rfl, pe_glob hg hm r hd, (snd_c fun _ _ => .str i).any⟩

/-! ### operations by values -/
/-- what the values told are worth as operands -/
def Kd.op : Kd → Prop
  | .z => True
  | .t => True
  | .s => True
  | _ => False
theorem Res.rt {K : PySem.W.Frag} {O : Gh} {Fs Fs' : Nat → AS} {H H' : Hp} {ρ' : Env} {σ : St} {v : V} {d : D} (hk : kd.op) (h : Res K ks O Fs H kd ρ' Fs' σ v d H') : Repr K ks O Fs' ρ' σ H' ∧ RT K (av O Fs') H' v d := by
  cases kd with
  | z => exact ⟨h.1, .of h.2⟩
  | t => exact h
  | s => exact ⟨h.1, h.2.top trivial⟩
  | ln _ => exact hk.elim
  | o _ => exact hk.elim
/-- may stay while the next part runs -/
def Kd.st (kd : Kd) (pu : Bool) : Prop := kd = .z ∨ kd = .s ∨ (kd = .t ∧ pu = true)
/-- an object that no piece of code changes -/
theorem RSl.fr {K : PySem.W.Frag} {O : Gh} {Fs Fs2 : Nat → AS} {H H2 : Hp} {v : V} {d : D} (h : RSl K O Fs H 0 .t v d) (f : Fr Fs H Fs2 H2) : RT K (av O Fs2) H2 v d := by
  rcases h with h | ⟨r, p, e1, e2, e3, e4⟩
  · exact .of (Rp.mono f.mo h)
  · refine r.monoAt f.mo fun q eq u z => ?_
    rw [e1] at eq
    cases eq
    unfold hc at z ⊢
    rw [f.keep p e4 e2]
    exact z
theorem Kd.st.op {kd : Kd} {pu : Bool} (h : kd.st pu) : kd.op := by
  rcases h with h | h | h
  · subst h; trivial
  · subst h; trivial
  · obtain ⟨h, _⟩ := h; subst h; trivial
theorem Res.stay {K : PySem.W.Frag} {O : Gh} {Fs Fs' Fs2 : Nat → AS} {H H' H2 : Hp} {ρ' ρ2 : Env} {σ : St} {v : V} {d : D} (hk : kd.st pb) (h : Res K ks O Fs H kd ρ' Fs' σ v d H') (u : Pu pb ρ' ρ2 Fs' Fs2 H' H2) (f : Fr Fs' H' Fs2 H2) : RT K (av O Fs2) H2 v d := by
  rcases hk with hk | hk | ⟨hk, hp⟩
  · subst hk
    exact .of (h.2.mono f.mo)
  · subst hk
    exact h.2.fr f
  · subst hk
    obtain ⟨_, e2, e3⟩ := u hp
    subst e2
    exact h.2.mono e3.mo fun p v _ o q => e3.hc q
abbrev W2 := D → D → (D → Prop) → Prop
def OpD (K : PySem.W.Frag) (r : R2) (w2 : W2) : Prop := ∀ (A : AS) (H : Hp) (x y : V) (dx dy : D) (Ψ : D → Prop) (Q : VK), (∀ a, A a → H a ≠ none) → RT K A H x dx → RT K A H y dy → w2 dx dy Ψ →
  (∀ d v H', Ext H H' → Rp K A H' v d → Ψ d → Q v H') → r x y H Q
def OpN (K : PySem.W.Frag) (r : R2) (w2 : W2) : Prop := ∀ (A : AS) (H : Hp) (x y : V) (dx dy : D) (Ψ : D → Prop) (Q : VK), (∀ a, A a → H a ≠ none) → RT K A H x dx → RT K A H y dy → w2 dx dy Ψ →
  (∀ ds vs p, H p = none → RpL K A H vs ds → Ψ (.lst ds) → Q (.ref p) (upd H p (.lst vs))) → r x y H Q
theorem OpN.d {K : PySem.W.Frag} {r : R2} {w2 : W2} (h : OpN K r w2) : OpD K r w2 := fun A H x y dx dy Ψ Q hA rx ry hw hq => h A H x y dx dy Ψ Q hA rx ry hw fun ds vs p hp r z =>
  hq _ _ _ (Ext.upd hp) (.lst (fun q => hA p q hp) (hc_lst.mpr upd_same) (r.mono (Ext.upd hp).mo)) z
theorem OpD.or {K : PySem.W.Frag} {r r' : R2} {w2 w2' : W2} (h : OpD K r w2) (h' : OpD K r' w2') : OpD K (fun x y H Q => r x y H Q ∨ r' x y H Q) (fun x y Ψ => w2 x y Ψ ∨ w2' x y Ψ) := fun A H x y dx dy Ψ Q hA rx ry hw hq =>
  hw.elim (fun z => .inl (h A H x y dx dy Ψ Q hA rx ry z hq)) fun z => .inr (h' A H x y dx dy Ψ Q hA rx ry z hq)
theorem OpD.imp {K : PySem.W.Frag} {r : R2} {w2 w2' : W2} (h : OpD K r w2) (i : ∀ x y Ψ, w2' x y Ψ → w2 x y Ψ) : OpD K r w2' := fun A H x y dx dy Ψ Q hA rx ry hw hq => h A H x y dx dy Ψ Q hA rx ry (i _ _ _ hw) hq
def w2e (w2 : W2) (wa wb : WE) : WE := fun ρ Ψ Ξ => wa ρ (fun x ρ1 => wb ρ1 (fun y ρ2 => w2 x y fun d => Ψ d ρ2) Ξ) Ξ
theorem Pu.trans {ρ ρ1 ρ2 : Env} {Fs Fs1 Fs2 : Nat → AS} {H H1 H2 : Hp} (u : Pu pu ρ ρ1 Fs Fs1 H H1) (v : Pu pu ρ1 ρ2 Fs1 Fs2 H1 H2) : Pu pu ρ ρ2 Fs Fs2 H H2 := fun h => by
  obtain ⟨a1, a2, a3⟩ := u h
  obtain ⟨b1, b2, b3⟩ := v h
  exact ⟨b1.trans a1, b2.trans a2, a3.trans b3⟩
theorem Pu.ext {ρ ρ1 : Env} {Fs Fs1 : Nat → AS} {H H1 H2 : Hp} (u : Pu pa ρ ρ1 Fs Fs1 H H1) (e : Ext H1 H2) : Pu pa ρ ρ1 Fs Fs1 H H2 := fun h => let ⟨a, b, c⟩ := u h; ⟨a, b, c.trans e⟩
theorem snd_op {r : R2} {w2 : W2} (o : OpD K r w2) (ha : Snd K ks E pu ka ta wa) (hb : Snd K ks E pu kb tb wb) (hk : ka.st pu) (hk2 : kb.op) : Snd K ks E pu .z (tOp r ta tb) (w2e w2 wa wb) := fun O Fs ρ σ H Ψ Ξ Q R hw hq hx => by
  refine ha O Fs ρ σ H _ Ξ _ R hw (fun dx ρ1 Fs1 x H1 u1 f1 r1 p1 => ?_) hx
  have R1 := (r1.rt hk.op).1
  refine hb O Fs1 ρ1 σ H1 _ Ξ _ R1 p1 (fun dy ρ2 Fs2 y H2 u2 f2 r2 p2 => ?_) (hx.step f1)
  obtain ⟨R2, y2⟩ := r2.rt hk2
  exact o _ H2 x y dx dy _ Q (fun a => R2.adom) (r1.stay hk u2 f2) y2 p2 fun d v H' e rp z => hq d ρ2 Fs2 v H' ((u1.trans u2).ext e) (f1.trans (f2.trans e.fr)) ⟨R2.ext e, rp⟩ z
theorem Res.stayP {K : PySem.W.Frag} {O : Gh} {Fs Fs' Fs2 : Nat → AS} {H H' H2 : Hp} {ρ' ρ2 : Env} {σ : St} {v : V} {d : D} (hk : kd.op) (h : Res K ks O Fs H kd ρ' Fs' σ v d H') (u : Pu true ρ' ρ2 Fs' Fs2 H' H2) : RT K (av O Fs2) H2 v d := by
  obtain ⟨_, e2, e3⟩ := u rfl
  subst e2
  exact (h.rt hk).2.mono e3.mo fun p v _ o q => e3.hc q
theorem Pu.any {ρ ρ1 : Env} {Fs Fs1 : Nat → AS} {H H1 : Hp} (u : Pu true ρ ρ1 Fs Fs1 H H1) : Pu pu ρ ρ1 Fs Fs1 H H1 := fun _ => u rfl
theorem snd_opP {r : R2} {w2 : W2} (o : OpD K r w2) (ha : Snd K ks E pu ka ta wa) (hb : Snd K ks E true kb tb wb) (hk : ka.op) (hk2 : kb.op) : Snd K ks E pu .z (tOp r ta tb) (w2e w2 wa wb) := fun O Fs ρ σ H Ψ Ξ Q R hw hq hx => by
  refine ha O Fs ρ σ H _ Ξ _ R hw (fun dx ρ1 Fs1 x H1 u1 f1 r1 p1 => ?_) hx
  have R1 := (r1.rt hk).1
  refine hb O Fs1 ρ1 σ H1 _ Ξ _ R1 p1 (fun dy ρ2 Fs2 y H2 u2 f2 r2 p2 => ?_) (hx.step f1)
  obtain ⟨R2, y2⟩ := r2.rt hk2
  exact o _ H2 x y dx dy _ Q (fun a => R2.adom) (r1.stayP hk u2) y2 p2 fun d v H' e rp z => hq d ρ2 Fs2 v H' ((u1.trans u2.any).ext e) (f1.trans (f2.trans e.fr)) ⟨R2.ext e, rp⟩ z
theorem snd_opN {r : R2} {w2 : W2} (o : OpN K r w2) (ha : Snd K ks E pu ka ta wa) (hb : Snd K ks E pu kb tb wb) (hk : ka.st pu) (hk2 : kb.op) : Snd K ks E pu (.o shL) (tOp r ta tb) (w2e w2 wa wb) := fun O Fs ρ σ H Ψ Ξ Q R hw hq hx => by
  refine ha O Fs ρ σ H _ Ξ _ R hw (fun dx ρ1 Fs1 x H1 u1 f1 r1 p1 => ?_) hx
  have R1 := (r1.rt hk.op).1
  refine hb O Fs1 ρ1 σ H1 _ Ξ _ R1 p1 (fun dy ρ2 Fs2 y H2 u2 f2 r2 p2 => ?_) (hx.step f1)
  obtain ⟨R2, y2⟩ := r2.rt hk2
  refine o _ H2 x y dx dy _ Q (fun a => R2.adom) (r1.stay hk u2 f2) y2 p2 fun ds vs p hp rp z => hq _ ρ2 Fs2 _ _ ((u1.trans u2).ext (Ext.upd hp)) (f1.trans (f2.trans (Ext.upd hp).fr)) ?_ z
  exact res_new R2 hp (fun a h => f2.dom a (f1.dom a h)) rp
theorem x_op {op : Operator} {r : R2} {w2 : W2} (ho : OpR X (binaryOp op) r) (o : OpD K r w2) (ha : PX X K ks E pu ka a ta wa) (hb : PX X K ks E pu kb b tb wb) (hk : ka.st pu := by first | exact .inl rfl | exact .inr (.inl rfl) | exact .inr (.inr ⟨rfl, rfl⟩)) (hk2 : kb.op := by trivial) :
    PX X K ks E pu .z (.BinOp a op b pos) (tOp r ta tb) (w2e w2 wa wb) := by cases ha.hK; exact ⟨rfl, pe_op ho ha.pe hb.pe, snd_op o ha.snd hb.snd hk hk2⟩
theorem x_opN {op : Operator} {r : R2} {w2 : W2} (ho : OpR X (binaryOp op) r) (o : OpN K r w2) (ha : PX X K ks E pu ka a ta wa) (hb : PX X K ks E pu kb b tb wb) (hk : ka.st pu := by first | exact .inl rfl | exact .inr (.inl rfl) | exact .inr (.inr ⟨rfl, rfl⟩)) (hk2 : kb.op := by trivial) :
    PX X K ks E pu (.o shL) (.BinOp a op b pos) (tOp r ta tb) (w2e w2 wa wb) := by cases ha.hK; exact ⟨rfl, pe_op ho ha.pe hb.pe, snd_opN o ha.snd hb.snd hk hk2⟩
theorem x_cmp {op : CmpOp} {r : R2} {w2 : W2} (ho : OpR X (compareOp op) r) (o : OpD K r w2) (ha : PX X K ks E pu ka a ta wa) (hb : PX X K ks E pu kb b tb wb) (hm : behindInMarks op b = false := by first | exact nomark _ | rfl) (hk : ka.st pu := by first | exact .inl rfl | exact .inr (.inl rfl) | exact .inr (.inr ⟨rfl, rfl⟩)) (hk2 : kb.op := by trivial) :
    PX X K ks E pu .z (.Compare a [op] [b] pos) (tOp r ta tb) (w2e w2 wa wb) := by cases ha.hK; exact ⟨rfl, pe_cmpR ho ha.pe hb.pe hm, snd_op o ha.snd hb.snd hk hk2⟩
theorem x_opP {op : Operator} {r : R2} {w2 : W2} (ho : OpR X (binaryOp op) r) (o : OpD K r w2) (ha : PX X K ks E pu ka a ta wa) (hb : PX X K ks E true kb b tb wb) (hk : ka.op) (hk2 : kb.op) :
    PX X K ks E pu .z (.BinOp a op b pos) (tOp r ta tb) (w2e w2 wa wb) := by cases ha.hK; exact ⟨rfl, pe_op ho ha.pe hb.pe, snd_opP o ha.snd hb.snd hk hk2⟩
theorem x_cmpP {op : CmpOp} {r : R2} {w2 : W2} (ho : OpR X (compareOp op) r) (o : OpD K r w2) (ha : PX X K ks E pu ka a ta wa) (hb : PX X K ks E true kb b tb wb) (hm : behindInMarks op b = false) (hk : ka.op) (hk2 : kb.op) :
    PX X K ks E pu .z (.Compare a [op] [b] pos) (tOp r ta tb) (w2e w2 wa wb) := by cases ha.hK; exact ⟨rfl, pe_cmpR ho ha.pe hb.pe hm, snd_opP o ha.snd hb.snd hk hk2⟩
end
end Fw

/-! Fw4: operators by values. -/
namespace Fw
open PySem L2

section
variable {X : Cx} {K : PySem.W.Frag}

/-! ### + -/
abbrev rdAdd (K : PySem.W.Frag) : R2 := fun x y H Q => (rI0 (fun i j => .int (i + j)) x y H Q ∨ (∃ i j, x = .str i ∧ y = .str j ∧ i.length + j.length ≤ sizeLine ∧ Q (.str (i ++ j)) H)) ∨ (rCat x y H Q ∨ rCatA K x y H Q)
abbrev rdMul (K : PySem.W.Frag) : R2 := fun x y H Q => (rI CMulW (fun i j => .int (i * j)) x y H Q ∨ (∃ i j, x = .str i ∧ y = .int j ∧ MulOk i j ∧ Q (.str (Txt.mul i j)) H)) ∨ rRep x y H Q
def rDIn (neg : Bool) : R2 := fun x y H Q => ∃ a o, y = .ref a ∧ DGet H a x o ∧ Q (.bl (if neg then !o.isSome else o.isSome)) H
abbrev rdIn (K : PySem.W.Frag) : R2 := fun x y H Q => (∃ i j, x = .str i ∧ y = .str j ∧ Q (.bl (!(Builtin.Str.occurrences j i 0 j.length 1).isEmpty)) H) ∨ (rIn K false x y H Q ∨ rDIn false x y H Q)
abbrev rdNotIn (K : PySem.W.Frag) : R2 := fun x y H Q => (∃ i j, x = .str i ∧ y = .str j ∧ Q (.bl (!(!(Builtin.Str.occurrences j i 0 j.length 1).isEmpty))) H) ∨ (rIn K true x y H Q ∨ rDIn true x y H Q)
abbrev rdOrd (gi : Int → Int → Bool) (gs : Str → Str → Bool) : R2 := fun x y H Q => rI0 (fun i j => .bl (gi i j)) x y H Q ∨ ∃ i j, x = .str i ∧ y = .str j ∧ Q (.bl (gs i j)) H
abbrev rdIsN : R2 := fun x y H Q => y = .non ∧ Q (.bl (decide (x = .non))) H
abbrev rdNotN : R2 := fun x y H Q => y = .non ∧ Q (.bl (!decide (x = .non))) H
def dAdd (x y : D) (Ψ : D → Prop) : Prop := match x, y with
  | .int i, .int j => Ψ (.int (i + j))
  | .str a, .str b => a.length + b.length ≤ sizeLine ∧ Ψ (.str (a ++ b))
  | .lst a, .lst b => a.length + b.length ≤ sizeLine ∧ Ψ (.lst (a ++ b))
  | .tup a, .tup b => a.length + b.length ≤ sizeLine ∧ Ψ (.tup (a ++ b))
  | _, _ => False
theorem or_add : OpR X (binaryOp .Add) (rdAdd X.K) := OpR.or (OpR.or op_add op_add_str) (OpR.or op_cat op_catA)
theorem od_add : OpD K (rdAdd K) dAdd := fun A H x y dx dy Ψ Q hA rx ry hw hq => by
  unfold dAdd at hw
  split at hw
  · cases rx.int_inv; cases ry.int_inv
    exact .inl (.inl ⟨_, _, rfl, rfl, hq _ _ H (Ext.refl H) (.int _) hw⟩)
  · cases rx.str_inv; cases ry.str_inv
    exact .inl (.inr ⟨_, _, rfl, rfl, hw.1, hq _ _ H (Ext.refl H) (.str _) hw.2⟩)
  · obtain ⟨p, vs, rfl, e1, r1⟩ := rx.lst_inv
    obtain ⟨q, us, rfl, e2, r2⟩ := ry.lst_inv
    refine .inr (.inl ⟨p, q, vs, us, rfl, rfl, e1, e2, by rw [r1.length, r2.length]; exact hw.1, fun l hl => hq _ _ _ (Ext.upd hl) (.lst (fun z => hA _ z hl) (hc_lst.mpr upd_same) ((r1.append r2).mono (Ext.upd hl).mo)) hw.2⟩)
  · obtain ⟨p, vs, rfl, e1, r1⟩ := rx.tup_inv
    obtain ⟨q, us, rfl, e2, r2⟩ := ry.tup_inv
    refine .inr (.inr ⟨p, q, vs, us, rfl, rfl, e1, e2, by rw [r1.length, r2.length]; exact hw.1, fun z => ?_, fun z1 z => ?_, fun z1 z2 l hl => hq _ _ _ (Ext.upd hl) (.tup (fun z => hA _ z hl) (hc_tup.mpr upd_same) ((r1.append r2).mono (Ext.upd hl).mo)) hw.2⟩)
    · subst z
      cases r1
      cases ry with
      | of h => exact hq _ _ H (Ext.refl H) h hw.2
    · subst z
      cases r2
      rw [List.append_nil] at hw
      cases rx with
      | of h => exact hq _ _ H (Ext.refl H) h hw.2
  · exact hw.elim
def dCat (x y : D) (Ψ : D → Prop) : Prop := match x, y with
  | .lst a, .lst b => a.length + b.length ≤ sizeLine ∧ Ψ (.lst (a ++ b))
  | _, _ => False
theorem on_cat : OpN K rCat dCat := fun A H x y dx dy Ψ Q hA rx ry hw hq => by
  unfold dCat at hw
  split at hw
  · obtain ⟨p, vs, rfl, e1, r1⟩ := rx.lst_inv
    obtain ⟨q, us, rfl, e2, r2⟩ := ry.lst_inv
    exact ⟨p, q, vs, us, rfl, rfl, e1, e2, by rw [r1.length, r2.length]; exact hw.1, fun l hl => hq _ _ l hl (r1.append r2) hw.2⟩
  · exact hw.elim

/-! ### numbers -/
def dI (C : Int → Int → Prop) (g : Int → Int → D) (x y : D) (Ψ : D → Prop) : Prop := match x, y with
  | .int i, .int j => C i j ∧ Ψ (g i j)
  | _, _ => False
theorem od_I {C : Int → Int → Prop} {g : Int → Int → Int} : OpD K (rI C fun i j => .int (g i j)) (dI C fun i j => .int (g i j)) := fun A H x y dx dy Ψ Q hA rx ry hw hq => by
  unfold dI at hw
  split at hw
  · cases rx.int_inv; cases ry.int_inv
    exact ⟨_, _, rfl, rfl, hw.1, hq _ _ H (Ext.refl H) (.int _) hw.2⟩
  · exact hw.elim
def dI0 (g : Int → Int → D) (x y : D) (Ψ : D → Prop) : Prop := match x, y with
  | .int i, .int j => Ψ (g i j)
  | _, _ => False
theorem od_I0 {g : Int → Int → Int} : OpD K (rI0 fun i j => .int (g i j)) (dI0 fun i j => .int (g i j)) := fun A H x y dx dy Ψ Q hA rx ry hw hq => by
  unfold dI0 at hw
  split at hw
  · cases rx.int_inv; cases ry.int_inv
    exact ⟨_, _, rfl, rfl, hq _ _ H (Ext.refl H) (.int _) hw⟩
  · exact hw.elim
theorem od_B0 {g : Int → Int → Bool} : OpD K (rI0 fun i j => .bl (g i j)) (dI0 fun i j => .bl (g i j)) := fun A H x y dx dy Ψ Q hA rx ry hw hq => by
  unfold dI0 at hw
  split at hw
  · cases rx.int_inv; cases ry.int_inv
    exact ⟨_, _, rfl, rfl, hq _ _ H (Ext.refl H) (.bl _) hw⟩
  · exact hw.elim
abbrev dSub : W2 := dI0 fun i j => .int (i - j)
abbrev dFdiv : W2 := dI CDivW fun i j => .int (i / j)
abbrev dMod : W2 := dI (fun _ j => 0 < j) fun i j => .int (i % j)
abbrev dPow : W2 := dI CPow fun i j => .int (i ^ j.toNat)
/-! ### * -/
def dMul (x y : D) (Ψ : D → Prop) : Prop := match x, y with
  | .int i, .int j => CMulW i j ∧ Ψ (.int (i * j))
  | .str a, .int n => MulOk a n ∧ Ψ (.str (Txt.mul a n))
  | .lst xs, .int k => -(2 ^ 63) ≤ k ∧ k < 2 ^ 63 ∧ xs.length * k.toNat ≤ sizeLine ∧ Ψ (.lst (List.replicate k.toNat xs).flatten)
  | _, _ => False
theorem op_mul_str : OpR X (binaryOp .Mult) (fun x y H Q => ∃ i j, x = .str i ∧ y = .int j ∧ MulOk i j ∧ Q (.str (Txt.mul i j)) H) := by
  intro pins s σ H x y v u Q I rx ry h
  obtain ⟨i, j, rfl, rfl, hz, q⟩ := h
  obtain ⟨t, rfl⟩ := rx
  obtain ⟨t', rfl⟩ := ry
  exact PySem.SB.mul hz fun t' k => ⟨.str _, H, I.tok _, ⟨_, rfl⟩, q⟩
theorem or_mul : OpR X (binaryOp .Mult) (rdMul K) := OpR.or (OpR.or op_mulW op_mul_str) op_rep
theorem RpL.flat {A : AS} {H : Hp} {vs : List V} {ds : List D} (r : RpL K A H vs ds) : ∀ n : Nat, RpL K A H (List.replicate n vs).flatten (List.replicate n ds).flatten
  | 0 => by simpa using RpL.nil
  | n + 1 => by
    rw [List.replicate_succ, List.replicate_succ, List.flatten_cons, List.flatten_cons]
    exact r.append (RpL.flat r n)
theorem od_mul : OpD K (rdMul K) dMul := fun A H x y dx dy Ψ Q hA rx ry hw hq => by
  unfold dMul at hw
  split at hw
  · cases rx.int_inv; cases ry.int_inv
    exact .inl (.inl ⟨_, _, rfl, rfl, hw.1, hq _ _ H (Ext.refl H) (.int _) hw.2⟩)
  · cases rx.str_inv; cases ry.int_inv
    exact .inl (.inr ⟨_, _, rfl, rfl, hw.1, hq _ _ H (Ext.refl H) (.str _) hw.2⟩)
  · obtain ⟨p, vs, rfl, e1, r1⟩ := rx.lst_inv
    cases ry.int_inv
    exact .inr ⟨p, _, vs, rfl, rfl, e1, hw.1, hw.2.1, by rw [r1.length]; exact hw.2.2.1, fun l hl => hq _ _ _ (Ext.upd hl) (.lst (fun z => hA _ z hl) (hc_lst.mpr upd_same) ((r1.flat _).mono (Ext.upd hl).mo)) hw.2.2.2⟩
  · exact hw.elim

/-! ### order -/
def dOrd (gi : Int → Int → Bool) (gs : Str → Str → Bool) (x y : D) (Ψ : D → Prop) : Prop := match x, y with
  | .int i, .int j => Ψ (.bl (gi i j))
  | .str i, .str j => Ψ (.bl (gs i j))
  | _, _ => False
theorem od_ord {gi : Int → Int → Bool} {gs : Str → Str → Bool} : OpD K (fun x y H Q => rI0 (fun i j => .bl (gi i j)) x y H Q ∨ ∃ i j, x = .str i ∧ y = .str j ∧ Q (.bl (gs i j)) H) (dOrd gi gs) := fun A H x y dx dy Ψ Q hA rx ry hw hq => by
  unfold dOrd at hw
  split at hw
  · cases rx.int_inv; cases ry.int_inv
    exact .inl ⟨_, _, rfl, rfl, hq _ _ H (Ext.refl H) (.bl _) hw⟩
  · cases rx.str_inv; cases ry.str_inv
    exact .inr ⟨_, _, rfl, rfl, hq _ _ H (Ext.refl H) (.bl _) hw⟩
  · exact hw.elim
def sLt (i j : Str) : Bool := decide (i.cps.toList < j.cps.toList)
theorem or_lt : OpR X (compareOp .Lt) (fun x y H Q => rI0 (fun i j => .bl (decide (i < j))) x y H Q ∨ ∃ i j, x = .str i ∧ y = .str j ∧ Q (.bl (sLt i j)) H) := OpR.or op_lt op_lt_str
theorem or_le : OpR X (compareOp .LtE) (fun x y H Q => rI0 (fun i j => .bl (decide (i ≤ j))) x y H Q ∨ ∃ i j, x = .str i ∧ y = .str j ∧ Q (.bl (!sLt j i)) H) := OpR.or op_le op_le_str
theorem or_gt : OpR X (compareOp .Gt) (fun x y H Q => rI0 (fun i j => .bl (decide (j < i))) x y H Q ∨ ∃ i j, x = .str i ∧ y = .str j ∧ Q (.bl (sLt j i)) H) := OpR.or op_gt op_gt_str
theorem or_ge : OpR X (compareOp .GtE) (fun x y H Q => rI0 (fun i j => .bl (decide (j ≤ i))) x y H Q ∨ ∃ i j, x = .str i ∧ y = .str j ∧ Q (.bl (!sLt i j)) H) := OpR.or op_ge op_ge_str
abbrev dLt : W2 := dOrd (fun i j => decide (i < j)) sLt
abbrev dLe : W2 := dOrd (fun i j => decide (i ≤ j)) fun i j => !sLt j i
abbrev dGt : W2 := dOrd (fun i j => decide (j < i)) fun i j => sLt j i
abbrev dGe : W2 := dOrd (fun i j => decide (j ≤ i)) fun i j => !sLt i j

/-! ### == -/
mutual
def D.py : D → PyData
  | .non => .none
  | .bl b => .bool b
  | .int i => .int i
  | .str x => .str x
  | .tup xs => .tuple (D.pyL xs)
  | .lst xs => .list (D.pyL xs)
  | .dk _ => .dict []
  | .dt _ => .dict []
  | .ins _ _ => .dict []
  | .scr _ => .dict []
  | .ref _ => .dict []
  | .ty _ => .dict []
def D.pyL : List D → List PyData
  | [] => []
  | d :: ds => d.py :: D.pyL ds
end
mutual
def D.ok : D → Bool
  | .non => true
  | .bl _ => true
  | .int _ => true
  | .str _ => true
  | .tup xs => D.okL xs
  | .lst xs => D.okL xs
  | .dk _ => false
  | .dt _ => false
  | .ins _ _ => false
  | .scr _ => false
  | .ref _ => false
  | .ty _ => false
def D.okL : List D → Bool
  | [] => true
  | d :: ds => d.ok && D.okL ds
end
mutual
theorem Rp.dp {A : AS} {H : Hp} : ∀ {v : V} {d : D}, Rp K A H v d → d.ok = true → Dp K H v d.py
  | _, _, .non, _ => .non
  | _, _, .bl b, _ => .bl b
  | _, _, .int i, _ => .int i
  | _, _, .str x, _ => .str x
  | _, _, .tup n e r, h => by rw [D.ok] at h; rw [D.py]; exact .tup (.of (hc_tup.mp e)) (RpL.dp r h)
  | _, _, .tupK e r, h => by rw [D.ok] at h; rw [D.py]; exact .tup (e _) (RpL.dp r h)
  | _, _, .lst n e r, h => by rw [D.ok] at h; rw [D.py]; exact .lst (.of (hc_lst.mp e)) (RpL.dp r h)
  | _, _, .dk _ _ _, h => by rw [D.ok] at h; cases h
  | _, _, .dt _ _ _, h => by rw [D.ok] at h; cases h
  | _, _, .ins _ _ _, h => by rw [D.ok] at h; cases h
  | _, _, .scr _ _, h => by rw [D.ok] at h; cases h
  | _, _, .scrK _, h => by rw [D.ok] at h; cases h
  | _, _, .ref _, h => by rw [D.ok] at h; cases h
  | _, _, .ty _, h => by rw [D.ok] at h; cases h
theorem RpL.dp {A : AS} {H : Hp} : ∀ {v : List V} {d : List D}, RpL K A H v d → D.okL d = true → DpAll K H v (D.pyL d)
  | _, _, .nil, _ => .nil
  | _, _, .cons h t, e => by
    rw [D.okL, Bool.and_eq_true] at e
    rw [D.pyL]
    exact .cons (Rp.dp h e.1) (RpL.dp t e.2)
end
theorem RT.dp {A : AS} {H : Hp} {v : V} {d : D} (h : RT K A H v d) (o : d.ok = true) : Dp K H v d.py := by
  cases h with
  | of h => exact h.dp o
  | lst e r => rw [D.ok] at o; rw [D.py]; exact .lst (.of (hc_lst.mp e)) (r.dp o)
  | dk e r => rw [D.ok] at o; cases o
  | dt e r => rw [D.ok] at o; cases o
/-- data that may be compared -/
def D.cm (d : D) : Bool := d.ok && SeqAt.shaped d.py
def deq (x y : D) : Bool := PyData.eqv x.py y.py
def dEq (x y : D) (Ψ : D → Prop) : Prop := x.cm = true ∧ y.cm = true ∧ Ψ (.bl (deq x y))
def dNe (x y : D) (Ψ : D → Prop) : Prop := x.cm = true ∧ y.cm = true ∧ Ψ (.bl (!deq x y))
theorem od_eq : OpD K (rEqD K) dEq := fun A H x y dx dy Ψ Q hA rx ry hw hq => by
  obtain ⟨c1, c2, hw⟩ := hw
  unfold D.cm at c1 c2
  rw [Bool.and_eq_true] at c1 c2
  exact ⟨_, _, rx.dp c1.1, ry.dp c2.1, c1.2, c2.2, hq _ _ H (Ext.refl H) (.bl _) hw⟩
theorem od_ne : OpD K (rNeD K) dNe := fun A H x y dx dy Ψ Q hA rx ry hw hq => by
  obtain ⟨c1, c2, hw⟩ := hw
  unfold D.cm at c1 c2
  rw [Bool.and_eq_true] at c1 c2
  exact ⟨_, _, rx.dp c1.1, ry.dp c2.1, c1.2, c2.2, hq _ _ H (Ext.refl H) (.bl _) hw⟩
/-! ### is None -/
def D.isNon : D → Bool
  | .non => true
  | _ => false
theorem Rp.isNon {A : AS} {H : Hp} {v : V} {d : D} (h : Rp K A H v d) : decide (v = .non) = d.isNon := by cases h <;> rfl
theorem RT.isNon {A : AS} {H : Hp} {v : V} {d : D} (h : RT K A H v d) : decide (v = .non) = d.isNon := by
  cases h with
  | of h => exact h.isNon
  | lst e r => rfl
  | dk e r => rfl
  | dt e r => rfl
def dIsN (x y : D) (Ψ : D → Prop) : Prop := y = .non ∧ Ψ (.bl x.isNon)
def dNotN (x y : D) (Ψ : D → Prop) : Prop := y = .non ∧ Ψ (.bl (!x.isNon))
theorem od_isN : OpD K (fun x y H Q => y = .non ∧ Q (.bl (decide (x = .non))) H) dIsN := fun A H x y dx dy Ψ Q hA rx ry hw hq => by
  obtain ⟨rfl, hw⟩ := hw
  rw [rx.isNon]
  exact ⟨ry.non_inv, hq _ _ H (Ext.refl H) (.bl _) hw⟩
theorem od_notN : OpD K (fun x y H Q => y = .non ∧ Q (.bl (!decide (x = .non))) H) dNotN := fun A H x y dx dy Ψ Q hA rx ry hw hq => by
  obtain ⟨rfl, hw⟩ := hw
  rw [rx.isNon]
  exact ⟨ry.non_inv, hq _ _ H (Ext.refl H) (.bl _) hw⟩
/-! ### is True, is False: of bools -/
theorem bl_beq (a b : Bool) : (Value.bool a == Value.bool b) = decide (a = b) := by
  by_cases e : a = b
  · subst e
    exact (beq_self_eq_true (Value.bool a)).trans (decide_eq_true (p := a = a) rfl).symm
  · exact (beq_eq_false_iff_ne.mpr fun z => e (Value.bool.inj z)).trans (decide_eq_false e).symm
theorem op_is_bl : OpR X (compareOp .Is) (fun x y H Q => ∃ a b, x = .bl a ∧ y = .bl b ∧ Q (.bl (decide (a = b))) H) := by
  intro pins s σ H x y v u Q I rx ry h
  obtain ⟨a, b, rfl, rfl, q⟩ := h
  cases rx
  cases ry
  exact wpAny_is_plain rfl (fin_bl I q (bl_beq a b).symm)
theorem op_isnot_bl : OpR X (compareOp .IsNot) (fun x y H Q => ∃ a b, x = .bl a ∧ y = .bl b ∧ Q (.bl (!decide (a = b))) H) := by
  intro pins s σ H x y v u Q I rx ry h
  obtain ⟨a, b, rfl, rfl, q⟩ := h
  cases rx
  cases ry
  exact wpAny_isNot_plain rfl (fin_bl I q (congrArg not (bl_beq a b).symm))
def dIsB (x y : D) (Ψ : D → Prop) : Prop := match x, y with
  | .bl a, .bl b => Ψ (.bl (decide (a = b)))
  | _, _ => False
def dIsNotB (x y : D) (Ψ : D → Prop) : Prop := match x, y with
  | .bl a, .bl b => Ψ (.bl (!decide (a = b)))
  | _, _ => False
theorem od_isB : OpD K (fun x y H Q => ∃ a b, x = .bl a ∧ y = .bl b ∧ Q (.bl (decide (a = b))) H) dIsB := fun A H x y dx dy Ψ Q hA rx ry hw hq => by
  unfold dIsB at hw
  split at hw
  · cases rx.bl_inv; cases ry.bl_inv
    exact ⟨_, _, rfl, rfl, hq _ _ H (Ext.refl H) (.bl _) hw⟩
  · exact hw.elim
theorem od_isNotB : OpD K (fun x y H Q => ∃ a b, x = .bl a ∧ y = .bl b ∧ Q (.bl (!decide (a = b))) H) dIsNotB := fun A H x y dx dy Ψ Q hA rx ry hw hq => by
  unfold dIsNotB at hw
  split at hw
  · cases rx.bl_inv; cases ry.bl_inv
    exact ⟨_, _, rfl, rfl, hq _ _ H (Ext.refl H) (.bl _) hw⟩
  · exact hw.elim

/-! ### in -/
def D.flat : D → Bool
  | .non => true
  | .bl _ => true
  | .int _ => true
  | .str _ => true
  | _ => false
def D.toV : D → V
  | .bl b => .bl b
  | .int i => .int i
  | .str x => .str x
  | _ => .non
theorem Rp.toV {A : AS} {H : Hp} {v : V} {d : D} (h : Rp K A H v d) (f : d.flat = true) : v = d.toV := by cases h <;> first | rfl | cases f
theorem RT.toV {A : AS} {H : Hp} {v : V} {d : D} (h : RT K A H v d) (f : d.flat = true) : v = d.toV := by
  cases h with
  | of h => exact h.toV f
  | lst e r => cases f
  | dk e r => cases f
  | dt e r => cases f
theorem flatV_toV {d : D} (f : d.flat = true) : flatV d.toV = true := by cases d <;> first | rfl | cases f
theorem RpL.toV {A : AS} {H : Hp} : ∀ {vs : List V} {ds : List D}, RpL K A H vs ds → ds.all D.flat = true → vs = ds.map D.toV
  | _, _, .nil, _ => rfl
  | _, _, .cons h t, f => by
    rw [List.all_cons, Bool.and_eq_true] at f
    rw [List.map_cons, h.toV f.1, RpL.toV t f.2]
theorem all_flatV : ∀ {ds : List D}, ds.all D.flat = true → (ds.map D.toV).all flatV = true
  | [], _ => rfl
  | d :: ds, f => by
    rw [List.all_cons, Bool.and_eq_true] at f
    rw [List.map_cons, List.all_cons, flatV_toV f.1, all_flatV f.2]
    rfl
/-- x in xs by == of flat data -/
def dIn (x : D) (xs : List D) : Bool := inV x.toV (xs.map D.toV)
/-! dicts as data -/
def D.key : D → Option Key
  | .int i => some (.inl i)
  | .str x => some (.inr x)
  | _ => none
theorem RT.key {A : AS} {H : Hp} {v : V} {d : D} {k : Key} (h : RT K A H v d) (e : d.key = some k) : v = kV k := by
  cases d with
  | int i => cases e; exact h.int_inv
  | str x => cases e; exact h.str_inv
  | _ => cases e
def valD (kvs : List (Key × D)) (k : Key) : Option D := (kvs.find? fun kv => decide (kv.1 = k)).map (·.2)
theorem valD_nil {k : Key} : valD [] k = none := rfl
theorem valD_pos {p : Key × D} {r : List (Key × D)} {k : Key} (e : p.1 = k) : valD (p :: r) k = some p.2 := by simp [valD, List.find?_cons, e]
theorem valD_neg {p : Key × D} {r : List (Key × D)} {k : Key} (e : ¬ p.1 = k) : valD (p :: r) k = valD r k := by simp [valD, List.find?_cons, e]
theorem RpK.val {A : AS} {H : Hp} {k : Key} : ∀ {vs : List (Key × V)} {ds : List (Key × D)}, RpK K A H vs ds → (valD ds k = none ∧ valV vs k = none) ∨ ∃ d v, valD ds k = some d ∧ valV vs k = some v ∧ Rp K A H v d
  | _, _, .nil => .inl ⟨rfl, rfl⟩
  | (kk, v) :: vs, (_, d) :: ds, .cons h t => by
    by_cases e : kk = k
    · exact .inr ⟨d, v, valD_pos e, valV_pos e, h⟩
    · rw [valD_neg (p := (kk, d)) e, valV_neg (p := (kk, v)) e]
      exact RpK.val t
theorem RpK.some {A : AS} {H : Hp} {k : Key} {vs : List (Key × V)} {ds : List (Key × D)} (r : RpK K A H vs ds) : (valV vs k).isSome = (valD ds k).isSome := by
  rcases r.val (k := k) with ⟨h1, h2⟩ | ⟨d, v, h1, h2, _⟩
  · rw [h1, h2]; rfl
  · rw [h1, h2]; rfl
def dInW (neg : Bool) (x y : D) (Ψ : D → Prop) : Prop := match x, y with
  | .str i, .str j => Ψ (.bl (if neg then !(!(Builtin.Str.occurrences j i 0 j.length 1).isEmpty) else !(Builtin.Str.occurrences j i 0 j.length 1).isEmpty))
  | x, .lst ys => x.flat = true ∧ ys.all D.flat = true ∧ Ψ (.bl (if neg then !dIn x ys else dIn x ys))
  | x, .tup ys => x.flat = true ∧ ys.all D.flat = true ∧ Ψ (.bl (if neg then !dIn x ys else dIn x ys))
  | x, .dk kvs => ∃ k, x.key = some k ∧ Ψ (.bl (if neg then !(valD kvs k).isSome else (valD kvs k).isSome))
  | _, _ => False
theorem op_dIn (hu : X.A.units + 64 < cLine) : OpR X (compareOp .In) (rDIn false) := by
  intro pins s σ H x y v u Q I rx ry h
  obtain ⟨a, o, rfl, g, q⟩ := h
  cases ry
  exact d_in (by omega) I g rx fun s' I' => ⟨.bl o.isSome, H, I', rfl, q⟩
theorem op_dNotIn (hu : X.A.units + 64 < cLine) : OpR X (compareOp .NotIn) (rDIn true) := by
  intro pins s σ H x y v u Q I rx ry h
  obtain ⟨a, o, rfl, g, q⟩ := h
  cases ry
  exact d_notIn (by omega) I g rx fun s' I' => ⟨.bl (!o.isSome), H, I', rfl, q⟩
theorem or_in (hu : X.A.units + 64 < cLine) : OpR X (compareOp .In) (rdIn X.K) := OpR.or op_in_str (OpR.or op_in_seq (op_dIn hu))
theorem or_notin (hu : X.A.units + 64 < cLine) : OpR X (compareOp .NotIn) (rdNotIn X.K) := OpR.or op_notin_str (OpR.or op_notIn_seq (op_dNotIn hu))
theorem od_dIn {A : AS} {H : Hp} {x y : V} {dx : D} {kvs : List (Key × D)} {neg : Bool} {Ψ : D → Prop} {Q : VK} (rx : RT K A H x dx) (ry : RT K A H y (.dk kvs)) (hw : ∃ k, dx.key = some k ∧ Ψ (.bl (if neg then !(valD kvs k).isSome else (valD kvs k).isSome)))
    (hq : ∀ d v H', Ext H H' → Rp K A H' v d → Ψ d → Q v H') : rDIn neg x y H Q := by
  obtain ⟨k, e, hw⟩ := hw
  obtain ⟨p, vs, rfl, e1, r1⟩ := ry.dk_inv
  refine ⟨p, valV vs k, rfl, .inl ⟨vs, k, e1, rx.key e, rfl⟩, ?_⟩
  rw [r1.some]
  exact hq _ _ H (Ext.refl H) (.bl _) hw
theorem od_in_lst {A : AS} {H : Hp} {x y : V} {dx : D} {ys : List D} {neg : Bool} {Ψ : D → Prop} {Q : VK} (rx : RT K A H x dx) (ry : RT K A H y (.lst ys) ∨ RT K A H y (.tup ys)) (hw : dx.flat = true ∧ ys.all D.flat = true ∧ Ψ (.bl (if neg then !dIn dx ys else dIn dx ys)))
    (hq : ∀ d v H', Ext H H' → Rp K A H' v d → Ψ d → Q v H') : rIn K neg x y H Q := by
  obtain ⟨f1, f2, hw⟩ := hw
  cases rx.toV f1
  rcases ry with ry | ry
  · obtain ⟨q, us, rfl, e2, r2⟩ := ry.lst_inv
    cases r2.toV f2
    exact ⟨q, _, rfl, .inl (SqL.of e2), flatV_toV f1, all_flatV f2, hq _ _ H (Ext.refl H) (.bl _) hw⟩
  · obtain ⟨q, us, rfl, e2, r2⟩ := ry.tup_inv
    cases r2.toV f2
    exact ⟨q, _, rfl, .inr e2, flatV_toV f1, all_flatV f2, hq _ _ H (Ext.refl H) (.bl _) hw⟩
theorem od_in : OpD K (rdIn K) (dInW false) := fun A H x y dx dy Ψ Q hA rx ry hw hq => by
  unfold dInW at hw
  split at hw
  · cases rx.str_inv; cases ry.str_inv
    exact .inl ⟨_, _, rfl, rfl, hq _ _ H (Ext.refl H) (.bl _) hw⟩
  · exact .inr (.inl (od_in_lst rx (.inl ry) hw hq))
  · exact .inr (.inl (od_in_lst rx (.inr ry) hw hq))
  · exact .inr (.inr (od_dIn rx ry hw hq))
  · exact hw.elim
theorem od_notin : OpD K (rdNotIn K) (dInW true) := fun A H x y dx dy Ψ Q hA rx ry hw hq => by
  unfold dInW at hw
  split at hw
  · cases rx.str_inv; cases ry.str_inv
    exact .inl ⟨_, _, rfl, rfl, hq _ _ H (Ext.refl H) (.bl _) hw⟩
  · exact .inr (.inl (od_in_lst rx (.inl ry) hw hq))
  · exact .inr (.inl (od_in_lst rx (.inr ry) hw hq))
  · exact .inr (.inr (od_dIn rx ry hw hq))
  · exact hw.elim
/-! ### items -/
def rIxD : R2 := fun x y H Q => ∃ a v, x = .ref a ∧ DGet H a y (some v) ∧ Q v H
abbrev rdIx (K : PySem.W.Frag) : R2 := fun x y H Q => rIx K x y H Q ∨ rIxD x y H Q
open PySem.Spec PyProof.Rows in
theorem ix_dict (hu : X.A.units + 64 < cLine) : IxR X rIxD := by
  intro value slice pins s σ H x y v u Q I rx ry h hs
  obtain ⟨a, z, rfl, g, q⟩ := h
  cases rx
  have hT := dict_typeIs I g
  have hG : wpAny (model X.prog X.w) X.A (getItem (.ref a) u) (EP X pins σ Q) X.xe s := d_getItem (by omega) I g ry fun w' s' I' rw' => ⟨z, H, I', rw', q⟩
  unfold subscriptTail
  refine wpAny_bind ?_
  rw [getitemInPython_of_ne hT.not_modules]
  refine wpAny_bind (wpAny_specialOf hT PySem.F.slot_dict_getitem.lookup ?_)
  have tail : wpAny (model X.prog X.w) X.A (subscripted slice false (.ref a) u) (fun r t => wpAny (model X.prog X.w) X.A (letTemporaryGo value (.ref a) r >>= fun _ => pure r) (EP X pins σ Q) X.xe t) X.xe s := by
    rw [hs]
    exact wpAny_operating (wpAny_mono hG (fun r t ht => wpAny_bind (wpAny_letTemporaryGo (wpAny_pure ht))) fun _ _ z => z)
  first
    | exact wpAny_pure (wpAny_bind tail)
    | exact wpAny_bind (wpAny_pure (wpAny_bind tail))
    | exact wpAny_bind tail
theorem ixr_all (hu : X.A.units + 64 < cLine) : IxR X (rdIx X.K) := ix_seq.or (ix_dict hu)
def dIx (x y : D) (Ψ : D → Prop) : Prop := match x, y with
  | .lst xs, .int i => ∃ d, atI xs i = some d ∧ Ψ d
  | .tup xs, .int i => ∃ d, atI xs i = some d ∧ Ψ d
  | .str z, .int i => z.length ≤ sizeLine ∧ ∃ c, atI z.cps.toList i = some c ∧ Ψ (.str ⟨#[c]⟩)
  | .dk kvs, y => ∃ k d, y.key = some k ∧ valD kvs k = some d ∧ Ψ d
  | _, _ => False
theorem RpL.atI {A : AS} {H : Hp} {vs : List V} {ds : List D} {i : Int} {d : D} (r : RpL K A H vs ds) (h : atI ds i = some d) : ∃ v, L2.atI vs i = some v ∧ Rp K A H v d := by
  unfold L2.atI at h ⊢
  rw [r.length]
  cases e : ixN ds.length i with
  | none => rw [e] at h; cases h
  | some j =>
    rw [e] at h
    exact r.get h
theorem od_ix : OpD K (rdIx K) dIx := fun A H x y dx dy Ψ Q hA rx ry hw hq => by
  unfold dIx at hw
  split at hw
  · obtain ⟨d, h1, hw⟩ := hw
    obtain ⟨p, vs, rfl, e1, r1⟩ := rx.lst_inv
    cases ry.int_inv
    obtain ⟨v, h2, h3⟩ := r1.atI h1
    exact .inl (.inl ⟨p, vs, _, v, rfl, rfl, SqL.of e1, h2, hq _ _ H (Ext.refl H) h3 hw⟩)
  · obtain ⟨d, h1, hw⟩ := hw
    obtain ⟨p, vs, rfl, e1, r1⟩ := rx.tup_inv
    cases ry.int_inv
    obtain ⟨v, h2, h3⟩ := r1.atI h1
    exact .inl (.inr (.inl ⟨p, vs, _, v, rfl, rfl, e1, h2, hq _ _ H (Ext.refl H) h3 hw⟩))
  · obtain ⟨hz, c, h1, hw⟩ := hw
    cases rx.str_inv; cases ry.int_inv
    exact .inl (.inr (.inr ⟨_, _, c, rfl, rfl, hz, h1, hq _ _ H (Ext.refl H) (.str _) hw⟩))
  · obtain ⟨k, d, e, h1, hw⟩ := hw
    obtain ⟨p, vs, rfl, e1, r1⟩ := rx.dk_inv
    rcases r1.val (k := k) with ⟨h2, _⟩ | ⟨d', v, h2, h3, r2⟩
    · rw [h1] at h2; cases h2
    · rw [h1] at h2
      cases h2
      exact .inr ⟨p, v, rfl, .inl ⟨vs, k, e1, ry.key e, h3.symm⟩, hq _ _ H (Ext.refl H) r2 hw⟩
  · exact hw.elim
end

/-! ### the short names -/
section
variable {X : Cx} {K : PySem.W.Frag} {ks : List SK} {E : St → XK} {pu pa pb pc : Bool} {kd ka kb kc : Kd} {e a b c : Expr} {t ta tb tc : TE} {w wa wb wc : WE} {pos : Pos}
theorem xAdd (ha : PX X K ks E pu ka a ta wa) (hb : PX X K ks E pu kb b tb wb) (hk : ka.st pu := by first | exact .inl rfl | exact .inr (.inl rfl) | exact .inr (.inr ⟨rfl, rfl⟩)) (hk2 : kb.op := by trivial) : PX X K ks E pu .z (.BinOp a .Add b pos) (tOp (rdAdd K) ta tb) (w2e dAdd wa wb) := by cases ha.hK; exact x_op or_add od_add ha hb hk hk2
theorem xAddP (ha : PX X K ks E pu ka a ta wa) (hb : PX X K ks E true kb b tb wb) (hk : ka.op := by trivial) (hk2 : kb.op := by trivial) : PX X K ks E pu .z (.BinOp a .Add b pos) (tOp (rdAdd K) ta tb) (w2e dAdd wa wb) := by cases ha.hK; exact x_opP or_add od_add ha hb hk hk2
theorem xCat (ha : PX X K ks E pu ka a ta wa) (hb : PX X K ks E pu kb b tb wb) (hk : ka.st pu := by first | exact .inl rfl | exact .inr (.inl rfl) | exact .inr (.inr ⟨rfl, rfl⟩)) (hk2 : kb.op := by trivial) : PX X K ks E pu (.o shL) (.BinOp a .Add b pos) (tOp rCat ta tb) (w2e dCat wa wb) := by cases ha.hK; exact x_opN op_cat on_cat ha hb hk hk2
theorem xSub (ha : PX X K ks E pu ka a ta wa) (hb : PX X K ks E pu kb b tb wb) (hk : ka.st pu := by first | exact .inl rfl | exact .inr (.inl rfl) | exact .inr (.inr ⟨rfl, rfl⟩)) (hk2 : kb.op := by trivial) : PX X K ks E pu .z (.BinOp a .Sub b pos) (tOp (rI0 fun i j => .int (i - j)) ta tb) (w2e dSub wa wb) := by cases ha.hK; exact x_op op_sub od_I0 ha hb hk hk2
theorem xSubP (ha : PX X K ks E pu ka a ta wa) (hb : PX X K ks E true kb b tb wb) (hk : ka.op := by trivial) (hk2 : kb.op := by trivial) : PX X K ks E pu .z (.BinOp a .Sub b pos) (tOp (rI0 fun i j => .int (i - j)) ta tb) (w2e dSub wa wb) := by cases ha.hK; exact x_opP op_sub od_I0 ha hb hk hk2
theorem xMul (ha : PX X K ks E pu ka a ta wa) (hb : PX X K ks E pu kb b tb wb) (hk : ka.st pu := by first | exact .inl rfl | exact .inr (.inl rfl) | exact .inr (.inr ⟨rfl, rfl⟩)) (hk2 : kb.op := by trivial) : PX X K ks E pu .z (.BinOp a .Mult b pos) (tOp (rdMul K) ta tb) (w2e dMul wa wb) := by cases ha.hK; exact x_op or_mul od_mul ha hb hk hk2
theorem xMulP (ha : PX X K ks E pu ka a ta wa) (hb : PX X K ks E true kb b tb wb) (hk : ka.op := by trivial) (hk2 : kb.op := by trivial) : PX X K ks E pu .z (.BinOp a .Mult b pos) (tOp (rdMul K) ta tb) (w2e dMul wa wb) := by cases ha.hK; exact x_opP or_mul od_mul ha hb hk hk2
theorem xFdiv (ha : PX X K ks E pu ka a ta wa) (hb : PX X K ks E pu kb b tb wb) (hk : ka.st pu := by first | exact .inl rfl | exact .inr (.inl rfl) | exact .inr (.inr ⟨rfl, rfl⟩)) (hk2 : kb.op := by trivial) : PX X K ks E pu .z (.BinOp a .FloorDiv b pos) (tOp (rI CDivW fun i j => .int (i / j)) ta tb) (w2e dFdiv wa wb) := by cases ha.hK; exact x_op op_fdivW od_I ha hb hk hk2
theorem xFdivP (ha : PX X K ks E pu ka a ta wa) (hb : PX X K ks E true kb b tb wb) (hk : ka.op := by trivial) (hk2 : kb.op := by trivial) : PX X K ks E pu .z (.BinOp a .FloorDiv b pos) (tOp (rI CDivW fun i j => .int (i / j)) ta tb) (w2e dFdiv wa wb) := by cases ha.hK; exact x_opP op_fdivW od_I ha hb hk hk2
theorem xMod (ha : PX X K ks E pu ka a ta wa) (hb : PX X K ks E pu kb b tb wb) (hk : ka.st pu := by first | exact .inl rfl | exact .inr (.inl rfl) | exact .inr (.inr ⟨rfl, rfl⟩)) (hk2 : kb.op := by trivial) : PX X K ks E pu .z (.BinOp a .Mod b pos) (tOp (rI (fun _ j => 0 < j) fun i j => .int (i % j)) ta tb) (w2e dMod wa wb) := by cases ha.hK; exact x_op op_mod od_I ha hb hk hk2
theorem xModP (ha : PX X K ks E pu ka a ta wa) (hb : PX X K ks E true kb b tb wb) (hk : ka.op := by trivial) (hk2 : kb.op := by trivial) : PX X K ks E pu .z (.BinOp a .Mod b pos) (tOp (rI (fun _ j => 0 < j) fun i j => .int (i % j)) ta tb) (w2e dMod wa wb) := by cases ha.hK; exact x_opP op_mod od_I ha hb hk hk2
theorem xPow (ha : PX X K ks E pu ka a ta wa) (hb : PX X K ks E pu kb b tb wb) (hk : ka.st pu := by first | exact .inl rfl | exact .inr (.inl rfl) | exact .inr (.inr ⟨rfl, rfl⟩)) (hk2 : kb.op := by trivial) : PX X K ks E pu .z (.BinOp a .Pow b pos) (tOp (rI CPow fun i j => .int (i ^ j.toNat)) ta tb) (w2e dPow wa wb) := by cases ha.hK; exact x_op op_pow od_I ha hb hk hk2
theorem xPowP (ha : PX X K ks E pu ka a ta wa) (hb : PX X K ks E true kb b tb wb) (hk : ka.op := by trivial) (hk2 : kb.op := by trivial) : PX X K ks E pu .z (.BinOp a .Pow b pos) (tOp (rI CPow fun i j => .int (i ^ j.toNat)) ta tb) (w2e dPow wa wb) := by cases ha.hK; exact x_opP op_pow od_I ha hb hk hk2
theorem xLt (ha : PX X K ks E pu ka a ta wa) (hb : PX X K ks E pu kb b tb wb) (hk : ka.st pu := by first | exact .inl rfl | exact .inr (.inl rfl) | exact .inr (.inr ⟨rfl, rfl⟩)) (hk2 : kb.op := by trivial) : PX X K ks E pu .z (.Compare a [.Lt] [b] pos) (tOp (rdOrd (fun i j => decide (i < j)) sLt) ta tb) (w2e dLt wa wb) := by cases ha.hK; exact x_cmp or_lt od_ord ha hb (nomark _) hk hk2
theorem xLtP (ha : PX X K ks E pu ka a ta wa) (hb : PX X K ks E true kb b tb wb) (hk : ka.op := by trivial) (hk2 : kb.op := by trivial) : PX X K ks E pu .z (.Compare a [.Lt] [b] pos) (tOp (rdOrd (fun i j => decide (i < j)) sLt) ta tb) (w2e dLt wa wb) := by cases ha.hK; exact x_cmpP or_lt od_ord ha hb (nomark _) hk hk2
theorem xLe (ha : PX X K ks E pu ka a ta wa) (hb : PX X K ks E pu kb b tb wb) (hk : ka.st pu := by first | exact .inl rfl | exact .inr (.inl rfl) | exact .inr (.inr ⟨rfl, rfl⟩)) (hk2 : kb.op := by trivial) : PX X K ks E pu .z (.Compare a [.LtE] [b] pos) (tOp (rdOrd (fun i j => decide (i ≤ j)) fun i j => !sLt j i) ta tb) (w2e dLe wa wb) := by cases ha.hK; exact x_cmp or_le od_ord ha hb (nomark _) hk hk2
theorem xLeP (ha : PX X K ks E pu ka a ta wa) (hb : PX X K ks E true kb b tb wb) (hk : ka.op := by trivial) (hk2 : kb.op := by trivial) : PX X K ks E pu .z (.Compare a [.LtE] [b] pos) (tOp (rdOrd (fun i j => decide (i ≤ j)) fun i j => !sLt j i) ta tb) (w2e dLe wa wb) := by cases ha.hK; exact x_cmpP or_le od_ord ha hb (nomark _) hk hk2
theorem xGt (ha : PX X K ks E pu ka a ta wa) (hb : PX X K ks E pu kb b tb wb) (hk : ka.st pu := by first | exact .inl rfl | exact .inr (.inl rfl) | exact .inr (.inr ⟨rfl, rfl⟩)) (hk2 : kb.op := by trivial) : PX X K ks E pu .z (.Compare a [.Gt] [b] pos) (tOp (rdOrd (fun i j => decide (j < i)) fun i j => sLt j i) ta tb) (w2e dGt wa wb) := by cases ha.hK; exact x_cmp or_gt od_ord ha hb (nomark _) hk hk2
theorem xGtP (ha : PX X K ks E pu ka a ta wa) (hb : PX X K ks E true kb b tb wb) (hk : ka.op := by trivial) (hk2 : kb.op := by trivial) : PX X K ks E pu .z (.Compare a [.Gt] [b] pos) (tOp (rdOrd (fun i j => decide (j < i)) fun i j => sLt j i) ta tb) (w2e dGt wa wb) := by cases ha.hK; exact x_cmpP or_gt od_ord ha hb (nomark _) hk hk2
theorem xGe (ha : PX X K ks E pu ka a ta wa) (hb : PX X K ks E pu kb b tb wb) (hk : ka.st pu := by first | exact .inl rfl | exact .inr (.inl rfl) | exact .inr (.inr ⟨rfl, rfl⟩)) (hk2 : kb.op := by trivial) : PX X K ks E pu .z (.Compare a [.GtE] [b] pos) (tOp (rdOrd (fun i j => decide (j ≤ i)) fun i j => !sLt i j) ta tb) (w2e dGe wa wb) := by cases ha.hK; exact x_cmp or_ge od_ord ha hb (nomark _) hk hk2
theorem xGeP (ha : PX X K ks E pu ka a ta wa) (hb : PX X K ks E true kb b tb wb) (hk : ka.op := by trivial) (hk2 : kb.op := by trivial) : PX X K ks E pu .z (.Compare a [.GtE] [b] pos) (tOp (rdOrd (fun i j => decide (j ≤ i)) fun i j => !sLt i j) ta tb) (w2e dGe wa wb) := by cases ha.hK; exact x_cmpP or_ge od_ord ha hb (nomark _) hk hk2
theorem xEq (hu : X.A.units + 64 < cLine) (ha : PX X K ks E pu ka a ta wa) (hb : PX X K ks E pu kb b tb wb) (hk : ka.st pu := by first | exact .inl rfl | exact .inr (.inl rfl) | exact .inr (.inr ⟨rfl, rfl⟩)) (hk2 : kb.op := by trivial) : PX X K ks E pu .z (.Compare a [.Eq] [b] pos) (tOp (rEqD K) ta tb) (w2e dEq wa wb) := by cases ha.hK; exact x_cmp (op_eqD hu) od_eq ha hb (nomark _) hk hk2
theorem xEqP (hu : X.A.units + 64 < cLine) (ha : PX X K ks E pu ka a ta wa) (hb : PX X K ks E true kb b tb wb) (hk : ka.op := by trivial) (hk2 : kb.op := by trivial) : PX X K ks E pu .z (.Compare a [.Eq] [b] pos) (tOp (rEqD K) ta tb) (w2e dEq wa wb) := by cases ha.hK; exact x_cmpP (op_eqD hu) od_eq ha hb (nomark _) hk hk2
theorem xNe (hu : X.A.units + 64 < cLine) (ha : PX X K ks E pu ka a ta wa) (hb : PX X K ks E pu kb b tb wb) (hk : ka.st pu := by first | exact .inl rfl | exact .inr (.inl rfl) | exact .inr (.inr ⟨rfl, rfl⟩)) (hk2 : kb.op := by trivial) : PX X K ks E pu .z (.Compare a [.NotEq] [b] pos) (tOp (rNeD K) ta tb) (w2e dNe wa wb) := by cases ha.hK; exact x_cmp (op_neD hu) od_ne ha hb (nomark _) hk hk2
theorem xNeP (hu : X.A.units + 64 < cLine) (ha : PX X K ks E pu ka a ta wa) (hb : PX X K ks E true kb b tb wb) (hk : ka.op := by trivial) (hk2 : kb.op := by trivial) : PX X K ks E pu .z (.Compare a [.NotEq] [b] pos) (tOp (rNeD K) ta tb) (w2e dNe wa wb) := by cases ha.hK; exact x_cmpP (op_neD hu) od_ne ha hb (nomark _) hk hk2
theorem xIsN (ha : PX X K ks E pu ka a ta wa) (hb : PX X K ks E pu kb b tb wb) (hk : ka.st pu := by first | exact .inl rfl | exact .inr (.inl rfl) | exact .inr (.inr ⟨rfl, rfl⟩)) (hk2 : kb.op := by trivial) : PX X K ks E pu .z (.Compare a [.Is] [b] pos) (tOp rdIsN ta tb) (w2e dIsN wa wb) := by cases ha.hK; exact x_cmp op_isN od_isN ha hb (nomark _) hk hk2
theorem xIsNP (ha : PX X K ks E pu ka a ta wa) (hb : PX X K ks E true kb b tb wb) (hk : ka.op := by trivial) (hk2 : kb.op := by trivial) : PX X K ks E pu .z (.Compare a [.Is] [b] pos) (tOp rdIsN ta tb) (w2e dIsN wa wb) := by cases ha.hK; exact x_cmpP op_isN od_isN ha hb (nomark _) hk hk2
theorem xNotN (ha : PX X K ks E pu ka a ta wa) (hb : PX X K ks E pu kb b tb wb) (hk : ka.st pu := by first | exact .inl rfl | exact .inr (.inl rfl) | exact .inr (.inr ⟨rfl, rfl⟩)) (hk2 : kb.op := by trivial) : PX X K ks E pu .z (.Compare a [.IsNot] [b] pos) (tOp rdNotN ta tb) (w2e dNotN wa wb) := by cases ha.hK; exact x_cmp op_notN od_notN ha hb (nomark _) hk hk2
theorem xNotNP (ha : PX X K ks E pu ka a ta wa) (hb : PX X K ks E true kb b tb wb) (hk : ka.op := by trivial) (hk2 : kb.op := by trivial) : PX X K ks E pu .z (.Compare a [.IsNot] [b] pos) (tOp rdNotN ta tb) (w2e dNotN wa wb) := by cases ha.hK; exact x_cmpP op_notN od_notN ha hb (nomark _) hk hk2
theorem xIn (hu : X.A.units + 64 < cLine) (hm : behindInMarks .In b = false) (ha : PX X K ks E pu ka a ta wa) (hb : PX X K ks E pu kb b tb wb) (hk : ka.st pu := by first | exact .inl rfl | exact .inr (.inl rfl) | exact .inr (.inr ⟨rfl, rfl⟩)) (hk2 : kb.op := by trivial) : PX X K ks E pu .z (.Compare a [.In] [b] pos) (tOp (rdIn K) ta tb) (w2e (dInW false) wa wb) := by cases ha.hK; exact x_cmp (or_in hu) od_in ha hb hm hk hk2
theorem xInP (hu : X.A.units + 64 < cLine) (hm : behindInMarks .In b = false) (ha : PX X K ks E pu ka a ta wa) (hb : PX X K ks E true kb b tb wb) (hk : ka.op := by trivial) (hk2 : kb.op := by trivial) : PX X K ks E pu .z (.Compare a [.In] [b] pos) (tOp (rdIn K) ta tb) (w2e (dInW false) wa wb) := by cases ha.hK; exact x_cmpP (or_in hu) od_in ha hb hm hk hk2
theorem xNotIn (hu : X.A.units + 64 < cLine) (hm : behindInMarks .NotIn b = false) (ha : PX X K ks E pu ka a ta wa) (hb : PX X K ks E pu kb b tb wb) (hk : ka.st pu := by first | exact .inl rfl | exact .inr (.inl rfl) | exact .inr (.inr ⟨rfl, rfl⟩)) (hk2 : kb.op := by trivial) : PX X K ks E pu .z (.Compare a [.NotIn] [b] pos) (tOp (rdNotIn K) ta tb) (w2e (dInW true) wa wb) := by cases ha.hK; exact x_cmp (or_notin hu) od_notin ha hb hm hk hk2
theorem xNotInP (hu : X.A.units + 64 < cLine) (hm : behindInMarks .NotIn b = false) (ha : PX X K ks E pu ka a ta wa) (hb : PX X K ks E true kb b tb wb) (hk : ka.op := by trivial) (hk2 : kb.op := by trivial) : PX X K ks E pu .z (.Compare a [.NotIn] [b] pos) (tOp (rdNotIn K) ta tb) (w2e (dInW true) wa wb) := by cases ha.hK; exact x_cmpP (or_notin hu) od_notin ha hb hm hk hk2
theorem xIx (hu : X.A.units + 64 < cLine) (ha : PX X K ks E pu ka a ta wa) (hb : PX X K ks E pu kb b tb wb) (hs : PlainIx b := by exact fun _ _ => rfl) (hk : ka.st pu := by first | exact .inl rfl | exact .inr (.inl rfl) | exact .inr (.inr ⟨rfl, rfl⟩)) (hk2 : kb.op := by trivial) : PX X K ks E pu .z (.Subscript a b pos) (tOp (rdIx K) ta tb) (w2e dIx wa wb) := by cases ha.hK; exact ⟨rfl, pe_ix (ixr_all hu) ha.pe hb.pe hs, snd_op od_ix ha.snd hb.snd hk hk2⟩
theorem xIxP (hu : X.A.units + 64 < cLine) (ha : PX X K ks E pu ka a ta wa) (hb : PX X K ks E true kb b tb wb) (hs : PlainIx b := by exact fun _ _ => rfl) (hk : ka.op := by trivial) (hk2 : kb.op := by trivial) : PX X K ks E pu .z (.Subscript a b pos) (tOp (rdIx K) ta tb) (w2e dIx wa wb) := by cases ha.hK; exact ⟨rfl, pe_ix (ixr_all hu) ha.pe hb.pe hs, snd_opP od_ix ha.snd hb.snd hk hk2⟩
end
end Fw

/-! Fw5: tests, and, or, not, conditional expressions, chains, argument lists, displays, built-ins by name, slices. -/
namespace Fw
open PySem L2

section
variable {X : Cx} {K : PySem.W.Frag} {ks : List SK} {E : L2.St → XK} {pu pa pb pc : Bool} {kd ka kb kc : Kd} {e a b c : Expr} {es rest : List Expr} {t ta tb tc : TE} {w wa wb wc : WE} {pos : Pos} {tt ut : TT} {wt vt : WB}

/-! ### tests -/
def wB (w : WE) : WB := fun ρ Ψ Ξ => w ρ (fun d ρ' => match d with | .bl b => Ψ b ρ' | _ => False) Ξ
theorem Res.bl {K : PySem.W.Frag} {O : Gh} {Fs Fs' : Nat → AS} {H H' : Hp} {ρ' : Env} {σ : L2.St} {v : V} {b : Bool} (hk : kd.op) (h : Res K ks O Fs H kd ρ' Fs' σ v (.bl b) H') : v = .bl b ∧ Repr K ks O Fs' ρ' σ H' := ⟨(h.rt hk).2.bl_inv, (h.rt hk).1⟩
theorem snd_B (h : Snd K ks E pu kd t w) (hk : kd.op) : SndB K ks E pu (tB t) (wB w) := fun O Fs ρ σ H Ψ Ξ Q R hw hq hx => by
  refine h O Fs ρ σ H _ Ξ _ R hw (fun d ρ' Fs' v H' u f r p => ?_) hx
  cases d with
  | bl b => exact ⟨b, (r.bl hk).1, hq b ρ' Fs' H' u f (r.bl hk).2 p⟩
  | _ => exact p.elim
theorem bB (h : PX X K ks E pu kd e t w) (hk : kd.op := by trivial) (he : ∀ whole, isTrue e X.env whole = (do let v ← whole; standAt e.pos; holding [v] (truthy v)) := by intro _; rfl) : PB X K ks E pu e (tB t) (wB w) := by cases h.hK; exact ⟨rfl, pt_val h.pe he, snd_B h.snd hk⟩
/-- a comparison as a test -/
theorem bC {op : CmpOp} {r : R2} {w2 : W2} (o : OpD K r w2) (ho : OpR X (compareOp op) r) (ha : PX X K ks E pu ka a ta wa) (hb : PX X K ks E pu kb b tb wb) (hm : behindInMarks op b = false := by first | exact nomark _ | rfl) (hk : ka.st pu := by first | exact .inl rfl | exact .inr (.inl rfl) | exact .inr (.inr ⟨rfl, rfl⟩)) (hk2 : kb.op := by trivial) :
    PB X K ks E pu (.Compare a [op] [b] pos) (tTest (tOp r ta tb)) (wB (w2e w2 wa wb)) := by cases ha.hK; exact ⟨rfl, pt_cmpR ho ha.pe hb.pe hm, snd_B (snd_op o ha.snd hb.snd hk hk2) trivial⟩
theorem bCP {op : CmpOp} {r : R2} {w2 : W2} (o : OpD K r w2) (ho : OpR X (compareOp op) r) (ha : PX X K ks E pu ka a ta wa) (hb : PX X K ks E true kb b tb wb) (hm : behindInMarks op b = false := by first | exact nomark _ | rfl) (hk : ka.op := by trivial) (hk2 : kb.op := by trivial) :
    PB X K ks E pu (.Compare a [op] [b] pos) (tTest (tOp r ta tb)) (wB (w2e w2 wa wb)) := by cases ha.hK; exact ⟨rfl, pt_cmpR ho ha.pe hb.pe hm, snd_B (snd_opP o ha.snd hb.snd hk hk2) trivial⟩
/-- truth -/
def dTru (d : D) (Ψ : Bool → Prop) : Prop := match d with
  | .non => Ψ false
  | .bl b => Ψ b
  | .int i => Ψ (i != 0)
  | .str y => y.length ≤ sizeLine ∧ Ψ ((y.length : Int) != 0)
  | .lst xs => Ψ (!xs.isEmpty)
  | .tup xs => Ψ (!xs.isEmpty)
  | _ => False
theorem RpL.isEmpty {K : PySem.W.Frag} {A : AS} {H : Hp} {vs : List V} {ds : List D} (r : RpL K A H vs ds) : vs.isEmpty = ds.isEmpty := by cases r <;> rfl
theorem tru_of {K : PySem.W.Frag} {A : AS} {H : Hp} {v : V} {d : D} {Ψ : Bool → Prop} (r : RT K A H v d) (h : dTru d Ψ) : ∃ k, TruV K v H k ∧ Ψ k := by
  unfold dTru at h
  split at h
  · cases r.non_inv; exact ⟨_, rfl, h⟩
  · cases r.bl_inv; exact ⟨_, rfl, h⟩
  · cases r.int_inv; exact ⟨_, rfl, h⟩
  · cases r.str_inv; exact ⟨_, ⟨h.1, rfl⟩, h.2⟩
  · obtain ⟨p, vs, rfl, e1, r1⟩ := r.lst_inv
    exact ⟨_, .inl ⟨vs, SqL.of e1, by rw [r1.isEmpty]⟩, h⟩
  · obtain ⟨p, vs, rfl, e1, r1⟩ := r.tup_inv
    exact ⟨_, .inr (.inl ⟨vs, e1, by rw [r1.isEmpty]⟩), h⟩
  · exact h.elim
def wTr (w : WE) : WB := fun ρ Ψ Ξ => w ρ (fun d ρ' => dTru d fun b => Ψ b ρ') Ξ
abbrev tTruth (K : PySem.W.Frag) (t : TE) : TT := fun σ H Q => t σ H fun x H' => ∃ k, TruV K x H' k ∧ Q k H'
theorem bT (h : PX X K ks E pu kd e t w) (hk : kd.op := by trivial) (he : ∀ whole, isTrue e X.env whole = (do let v ← whole; standAt e.pos; holding [v] (truthy v)) := by intro _; rfl) : PB X K ks E pu e (tTruth K t) (wTr w) := by cases h.hK; exact ⟨rfl, pt_truth h.pe he, fun O Fs ρ σ H Ψ Ξ Q R hw hq hx => by
    refine h.snd O Fs ρ σ H _ Ξ _ R hw (fun d ρ' Fs' v H' u f r p => ?_) hx
    obtain ⟨R', y⟩ := r.rt hk
    obtain ⟨k, h1, h2⟩ := tru_of y p
    exact ⟨k, h1, hq k ρ' Fs' H' u f R' h2⟩⟩
/-! ### and, or, not in tests -/
def wAnd (w v : WB) : WB := fun ρ Ψ Ξ => w ρ (fun c ρ1 => if c = true then v ρ1 Ψ Ξ else Ψ false ρ1) Ξ
def wOr (w v : WB) : WB := fun ρ Ψ Ξ => w ρ (fun c ρ1 => if c = true then Ψ true ρ1 else v ρ1 Ψ Ξ) Ξ
def wNot (w : WB) : WB := fun ρ Ψ Ξ => w ρ (fun c ρ1 => Ψ (!c) ρ1) Ξ
theorem PB.weak (h : PB X K ks E pu e tt wt) : PB X K ks E false e tt wt := by cases h.hK; exact ⟨rfl, h.pt, fun O Fs ρ σ H Ψ Ξ Q R hw hq hx => h.snd O Fs ρ σ H Ψ Ξ Q R hw (fun b ρ' Fs' H' _ f r p => hq b ρ' Fs' H' (fun z => by cases z) f r p) hx⟩
theorem snd_and (h : SndB K ks E pu tt wt) (h2 : SndB K ks E pu ut vt) : SndB K ks E pu (tAnd tt ut) (wAnd wt vt) := fun O Fs ρ σ H Ψ Ξ Q R hw hq hx => by
  refine h O Fs ρ σ H _ Ξ _ R hw (fun b ρ1 Fs1 H1 u1 f1 R1 p1 => ?_) hx
  cases b with
  | true =>
    rw [if_pos rfl] at p1 ⊢
    exact h2 O Fs1 ρ1 σ H1 Ψ Ξ Q R1 p1 (fun b ρ2 Fs2 H2 u2 f2 R2 p2 => hq b ρ2 Fs2 H2 (u1.trans u2) (f1.trans f2) R2 p2) (hx.step f1)
  | false =>
    rw [if_neg Bool.false_ne_true] at p1 ⊢
    exact hq false ρ1 Fs1 H1 u1 f1 R1 p1
theorem snd_or (h : SndB K ks E pu tt wt) (h2 : SndB K ks E pu ut vt) : SndB K ks E pu (tOr tt ut) (wOr wt vt) := fun O Fs ρ σ H Ψ Ξ Q R hw hq hx => by
  refine h O Fs ρ σ H _ Ξ _ R hw (fun b ρ1 Fs1 H1 u1 f1 R1 p1 => ?_) hx
  cases b with
  | false =>
    rw [if_neg Bool.false_ne_true] at p1 ⊢
    exact h2 O Fs1 ρ1 σ H1 Ψ Ξ Q R1 p1 (fun b ρ2 Fs2 H2 u2 f2 R2 p2 => hq b ρ2 Fs2 H2 (u1.trans u2) (f1.trans f2) R2 p2) (hx.step f1)
  | true =>
    rw [if_pos rfl] at p1 ⊢
    exact hq true ρ1 Fs1 H1 u1 f1 R1 p1
theorem bOne {op : BoolOp} (h : PB X K ks E pu a tt wt) (hh : op = .And ∨ op = .Or := by first | exact .inl rfl | exact .inr rfl) : PBW X K ks E pu (.BoolOp op [a] pos) tt wt := by
  cases h.hK
  rcases hh with rfl | rfl
  · exact ⟨rfl, pw_and1 h.pt, h.snd⟩
  · exact ⟨rfl, pw_or1 h.pt, h.snd⟩
theorem bAnd (h : PB X K ks E pu a tt wt) (h2 : PBW X K ks E pu (.BoolOp .And (b :: rest) pos) ut vt) : PBW X K ks E pu (.BoolOp .And (a :: b :: rest) pos) (tAnd tt ut) (wAnd wt vt) := by cases h.hK; exact ⟨rfl, pw_and h.pt h2.pw, snd_and h.snd h2.snd⟩
theorem bOr (h : PB X K ks E pu a tt wt) (h2 : PBW X K ks E pu (.BoolOp .Or (b :: rest) pos) ut vt) : PBW X K ks E pu (.BoolOp .Or (a :: b :: rest) pos) (tOr tt ut) (wOr wt vt) := by cases h.hK; exact ⟨rfl, pw_or h.pt h2.pw, snd_or h.snd h2.snd⟩
theorem PBW.toB (h : PBW X K ks E pu e tt wt) : PB X K ks E pu e tt wt := by cases h.hK; exact ⟨rfl, h.pw.pt, h.snd⟩
theorem bNot (h : PB X K ks E pu a tt wt) : PB X K ks E pu (.UnaryOp .Not a pos) (tNot tt) (wNot wt) := by cases h.hK; exact ⟨rfl, pt_not h.pt, fun O Fs ρ σ H Ψ Ξ Q R hw hq hx =>
  h.snd O Fs ρ σ H _ Ξ _ R hw (fun b ρ1 Fs1 H1 u1 f1 R1 p1 => hq (!b) ρ1 Fs1 H1 u1 f1 R1 p1) hx⟩
/-! ### and, or, not as values (of bools but the last) -/
def wAndV (w v : WE) : WE := fun ρ Ψ Ξ => w ρ (fun d ρ1 => match d with | .bl c => (if c = true then v ρ1 Ψ Ξ else Ψ (.bl false) ρ1) | _ => False) Ξ
def wOrV (w v : WE) : WE := fun ρ Ψ Ξ => w ρ (fun d ρ1 => match d with | .bl c => (if c = true then Ψ (.bl true) ρ1 else v ρ1 Ψ Ξ) | _ => False) Ξ
def wNotV (w : WE) : WE := fun ρ Ψ Ξ => w ρ (fun d ρ1 => dTru d fun b => Ψ (.bl (!b)) ρ1) Ξ
theorem snd_andV (h : Snd K ks E pu ka ta wa) (h2 : Snd K ks E pu .z tb wb) (hk : ka.op) : Snd K ks E pu .z (tAndV ta tb) (wAndV wa wb) := fun O Fs ρ σ H Ψ Ξ Q R hw hq hx => by
  refine h O Fs ρ σ H _ Ξ _ R hw (fun d ρ1 Fs1 v H1 u1 f1 r1 p1 => ?_) hx
  cases d with
  | bl c =>
    refine ⟨c, (r1.bl hk).1, ?_⟩
    have R1 := (r1.bl hk).2
    cases c with
    | true =>
      rw [if_pos rfl]
      exact h2 O Fs1 ρ1 σ H1 Ψ Ξ Q R1 (by simpa using p1) (fun d ρ2 Fs2 v H2 u2 f2 r2 p2 => hq d ρ2 Fs2 v H2 (u1.trans u2) (f1.trans f2) r2 p2) (hx.step f1)
    | false =>
      rw [if_neg Bool.false_ne_true]
      exact hq _ ρ1 Fs1 _ H1 u1 f1 ⟨R1, .bl _⟩ (by simpa using p1)
  | _ => exact p1.elim
theorem snd_orV (h : Snd K ks E pu ka ta wa) (h2 : Snd K ks E pu .z tb wb) (hk : ka.op) : Snd K ks E pu .z (tOrV ta tb) (wOrV wa wb) := fun O Fs ρ σ H Ψ Ξ Q R hw hq hx => by
  refine h O Fs ρ σ H _ Ξ _ R hw (fun d ρ1 Fs1 v H1 u1 f1 r1 p1 => ?_) hx
  cases d with
  | bl c =>
    refine ⟨c, (r1.bl hk).1, ?_⟩
    have R1 := (r1.bl hk).2
    cases c with
    | false =>
      rw [if_neg Bool.false_ne_true]
      exact h2 O Fs1 ρ1 σ H1 Ψ Ξ Q R1 (by simpa using p1) (fun d ρ2 Fs2 v H2 u2 f2 r2 p2 => hq d ρ2 Fs2 v H2 (u1.trans u2) (f1.trans f2) r2 p2) (hx.step f1)
    | true =>
      rw [if_pos rfl]
      exact hq _ ρ1 Fs1 _ H1 u1 f1 ⟨R1, .bl _⟩ (by simpa using p1)
  | _ => exact p1.elim
theorem vOne {op : BoolOp} (h : PX X K ks E pu ka a ta wa) : PX X K ks E pu ka (.BoolOp op [a] pos) ta wa := by cases h.hK; exact ⟨rfl, pe_one h.pe, h.snd⟩
theorem vAnd (h : PX X K ks E pu ka a ta wa) (h2 : PX X K ks E pu .z (.BoolOp .And (b :: rest) pos) tb wb) (hk : ka.op := by trivial) : PX X K ks E pu .z (.BoolOp .And (a :: b :: rest) pos) (tAndV ta tb) (wAndV wa wb) := by cases h.hK; exact ⟨rfl, pe_and h.pe h2.pe, snd_andV h.snd h2.snd hk⟩
theorem vOr (h : PX X K ks E pu ka a ta wa) (h2 : PX X K ks E pu .z (.BoolOp .Or (b :: rest) pos) tb wb) (hk : ka.op := by trivial) : PX X K ks E pu .z (.BoolOp .Or (a :: b :: rest) pos) (tOrV ta tb) (wOrV wa wb) := by cases h.hK; exact ⟨rfl, pe_or h.pe h2.pe, snd_orV h.snd h2.snd hk⟩
theorem vNot (h : PX X K ks E pu kd a t w) (hk : kd.op := by trivial) : PX X K ks E pu .z (.UnaryOp .Not a pos) (tNotT K t) (wNotV w) := by cases h.hK; exact ⟨rfl, pe_notT h.pe, fun O Fs ρ σ H Ψ Ξ Q R hw hq hx => by
  refine h.snd O Fs ρ σ H _ Ξ _ R hw (fun d ρ' Fs' v H' u f r p => ?_) hx
  obtain ⟨R', y⟩ := r.rt hk
  obtain ⟨k, h1, h2⟩ := tru_of y p
  exact ⟨k, h1, hq (.bl (!k)) ρ' Fs' _ H' u f ⟨R', .bl _⟩ h2⟩⟩
/-! ### a if t else b -/
def wIf (wt : WB) (wa wb : WE) : WE := fun ρ Ψ Ξ => wt ρ (fun c ρ1 => if c = true then wa ρ1 Ψ Ξ else wb ρ1 Ψ Ξ) Ξ
theorem snd_if (h : SndB K ks E pu tt wt) (ha : Snd K ks E pu .z ta wa) (hb : Snd K ks E pu .z tb wb) : Snd K ks E pu .z (tIf tt ta tb) (wIf wt wa wb) := fun O Fs ρ σ H Ψ Ξ Q R hw hq hx => by
  refine h O Fs ρ σ H _ Ξ _ R hw (fun c ρ1 Fs1 H1 u1 f1 R1 p1 => ?_) hx
  cases c with
  | true =>
    rw [if_pos rfl] at p1 ⊢
    exact ha O Fs1 ρ1 σ H1 Ψ Ξ Q R1 p1 (fun d ρ2 Fs2 v H2 u2 f2 r2 p2 => hq d ρ2 Fs2 v H2 (u1.trans u2) (f1.trans f2) r2 p2) (hx.step f1)
  | false =>
    rw [if_neg Bool.false_ne_true] at p1 ⊢
    exact hb O Fs1 ρ1 σ H1 Ψ Ξ Q R1 p1 (fun d ρ2 Fs2 v H2 u2 f2 r2 p2 => hq d ρ2 Fs2 v H2 (u1.trans u2) (f1.trans f2) r2 p2) (hx.step f1)
theorem xIf (h : PB X K ks E pu c tt wt) (ha : PX X K ks E pu .z a ta wa) (hb : PX X K ks E pu .z b tb wb) : PX X K ks E pu .z (.IfExp c a b pos) (tIf tt ta tb) (wIf wt wa wb) := by cases h.hK; exact ⟨rfl, pe_ifExp h.pt ha.pe hb.pe, snd_if h.snd ha.snd hb.snd⟩

/-! ### a < b < c, of pure parts -/
def wChain (w2 w2' : W2) (wa wb wc : WE) : WE := fun ρ Ψ Ξ => wa ρ (fun x ρ1 => wb ρ1 (fun y ρ2 => w2 x y fun d => match d with | .bl k => (if k = true then wc ρ2 (fun z ρ3 => w2' y z fun d => Ψ d ρ3) Ξ else Ψ (.bl false) ρ2) | _ => False) Ξ) Ξ
theorem snd_chain {r r' : R2} {w2 w2' : W2} (o : OpD K r w2) (o' : OpD K r' w2') (ha : Snd K ks E pu .z ta wa) (hb : Snd K ks E pu .z tb wb) (hc : Snd K ks E pu .z tc wc) : Snd K ks E pu .z (tChain r r' ta tb tc) (wChain w2 w2' wa wb wc) := fun O Fs ρ σ H Ψ Ξ Q R hw hq hx => by
  refine ha O Fs ρ σ H _ Ξ _ R hw (fun dx ρ1 Fs1 x H1 u1 f1 r1 p1 => ?_) hx
  refine hb O Fs1 ρ1 σ H1 _ Ξ _ r1.1 p1 (fun dy ρ2 Fs2 y H2 u2 f2 r2 p2 => ?_) (hx.step f1)
  refine o _ H2 x y dx dy _ _ (fun a => r2.1.adom) (.of (r1.2.mono f2.mo)) (.of r2.2) p2 fun d v H3 e rp z => ?_
  cases d with
  | bl k =>
    refine ⟨k, (by cases rp; rfl), ?_⟩
    have R3 := r2.1.ext e
    have u3 : Pu pu ρ ρ2 Fs Fs2 H H3 := (u1.trans u2).ext e
    have f3 := f1.trans (f2.trans e.fr)
    cases k with
    | true =>
      rw [if_pos rfl]
      refine hc O Fs2 ρ2 σ H3 _ Ξ _ R3 (by simpa using z) (fun dz ρ4 Fs4 zv H4 u4 f4 r4 p4 => ?_) (hx.step f3)
      exact o' _ H4 y zv dy dz _ _ (fun a => r4.1.adom) (.of ((r2.2.mono e.mo).mono f4.mo)) (.of r4.2) p4 fun d v H5 e5 rp5 z5 => hq d ρ4 Fs4 v H5 ((u3.trans u4).ext e5) (f3.trans (f4.trans e5.fr)) ⟨r4.1.ext e5, rp5⟩ z5
    | false =>
      rw [if_neg Bool.false_ne_true]
      exact hq _ ρ2 Fs2 _ H3 u3 f3 ⟨R3, .bl _⟩ (by simpa using z)
  | _ => exact z.elim
theorem x_chain {op op' : CmpOp} {r r' : R2} {w2 w2' : W2} (o : OpD K r w2) (ho : OpR X (compareOp op) r) (o' : OpD K r' w2') (ho' : OpR X (compareOp op') r') (ha : PX X K ks E pu .z a ta wa) (hb : PX X K ks E pu .z b tb wb) (hc : PX X K ks E pu .z c tc wc) (hm : lastMarks [op, op'] [b, c] = false := by with_unfolding_all rfl) :
    PX X K ks E pu .z (.Compare a [op, op'] [b, c] pos) (tChain r r' ta tb tc) (wChain w2 w2' wa wb wc) := by cases ha.hK; exact ⟨rfl, pe_chain ho ho' ha.pe hb.pe hc.pe hm, snd_chain o o' ha.snd hb.snd hc.snd⟩
theorem b_chain {op op' : CmpOp} {r r' : R2} {w2 w2' : W2} (o : OpD K r w2) (ho : OpR X (compareOp op) r) (o' : OpD K r' w2') (ho' : OpR X (compareOp op') r') (ha : PX X K ks E pu .z a ta wa) (hb : PX X K ks E pu .z b tb wb) (hc : PX X K ks E pu .z c tc wc) (hm : lastMarks [op, op'] [b, c] = false := by with_unfolding_all rfl) :
    PB X K ks E pu (.Compare a [op, op'] [b, c] pos) (tTest (tChain r r' ta tb tc)) (wB (wChain w2 w2' wa wb wc)) := by cases ha.hK; exact ⟨rfl, pt_chain ho ho' ha.pe hb.pe hc.pe hm, snd_B (snd_chain o o' ha.snd hb.snd hc.snd) trivial⟩

/-! ### argument lists by values -/
abbrev WA := Env → (List D → Env → Prop) → (Exc → Env → Prop) → Prop
/-- plain data -/
def SndA (K : PySem.W.Frag) (ks : List SK) (E : L2.St → XK) (pu : Bool) (t : TA) (w : WA) : Prop :=
  ∀ O Fs ρ σ H Ψ Ξ Q, Repr K ks O Fs ρ σ H → w ρ Ψ Ξ → (∀ ds ρ' Fs' vs H', Pu pu ρ ρ' Fs Fs' H H' → Fr Fs H Fs' H' → Repr K ks O Fs' ρ' σ H' → RpL K (av O Fs') H' vs ds → Ψ ds ρ' → Q vs H') → LkX K ks O Fs σ H Ξ (E σ) → t σ H Q
structure PXs (X : Cx) (K : PySem.W.Frag) (ks : List SK) (E : L2.St → XK) (pu : Bool) (es : List Expr) (t : TA) (w : WA) : Prop where
  hK : X.K = K
  pa : PA X es t
  snd : SndA K ks E pu t w
def wNil : WA := fun ρ Ψ _ => Ψ [] ρ
def wCons (w : WE) (ws : WA) : WA := fun ρ Ψ Ξ => w ρ (fun d ρ1 => ws ρ1 (fun ds ρ2 => Ψ (d :: ds) ρ2) Ξ) Ξ
theorem aNil (hK : X.K = K := by rfl) : PXs X K ks E pu [] tNil wNil := by cases hK; exact ⟨rfl, pa_nil, fun O Fs ρ σ H Ψ Ξ Q R hw hq hx => hq [] ρ Fs [] H (fun _ => ⟨rfl, rfl, Ext.refl H⟩) (Fr.refl _ _) R .nil hw⟩
theorem aCons {ts : TA} {ws : WA} (h : PX X K ks E pu .z e t w) (hr : PXs X K ks E pu es ts ws) (hs : starEach (e :: es) X.env = (false, eval e X.env) :: starEach es X.env := by rfl) : PXs X K ks E pu (e :: es) (tCons t ts) (wCons w ws) := by cases h.hK; exact ⟨rfl, pa_cons h.pe hr.pa hs, fun O Fs ρ σ H Ψ Ξ Q R hw hq hx => by
  refine h.snd O Fs ρ σ H _ Ξ _ R hw (fun d ρ1 Fs1 v H1 u1 f1 r1 p1 => ?_) hx
  refine hr.snd O Fs1 ρ1 σ H1 _ Ξ _ r1.1 p1 (fun ds ρ2 Fs2 vs H2 u2 f2 R2 r2 p2 => ?_) (hx.step f1)
  exact hq (d :: ds) ρ2 Fs2 (v :: vs) H2 (u1.trans u2) (f1.trans f2) R2 (.cons (r1.2.mono f2.mo) r2) p2⟩
/-! ### displays -/
def wTup (w : WA) : WE := fun ρ Ψ Ξ => w ρ (fun ds ρ' => ds.length ≤ sizeLine ∧ Ψ (.tup ds) ρ') Ξ
def wLst (w : WA) : WE := fun ρ Ψ Ξ => w ρ (fun ds ρ' => ds.length ≤ sizeLine ∧ Ψ (.lst ds) ρ') Ξ
theorem xTup {ts : TA} {ws : WA} {x1} (h : PXs X K ks E pu es ts ws) : PX X K ks E pu .z (.Tuple es x1 pos) (tTup ts) (wTup ws) := by cases h.hK; exact ⟨rfl, pe_tup h.pa, fun O Fs ρ σ H Ψ Ξ Q R hw hq hx =>
  h.snd O Fs ρ σ H _ Ξ _ R hw (fun ds ρ1 Fs1 vs H1 u1 f1 R1 r1 p1 => ⟨by rw [r1.length]; exact p1.1, fun p hp => hq _ ρ1 Fs1 _ _ (u1.ext (Ext.upd hp)) (f1.trans (Ext.upd hp).fr) ⟨R1.ext (Ext.upd hp), .tup (R1.new hp) (hc_tup.mpr upd_same) (r1.mono (Ext.upd hp).mo)⟩ p1.2⟩) hx⟩
theorem xLst {ts : TA} {ws : WA} (h : PXs X K ks E pu es ts ws) : PX X K ks E pu (.o shL) (.List es pos) (tLst ts) (wLst ws) := by cases h.hK; exact ⟨rfl, pe_lst h.pa, fun O Fs ρ σ H Ψ Ξ Q R hw hq hx =>
  h.snd O Fs ρ σ H _ Ξ _ R hw (fun ds ρ1 Fs1 vs H1 u1 f1 R1 r1 p1 => ⟨by rw [r1.length]; exact p1.1, fun p hp => hq _ ρ1 Fs1 _ _ (u1.ext (Ext.upd hp)) (f1.trans (Ext.upd hp).fr) (res_new R1 hp (fun a h => f1.dom a h) r1) p1.2⟩) hx⟩
/-! ### built-ins by name: one argument that may stand in the frame, or plain data -/
def CaD (K : PySem.W.Frag) (r : List V → Hp → VK → Prop) (wl : D → (D → Prop) → Prop) : Prop := ∀ (A : AS) (H : Hp) (x : V) (d : D) (Ψ : D → Prop) (Q : VK), (∀ a, A a → H a ≠ none) → RT K A H x d → wl d Ψ → (∀ d v H', Ext H H' → Rp K A H' v d → Ψ d → Q v H') → r [x] H Q
def CaN (K : PySem.W.Frag) (r : List V → Hp → VK → Prop) (wl : D → (D → Prop) → Prop) : Prop := ∀ (A : AS) (H : Hp) (x : V) (d : D) (Ψ : D → Prop) (Q : VK), (∀ a, A a → H a ≠ none) → RT K A H x d → wl d Ψ → (∀ ds vs p, H p = none → RpL K A H vs ds → Ψ (.lst ds) → Q (.ref p) (upd H p (.lst vs))) → r [x] H Q
def CaL (K : PySem.W.Frag) (r : List V → Hp → VK → Prop) (wl : List D → (D → Prop) → Prop) : Prop := ∀ (A : AS) (H : Hp) (xs : List V) (ds : List D) (Ψ : D → Prop) (Q : VK), (∀ a, A a → H a ≠ none) → RpL K A H xs ds → wl ds Ψ → (∀ d v H', Ext H H' → Rp K A H' v d → Ψ d → Q v H') → r xs H Q
def w1e (wl : D → (D → Prop) → Prop) (w : WE) : WE := fun ρ Ψ Ξ => w ρ (fun d ρ' => wl d fun z => Ψ z ρ') Ξ
def wLe (wl : List D → (D → Prop) → Prop) (w : WA) : WE := fun ρ Ψ Ξ => w ρ (fun d ρ' => wl d fun z => Ψ z ρ') Ξ
theorem snd_c1 {r : List V → Hp → VK → Prop} {wl : D → (D → Prop) → Prop} (c : CaD K r wl) (h : Snd K ks E pu kd t w) (hk : kd.op) : Snd K ks E pu .z (tCB r (tCons t tNil)) (w1e wl w) := fun O Fs ρ σ H Ψ Ξ Q R hw hq hx => by
  refine h O Fs ρ σ H _ Ξ _ R hw (fun d ρ1 Fs1 v H1 u1 f1 r1 p1 => ?_) hx
  obtain ⟨R1, y⟩ := r1.rt hk
  exact c _ H1 v d _ Q (fun a => R1.adom) y p1 fun z v2 H2 e r2 q => hq z ρ1 Fs1 v2 H2 (u1.ext e) (f1.trans e.fr) ⟨R1.ext e, r2⟩ q
theorem snd_c1N {r : List V → Hp → VK → Prop} {wl : D → (D → Prop) → Prop} (c : CaN K r wl) (h : Snd K ks E pu kd t w) (hk : kd.op) : Snd K ks E pu (.o shL) (tCB r (tCons t tNil)) (w1e wl w) := fun O Fs ρ σ H Ψ Ξ Q R hw hq hx => by
  refine h O Fs ρ σ H _ Ξ _ R hw (fun d ρ1 Fs1 v H1 u1 f1 r1 p1 => ?_) hx
  obtain ⟨R1, y⟩ := r1.rt hk
  exact c _ H1 v d _ Q (fun a => R1.adom) y p1 fun ds vs p hp r2 q => hq _ ρ1 Fs1 _ _ (u1.ext (Ext.upd hp)) (f1.trans (Ext.upd hp).fr) (res_new R1 hp (fun a h => f1.dom a h) r2) q
theorem snd_cL {r : List V → Hp → VK → Prop} {wl : List D → (D → Prop) → Prop} {ts : TA} {ws : WA} (c : CaL K r wl) (h : SndA K ks E pu ts ws) : Snd K ks E pu .z (tCB r ts) (wLe wl ws) := fun O Fs ρ σ H Ψ Ξ Q R hw hq hx => by
  refine h O Fs ρ σ H _ Ξ _ R hw (fun d ρ1 Fs1 v H1 u1 f1 R1 r1 p1 => ?_) hx
  exact c _ H1 v d _ Q (fun a => R1.adom) r1 p1 fun z v2 H2 e r2 q => hq z ρ1 Fs1 v2 H2 (u1.ext e) (f1.trans e.fr) ⟨R1.ext e, r2⟩ q
variable {r : List V → Hp → VK → Prop} {wl : D → (D → Prop) → Prop} {wL : List D → (D → Prop) → Prop} {id T : String} {x : Str} {p : Pos}
theorem cB (c : CaD K r wl) (hc : CallR X (.builtin id) r) (hm : X.mg x = none) (h : PX X K ks E pu kd e t w) (hg : Gl X x := by rfl) (hv : bootBuiltins x = some (.builtin id) := by decide +kernel) (hk : kd.op := by trivial) (hn : x ≠ "__name__" := by decide) (hdb : (x == ("__debug__" : Str)) = false := by decide)
    (hs : starEach [e] X.env = (false, eval e X.env) :: starEach [] X.env := by rfl) (he : starEach [e] X.env = (false, eval e X.env) :: starEach [] X.env := by rfl) (hpl : (backTo pos (starEach [] X.env)).any (·.1) = false := by rfl) : PX X K ks E pu .z (.Call (.Name x p) [e] [] pos) (tCB r (tCons t tNil)) (w1e wl w) := by cases h.hK; exact ⟨rfl, pe_callB hc hg hm hv (pa_cons h.pe pa_nil hs) hn hdb he hpl, snd_c1 c h.snd hk⟩
theorem cBN (c : CaN K r wl) (hc : CallR X (.builtin id) r) (hm : X.mg x = none) (h : PX X K ks E pu kd e t w) (hg : Gl X x := by rfl) (hv : bootBuiltins x = some (.builtin id) := by decide +kernel) (hk : kd.op := by trivial) (hn : x ≠ "__name__" := by decide) (hdb : (x == ("__debug__" : Str)) = false := by decide)
    (hs : starEach [e] X.env = (false, eval e X.env) :: starEach [] X.env := by rfl) (he : starEach [e] X.env = (false, eval e X.env) :: starEach [] X.env := by rfl) (hpl : (backTo pos (starEach [] X.env)).any (·.1) = false := by rfl) : PX X K ks E pu (.o shL) (.Call (.Name x p) [e] [] pos) (tCB r (tCons t tNil)) (w1e wl w) := by cases h.hK; exact ⟨rfl, pe_callB hc hg hm hv (pa_cons h.pe pa_nil hs) hn hdb he hpl, snd_c1N c h.snd hk⟩
theorem cY (c : CaD K r wl) (hc : CallR X (.type T) r) (hm : X.mg x = none) (h : PX X K ks E pu kd e t w) (hg : Gl X x := by rfl) (hv : bootBuiltins x = some (.type T) := by decide +kernel) (hk : kd.op := by trivial) (hn : x ≠ "__name__" := by decide) (hdb : (x == ("__debug__" : Str)) = false := by decide)
    (hs : starEach [e] X.env = (false, eval e X.env) :: starEach [] X.env := by rfl) (he : starEach [e] X.env = (false, eval e X.env) :: starEach [] X.env := by rfl) (hpl : (backTo pos (starEach [] X.env)).any (·.1) = false := by rfl) : PX X K ks E pu .z (.Call (.Name x p) [e] [] pos) (tCB r (tCons t tNil)) (w1e wl w) := by cases h.hK; exact ⟨rfl, pe_callTy hc hg hm hv (pa_cons h.pe pa_nil hs) hn hdb he hpl, snd_c1 c h.snd hk⟩
theorem cYN (c : CaN K r wl) (hc : CallR X (.type T) r) (hm : X.mg x = none) (h : PX X K ks E pu kd e t w) (hg : Gl X x := by rfl) (hv : bootBuiltins x = some (.type T) := by decide +kernel) (hk : kd.op := by trivial) (hn : x ≠ "__name__" := by decide) (hdb : (x == ("__debug__" : Str)) = false := by decide)
    (hs : starEach [e] X.env = (false, eval e X.env) :: starEach [] X.env := by rfl) (he : starEach [e] X.env = (false, eval e X.env) :: starEach [] X.env := by rfl) (hpl : (backTo pos (starEach [] X.env)).any (·.1) = false := by rfl) : PX X K ks E pu (.o shL) (.Call (.Name x p) [e] [] pos) (tCB r (tCons t tNil)) (w1e wl w) := by cases h.hK; exact ⟨rfl, pe_callTy hc hg hm hv (pa_cons h.pe pa_nil hs) hn hdb he hpl, snd_c1N c h.snd hk⟩
theorem cBL {ts : TA} {ws : WA} (c : CaL K r wL) (hc : CallR X (.builtin id) r) (hm : X.mg x = none) (h : PXs X K ks E pu (e :: es) ts ws) (hg : Gl X x := by rfl) (hv : bootBuiltins x = some (.builtin id) := by decide +kernel) (hn : x ≠ "__name__" := by decide) (hdb : (x == ("__debug__" : Str)) = false := by decide)
    (he : starEach (e :: es) X.env = (false, eval e X.env) :: starEach es X.env := by rfl) (hpl : (backTo pos (starEach es X.env)).any (·.1) = false := by rfl) : PX X K ks E pu .z (.Call (.Name x p) (e :: es) [] pos) (tCB r ts) (wLe wL ws) := by cases h.hK; exact ⟨rfl, pe_callB hc hg hm hv h.pa hn hdb he hpl, snd_cL c h.snd⟩
end
end Fw

/-! Fw6: slices, built-ins and methods by values. -/
namespace Fw
open PySem L2

section
variable {X : Cx} {K : PySem.W.Frag} {ks : List SK} {E : L2.St → XK} {pu pa pb pc : Bool} {kd ka kb kc : Kd} {e a b c o : Expr} {es rest : List Expr} {t ta tb tc to : TE} {w wa wb wc wo : WE} {pos p2 : Pos}
/-! ### slices -/
def cutD (xs : List D) (lo hi : Option Int) : List D := (xs.drop (HT.sIx xs.length 0 lo)).take (HT.sIx xs.length xs.length hi - HT.sIx xs.length 0 lo)
def dSl (x : D) (lo hi : Option Int) (Ψ : D → Prop) : Prop := match x with
  | .str z => z.length ≤ sizeLine ∧ Ψ (.str (cutS z lo hi))
  | .lst xs => Ψ (.lst (cutD xs lo hi))
  | .tup xs => Ψ (.tup (cutD xs lo hi))
  | .scr ns => Ψ (.lst (cutD (ns.map .int) lo hi))
  | _ => False
def dSlL (x : D) (lo hi : Option Int) (Ψ : D → Prop) : Prop := match x with
  | .lst xs => Ψ (.lst (cutD xs lo hi))
  | .scr ns => Ψ (.lst (cutD (ns.map .int) lo hi))
  | _ => False
theorem RpL.cut {A : AS} {H : Hp} {vs : List V} {ds : List D} (r : RpL K A H vs ds) (lo hi : Option Int) : RpL K A H (cutV vs lo hi) (cutD ds lo hi) := by
  unfold cutV cutD
  rw [r.length]
  exact (r.drop _).take _
abbrev rdSl (K : PySem.W.Frag) : V → Option Int → Option Int → Hp → VK → Prop := fun x lo hi H Q => rSlS x lo hi H Q ∨ (rSlL K x lo hi H Q ∨ rSlA K x lo hi H Q)
theorem or_sl : SlR X (rdSl X.K) := SlR.or sl_str (SlR.or sl_list sl_tupA)
def SlD (K : PySem.W.Frag) (r : V → Option Int → Option Int → Hp → VK → Prop) (w : D → Option Int → Option Int → (D → Prop) → Prop) : Prop := ∀ (A : AS) (H : Hp) (x : V) (d : D) (lo hi : Option Int) (Ψ : D → Prop) (Q : VK), (∀ a, A a → H a ≠ none) → RT K A H x d → w d lo hi Ψ →
  (∀ d v H', Ext H H' → Rp K A H' v d → Ψ d → Q v H') → r x lo hi H Q
def SlN (K : PySem.W.Frag) (r : V → Option Int → Option Int → Hp → VK → Prop) (w : D → Option Int → Option Int → (D → Prop) → Prop) : Prop := ∀ (A : AS) (H : Hp) (x : V) (d : D) (lo hi : Option Int) (Ψ : D → Prop) (Q : VK), (∀ a, A a → H a ≠ none) → RT K A H x d → w d lo hi Ψ →
  (∀ ds vs p, H p = none → RpL K A H vs ds → Ψ (.lst ds) → Q (.ref p) (upd H p (.lst vs))) → r x lo hi H Q
theorem od_sl : SlD K (rdSl K) dSl := fun A H x d lo hi Ψ Q hA rx hw hq => by
  unfold dSl at hw
  split at hw
  · cases rx.str_inv
    exact .inl ⟨_, rfl, hw.1, hq _ _ H (Ext.refl H) (.str _) hw.2⟩
  · obtain ⟨p, vs, rfl, e1, r1⟩ := rx.lst_inv
    exact .inr (.inl ⟨p, vs, rfl, SqL.of e1, fun l hl => hq _ _ _ (Ext.upd hl) (.lst (fun z => hA _ z hl) (hc_lst.mpr upd_same) ((r1.cut lo hi).mono (Ext.upd hl).mo)) hw⟩)
  · obtain ⟨p, vs, rfl, e1, r1⟩ := rx.tup_inv
    refine .inr (.inr ⟨p, vs, rfl, e1, fun z => ?_, fun z l hl => hq _ _ _ (Ext.upd hl) (.tup (fun z => hA _ z hl) (hc_tup.mpr upd_same) ((r1.cut lo hi).mono (Ext.upd hl).mo)) hw⟩)
    rename_i xs
    have e2 : cutD xs lo hi = xs := by
      unfold cutD
      rw [← r1.length, z.1, z.2, List.drop_zero, Nat.sub_zero, r1.length, List.take_length]
    rw [e2] at hw
    cases rx with
    | of h => exact hq _ _ H (Ext.refl H) h hw
  · obtain ⟨p, rfl, e1⟩ := rx.scr_inv
    exact .inr (.inl ⟨p, _, rfl, e1, fun l hl => hq _ _ _ (Ext.upd hl) (.lst (fun z => hA _ z hl) (hc_lst.mpr upd_same) ((RpL.ints.cut lo hi).mono (Ext.upd hl).mo)) hw⟩)
  · exact hw.elim
theorem on_sl : SlN K (rSlL K) dSlL := fun A H x d lo hi Ψ Q hA rx hw hq => by
  unfold dSlL at hw
  split at hw
  · obtain ⟨p, vs, rfl, e1, r1⟩ := rx.lst_inv
    exact ⟨p, vs, rfl, SqL.of e1, fun l hl => hq _ _ l hl (r1.cut lo hi) hw⟩
  · obtain ⟨p, rfl, e1⟩ := rx.scr_inv
    exact ⟨p, _, rfl, e1, fun l hl => hq _ _ l hl (RpL.ints.cut lo hi) hw⟩
  · exact hw.elim
/-- a slice's part -/
abbrev WO := Env → (Option Int → Env → Prop) → (Exc → Env → Prop) → Prop
structure PXo (X : Cx) (K : PySem.W.Frag) (ks : List SK) (E : L2.St → XK) (pu : Bool) (e : Option Expr) (t : TO) (w : WO) : Prop where
  hK : X.K = K
  po : PO X e t
  snd : ∀ O Fs ρ σ H Ψ Ξ Q, Repr K ks O Fs ρ σ H → w ρ Ψ Ξ → (∀ b ρ' Fs' H', Pu pu ρ ρ' Fs Fs' H H' → Fr Fs H Fs' H' → Repr K ks O Fs' ρ' σ H' → Ψ b ρ' → Q b H') → LkX K ks O Fs σ H Ξ (E σ) → t σ H Q
def wNoPart : WO := fun ρ Ψ _ => Ψ none ρ
def wPart (w : WE) : WO := fun ρ Ψ Ξ => w ρ (fun d ρ' => match d with | .int i => Ψ (some i) ρ' | _ => False) Ξ
theorem oNone (hK : X.K = K := by rfl) : PXo X K ks E pu none tNoPart wNoPart := by cases hK; exact ⟨rfl, po_none, fun O Fs ρ σ H Ψ Ξ Q R hw hq hx => hq none ρ Fs H (fun _ => ⟨rfl, rfl, Ext.refl H⟩) (Fr.refl _ _) R hw⟩
theorem oSome (h : PX X K ks E pu .z e t w) : PXo X K ks E pu (some e) (tPart t) (wPart w) := by cases h.hK; exact ⟨rfl, po_some h.pe, fun O Fs ρ σ H Ψ Ξ Q R hw hq hx => by
  refine h.snd O Fs ρ σ H _ Ξ _ R hw (fun d ρ' Fs' v H' u f r p => ?_) hx
  cases d with
  | int i =>
    refine ⟨i, (by cases r.2; rfl), hq (some i) ρ' Fs' H' u f r.1 p⟩
  | _ => exact p.elim⟩
def wSl (ws : D → Option Int → Option Int → (D → Prop) → Prop) (w : WE) (wl wh : WO) : WE := fun ρ Ψ Ξ => w ρ (fun d ρ1 => wl ρ1 (fun lo ρ2 => wh ρ2 (fun hi ρ3 => ws d lo hi fun z => Ψ z ρ3) Ξ) Ξ) Ξ
variable {lo hi : Option Expr} {tl th : TO} {wl wh : WO} {pl ph : Bool}
theorem snd_sl {r : V → Option Int → Option Int → Hp → VK → Prop} {ws : D → Option Int → Option Int → (D → Prop) → Prop} (s : SlD K r ws) (h : PX X K ks E pu kd e t w) (h1 : PXo X K ks E pu lo tl wl) (h2 : PXo X K ks E pu hi th wh) (hk : kd.st pu) : Snd K ks E pu .z (tSl r t tl th) (wSl ws w wl wh) := fun O Fs ρ σ H Ψ Ξ Q R hw hq hx => by
  refine h.snd O Fs ρ σ H _ Ξ _ R hw (fun d ρ1 Fs1 v H1 u1 f1 r1 p1 => ?_) hx
  have R1 := (r1.rt hk.op).1
  refine h1.snd O Fs1 ρ1 σ H1 _ Ξ _ R1 p1 (fun lo ρ2 Fs2 H2 u2 f2 R2 p2 => ?_) (hx.step f1)
  refine h2.snd O Fs2 ρ2 σ H2 _ Ξ _ R2 p2 (fun hi ρ3 Fs3 H3 u3 f3 R3 p3 => ?_) (hx.step (f1.trans f2))
  exact s _ H3 v d lo hi _ Q (fun a => R3.adom) (r1.stay hk (u2.trans u3) (f2.trans f3)) p3 fun z v2 H4 e r2 q => hq z ρ3 Fs3 v2 H4 ((u1.trans (u2.trans u3)).ext e) (f1.trans (f2.trans (f3.trans e.fr))) ⟨R3.ext e, r2⟩ q
theorem snd_slP {r : V → Option Int → Option Int → Hp → VK → Prop} {ws : D → Option Int → Option Int → (D → Prop) → Prop} (s : SlD K r ws) (h : PX X K ks E pu kd e t w) (h1 : PXo X K ks E true lo tl wl) (h2 : PXo X K ks E true hi th wh) (hk : kd.op) : Snd K ks E pu .z (tSl r t tl th) (wSl ws w wl wh) := fun O Fs ρ σ H Ψ Ξ Q R hw hq hx => by
  refine h.snd O Fs ρ σ H _ Ξ _ R hw (fun d ρ1 Fs1 v H1 u1 f1 r1 p1 => ?_) hx
  have R1 := (r1.rt hk).1
  refine h1.snd O Fs1 ρ1 σ H1 _ Ξ _ R1 p1 (fun lo ρ2 Fs2 H2 u2 f2 R2 p2 => ?_) (hx.step f1)
  refine h2.snd O Fs2 ρ2 σ H2 _ Ξ _ R2 p2 (fun hi ρ3 Fs3 H3 u3 f3 R3 p3 => ?_) (hx.step (f1.trans f2))
  exact s _ H3 v d lo hi _ Q (fun a => R3.adom) (r1.stayP hk (u2.trans u3)) p3 fun z v2 H4 e r2 q => hq z ρ3 Fs3 v2 H4 ((u1.trans (u2.trans u3).any).ext e) (f1.trans (f2.trans (f3.trans e.fr))) ⟨R3.ext e, r2⟩ q
theorem snd_slN {r : V → Option Int → Option Int → Hp → VK → Prop} {ws : D → Option Int → Option Int → (D → Prop) → Prop} (s : SlN K r ws) (h : PX X K ks E pu kd e t w) (h1 : PXo X K ks E pu lo tl wl) (h2 : PXo X K ks E pu hi th wh) (hk : kd.st pu) : Snd K ks E pu (.o shL) (tSl r t tl th) (wSl ws w wl wh) := fun O Fs ρ σ H Ψ Ξ Q R hw hq hx => by
  refine h.snd O Fs ρ σ H _ Ξ _ R hw (fun d ρ1 Fs1 v H1 u1 f1 r1 p1 => ?_) hx
  have R1 := (r1.rt hk.op).1
  refine h1.snd O Fs1 ρ1 σ H1 _ Ξ _ R1 p1 (fun lo ρ2 Fs2 H2 u2 f2 R2 p2 => ?_) (hx.step f1)
  refine h2.snd O Fs2 ρ2 σ H2 _ Ξ _ R2 p2 (fun hi ρ3 Fs3 H3 u3 f3 R3 p3 => ?_) (hx.step (f1.trans f2))
  exact s _ H3 v d lo hi _ Q (fun a => R3.adom) (r1.stay hk (u2.trans u3) (f2.trans f3)) p3 fun ds vs p hp r2 q => hq _ ρ3 Fs3 _ _ ((u1.trans (u2.trans u3)).ext (Ext.upd hp)) (f1.trans (f2.trans (f3.trans (Ext.upd hp).fr))) (res_new R3 hp (fun a h => (f1.trans (f2.trans f3)).dom a h) r2) q
theorem snd_slNP {r : V → Option Int → Option Int → Hp → VK → Prop} {ws : D → Option Int → Option Int → (D → Prop) → Prop} (s : SlN K r ws) (h : PX X K ks E pu kd e t w) (h1 : PXo X K ks E true lo tl wl) (h2 : PXo X K ks E true hi th wh) (hk : kd.op) : Snd K ks E pu (.o shL) (tSl r t tl th) (wSl ws w wl wh) := fun O Fs ρ σ H Ψ Ξ Q R hw hq hx => by
  refine h.snd O Fs ρ σ H _ Ξ _ R hw (fun d ρ1 Fs1 v H1 u1 f1 r1 p1 => ?_) hx
  have R1 := (r1.rt hk).1
  refine h1.snd O Fs1 ρ1 σ H1 _ Ξ _ R1 p1 (fun lo ρ2 Fs2 H2 u2 f2 R2 p2 => ?_) (hx.step f1)
  refine h2.snd O Fs2 ρ2 σ H2 _ Ξ _ R2 p2 (fun hi ρ3 Fs3 H3 u3 f3 R3 p3 => ?_) (hx.step (f1.trans f2))
  exact s _ H3 v d lo hi _ Q (fun a => R3.adom) (r1.stayP hk (u2.trans u3)) p3 fun ds vs p hp r2 q => hq _ ρ3 Fs3 _ _ ((u1.trans (u2.trans u3).any).ext (Ext.upd hp)) (f1.trans (f2.trans (f3.trans (Ext.upd hp).fr))) (res_new R3 hp (fun a h => (f1.trans (f2.trans f3)).dom a h) r2) q
theorem xSl (h : PX X K ks E pu kd e t w) (h1 : PXo X K ks E pu lo tl wl) (h2 : PXo X K ks E pu hi th wh) (hk : kd.st pu := by first | exact .inl rfl | exact .inr (.inl rfl) | exact .inr (.inr ⟨rfl, rfl⟩)) : PX X K ks E pu .z (.Subscript e (.Slice lo hi none p2) pos) (tSl (rdSl K) t tl th) (wSl dSl w wl wh) := by cases h.hK; exact ⟨rfl, pe_slice or_sl h.pe h1.po h2.po, snd_sl od_sl h h1 h2 hk⟩
theorem xSlP (h : PX X K ks E pu kd e t w) (h1 : PXo X K ks E true lo tl wl) (h2 : PXo X K ks E true hi th wh) (hk : kd.op := by trivial) : PX X K ks E pu .z (.Subscript e (.Slice lo hi none p2) pos) (tSl (rdSl K) t tl th) (wSl dSl w wl wh) := by cases h.hK; exact ⟨rfl, pe_slice or_sl h.pe h1.po h2.po, snd_slP od_sl h h1 h2 hk⟩
theorem xSlN (h : PX X K ks E pu kd e t w) (h1 : PXo X K ks E pu lo tl wl) (h2 : PXo X K ks E pu hi th wh) (hk : kd.st pu := by first | exact .inl rfl | exact .inr (.inl rfl) | exact .inr (.inr ⟨rfl, rfl⟩)) : PX X K ks E pu (.o shL) (.Subscript e (.Slice lo hi none p2) pos) (tSl (rSlL K) t tl th) (wSl dSlL w wl wh) := by cases h.hK; exact ⟨rfl, pe_slice sl_list h.pe h1.po h2.po, snd_slN on_sl h h1 h2 hk⟩
theorem xSlNP (h : PX X K ks E pu kd e t w) (h1 : PXo X K ks E true lo tl wl) (h2 : PXo X K ks E true hi th wh) (hk : kd.op := by trivial) : PX X K ks E pu (.o shL) (.Subscript e (.Slice lo hi none p2) pos) (tSl (rSlL K) t tl th) (wSl dSlL w wl wh) := by cases h.hK; exact ⟨rfl, pe_slice sl_list h.pe h1.po h2.po, snd_slNP on_sl h h1 h2 hk⟩

/-! ### built-ins -/
def dLen (d : D) (Ψ : D → Prop) : Prop := match d with
  | .str z => z.length ≤ sizeLine ∧ Ψ (.int z.length)
  | .lst xs => Ψ (.int xs.length)
  | .tup xs => Ψ (.int xs.length)
  | .scr xs => Ψ (.int xs.length)
  | .dk xs => Ψ (.int xs.length)
  | .dt xs => Ψ (.int xs.length)
  | _ => False
theorem RpK.length {A : AS} {H : Hp} : ∀ {vs : List (Key × V)} {ds : List (Key × D)}, RpK K A H vs ds → vs.length = ds.length
  | _, _, .nil => rfl
  | _, _, .cons _ t => by rw [List.length_cons, List.length_cons, RpK.length t]
theorem RpT.length {A : AS} {H : Hp} : ∀ {vs : List (List Key × V)} {ds : List (List Key × D)}, RpT K A H vs ds → vs.length = ds.length
  | _, _, .nil => rfl
  | _, _, .cons _ t => by rw [List.length_cons, List.length_cons, RpT.length t]
abbrev rdLen (K : PySem.W.Frag) : List V → Hp → VK → Prop := fun xs H Q => (∃ x n, xs = [x] ∧ LenV K x H n ∧ Q (.int n) H) ∨ ((∃ a kvs, xs = [V.ref a] ∧ Rd H a (.dK kvs) ∧ Q (.int kvs.length) H) ∨ ∃ a kvs, xs = [V.ref a] ∧ Rd H a (.dT kvs) ∧ Q (.int kvs.length) H)
theorem call_lenDR : CallR X (.builtin "len") (fun xs H Q => ∃ a kvs, xs = [V.ref a] ∧ Rd H a (.dK kvs) ∧ Q (.int kvs.length) H) := by
  intro pins s σ H xs us Q I r h
  obtain ⟨a, kvs, rfl, ha, q⟩ := h
  obtain ⟨u, rfl, ru⟩ := vals1 r
  cases ru
  exact d_len I ha fun t s' I' => ⟨.int kvs.length, H, I', ⟨t, rfl⟩, q⟩
theorem call_lenTR : CallR X (.builtin "len") (fun xs H Q => ∃ a kvs, xs = [V.ref a] ∧ Rd H a (.dT kvs) ∧ Q (.int kvs.length) H) := by
  intro pins s σ H xs us Q I r h
  obtain ⟨p, kvs, rfl, hp, q⟩ := h
  obtain ⟨u, rfl, rx⟩ := vals1 r
  obtain rfl : u = .ref p := rx
  obtain ⟨z, hd, ys, rel, dd⟩ := dt_rd I.hok hp
  have hl : kvs.length = ys.length := Paired.length rel
  refine call_len_dictH hd dd (by rw [← hl]; rw [sizeLine_eq] at z; omega) ?_
  rw [← hl]
  exact ⟨.int ((kvs.length : Nat) : Int), H, I.tok _, ⟨_, rfl⟩, q⟩
theorem cr_len : CallR X (.builtin "len") (rdLen X.K) := CallR.or call_len (CallR.or call_lenDR call_lenTR)
theorem cd_len : CaD K (rdLen K) dLen := fun A H x d Ψ Q hA rx hw hq => by
  unfold dLen at hw
  split at hw
  · cases rx.str_inv
    exact .inl ⟨_, _, rfl, ⟨hw.1, rfl⟩, hq _ _ H (Ext.refl H) (.int _) hw.2⟩
  · obtain ⟨p, vs, rfl, e1, r1⟩ := rx.lst_inv
    exact .inl ⟨_, _, rfl, .inl ⟨vs, SqL.of e1, rfl⟩, hq _ _ H (Ext.refl H) (.int _) (by rw [r1.length]; exact hw)⟩
  · obtain ⟨p, vs, rfl, e1, r1⟩ := rx.tup_inv
    exact .inl ⟨_, _, rfl, .inr ⟨vs, e1, rfl⟩, hq _ _ H (Ext.refl H) (.int _) (by rw [r1.length]; exact hw)⟩
  · obtain ⟨p, rfl, e1⟩ := rx.scr_inv
    exact .inl ⟨_, _, rfl, .inl ⟨_, e1, rfl⟩, hq _ _ H (Ext.refl H) (.int _) (by rw [List.length_map]; exact hw)⟩
  · obtain ⟨p, vs, rfl, e1, r1⟩ := rx.dk_inv
    exact .inr (.inl ⟨p, vs, rfl, e1, hq _ _ H (Ext.refl H) (.int _) (by rw [r1.length]; exact hw)⟩)
  · obtain ⟨p, vs, rfl, e1, r1⟩ := rx.dt_inv
    exact .inr (.inr ⟨p, vs, rfl, e1, hq _ _ H (Ext.refl H) (.int _) (by rw [r1.length]; exact hw)⟩)
  · exact hw.elim
/-- list(x) -/
def dList (d : D) (Ψ : D → Prop) : Prop := match d with
  | .lst xs => Ψ (.lst xs)
  | .tup xs => Ψ (.lst xs)
  | .scr xs => Ψ (.lst (xs.map .int))
  | _ => False
abbrev rdList (K : PySem.W.Frag) : List V → Hp → VK → Prop := fun xs H Q => ∃ p ys, xs = [.ref p] ∧ (SqL K H p ys ∨ SqT K H p ys) ∧ ∀ l, H l = none → Q (.ref l) (upd H l (.lst ys))
theorem cn_list : CaN K (rdList K) dList := fun A H x d Ψ Q hA rx hw hq => by
  unfold dList at hw
  split at hw
  · obtain ⟨p, vs, rfl, e1, r1⟩ := rx.lst_inv
    exact ⟨p, vs, rfl, .inl (SqL.of e1), fun l hl => hq _ _ l hl r1 hw⟩
  · obtain ⟨p, vs, rfl, e1, r1⟩ := rx.tup_inv
    exact ⟨p, vs, rfl, .inr e1, fun l hl => hq _ _ l hl r1 hw⟩
  · obtain ⟨p, rfl, e1⟩ := rx.scr_inv
    exact ⟨p, _, rfl, .inl e1, fun l hl => hq _ _ l hl RpL.ints hw⟩
  · exact hw.elim
/-- tuple(x) -/
def dTuple (d : D) (Ψ : D → Prop) : Prop := match d with
  | .lst xs => Ψ (.tup xs)
  | .tup xs => Ψ (.tup xs)
  | _ => False
abbrev rdTuple (K : PySem.W.Frag) : List V → Hp → VK → Prop := fun xs H Q => ∃ p ys, xs = [.ref p] ∧ ((SqL K H p ys ∧ ∀ l, H l = none → Q (.ref l) (upd H l (.tup ys))) ∨ (SqT K H p ys ∧ Q (.ref p) H))
theorem cd_tuple : CaD K (rdTuple K) dTuple := fun A H x d Ψ Q hA rx hw hq => by
  unfold dTuple at hw
  split at hw
  · obtain ⟨p, vs, rfl, e1, r1⟩ := rx.lst_inv
    exact ⟨p, vs, rfl, .inl ⟨SqL.of e1, fun l hl => hq _ _ _ (Ext.upd hl) (.tup (fun z => hA _ z hl) (hc_tup.mpr upd_same) (r1.mono (Ext.upd hl).mo)) hw⟩⟩
  · obtain ⟨p, vs, rfl, e1, r1⟩ := rx.tup_inv
    cases rx with
    | of h => exact ⟨p, vs, rfl, .inr ⟨e1, hq _ _ H (Ext.refl H) h hw⟩⟩
  · exact hw.elim
/-- sum, max, min of ints; any, all of bools -/
def D.ints : List D → Option (List Int)
  | [] => some []
  | .int i :: ds => (D.ints ds).map (i :: ·)
  | _ :: _ => none
def D.bls : List D → Option (List Bool)
  | [] => some []
  | .bl i :: ds => (D.bls ds).map (i :: ·)
  | _ :: _ => none
def D.strs : List D → Option (List Str)
  | [] => some []
  | .str i :: ds => (D.strs ds).map (i :: ·)
  | _ :: _ => none
theorem D.ints_map : ∀ ns : List Int, D.ints (ns.map D.int) = some ns
  | [] => rfl
  | n :: ns => by rw [List.map_cons, D.ints, D.ints_map ns]; rfl
theorem D.bls_map : ∀ ns : List Bool, D.bls (ns.map D.bl) = some ns
  | [] => rfl
  | n :: ns => by rw [List.map_cons, D.bls, D.bls_map ns]; rfl
theorem D.strs_map : ∀ ns : List Str, D.strs (ns.map D.str) = some ns
  | [] => rfl
  | n :: ns => by rw [List.map_cons, D.strs, D.strs_map ns]; rfl
theorem D.ints_inv : ∀ {ds : List D} {ns : List Int}, D.ints ds = some ns → ds = ns.map D.int
  | [], ns, h => by rw [D.ints] at h; cases h; rfl
  | d :: ds, ns, h => by
    unfold D.ints at h
    split at h
    · rename_i e; cases e
    · rename_i e; cases e
      cases q : D.ints ds with
      | none => rw [q] at h; cases h
      | some m => rw [q] at h; cases h; rw [D.ints_inv q]; rfl
    · cases h
theorem D.bls_inv : ∀ {ds : List D} {ns : List Bool}, D.bls ds = some ns → ds = ns.map D.bl
  | [], ns, h => by rw [D.bls] at h; cases h; rfl
  | d :: ds, ns, h => by
    unfold D.bls at h
    split at h
    · rename_i e; cases e
    · rename_i e; cases e
      cases q : D.bls ds with
      | none => rw [q] at h; cases h
      | some m => rw [q] at h; cases h; rw [D.bls_inv q]; rfl
    · cases h
theorem D.strs_inv : ∀ {ds : List D} {ns : List Str}, D.strs ds = some ns → ds = ns.map D.str
  | [], ns, h => by rw [D.strs] at h; cases h; rfl
  | d :: ds, ns, h => by
    unfold D.strs at h
    split at h
    · rename_i e; cases e
    · rename_i e; cases e
      cases q : D.strs ds with
      | none => rw [q] at h; cases h
      | some m => rw [q] at h; cases h; rw [D.strs_inv q]; rfl
    · cases h
def dAll (d : D) (Ψ : D → Prop) : Prop := ∃ ds bs, d = .lst ds ∧ D.bls ds = some bs ∧ Ψ (.bl (bs.all id))
def dAny (d : D) (Ψ : D → Prop) : Prop := ∃ ds bs, d = .lst ds ∧ D.bls ds = some bs ∧ Ψ (.bl (bs.any id))
def dSum (d : D) (Ψ : D → Prop) : Prop := ∃ ds ns, d = .lst ds ∧ D.ints ds = some ns ∧ Ψ (.int ns.sum)
def dMax (d : D) (Ψ : D → Prop) : Prop := ∃ ds ns, d = .lst ds ∧ D.ints ds = some ns ∧ 0 < ns.length ∧ ∀ m, m ∈ ns → (∀ y, y ∈ ns → y ≤ m) → Ψ (.int m)
def dMin (d : D) (Ψ : D → Prop) : Prop := ∃ ds ns, d = .lst ds ∧ D.ints ds = some ns ∧ 0 < ns.length ∧ ∀ m, m ∈ ns → (∀ y, y ∈ ns → m ≤ y) → Ψ (.int m)
theorem cd_all : CaD K (rAll K) dAll := fun A H x d Ψ Q hA rx hw hq => by
  obtain ⟨ds, bs, rfl, e, hw⟩ := hw
  obtain ⟨p, vs, rfl, e1, r1⟩ := rx.lst_inv
  rw [D.bls_inv e] at r1
  cases r1.bls_inv
  exact ⟨p, bs, rfl, SqL.of e1, hq _ _ H (Ext.refl H) (.bl _) hw⟩
theorem cd_any : CaD K (rAny K) dAny := fun A H x d Ψ Q hA rx hw hq => by
  obtain ⟨ds, bs, rfl, e, hw⟩ := hw
  obtain ⟨p, vs, rfl, e1, r1⟩ := rx.lst_inv
  rw [D.bls_inv e] at r1
  cases r1.bls_inv
  exact ⟨p, bs, rfl, SqL.of e1, hq _ _ H (Ext.refl H) (.bl _) hw⟩
theorem cd_sum : CaD K (rSum K) dSum := fun A H x d Ψ Q hA rx hw hq => by
  obtain ⟨ds, bs, rfl, e, hw⟩ := hw
  obtain ⟨p, vs, rfl, e1, r1⟩ := rx.lst_inv
  rw [D.ints_inv e] at r1
  cases r1.ints_inv
  exact ⟨p, bs, rfl, SqL.of e1, hq _ _ H (Ext.refl H) (.int _) hw⟩
theorem cd_max : CaD K (rMax K) dMax := fun A H x d Ψ Q hA rx hw hq => by
  obtain ⟨ds, bs, rfl, e, hl, hw⟩ := hw
  obtain ⟨p, vs, rfl, e1, r1⟩ := rx.lst_inv
  rw [D.ints_inv e] at r1
  cases r1.ints_inv
  exact ⟨p, bs, rfl, SqL.of e1, hl, fun m h1 h2 => hq _ _ H (Ext.refl H) (.int _) (hw m h1 h2)⟩
theorem cd_min : CaD K (rMin K) dMin := fun A H x d Ψ Q hA rx hw hq => by
  obtain ⟨ds, bs, rfl, e, hl, hw⟩ := hw
  obtain ⟨p, vs, rfl, e1, r1⟩ := rx.lst_inv
  rw [D.ints_inv e] at r1
  cases r1.ints_inv
  exact ⟨p, bs, rfl, SqL.of e1, hl, fun m h1 h2 => hq _ _ H (Ext.refl H) (.int _) (hw m h1 h2)⟩
def dInt (d : D) (Ψ : D → Prop) : Prop := match d with
  | .int i => Ψ (.int i)
  | .bl k => Ψ (.int (if k then 1 else 0))
  | _ => False
abbrev rdInt : List V → Hp → VK → Prop := fun xs H Q => (∃ i, xs = [.int i] ∧ Q (.int i) H) ∨ ∃ k, xs = [.bl k] ∧ Q (.int (if k then 1 else 0)) H
theorem cd_int : CaD K rdInt dInt := fun A H x d Ψ Q hA rx hw hq => by
  unfold dInt at hw
  split at hw
  · cases rx.int_inv; exact .inl ⟨_, rfl, hq _ _ H (Ext.refl H) (.int _) hw⟩
  · cases rx.bl_inv; exact .inr ⟨_, rfl, hq _ _ H (Ext.refl H) (.int _) hw⟩
  · exact hw.elim
def dAbs (d : D) (Ψ : D → Prop) : Prop := match d with
  | .int i => Ψ (.int (if i < 0 then -i else i))
  | _ => False
theorem cd_abs : CaD K (fun xs H Q => ∃ i, xs = [.int i] ∧ Q (.int (if i < 0 then -i else i)) H) dAbs := fun A H x d Ψ Q hA rx hw hq => by
  unfold dAbs at hw
  split at hw
  · cases rx.int_inv; exact ⟨_, rfl, hq _ _ H (Ext.refl H) (.int _) hw⟩
  · exact hw.elim
def dMax2 (ds : List D) (Ψ : D → Prop) : Prop := match ds with
  | [.int i, .int j] => Ψ (.int (if j > i then j else i))
  | _ => False
def dMin2 (ds : List D) (Ψ : D → Prop) : Prop := match ds with
  | [.int i, .int j] => Ψ (.int (if j < i then j else i))
  | _ => False
theorem cl_max2 : CaL K (fun xs H Q => ∃ i j, xs = [.int i, .int j] ∧ Q (.int (if j > i then j else i)) H) dMax2 := fun A H xs ds Ψ Q hA rx hw hq => by
  unfold dMax2 at hw
  split at hw
  · cases rx with | cons h1 t => cases h1; cases t with | cons h2 t => cases h2; cases t; exact ⟨_, _, rfl, hq _ _ H (Ext.refl H) (.int _) hw⟩
  · exact hw.elim
theorem cl_min2 : CaL K (fun xs H Q => ∃ i j, xs = [.int i, .int j] ∧ Q (.int (if j < i then j else i)) H) dMin2 := fun A H xs ds Ψ Q hA rx hw hq => by
  unfold dMin2 at hw
  split at hw
  · cases rx with | cons h1 t => cases h1; cases t with | cons h2 t => cases h2; cases t; exact ⟨_, _, rfl, hq _ _ H (Ext.refl H) (.int _) hw⟩
  · exact hw.elim

end
end Fw

/-! Fw7: statements, loops, comprehensions. -/
namespace Fw
open PySem L2

structure DEnds where
  nx : Env → Prop
  rt : D → Env → Prop
  bk : Env → Prop
  ct : Env → Prop
  xx : Exc → Env → Prop
abbrev WS := DEnds → Env → Prop

structure Lks (K : PySem.W.Frag) (ks : List SK) (O : Gh) (Fs : Nat → AS) (H : Hp) (rk : Kd) (E : L2.St → XK) (Dd : DEnds) (Dh : Ends) : Prop where
  nx : ∀ ρ' Fs' σ' H', Repr K ks O Fs' ρ' σ' H' → Fr Fs H Fs' H' → Dd.nx ρ' → Dh.nx σ' H'
  bk : ∀ ρ' Fs' σ' H', Repr K ks O Fs' ρ' σ' H' → Fr Fs H Fs' H' → Dd.bk ρ' → Dh.bk σ' H'
  ct : ∀ ρ' Fs' σ' H', Repr K ks O Fs' ρ' σ' H' → Fr Fs H Fs' H' → Dd.ct ρ' → Dh.ct σ' H'
  rt : ∀ d ρ' Fs' σ' v H', Fr Fs H Fs' H' → Res K ks O Fs H rk ρ' Fs' σ' v d H' → Dd.rt d ρ' → Dh.rt v H'
  xx : ∀ σ' x ρ' Fs' cls od H', Repr K ks O Fs' ρ' σ' H' → Fr Fs H Fs' H' → XRep K (av O Fs') H' x cls od → Dd.xx x ρ' → E σ' cls od H'
def SndS (K : PySem.W.Frag) (ks : List SK) (E : L2.St → XK) (rk : Kd) (t : TS) (w : WS) : Prop :=
  ∀ O Fs ρ σ H Dd Dh, Repr K ks O Fs ρ σ H → w Dd ρ → Lks K ks O Fs H rk E Dd Dh → t Dh σ H
structure QS (X : Cx) (K : PySem.W.Frag) (ks : List SK) (E : L2.St → XK) (rk : Kd) (st : Stmt) (t : TS) (w : WS) : Prop where
  hK : X.K = K
  ps : PS X st t
  snd : SndS K ks E rk t w
structure QSs (X : Cx) (K : PySem.W.Frag) (ks : List SK) (E : L2.St → XK) (rk : Kd) (st : List Stmt) (t : TS) (w : WS) : Prop where
  hK : X.K = K
  ps : PSs X st t
  snd : SndS K ks E rk t w

section
variable {K : PySem.W.Frag} {ks : List SK} {O : Gh} {Fs Fs1 Fs' : Nat → AS} {ρ ρ' : Env} {σ σ' : L2.St} {H H1 H' : Hp} {E : L2.St → XK} {rk kd : Kd} {Dd : DEnds} {Dh : Ends}
theorem Res.back {v : V} {d : D} (f : Fr Fs H Fs1 H1) (h : Res K ks O Fs1 H1 kd ρ' Fs' σ v d H') : Res K ks O Fs H kd ρ' Fs' σ v d H' := by
  cases kd with
  | z => exact h
  | t => exact h
  | s => exact h
  | ln s => exact h
  | o s =>
    obtain ⟨Fv, R, r, n⟩ := h
    refine ⟨Fv, R, r, fun a ha => ⟨(n a ha).1, (n a ha).2.1, ?_⟩⟩
    rcases (n a ha).2.2 with ⟨j, z⟩ | z
    · exact f.fp j a z
    · refine .inr ?_
      cases q : H a with
      | none => rfl
      | some o => exact absurd z (f.dom a (by rw [q]; simp))
theorem Lks.step (L : Lks K ks O Fs H rk E Dd Dh) (f : Fr Fs H Fs1 H1) : Lks K ks O Fs1 H1 rk E Dd Dh :=
  ⟨fun ρ' Fs' σ' H' R g => L.nx ρ' Fs' σ' H' R (f.trans g), fun ρ' Fs' σ' H' R g => L.bk ρ' Fs' σ' H' R (f.trans g), fun ρ' Fs' σ' H' R g => L.ct ρ' Fs' σ' H' R (f.trans g),
    fun d ρ' Fs' σ' v H' g r => L.rt d ρ' Fs' σ' v H' (f.trans g) (r.back f), fun σ' x ρ' Fs' cls od H' R g => L.xx σ' x ρ' Fs' cls od H' R (f.trans g)⟩
theorem Lks.lkx (L : Lks K ks O Fs H rk E Dd Dh) : LkX K ks O Fs σ H Dd.xx (E σ) := fun x ρ' Fs' cls od H' R f r p => L.xx σ x ρ' Fs' cls od H' R f r p

/-- a slot of plain data is stored -/
theorem Repr.set (R : Repr K ks O Fs ρ σ H) {i : Nat} {v : V} {d : D} (hk : ks[i]? = some .z) (r : Rp K (av O Fs) H v d) : Repr K ks O Fs (ρ.set i (some d)) (σ.set i (some v)) H := by
  refine ⟨by rw [List.length_set]; exact R.lρ, by rw [List.length_set]; exact R.lσ, R.dj, R.od, R.bd, R.fb, R.fd, fun j k e h1 h2 => ?_⟩
  by_cases hj : i = j
  · subst hj
    have hi : i < ks.length := (List.getElem?_eq_some_iff.mp hk).1
    rw [hk] at h1
    cases h1
    rw [List.getElem?_set_self (by rw [R.lρ]; exact hi)] at h2
    cases h2
    exact ⟨v, List.getElem?_set_self (by rw [R.lσ]; exact hi), r⟩
  · rw [List.getElem?_set_ne hj] at h2
    obtain ⟨v', h3, h4⟩ := R.sl j k e h1 h2
    exact ⟨v', by rw [List.getElem?_set_ne hj]; exact h3, h4⟩
/-- a slot forgotten -/
theorem Repr.unset (R : Repr K ks O Fs ρ σ H) {i : Nat} {x : Option V} : Repr K ks O Fs (ρ.set i none) (σ.set i x) H := by
  refine ⟨by rw [List.length_set]; exact R.lρ, by rw [List.length_set]; exact R.lσ, R.dj, R.od, R.bd, R.fb, R.fd, fun j k e h1 h2 => ?_⟩
  by_cases hj : i = j
  · subst hj
    by_cases hi : i < ρ.length
    · rw [List.getElem?_set_self hi] at h2; cases h2
    · rw [List.getElem?_eq_none (by rw [List.length_set]; omega)] at h2; cases h2
  · rw [List.getElem?_set_ne hj] at h2
    obtain ⟨v', h3, h4⟩ := R.sl j k e h1 h2
    exact ⟨v', by rw [List.getElem?_set_ne hj]; exact h3, h4⟩
def putFs (Fs : Nat → AS) (i : Nat) (F : AS) : Nat → AS := fun j => if j = i then F else Fs j
theorem putFs_self {i : Nat} {F : AS} : putFs Fs i F i = F := if_pos rfl
theorem putFs_ne {i j : Nat} {F : AS} (h : j ≠ i) : putFs Fs i F j = Fs j := if_neg h
/-- an owned object is stored in a slot of its own -/
theorem Repr.setO {s : Shp} {Fv : AS} (R : Repr K ks (O.add Fv) Fs ρ σ H) {i : Nat} {v : V} {d : D} (hk : ks[i]? = some (.ow s)) (r : s.rep K (av (O.add Fv) Fs) H v d Fv) (n : ∀ a, Fv a → ¬ O.O a ∧ ¬ O.B a) :
    Repr K ks O (putFs Fs i Fv) (ρ.set i (some d)) (σ.set i (some v)) H := by
  have m : Mo (av (O.add Fv) Fs) (av O (putFs Fs i Fv)) H H := .less fun a z => by
    rcases z with z | z | ⟨j, z⟩
    · exact .inl z
    · exact .inr (.inl (.inl z))
    · by_cases hj : j = i
      · subst hj; rw [putFs_self] at z; exact .inr (.inl (.inr z))
      · rw [putFs_ne hj] at z; exact .inr (.inr ⟨j, z⟩)
  refine ⟨by rw [List.length_set]; exact R.lρ, by rw [List.length_set]; exact R.lσ, fun j k a h1 h2 => ?_, R.od, fun a z => R.bd a (.inl z), fun j a h z => ?_, fun j a h => ?_, fun j k e h1 h2 => ?_⟩
  · by_cases hj : j = i
    · subst hj
      rw [putFs_self] at h1
      by_cases hk : k = j
      · exact hk.symm
      · rw [putFs_ne hk] at h2
        exact absurd (.inr h1) (R.fb k a h2)
    · rw [putFs_ne hj] at h1
      by_cases hk : k = i
      · subst hk
        rw [putFs_self] at h2
        exact absurd (.inr h2) (R.fb j a h1)
      · rw [putFs_ne hk] at h2
        exact R.dj j k a h1 h2
  · by_cases hj : j = i
    · subst hj; rw [putFs_self] at h; exact (n a h).2 z
    · rw [putFs_ne hj] at h; exact R.fb j a h (.inl z)
  · by_cases hj : j = i
    · subst hj; rw [putFs_self] at h; exact R.bd a (.inr h)
    · rw [putFs_ne hj] at h; exact R.fd j a h
  · by_cases hj : i = j
    · subst hj
      have hi : i < ks.length := (List.getElem?_eq_some_iff.mp hk).1
      rw [hk] at h1
      cases h1
      rw [List.getElem?_set_self (by rw [R.lρ]; exact hi)] at h2
      cases h2
      refine ⟨v, List.getElem?_set_self (by rw [R.lσ]; exact hi), ?_⟩
      show s.rep K _ H v d (putFs Fs i Fv i) ∧ ∀ a, putFs Fs i Fv i a → ¬ O.O a
      rw [putFs_self]
      exact ⟨s.mono r m fun _ _ => rfl, fun a ha => (n a ha).1⟩
    · rw [List.getElem?_set_ne hj] at h2
      obtain ⟨v', h3, h4⟩ := R.sl j k e h1 h2
      have nj : j ≠ i := fun z => hj z.symm
      refine ⟨v', by rw [List.getElem?_set_ne hj]; exact h3, ?_⟩
      cases k with
      | z => exact Rp.mono m h4
      | t =>
        refine h4.imp (Rp.mono m) fun ⟨r, p, e1, e2, e3, e4⟩ => ⟨r.mono m fun _ _ _ _ q => q, p, e1, e2, fun z => e3 (.inl z), fun q z => ?_⟩
        by_cases hq : q = i
        · subst hq; rw [putFs_self] at z; exact e3 (.inr z)
        · rw [putFs_ne hq] at z; exact e4 q z
      | ln s =>
        obtain ⟨F, r, n'⟩ := h4
        refine ⟨F, s.mono r m fun _ _ => rfl, fun a ha => ⟨fun z => (n' a ha).1 (.inl z), fun q z => ?_⟩⟩
        by_cases hq : q = i
        · subst hq; rw [putFs_self] at z; exact (n' a ha).1 (.inr z)
        · rw [putFs_ne hq] at z; exact (n' a ha).2 q z
      | ow s =>
        show s.rep K _ H v' e (putFs Fs i Fv j) ∧ ∀ a, putFs Fs i Fv j a → ¬ O.O a
        rw [putFs_ne nj]
        exact ⟨s.mono h4.1 m fun _ _ => rfl, h4.2⟩
      | io s =>
        show s.rep K _ H v' e (putFs Fs i Fv j) ∧ O.io j v'
        rw [putFs_ne nj]
        exact ⟨s.mono h4.1 m fun _ _ => rfl, h4.2⟩
end

section
variable {X : Cx} {K : PySem.W.Frag} {ks : List SK} {E : L2.St → XK} {rk kd : Kd} {pu pa pb : Bool} {e a b c tg iter elt : Expr} {st : Stmt} {sts sts2 : List Stmt} {t u : TS} {w v : WS} {te : TE} {we : WE} {pos : Pos} {tt : TT} {wt : WB}
/-! ### blocks -/
def wNext : WS := fun De ρ => De.nx ρ
def wSeq (w v : WS) : WS := fun De ρ => w { De with nx := v De } ρ
theorem ssNil (hK : X.K = K := by rfl) : QSs X K ks E rk [] tNext wNext := by cases hK; exact ⟨rfl, pss_nil, fun O Fs ρ σ H Dd Dh R hw L => L.nx ρ Fs σ H R (Fr.refl _ _) hw⟩
theorem snd_seq (h1 : SndS K ks E rk t w) (h2 : SndS K ks E rk u v) : SndS K ks E rk (tSeq t u) (wSeq w v) := fun O Fs ρ σ H Dd Dh R hw L =>
  h1 O Fs ρ σ H { Dd with nx := v Dd } { Dh with nx := u Dh } R hw ⟨fun ρ' Fs' σ' H' R' f p => h2 O Fs' ρ' σ' H' Dd Dh R' p (L.step f), L.bk, L.ct, L.rt, L.xx⟩
theorem ss (h1 : QS X K ks E rk st t w) (h2 : QSs X K ks E rk sts u v) : QSs X K ks E rk (st :: sts) (tSeq t u) (wSeq w v) := by cases h1.hK; exact ⟨rfl, pss_cons h1.ps h2.ps, snd_seq h1.snd h2.snd⟩
theorem s1 (h1 : QS X K ks E rk st t w) : QSs X K ks E rk [st] t w := by cases h1.hK; exact ⟨rfl, pss_one h1.ps, h1.snd⟩
theorem sPass (hK : X.K = K := by rfl) : QS X K ks E rk (.Pass pos) tNext wNext := by cases hK; exact ⟨rfl, ps_pass, fun O Fs ρ σ H Dd Dh R hw L => L.nx ρ Fs σ H R (Fr.refl _ _) hw⟩
def wBrk : WS := fun De ρ => De.bk ρ
def wCnt : WS := fun De ρ => De.ct ρ
theorem sBrk (hK : X.K = K := by rfl) : QS X K ks E rk (.Break pos) tBreak wBrk := by cases hK; exact ⟨rfl, ps_break, fun O Fs ρ σ H Dd Dh R hw L => L.bk ρ Fs σ H R (Fr.refl _ _) hw⟩
theorem sCnt (hK : X.K = K := by rfl) : QS X K ks E rk (.Continue pos) tCont wCnt := by cases hK; exact ⟨rfl, ps_continue, fun O Fs ρ σ H Dd Dh R hw L => L.ct ρ Fs σ H R (Fr.refl _ _) hw⟩
def wNever : WS := fun _ _ => False
theorem sNever (hK : X.K = K := by rfl) : QS X K ks E rk st tNever wNever := by cases hK; exact ⟨rfl, ps_never, fun O Fs ρ σ H Dd Dh R hw L => hw.elim⟩
def wExp (w : WE) : WS := fun De ρ => w ρ (fun _ ρ' => De.nx ρ') De.xx
theorem Res.repr {O : Gh} {Fs Fs' : Nat → AS} {H H' : Hp} {ρ' : Env} {σ : L2.St} {v : V} {d : D} (h : Res K ks O Fs H kd ρ' Fs' σ v d H') : Repr K ks O Fs' ρ' σ H' := by
  cases kd with
  | z => exact h.1
  | t => exact h.1
  | s => exact h.1
  | ln s => exact h.1
  | o s => obtain ⟨Fv, R, _⟩ := h; exact R.less
theorem sExp (h : PX X K ks E false kd e te we) (hs : swapsWith e none pos.line X.env = pure false := by rfl) : QS X K ks E rk (.Expr e pos) (tDrop te) (wExp we) := by cases h.hK; exact ⟨rfl, ps_expr h.pe hs, fun O Fs ρ σ H Dd Dh R hw L =>
  h.snd O Fs ρ σ H _ Dd.xx _ R hw (fun d ρ' Fs' v H' u f r p => L.nx ρ' Fs' σ H' r.repr f p) L.lkx⟩
theorem sDoc {x j pos pos'} (hK : X.K = K := by rfl) : QS X K ks E rk (.Expr (.Constant (.str x) j pos) pos') tNext wNext := by cases hK; exact ⟨rfl, ps_doc, fun O Fs ρ σ H Dd Dh R hw L => L.nx ρ Fs σ H R (Fr.refl _ _) hw⟩
def wRet (w : WE) : WS := fun De ρ => w ρ De.rt De.xx
theorem sRet (h : PX X K ks E false rk e te we) : QS X K ks E rk (.Return (some e) pos) (tRet te) (wRet we) := by cases h.hK; exact ⟨rfl, ps_ret h.pe, fun O Fs ρ σ H Dd Dh R hw L =>
  h.snd O Fs ρ σ H _ Dd.xx _ R hw (fun d ρ' Fs' v H' u f r p => L.rt d ρ' Fs' σ v H' f r p) L.lkx⟩
def wRetN : WS := fun De ρ => De.rt .non ρ
theorem sRetN (hK : X.K = K := by rfl) : QS X K ks E .z (.Return none pos) tRetN wRetN := by cases hK; exact ⟨rfl, ps_retN, fun O Fs ρ σ H Dd Dh R hw L => L.rt .non ρ Fs σ .non H (Fr.refl _ _) ⟨R, .non⟩ hw⟩
def wIfS (wt : WB) (w v : WS) : WS := fun De ρ => wt ρ (fun c ρ1 => if c = true then w De ρ1 else v De ρ1) De.xx
theorem sIf (h : PB X K ks E false c tt wt) (h1 : QSs X K ks E rk sts t w) (h2 : QSs X K ks E rk sts2 u v) : QS X K ks E rk (.If c sts sts2 pos) (tIfS tt t u) (wIfS wt w v) := by cases h.hK; exact ⟨rfl, ps_if h.pt h1.ps h2.ps, fun O Fs ρ σ H Dd Dh R hw L =>
  h.snd O Fs ρ σ H _ Dd.xx _ R hw (fun b ρ1 Fs1 H1 u1 f1 R1 p => by
    cases b with
    | true => rw [if_pos rfl] at p ⊢; exact h1.snd O Fs1 ρ1 σ H1 Dd Dh R1 p (L.step f1)
    | false => rw [if_neg Bool.false_ne_true] at p ⊢; exact h2.snd O Fs1 ρ1 σ H1 Dd Dh R1 p (L.step f1)) L.lkx⟩
/-! ### stores -/
def wSet (i : Nat) (w : WE) : WS := fun De ρ => w ρ (fun d ρ' => De.nx (ρ'.set i (some d))) De.xx
theorem sSet {i : Nat} {x : Str} {pos' : Pos} (hN : X.N.Nodup) (h : PX X K ks E false .z e te we) (hk : ks[i]? = some .z := by rfl) (hi : X.N[i]? = some x := by rfl) (hx : Loc X.env.scope x := by first | exact .inl rfl | exact .inr rfl) (hs : swapsWith e (some (.Name x pos')) pos.line X.env = pure false := by rfl)
    (hf : X.fn x = true ∨ X.env.scope.names.lookup x = some .local := by first | exact .inl rfl | exact .inr rfl | assumption) : QS X K ks E rk (.Assign [.Name x pos'] e pos) (tAsg te (gName i)) (wSet i we) := by cases h.hK; exact ⟨rfl, ps_set hN hi hx h.pe hs hf, fun O Fs ρ σ H Dd Dh R hw L =>
  h.snd O Fs ρ σ H _ Dd.xx _ R hw (fun d ρ' Fs' v H' u f r p => L.nx _ Fs' _ H' (r.1.set hk r.2) f p) L.lkx⟩
theorem Fr.putO {Fs Fs' : Nat → AS} {H H' : Hp} {i : Nat} {Fv : AS} (f : Fr Fs H Fs' H') (n : ∀ a, Fv a → (∃ j, Fs j a) ∨ H a = none) : Fr Fs H (putFs Fs' i Fv) H' := ⟨f.keep, f.dom, fun j a h => by
  by_cases hj : j = i
  · subst hj; rw [putFs_self] at h; exact n a h
  · rw [putFs_ne hj] at h; exact f.fp j a h⟩
theorem sSetO {s : Shp} {i : Nat} {x : Str} {pos' : Pos} (hN : X.N.Nodup) (h : PX X K ks E false (.o s) e te we) (hk : ks[i]? = some (.ow s) := by rfl) (hi : X.N[i]? = some x := by rfl) (hx : Loc X.env.scope x := by first | exact .inl rfl | exact .inr rfl) (hs : swapsWith e (some (.Name x pos')) pos.line X.env = pure false := by rfl)
    (hf : X.fn x = true ∨ X.env.scope.names.lookup x = some .local := by first | exact .inl rfl | exact .inr rfl | assumption) : QS X K ks E rk (.Assign [.Name x pos'] e pos) (tAsg te (gName i)) (wSet i we) := by cases h.hK; exact ⟨rfl, ps_set hN hi hx h.pe hs hf, fun O Fs ρ σ H Dd Dh R hw L =>
  h.snd O Fs ρ σ H _ Dd.xx _ R hw (fun d ρ' Fs' v H' u f r p => by
    obtain ⟨Fv, R', q, n⟩ := r
    exact L.nx _ _ _ H' (R'.setO hk q fun a ha => ⟨(n a ha).1, (n a ha).2.1⟩) (f.putO fun a ha => (n a ha).2.2) p) L.lkx⟩
/-! ### targets of plain data -/
abbrev WG := D → Env → (Env → Prop) → Prop
abbrev WGs := List D → Env → (Env → Prop) → Prop
structure QG (X : Cx) (K : PySem.W.Frag) (ks : List SK) (tg : Expr) (g : TG) (w : WG) : Prop where
  hK : X.K = K
  pg : PG X tg g
  snd : ∀ O Fs ρ σ H v d Ψ Q, Repr K ks O Fs ρ σ H → Rp K (av O Fs) H v d → w d ρ Ψ → (∀ ρ' σ', Repr K ks O Fs ρ' σ' H → Ψ ρ' → Q σ' H) → g v σ H Q
structure QGs (X : Cx) (K : PySem.W.Frag) (ks : List SK) (tg : List Expr) (g : TGs) (w : WGs) : Prop where
  hK : X.K = K
  pg : PGs X tg g
  snd : ∀ O Fs ρ σ H vs ds Ψ Q, Repr K ks O Fs ρ σ H → RpL K (av O Fs) H vs ds → w ds ρ Ψ → (∀ ρ' σ', Repr K ks O Fs ρ' σ' H → Ψ ρ' → Q σ' H) → g vs σ H Q
def wgName (i : Nat) : WG := fun d ρ Ψ => Ψ (ρ.set i (some d))
theorem gN {i : Nat} {x : Str} (hN : X.N.Nodup) (hk : ks[i]? = some .z := by rfl) (hi : X.N[i]? = some x := by rfl) (hx : Loc X.env.scope x := by first | exact .inl rfl | exact .inr rfl) (hf : X.fn x = true ∨ X.env.scope.names.lookup x = some .local := by first | exact .inl rfl | exact .inr rfl | assumption) (hK : X.K = K := by rfl) :
    QG X K ks (.Name x pos) (gName i) (wgName i) := by cases hK; exact ⟨rfl, pg_name hN hi hx hf, fun O Fs ρ σ H v d Ψ Q R r hw hq => hq _ _ (R.set hk r) hw⟩
def wgNil : WGs := fun ds ρ Ψ => ds = [] ∧ Ψ ρ
def wgCons (w : WG) (ws : WGs) : WGs := fun ds ρ Ψ => match ds with | d :: r => w d ρ fun ρ' => ws r ρ' Ψ | [] => False
def wgTup (n : Nat) (ws : WGs) : WG := fun d ρ Ψ => match d with | .tup ds => ds.length = n ∧ ws ds ρ Ψ | _ => False
variable {tgs : List Expr} {g : TG} {gs : TGs} {wg : WG} {wgs : WGs}
theorem gsNil (hK : X.K = K := by rfl) : QGs X K ks [] gNil wgNil := by cases hK; exact ⟨rfl, pgs_nil, fun O Fs ρ σ H vs ds Ψ Q R r hw hq => by
  obtain ⟨rfl, hw⟩ := hw
  cases r
  exact ⟨rfl, hq ρ σ R hw⟩⟩
theorem gsCons (h : QG X K ks tg g wg) (h2 : QGs X K ks tgs gs wgs) (hs : (assignEach (tg :: tgs) X.env).map (·.2) = assign tg X.env :: (assignEach tgs X.env).map (·.2) := by rfl) : QGs X K ks (tg :: tgs) (gCons g gs) (wgCons wg wgs) := by cases h.hK; exact ⟨rfl, pgs_cons h.pg h2.pg hs, fun O Fs ρ σ H vs ds Ψ Q R r hw hq => by
  cases r with
  | nil => exact hw.elim
  | cons r1 r2 =>
    exact ⟨_, _, rfl, h.snd O Fs ρ σ H _ _ _ _ R r1 hw fun ρ' σ' R' p => h2.snd O Fs ρ' σ' H _ _ Ψ Q R' r2 p hq⟩⟩
theorem gT {n k : Nat} (hc : X.calm = true) (h : QGs X K ks tgs gs wgs) (hn : (assignEach tgs X.env).length = n := by rfl) (hst : (assignEach tgs X.env).findIdx? (·.1) = none := by rfl) : QG X K ks (.Tuple tgs k pos) (gTup K n gs) (wgTup n wgs) := by cases h.hK; exact ⟨rfl, pg_tup hc h.pg hn hst, fun O Fs ρ σ H v d Ψ Q R r hw hq => by
  cases d with
  | tup ds =>
    obtain ⟨p, vs, rfl, e, rl⟩ := r.sqT
    exact ⟨p, vs, rfl, e, by rw [rl.length]; exact hw.1, h.snd O Fs ρ σ H _ _ Ψ Q R rl hw.2 hq⟩
  | _ => exact hw.elim⟩
def wAsg (w : WE) (wg : WG) : WS := fun De ρ => w ρ (fun d ρ' => wg d ρ' De.nx) De.xx
theorem sAsg (h : PX X K ks E false .z e te we) (hg : QG X K ks tg g wg) (hs : swapsWithSole [tg] e pos.line X.env = pure false := by rfl) (hw : swappedStores [tg] e X.env = pure none := by rfl) (h1 : (assignEach [tg] X.env).map (·.2) = [assign tg X.env] := by rfl) : QS X K ks E rk (.Assign [tg] e pos) (tAsg te g) (wAsg we wg) := by cases h.hK; exact ⟨rfl, ps_asg h.pe hg.pg hs hw h1, fun O Fs ρ σ H Dd Dh R hw L =>
  h.snd O Fs ρ σ H _ Dd.xx _ R hw (fun d ρ' Fs' v H' u f r p => hg.snd O Fs' ρ' σ H' v d Dd.nx Dh.nx r.1 r.2 p fun ρ2 σ2 R2 p2 => L.nx ρ2 Fs' σ2 H' R2 f p2) L.lkx⟩
/-- x op= e, x of plain data -/
def wAug (i : Nat) (w : WE) (w2 : W2) : WS := fun De ρ => ∃ x, ρ[i]? = some (some x) ∧ w ρ (fun y ρ' => w2 x y fun z => De.nx (ρ'.set i (some z))) De.xx
theorem sAug {op : Operator} {ti : TIp} {w2 : W2} {i : Nat} {x : Str} {pos' : Pos} (hN : X.N.Nodup) (ho : PIp X op ti) (o : OpD K ti w2) (h : PX X K ks E false .z e te we) (hk : ks[i]? = some .z := by rfl) (hi : X.N[i]? = some x := by rfl) (hx : Loc X.env.scope x := by first | exact .inl rfl | exact .inr rfl)
    (hf : X.fn x = true ∨ X.env.scope.names.lookup x = some .local := by first | exact .inl rfl | exact .inr rfl | assumption) : QS X K ks E rk (.AugAssign (.Name x pos') op e pos) (tAug i te ti) (wAug i we w2) := by cases h.hK; exact ⟨rfl, ps_aug hN hi hx h.pe ho hf, fun O Fs ρ σ H Dd Dh R hw L => by
  obtain ⟨d, h1, hw⟩ := hw
  obtain ⟨v, h3, h4⟩ := R.sl i _ d hk h1
  refine ⟨v, h3, h.snd O Fs ρ σ H _ Dd.xx _ R hw (fun y ρ' Fs' yv H' u f r p => ?_) L.lkx⟩
  exact o _ H' v yv d y _ _ (fun a => r.1.adom) (.of (h4.mono f.mo)) (.of r.2) p fun z zv H2 e2 rz pz => L.nx _ Fs' _ H2 ((r.1.ext e2).set hk rz) (f.trans e2.fr) pz⟩
end
end Fw

/-! Fw8: what is walked; for, while; comprehensions. -/
namespace Fw
open PySem L2

/-- what stood off A0 is as it was -/
structure Kp (f : Bool) (A0 A1 : AS) (H0 H1 : Hp) : Prop where
  keep : ∀ a, (f = true ∨ ¬ A0 a) → H0 a ≠ none → H1 a = H0 a
  av : ∀ a, A1 a → A0 a ∨ H0 a = none
  dom : ∀ a, A1 a → H1 a ≠ none
theorem Kp.mo {f : Bool} {A0 A1 : AS} {H0 H1 : Hp} (k : Kp f A0 A1 H0 H1) : Mo A0 A1 H0 H1 := ⟨fun a o n h => by
  have hn : H0 a ≠ none := fun z => by rw [hc_none.mpr z] at h; cases h
  unfold hc at h ⊢
  rw [k.keep a (.inr n) hn]
  exact h, k.av⟩
def ItOk (f : Bool) (K : PySem.W.Frag) (A0 : AS) (H0 : Hp) (J : It) (ds : List D) : Prop :=
  ∀ i A1 H1, Kp f A0 A1 H0 H1 → (∀ d, ds[i]? = some d → J.go i H1 ∧ ∀ x H2, J.yld i H1 x H2 → Ext H1 H2 ∧ Rp K A1 H2 x d) ∧ (ds.length ≤ i → J.stop i H1)
structure PXi (X : Cx) (K : PySem.W.Frag) (ks : List SK) (E : L2.St → XK) (fl pu : Bool) (tg iter : Expr) (wi : TI) (w : WA) : Prop where
  hK : X.K = K
  pi : PI X tg iter wi
  snd : ∀ O Fs ρ σ H Ψ Ξ R, Repr K ks O Fs ρ σ H → w ρ Ψ Ξ → (∀ ds ρ' Fs' J H', Pu pu ρ ρ' Fs Fs' H H' → Fr Fs H Fs' H' → Repr K ks O Fs' ρ' σ H' → ItOk fl K (av O Fs') H' J ds → Ψ ds ρ' → R J H') → LkX K ks O Fs σ H Ξ (E σ) → wi σ H R

section
variable {K : PySem.W.Frag} {A : AS} {H : Hp}
theorem it_lst {p : Addr} {ds : List D} (r : Rp K A H (.ref p) (.lst ds)) : ItOk false K A H (Itl K p) ds := fun i A1 H1 k => by
  have r1 := r.mono k.mo
  obtain ⟨vs, n, e, rl⟩ := r1.sqL
  refine ⟨fun d hd => ?_, fun hi => ⟨vs, SqL.of e, by rw [rl.length]; exact hi⟩⟩
  obtain ⟨v, h1, h2⟩ := rl.get hd
  refine ⟨⟨vs, v, SqL.of e, h1⟩, fun x H2 y => ?_⟩
  obtain ⟨rfl, y⟩ := y
  have q := y vs (SqL.of e)
  rw [h1] at q
  cases q
  exact ⟨Ext.refl _, h2⟩
theorem it_tup {p : Addr} {ds : List D} (r : Rp K A H (.ref p) (.tup ds)) : ItOk false K A H (Itt K p) ds := fun i A1 H1 k => by
  have r1 := r.mono k.mo
  obtain ⟨p', vs, e0, e, rl⟩ := r1.sqT
  cases e0
  refine ⟨fun d hd => ?_, fun hi => ⟨vs, e, by rw [rl.length]; exact hi⟩⟩
  obtain ⟨v, h1, h2⟩ := rl.get hd
  refine ⟨⟨vs, v, e, h1⟩, fun x H2 y => ?_⟩
  obtain ⟨rfl, y⟩ := y
  have q := y vs e
  rw [h1] at q
  cases q
  exact ⟨Ext.refl _, h2⟩
def signs (x : Str) : List D := x.cps.toList.map fun c => .str ⟨#[c]⟩
theorem it_str {x : Str} : ItOk false K A H (Its x) (signs x) := fun i A1 H1 k => by
  refine ⟨fun d hd => ?_, fun hi => by
    unfold signs at hi
    rw [List.length_map] at hi
    exact (show x.cps.size ≤ i by simpa using hi)⟩
  unfold signs at hd
  rw [List.getElem?_map] at hd
  cases e : x.cps.toList[i]? with
  | none => rw [e] at hd; cases hd
  | some c =>
    rw [e] at hd
    cases hd
    have hl := (List.getElem?_eq_some_iff.mp e).1
    refine ⟨(show i < x.cps.size by simpa using hl), fun y H2 hy => ?_⟩
    obtain ⟨rfl, c', h1, rfl⟩ := hy
    have e' : x.cps[i]? = some c := by simpa using e
    rw [e'] at h1
    cases h1
    exact ⟨Ext.refl _, .str _⟩
def irange (lo : Int) (n : Nat) : List D := (List.range n).map fun i : Nat => .int (lo + (i : Int))
theorem it_rng {lo : Int} {n : Nat} : ItOk false K A H (Itr lo n) (irange lo n) := fun i A1 H1 k => by
  refine ⟨fun d hd => ?_, fun hi => by unfold irange at hi; rw [List.length_map, List.length_range] at hi; exact hi⟩
  unfold irange at hd
  rw [List.getElem?_map] at hd
  by_cases hi : i < n
  · rw [List.getElem?_range hi] at hd
    cases hd
    refine ⟨hi, fun y H2 hy => ?_⟩
    obtain ⟨rfl, rfl⟩ := hy
    exact ⟨Ext.refl _, .int _⟩
  · rw [List.getElem?_eq_none (by simpa using Nat.le_of_not_lt hi)] at hd
    cases hd
theorem it_enum {p : Addr} {ds : List D} (r : Rp K A H (.ref p) (.lst ds)) : ItOk false K A H (Ite K p) (ds.zipIdx.map fun q => .tup [.int (q.2 : Nat), q.1]) := fun i A1 H1 k => by
  have r1 := r.mono k.mo
  obtain ⟨vs, n, e, rl⟩ := r1.sqL
  refine ⟨fun d hd => ?_, fun hi => ⟨vs, SqL.of e, by rw [rl.length]; simpa using hi⟩⟩
  rw [List.getElem?_map, List.getElem?_zipIdx] at hd
  cases e1 : ds[i]? with
  | none => rw [e1] at hd; cases hd
  | some d0 =>
    rw [e1] at hd
    have hd' : D.tup [.int ((0 + i : Nat) : Int), d0] = d := by simpa using hd
    subst hd'
    obtain ⟨v, h1, h2⟩ := rl.get e1
    refine ⟨⟨vs, v, SqL.of e, h1⟩, fun x H2 y => ?_⟩
    obtain ⟨T, y0, rfl, hT, rfl, y⟩ := y
    have q := y vs (SqL.of e)
    rw [h1] at q
    cases q
    refine ⟨Ext.upd hT, .tup (fun z => k.dom _ z hT) (hc_tup.mpr upd_same) (.cons ?_ (.cons (h2.mono (Ext.upd hT).mo) .nil))⟩
    rw [Nat.zero_add]
    exact .int _
theorem it_zip {p q : Addr} {ds es : List D} (r : Rp K A H (.ref p) (.lst ds)) (r' : Rp K A H (.ref q) (.lst es)) : ItOk false K A H (Itz K p q) ((ds.zip es).map fun x => .tup [x.1, x.2]) := fun i A1 H1 k => by
  have r1 := r.mono k.mo
  have r1' := r'.mono k.mo
  obtain ⟨vs, n, e, rl⟩ := r1.sqL
  obtain ⟨us, n', e', rl'⟩ := r1'.sqL
  refine ⟨fun d hd => ?_, fun hi => ⟨vs, us, SqL.of e, SqL.of e', by rw [rl.length, rl'.length]; rw [List.length_map, List.length_zip] at hi; omega⟩⟩
  rw [List.getElem?_map] at hd
  cases e1 : (ds.zip es)[i]? with
  | none => rw [e1] at hd; cases hd
  | some d0 =>
    rw [e1] at hd
    cases hd
    obtain ⟨h1, h2⟩ := List.getElem?_zip_eq_some.mp e1
    obtain ⟨v, g1, g2⟩ := rl.get h1
    obtain ⟨u, g3, g4⟩ := rl'.get h2
    refine ⟨⟨vs, us, v, u, SqL.of e, SqL.of e', g1, g3⟩, fun x H2 y => ?_⟩
    obtain ⟨T, x0, y0, rfl, hT, rfl, y1, y2⟩ := y
    have q1 := y1 vs (SqL.of e)
    have q2 := y2 us (SqL.of e')
    rw [g1] at q1
    rw [g3] at q2
    cases q1
    cases q2
    exact ⟨Ext.upd hT, .tup (fun z => k.dom _ z hT) (hc_tup.mpr upd_same) (.cons (g2.mono (Ext.upd hT).mo) (.cons (g4.mono (Ext.upd hT).mo) .nil))⟩
theorem it_rev {p : Addr} {ds : List D} (r : Rp K A H (.ref p) (.lst ds)) : ItOk false K A H (Itv K p ds.length) ds.reverse := fun i A1 H1 k => by
  have r1 := r.mono k.mo
  obtain ⟨vs, n, e, rl⟩ := r1.sqL
  refine ⟨fun d hd => ?_, fun hi => by rw [List.length_reverse] at hi; exact hi⟩
  have hi : i < ds.length := by have := (List.getElem?_eq_some_iff.mp hd).1; rwa [List.length_reverse] at this
  rw [List.getElem?_reverse hi] at hd
  obtain ⟨v, h1, h2⟩ := rl.get hd
  refine ⟨⟨hi, vs, v, SqL.of e, h1⟩, fun x H2 y => ?_⟩
  obtain ⟨rfl, y⟩ := y
  have q := y vs (SqL.of e)
  rw [h1] at q
  cases q
  exact ⟨Ext.refl _, h2⟩
theorem it_revT {p : Addr} {ds : List D} (r : Rp K A H (.ref p) (.tup ds)) : ItOk false K A H (RT.ItvT K p ds.length) ds.reverse := fun i A1 H1 k => by
  have r1 := r.mono k.mo
  obtain ⟨p', vs, e0, e, rl⟩ := r1.sqT
  cases e0
  refine ⟨fun d hd => ?_, fun hi => by rw [List.length_reverse] at hi; exact hi⟩
  have hi : i < ds.length := by have := (List.getElem?_eq_some_iff.mp hd).1; rwa [List.length_reverse] at this
  rw [List.getElem?_reverse hi] at hd
  obtain ⟨v, h1, h2⟩ := rl.get hd
  refine ⟨⟨hi, vs, v, e, h1⟩, fun x H2 y => ?_⟩
  obtain ⟨rfl, y⟩ := y
  have q := y vs e
  rw [h1] at q
  cases q
  exact ⟨Ext.refl _, h2⟩
end

section
variable {X : Cx} {K : PySem.W.Frag} {ks : List SK} {E : L2.St → XK} {rk kd : Kd} {pu pa pb : Bool} {e e2 a b c tg iter elt : Expr} {st : Stmt} {sts sts2 : List Stmt} {t u : TS} {w v : WS} {te tb : TE} {we wb : WE} {pos p : Pos} {tt : TT} {wt : WB} {ta : TA} {wa : WA}
/-- a list, a tuple or a text -/
def iSeq (K : PySem.W.Frag) (tl : TE) : TI := fun σ H R => tl σ H fun x H1 => (∃ a, x = .ref a ∧ (∃ xs, SqL K H1 a xs) ∧ R (Itl K a) H1) ∨ (∃ a, x = .ref a ∧ (∃ xs, SqT K H1 a xs) ∧ R (Itt K a) H1) ∨ ∃ z, x = .str z ∧ R (Its z) H1
theorem pi_seq {l : Expr} {tl : TE} (hl : PE X l tl) : PI X tg l (iSeq X.K tl) := by
  refine ⟨fun pins s σ H R I h => ?_⟩
  refine thn (hl.run pins s σ H _ I h) fun v s1 ⟨x, H1, I1, r1, q1⟩ => ?_
  rcases q1 with ⟨a, e, ⟨xs, hq⟩, q⟩ | ⟨a, e, ⟨xs, hq⟩, q⟩ | ⟨z, e, q⟩
  · subst e
    cases r1
    obtain ⟨its, rv, p, hz⟩ := I1.list hq
    refine wpAny_pyIter_list p.isList ?_
    refine ⟨s1.heap.objs.size, [s1.heap.objs.size], _, _, H1, rfl, I1.kept (t' := s1.toks) fun b o e => Heap.get?_push_of_some _ e, turn_list a _, ⟨_, Heap.get?_push_size _ rfl, rfl, rfl⟩, fun b hb => ?_, q⟩
    have e : b = s1.heap.objs.size := by simpa using hb
    subst e
    exact I1.fpOk (Nat.le_refl _) (I1.hok.fresh (Nat.le_refl _))
  · subst e
    cases r1
    obtain ⟨its, rv, p, hz⟩ := I1.tuple hq
    refine wpAny_pyIter_tuple (show s1.heap.IsTuple a its.toArray from p) ?_
    refine ⟨s1.heap.objs.size, [s1.heap.objs.size], _, _, H1, rfl, I1.kept (t' := s1.toks) fun b o e => Heap.get?_push_of_some _ e, turn_tuple a _, ⟨_, Heap.get?_push_size _ rfl, rfl, rfl⟩, fun b hb => ?_, q⟩
    have e : b = s1.heap.objs.size := by simpa using hb
    subst e
    exact I1.fpOk (Nat.le_refl _) (I1.hok.fresh (Nat.le_refl _))
  · subst e
    obtain ⟨t, rfl⟩ := r1
    cases ha : z.cps.all (· < 128)
    · exact wpAny_pyIter_wide ha (pi_one (tk := s1.toks) I1 _ (turn_str _ z t "str_iterator" (.inr rfl)) ⟨_, Heap.get?_push_size _ rfl, rfl, rfl⟩ q)
    · exact wpAny_pyIter_ascii ha (pi_one (tk := s1.toks) I1 _ (turn_str _ z t "str_ascii_iterator" (.inl rfl)) ⟨_, Heap.get?_push_size _ rfl, rfl, rfl⟩ q)
/-- the items of what is walked -/
def dItems (d : D) (Ψ : List D → Prop) : Prop := match d with
  | .lst xs => Ψ xs
  | .tup xs => Ψ xs
  | .str z => Ψ (signs z)
  | _ => False
def wiSeq (w : WE) : WA := fun ρ Ψ Ξ => w ρ (fun d ρ' => dItems d fun ds => Ψ ds ρ') Ξ
theorem iS (h : PX X K ks E pu .z iter te we) : PXi X K ks E false pu tg iter (iSeq K te) (wiSeq we) := by cases h.hK; exact ⟨rfl, pi_seq h.pe, fun O Fs ρ σ H Ψ Ξ R R0 hw hq hx => by
  refine h.snd O Fs ρ σ H _ Ξ _ R0 hw (fun d ρ' Fs' v H' uu f r p => ?_) hx
  cases d with
  | lst xs =>
    have r2 := r.2
    cases r.2 with
    | lst n e rl => exact .inl ⟨_, rfl, ⟨_, SqL.of (hc_lst.mp e)⟩, hq xs ρ' Fs' _ H' uu f r.1 (it_lst r2) p⟩
  | tup xs =>
    have r2 := r.2
    obtain ⟨q, vs, rfl, e, _⟩ := r.2.sqT
    exact .inr (.inl ⟨q, rfl, ⟨vs, e⟩, hq xs ρ' Fs' _ H' uu f r.1 (it_tup r2) p⟩)
  | str z =>
    cases r.2
    exact .inr (.inr ⟨z, rfl, hq _ ρ' Fs' _ H' uu f r.1 it_str p⟩)
  | _ => exact p.elim⟩
theorem ItOk.any {K : PySem.W.Frag} {A : AS} {H : Hp} {J : It} {ds : List D} {f : Bool} (h : ItOk false K A H J ds) : ItOk f K A H J ds := fun i A1 H1 k => h i A1 H1 ⟨fun a n hn => k.keep a (.inr (n.elim (fun q => by cases q) _root_.id)) hn, k.av, k.dom⟩
theorem it_lstT {K : PySem.W.Frag} {A : AS} {H : Hp} {p : Addr} {vs : List V} {ds : List D} (e : hc H p = some (.lst vs)) (rl : RpL K A H vs ds) : ItOk true K A H (Itl K p) ds := fun i A1 H1 k => by
  have e0 := hc_lst.mp e
  have e1 : H1 p = some (.lst vs) := by rw [k.keep p (.inl rfl) (by rw [e0]; simp), e0]
  have r1 := rl.mono k.mo
  refine ⟨fun d hd => ?_, fun hi => ⟨vs, SqL.of e1, by rw [rl.length]; exact hi⟩⟩
  obtain ⟨v, h1, h2⟩ := r1.get hd
  refine ⟨⟨vs, v, SqL.of e1, h1⟩, fun x H2 y => ?_⟩
  obtain ⟨rfl, y⟩ := y
  have q := y vs (SqL.of e1)
  rw [h1] at q
  cases q
  exact ⟨Ext.refl _, h2⟩
theorem iSt (h : PX X K ks E pu kd iter te we) (hk : kd.op := by trivial) : PXi X K ks E true pu tg iter (iSeq K te) (wiSeq we) := by cases h.hK; exact ⟨rfl, pi_seq h.pe, fun O Fs ρ σ H Ψ Ξ R R0 hw hq hx => by
  refine h.snd O Fs ρ σ H _ Ξ _ R0 hw (fun d ρ' Fs' v H' uu f r p => ?_) hx
  obtain ⟨R1, y⟩ := r.rt hk
  cases d with
  | lst xs =>
    cases y with
    | of r2 =>
      cases r2 with
      | lst n e rl => exact .inl ⟨_, rfl, ⟨_, SqL.of (hc_lst.mp e)⟩, hq xs ρ' Fs' _ H' uu f R1 (ItOk.any (it_lst (.lst n e rl))) p⟩
    | lst e rl => exact .inl ⟨_, rfl, ⟨_, SqL.of (hc_lst.mp e)⟩, hq xs ρ' Fs' _ H' uu f R1 (it_lstT e rl) p⟩
  | tup xs =>
    cases y with
    | of r2 =>
      have r3 := r2
      obtain ⟨q, vs, rfl, e, _⟩ := r2.sqT
      exact .inr (.inl ⟨q, rfl, ⟨vs, e⟩, hq xs ρ' Fs' _ H' uu f R1 (ItOk.any (it_tup r3)) p⟩)
  | str z =>
    cases y with
    | of r2 =>
      cases r2
      exact .inr (.inr ⟨z, rfl, hq _ ρ' Fs' _ H' uu f R1 (ItOk.any it_str) p⟩)
  | _ => exact p.elim⟩
def wiRng1 (w : WA) : WA := fun ρ Ψ Ξ => w ρ (fun ds ρ' => match ds with | [.int j] => -(2 ^ 62) ≤ j ∧ j < 2 ^ 62 ∧ Ψ (irange 0 j.toNat) ρ' | _ => False) Ξ
def wiRng2 (w : WA) : WA := fun ρ Ψ Ξ => w ρ (fun ds ρ' => match ds with | [.int i, .int j] => (-(2 ^ 62) ≤ i ∧ i < 2 ^ 62 ∧ -(2 ^ 62) ≤ j ∧ j < 2 ^ 62) ∧ Ψ (irange i (j - i).toNat) ρ' | _ => False) Ξ
theorem iR1 (hm : X.mg "range" = none) (h : PXs X K ks E pu [a] ta wa) (hg : Gl X "range" := by rfl) (hs : starEach [a] X.env = [(false, eval a X.env)] := by rfl) : PXi X K ks E false pu tg (.Call (.Name "range" p) [a] [] pos) (iRng1 ta) (wiRng1 wa) := by cases h.hK; exact ⟨rfl, pi_range1 hg hm h.pa hs, fun O Fs ρ σ H Ψ Ξ R R0 hw hq hx => by
  refine h.snd O Fs ρ σ H _ Ξ _ R0 hw (fun ds ρ' Fs' vs H' uu f R1 r p => ?_) hx
  split at p
  · cases r with | cons h1 t => cases h1; cases t; exact ⟨_, rfl, p.1, p.2.1, hq _ ρ' Fs' _ H' uu f R1 it_rng p.2.2⟩
  · exact p.elim⟩
theorem iR2 (hm : X.mg "range" = none) (h : PXs X K ks E pu [a, b] ta wa) (hg : Gl X "range" := by rfl) (hs : starEach [a, b] X.env = [(false, eval a X.env), (false, eval b X.env)] := by rfl) (hs2 : starEach [b] X.env = [(false, eval b X.env)] := by rfl) : PXi X K ks E false pu tg (.Call (.Name "range" p) [a, b] [] pos) (iRng2 ta) (wiRng2 wa) := by cases h.hK; exact ⟨rfl, pi_range2 hg hm h.pa hs hs2, fun O Fs ρ σ H Ψ Ξ R R0 hw hq hx => by
  refine h.snd O Fs ρ σ H _ Ξ _ R0 hw (fun ds ρ' Fs' vs H' uu f R1 r p => ?_) hx
  split at p
  · cases r with | cons h1 t => cases h1; cases t with | cons h2 t => cases h2; cases t; exact ⟨_, _, rfl, p.1, hq _ ρ' Fs' _ H' uu f R1 it_rng p.2⟩
  · exact p.elim⟩
def wiEnum (w : WA) : WA := fun ρ Ψ Ξ => w ρ (fun ds ρ' => match ds with | [.lst xs] => Ψ (xs.zipIdx.map fun q => .tup [.int (q.2 : Nat), q.1]) ρ' | _ => False) Ξ
theorem iEn {elts : List Expr} {kk : Nat} {tpos : Pos} (hm : X.mg "enumerate" = none) (h : PXs X K ks E pu [a] ta wa) (hg : Gl X "enumerate" := by rfl) (hs : starEach [a] X.env = [(false, eval a X.env)] := by rfl) : PXi X K ks E false pu (.Tuple elts kk tpos) (.Call (.Name "enumerate" p) [a] [] pos) (iEnum K ta) (wiEnum wa) := by cases h.hK; exact ⟨rfl, pi_enum hg hm h.pa hs, fun O Fs ρ σ H Ψ Ξ R R0 hw hq hx => by
  refine h.snd O Fs ρ σ H _ Ξ _ R0 hw (fun ds ρ' Fs' vs H' uu f R1 r p => ?_) hx
  split at p
  · cases r with | cons h1 t => cases t; cases h1 with | lst n e rl => exact ⟨_, _, rfl, SqL.of (hc_lst.mp e), hq _ ρ' Fs' _ H' uu f R1 (it_enum (.lst n e rl)) p⟩
  · exact p.elim⟩
def wiZip (w : WA) : WA := fun ρ Ψ Ξ => w ρ (fun ds ρ' => match ds with | [.lst xs, .lst ys] => Ψ ((xs.zip ys).map fun x => .tup [x.1, x.2]) ρ' | _ => False) Ξ
theorem iZ {elts : List Expr} {kk : Nat} {tpos : Pos} (hm : X.mg "zip" = none) (h : PXs X K ks E pu [a, b] ta wa) (hg : Gl X "zip" := by rfl) (hs : starEach [a, b] X.env = (false, eval a X.env) :: starEach [b] X.env := by rfl) (hpl : (backTo pos (starEach [b] X.env)).any (·.1) = false := by rfl) : PXi X K ks E false pu (.Tuple elts kk tpos) (.Call (.Name "zip" p) [a, b] [] pos) (iZip K ta) (wiZip wa) := by cases h.hK; exact ⟨rfl, pi_zip hg hm h.pa hs hpl, fun O Fs ρ σ H Ψ Ξ R R0 hw hq hx => by
  refine h.snd O Fs ρ σ H _ Ξ _ R0 hw (fun ds ρ' Fs' vs H' uu f R1 r p => ?_) hx
  split at p
  · cases r with | cons h1 t => cases t with | cons h2 t => cases t; cases h1 with | lst n e rl => cases h2 with | lst n' e' rl' => exact ⟨_, _, _, _, rfl, SqL.of (hc_lst.mp e), SqL.of (hc_lst.mp e'), hq _ ρ' Fs' _ H' uu f R1 (it_zip (.lst n e rl) (.lst n' e' rl')) p⟩
  · exact p.elim⟩
def dRevItems (d : D) (Ψ : List D → Prop) : Prop := match d with
  | .lst xs => Ψ xs.reverse
  | .tup xs => Ψ xs.reverse
  | _ => False
def wiRev (w : WE) : WA := fun ρ Ψ Ξ => w ρ (fun d ρ' => dRevItems d fun ds => Ψ ds ρ') Ξ
theorem iRv (hm : X.mg "reversed" = none) (h : PX X K ks E pu .z a te we) (hg : Gl X "reversed" := by rfl) (hs : starEach [a] X.env = (false, eval a X.env) :: starEach [] X.env := by rfl) : PXi X K ks E false pu tg (.Call (.Name "reversed" p) [a] [] pos) (RT.iRevA K te) (wiRev we) := by cases h.hK; exact ⟨rfl, RT.pi_revA hg hm h.pe hs, fun O Fs ρ σ H Ψ Ξ R R0 hw hq hx => by
  refine h.snd O Fs ρ σ H _ Ξ _ R0 hw (fun d ρ' Fs' v H' uu f r p => ?_) hx
  cases d with
  | lst xs =>
    have r2 := r.2
    cases r.2 with
    | lst n e rl => exact ⟨_, _, rfl, .inl ⟨SqL.of (hc_lst.mp e), hq _ ρ' Fs' _ H' uu f r.1 (by rw [rl.length]; exact it_rev r2) p⟩⟩
  | tup xs =>
    have r2 := r.2
    obtain ⟨q, vs, rfl, e, rl⟩ := r.2.sqT
    exact ⟨q, vs, rfl, .inr ⟨e, hq _ ρ' Fs' _ H' uu f r.1 (by rw [rl.length]; exact it_revT r2) p⟩⟩
  | _ => exact p.elim⟩

/-! ### for -/
def wLoop (wg : WG) (wb : WS) : List D → DEnds → Env → Prop
  | [], De, ρ => De.nx ρ
  | d :: ds, De, ρ => wg d ρ fun ρ1 => wb { De with nx := fun ρ2 => wLoop wg wb ds De ρ2, ct := fun ρ2 => wLoop wg wb ds De ρ2, bk := De.nx } ρ1
def wFor (wi : WA) (wg : WG) (wb : WS) : WS := fun De ρ => wi ρ (fun ds ρ1 => wLoop wg wb ds De ρ1) De.xx
theorem Fr.kp {O : Gh} {Fs Fs' : Nat → AS} {H H' : Hp} {ρ' : Env} {σ' : L2.St} (f : Fr Fs H Fs' H') (R : Repr K ks O Fs' ρ' σ' H') : Kp false (av O Fs) (av O Fs') H H' := ⟨fun a n h => f.keep a (fun i z => n.elim (fun q => by cases q) fun n => n (.inr (.inr ⟨i, z⟩))) h, f.mo.av, fun a => R.adom⟩
variable {wi : TI} {wiD : WA} {g : TG} {wg : WG}
theorem snd_for (hi : PXi X K ks E false pu tg iter wi wiD) (hg : QG X K ks tg g wg) (hb : SndS K ks E rk t w) : SndS K ks E rk (tFor wi g t) (wFor wiD wg w) := fun O Fs ρ σ H Dd Dh R hw L => by
  refine hi.snd O Fs ρ σ H _ Dd.xx _ R hw (fun ds ρ1 Fs1 J H1 _ f1 R1 it p => ?_) L.lkx
  have L1 := L.step f1
  refine ⟨fun i m σ' H' => m = ds.length - i ∧ i ≤ ds.length ∧ ∃ Fs' ρ', Repr K ks O Fs' ρ' σ' H' ∧ Fr Fs1 H1 Fs' H' ∧ wLoop wg w (ds.drop i) Dd ρ', ⟨ds.length, rfl, Nat.zero_le _, Fs1, ρ1, R1, Fr.refl _ _, by simpa using p⟩, ?_⟩
  rintro i m σ' H' ⟨rfl, hle, Fs', ρ', R', f', p'⟩
  obtain ⟨go, stop⟩ := it i (av O Fs') H' (f'.kp R')
  by_cases hlt : i < ds.length
  · obtain ⟨hgo, hy⟩ := go ds[i] (by simp [hlt])
    refine .inr ⟨hgo, fun σ2 H2 => i + 1 ≤ ds.length ∧ ∃ Fs2 ρ2, Repr K ks O Fs2 ρ2 σ2 H2 ∧ Fr Fs1 H1 Fs2 H2 ∧ wLoop wg w (ds.drop (i + 1)) Dd ρ2, fun σ2 H2 h2 => ⟨ds.length - (i + 1), by omega, rfl, h2⟩, fun x H2 y => ?_⟩
    obtain ⟨e2, rx⟩ := hy x H2 y
    rw [List.drop_eq_getElem_cons hlt] at p'
    refine hg.snd O Fs' ρ' σ' H2 x _ _ _ (R'.ext e2) rx p' fun ρ3 σ3 R3 p3 => ?_
    have f3 : Fr Fs1 H1 Fs' H2 := f'.trans e2.fr
    refine hb O Fs' ρ3 σ3 H2 _ _ R3 p3 ⟨fun ρ4 Fs4 σ4 H4 R4 f4 p4 => ⟨hlt, Fs4, ρ4, R4, f3.trans f4, p4⟩, fun ρ4 Fs4 σ4 H4 R4 f4 p4 => L1.nx ρ4 Fs4 σ4 H4 R4 (f3.trans f4) p4, fun ρ4 Fs4 σ4 H4 R4 f4 p4 => ⟨hlt, Fs4, ρ4, R4, f3.trans f4, p4⟩, (L1.step f3).rt, (L1.step f3).xx⟩
  · have e : i = ds.length := by omega
    subst e
    rw [List.drop_length] at p'
    exact .inl ⟨stop (Nat.le_refl _), L1.nx ρ' Fs' σ' H' R' f' p'⟩
theorem sFor (hp : PassesOwn (model X.prog X.w) X.A X.env X.xe) (hc : X.calm = true) (hi : PXi X K ks E false false tg iter wi wiD) (hg : QG X K ks tg g wg) (hb : QSs X K ks E rk sts t w) (hs : ∀ x, foldedSetIterable iter X.env x = pure x := by intro _; rfl) :
    QS X K ks E rk (.For tg iter sts [] pos) (tFor wi g t) (wFor wiD wg w) := by cases hi.hK; exact ⟨rfl, ps_for hp hc hi.pi hg.pg hb.ps hs, snd_for hi hg hb.snd⟩

/-! ### while -/
def wWhile (wc : WB) (wb : WS) : WS := fun De ρ => ∃ W : Nat → Env → Prop, (∃ m, W m ρ) ∧ ∀ m ρ, W m ρ → wc ρ (fun b ρ1 => if b = true then wb { De with nx := fun ρ' => ∃ m', m' < m ∧ W m' ρ', ct := fun ρ' => ∃ m', m' < m ∧ W m' ρ', bk := De.nx } ρ1 else De.nx ρ1) De.xx
theorem snd_while (hc : SndB K ks E pu tt wt) (hb : SndS K ks E rk t w) : SndS K ks E rk (tWhile tt t) (wWhile wt w) := fun O Fs ρ σ H Dd Dh R hw L => by
  obtain ⟨W, ⟨m0, w0⟩, turn⟩ := hw
  refine ⟨fun m σ' H' => ∃ Fs' ρ', Repr K ks O Fs' ρ' σ' H' ∧ Fr Fs H Fs' H' ∧ W m ρ', ⟨m0, Fs, ρ, R, Fr.refl _ _, w0⟩, ?_⟩
  rintro m σ' H' ⟨Fs', ρ', R', f', w'⟩
  have L' := L.step f'
  refine hc O Fs' ρ' σ' H' _ Dd.xx _ R' (turn m ρ' w') (fun b ρ1 Fs1 H1 _ f1 R1 p1 => ?_) L'.lkx
  have L1 := L'.step f1
  cases b with
  | true =>
    rw [if_pos rfl] at p1 ⊢
    refine ⟨fun σ2 H2 => ∃ m', m' < m ∧ ∃ Fs2 ρ2, Repr K ks O Fs2 ρ2 σ2 H2 ∧ Fr Fs H Fs2 H2 ∧ W m' ρ2, fun σ2 H2 h => h, ?_⟩
    refine hb O Fs1 ρ1 σ' H1 _ _ R1 p1 ⟨fun ρ4 Fs4 σ4 H4 R4 f4 ⟨m', hm, p4⟩ => ⟨m', hm, Fs4, ρ4, R4, f'.trans (f1.trans f4), p4⟩, fun ρ4 Fs4 σ4 H4 R4 f4 p4 => L1.nx ρ4 Fs4 σ4 H4 R4 f4 p4, fun ρ4 Fs4 σ4 H4 R4 f4 ⟨m', hm, p4⟩ => ⟨m', hm, Fs4, ρ4, R4, f'.trans (f1.trans f4), p4⟩, L1.rt, L1.xx⟩
  | false =>
    rw [if_neg Bool.false_ne_true] at p1 ⊢
    exact L1.nx ρ1 Fs1 σ' H1 R1 (Fr.refl _ _) p1
theorem sWhile (hp : PassesOwn (model X.prog X.w) X.A X.env X.xe) (hc : PB X K ks E false c tt wt) (hb : QSs X K ks E rk sts t w) : QS X K ks E rk (.While c sts [] pos) (tWhile tt t) (wWhile wt w) := by cases hc.hK; exact ⟨rfl, ps_while hp hc.pt hb.ps, snd_while hc.snd hb.snd⟩
end
end Fw

/-! Fw9: list comprehensions. -/
namespace Fw
open PySem L2

def wipeE (ρ : Env) : List Nat → Env
  | [] => ρ
  | v :: vs => (wipeE ρ vs).set v none
theorem wipe_at (σ : L2.St) (j : Nat) : ∀ vs : List Nat, (wipe σ vs)[j]? = if j ∈ vs then (if j < σ.length then some none else none) else σ[j]?
  | [] => by simp [wipe]
  | v :: vs => by
    unfold wipe
    by_cases h : v = j
    · subst h
      by_cases hl : v < σ.length
      · rw [List.getElem?_set_self (by rw [wipe_length]; exact hl)]
        simp [hl]
      · rw [List.getElem?_eq_none (by rw [List.length_set, wipe_length]; omega)]
        simp [hl]
    · rw [List.getElem?_set_ne h, wipe_at σ j vs]
      have : (j ∈ v :: vs) ↔ j ∈ vs := by
        rw [List.mem_cons]
        exact ⟨fun z => z.elim (fun e => absurd e.symm h) id, .inr⟩
      simp only [this]
theorem wipe_wipe (σ : L2.St) (vs : List Nat) : wipe (wipe σ vs) vs = wipe σ vs := by
  apply List.ext_getElem?
  intro j
  rw [wipe_at, wipe_at, wipe_length]
  by_cases hj : j ∈ vs
  · rw [if_pos hj, if_pos hj]
  · rw [if_neg hj, if_neg hj]
theorem wipe_set {σ : L2.St} {i : Nat} {x : Option V} {vs : List Nat} (h : i ∈ vs) : wipe (σ.set i x) vs = wipe σ vs := by
  apply List.ext_getElem?
  intro j
  rw [wipe_at, wipe_at, List.length_set]
  by_cases hj : j ∈ vs
  · rw [if_pos hj, if_pos hj]
  · rw [if_neg hj, if_neg hj, List.getElem?_set_ne (fun e => hj (by rw [← e]; exact h))]

section
variable {K : PySem.W.Frag} {ks : List SK} {O : Gh} {Fs : Nat → AS} {ρ : Env} {σ σ2 : L2.St} {H : Hp}
theorem Repr.wipe (R : Repr K ks O Fs ρ σ H) : ∀ vs : List Nat, Repr K ks O Fs (wipeE ρ vs) (L2.wipe σ vs) H
  | [] => R
  | v :: vs => (Repr.wipe R vs).unset
theorem Repr.slots (R : Repr K ks O Fs ρ σ H) (hl : σ2.length = σ.length) (h : ∀ (i : Nat) v, σ[i]? = some (some v) → σ2[i]? = some (some v)) : Repr K ks O Fs ρ σ2 H :=
  ⟨R.lρ, hl.trans R.lσ, R.dj, R.od, R.bd, R.fb, R.fd, fun i k d h1 h2 => let ⟨v, h3, h4⟩ := R.sl i k d h1 h2; ⟨v, h i v h3, h4⟩⟩
theorem Repr.rewipe (R : Repr K ks O Fs ρ σ2 H) {vs : List Nat} (e : L2.wipe σ2 vs = L2.wipe σ vs) : Repr K ks O Fs (wipeE ρ vs) (L2.wipe σ vs) H := by
  rw [← e]
  exact R.wipe vs
theorem Repr.unwipe {vs : List Nat} (R : Repr K ks O Fs ρ (L2.wipe σ vs) H) : Repr K ks O Fs ρ σ H := R.slots (by rw [wipe_length]) fun i v h => (wipe_some h).1
/-- a busy object is changed -/
theorem Repr.updB (R : Repr K ks O Fs ρ σ H) {a : Addr} {o : HO} (h : O.B a) : Repr K ks O Fs ρ σ (upd H a o) := by
  have hk : ∀ b u, b ≠ a → hc H b = some u → hc (upd H a o) b = some u := fun b u nb q => by unfold hc at q ⊢; rw [upd_ne nb]; exact q
  have m : Mo (av O Fs) (av O Fs) H (upd H a o) := ⟨fun b u n q => hk b u (fun e => n (.inr (.inl (e ▸ h)))) q, fun _ z => .inl z⟩
  have nn : ∀ b, H b ≠ none → upd H a o b ≠ none := fun b z => by
    by_cases e : b = a
    · rw [e, upd_same]; simp
    · rw [upd_ne e]; exact z
  refine ⟨R.lρ, R.lσ, R.dj, fun b z => nn b (R.od b z), fun b z => nn b (R.bd b z), R.fb, fun i b z => nn b (R.fd i b z), fun i k d h1 h2 => ?_⟩
  obtain ⟨v, h3, h4⟩ := R.sl i k d h1 h2
  refine ⟨v, h3, ?_⟩
  have fe : ∀ b, ¬ O.B b → upd H a o b = H b := fun b nb => upd_ne fun e => nb (e ▸ h)
  cases k with
  | z => exact Rp.mono m h4
  | t => exact h4.imp (Rp.mono m) fun ⟨r, p, e1, e2, e3, e4⟩ => ⟨r.monoAt m fun q eq u z => hk q u (fun e => by rw [eq] at e1; cases e1; exact e3 (e ▸ h)) z, p, e1, nn p e2, e3, e4⟩
  | ln s => obtain ⟨F, r, n⟩ := h4; exact ⟨F, s.mono r m fun b hb => fe b (n b hb).1, n⟩
  | ow s => exact ⟨s.mono h4.1 m fun b hb => fe b (R.fb i b hb), h4.2⟩
  | io s => exact ⟨s.mono h4.1 m fun b hb => fe b (R.fb i b hb), h4.2⟩
end
/-- a target stores the block's own names alone -/
def GOnly (g : TG) (vs : List Nat) : Prop := ∀ v σ H Q, g v σ H Q → g v σ H fun σ' H' => wipe σ' vs = wipe σ vs ∧ Q σ' H'
def GsOnly (g : TGs) (vs : List Nat) : Prop := ∀ v σ H Q, g v σ H Q → g v σ H fun σ' H' => wipe σ' vs = wipe σ vs ∧ Q σ' H'
theorem go_name {i : Nat} {vs : List Nat} (h : i ∈ vs) : GOnly (gName i) vs := fun v σ H Q q => ⟨wipe_set h, q⟩
theorem go_nil {vs : List Nat} : GsOnly gNil vs := fun v σ H Q q => ⟨q.1, rfl, q.2⟩
theorem gName_mono : True := trivial
def GMono (g : TG) : Prop := ∀ v σ H (Q Q' : L2.St → Hp → Prop), (∀ σ' H', Q σ' H' → Q' σ' H') → g v σ H Q → g v σ H Q'
def GsMono (g : TGs) : Prop := ∀ v σ H (Q Q' : L2.St → Hp → Prop), (∀ σ' H', Q σ' H' → Q' σ' H') → g v σ H Q → g v σ H Q'
theorem gm_name {i : Nat} : GMono (gName i) := fun v σ H Q Q' h q => h _ _ q
theorem gm_nil : GsMono gNil := fun v σ H Q Q' h q => ⟨q.1, h _ _ q.2⟩
theorem gm_cons {g : TG} {gs : TGs} (h1 : GMono g) (h2 : GsMono gs) : GsMono (gCons g gs) := fun v σ H Q Q' h ⟨a, r, e, q⟩ => ⟨a, r, e, h1 _ _ _ _ _ (fun σ' H' => h2 _ _ _ _ _ h) q⟩
theorem gm_tup {K : PySem.W.Frag} {n : Nat} {gs : TGs} (h2 : GsMono gs) : GMono (gTup K n gs) := fun v σ H Q Q' h ⟨a, xs, e, s, l, q⟩ => ⟨a, xs, e, s, l, h2 _ _ _ _ _ h q⟩
theorem go_cons {g : TG} {gs : TGs} {vs : List Nat} (m1 : GMono g) (m2 : GsMono gs) (h1 : GOnly g vs) (h2 : GsOnly gs vs) : GsOnly (gCons g gs) vs := fun v σ H Q ⟨a, r, e, q⟩ => by
  refine ⟨a, r, e, m1 _ _ _ _ _ (fun σ' H' z => ?_) (h1 _ _ _ _ q)⟩
  exact m2 _ _ _ _ _ (fun σ2 H2 y => ⟨y.1.trans z.1, y.2⟩) (h2 _ _ _ _ z.2)
theorem go_tup {K : PySem.W.Frag} {n : Nat} {gs : TGs} {vs : List Nat} (h2 : GsOnly gs vs) : GOnly (gTup K n gs) vs := fun v σ H Q ⟨a, xs, e, s, l, q⟩ => ⟨a, xs, e, s, l, h2 _ _ _ _ q⟩

def wLcL (wg : WG) (wt : WB) (we : WE) (vs : List Nat) : List D → List D → Env → (List D → Env → Prop) → Prop
  | [], acc, ρ, Ψ => Ψ acc ρ
  | d :: ds, acc, ρ, Ψ => wg d ρ fun ρ1 => wt ρ1 (fun b ρ2 => if b = true then we ρ2 (fun y ρ3 => acc.length < sizeLine ∧ wLcL wg wt we vs ds (acc ++ [y]) (wipeE ρ3 vs) Ψ) (fun _ _ => False) else wLcL wg wt we vs ds acc (wipeE ρ2 vs) Ψ) (fun _ _ => False)
/-- a comprehension whose parts may change what is owned -/
def wLc (wi : WA) (wg : WG) (wt : WB) (we : WE) (vs : List Nat) : WE := fun ρ Ψ Ξ => wi ρ (fun ds ρ1 => wLcL wg wt we vs ds [] (wipeE ρ1 vs) fun acc ρ2 => Ψ (.lst acc) ρ2) Ξ
/-- .. whose parts are pure -/
def wLcP (wi : WA) (wg : WG) (wt : WB) (we : WE) (vs : List Nat) : WE := fun ρ Ψ Ξ => wi ρ (fun ds ρ1 => wLcL wg wt we vs ds [] (wipeE ρ1 vs) fun acc _ => Ψ (.lst acc) ρ1) Ξ
abbrev EN : L2.St → XK := fun _ _ _ _ => False
def wYes : WB := fun ρ Ψ _ => Ψ true ρ
theorem snd_yes {K : PySem.W.Frag} {ks : List SK} {E : L2.St → XK} : SndB K ks E true tYes wYes := fun O Fs ρ σ H Ψ Ξ Q R hw hq hx => hq true ρ Fs H (fun _ => ⟨rfl, rfl, Ext.refl H⟩) (Fr.refl _ _) R hw
theorem av_upd_mo {A : AS} {H : Hp} {a : Addr} {o : HO} (h : A a) : Mo A A H (upd H a o) := ⟨fun b u n q => by unfold hc at q ⊢; rw [upd_ne (fun e => n (by rw [e]; exact h))]; exact q, fun _ z => .inl z⟩
section
variable {X : Cx} {K : PySem.W.Frag} {ks : List SK} {E : L2.St → XK} {fl pi pt pe : Bool} {tg iter elt : Expr} {wi : TI} {wiD : WA} {g : TG} {wg : WG} {tt : TT} {wt : WB} {te : TE} {we : WE} {vs : List Nat}
theorem snd_lc (hi : PXi X K ks E false pi tg iter wi wiD) (hg : ∀ O Fs ρ σ H v d Ψ Q, Repr K ks O Fs ρ σ H → Rp K (av O Fs) H v d → wg d ρ Ψ → (∀ ρ' σ', Repr K ks O Fs ρ' σ' H → Ψ ρ' → Q σ' H) → g v σ H Q) (gm : GMono g) (go : GOnly g vs)
    (ht : SndB K ks EN pt tt wt) (he : Snd K ks EN pe .z te we) : Snd K ks E false (.o shL) (tLc wi g tt te vs) (wLc wiD wg wt we vs) := fun O Fs ρ σ H Ψ Ξ Q R hw hq hx => by
  refine hi.snd O Fs ρ σ H _ Ξ _ R hw (fun ds ρ1 Fs1 J H1 _ f1 R1 it p => ?_) hx
  intro D hD
  have e0 : Ext H1 (upd H1 D (.lst [])) := Ext.upd hD
  have hDB : (O.add fun a => a = D).B D := .inr rfl
  let W : Nat → Hp → Prop := fun i H2 => i ≤ ds.length ∧ ∃ (Fs2 : Nat → AS) (ρ2 : Env) (av2 : List V) (acc : List Fw.D), Repr K ks (O.add fun a => a = D) Fs2 ρ2 (wipe σ vs) H2 ∧ Fr Fs1 H1 Fs2 H2 ∧ H2 D = some (.lst av2) ∧
      RpL K (av (O.add fun a => a = D) Fs2) H2 av2 acc ∧ wLcL wg wt we vs (ds.drop i) acc ρ2 (fun acc ρ2 => Ψ (.lst acc) ρ2)
  refine ⟨fun i m H2 => m = ds.length - i ∧ W i H2, ⟨ds.length, rfl, Nat.zero_le _, Fs1, _, [], [], (R1.add e0 (fun a z => by subst z; exact ⟨hD, by rw [upd_same]; simp⟩)).wipe vs, e0.fr, upd_same, .nil, by simpa using p⟩, ?_⟩
  rintro i m H2 ⟨rfl, hle, Fs2, ρ2, av2, acc, R2, f2, hD2, ra, p2⟩
  have kp : Kp false (av O Fs1) (av (O.add fun a => a = D) Fs2) H1 H2 := ⟨fun a n h => f2.keep a (fun i z => n.elim (fun q => by cases q) fun n => n (.inr (.inr ⟨i, z⟩))) h, fun a z => by
      rcases av_add_inv z with z | z
      · exact f2.mo.av a z
      · exact .inr (by rw [z]; exact hD), fun a => R2.adom⟩
  obtain ⟨go1, stop⟩ := it i _ H2 kp
  by_cases hlt : i < ds.length
  · obtain ⟨hgo, hy⟩ := go1 ds[i] (by simp [hlt])
    refine .inr ⟨hgo, W (i + 1), fun H3 h3 => ⟨ds.length - (i + 1), by omega, rfl, h3⟩, fun x H3 y => ?_⟩
    obtain ⟨e2, rx⟩ := hy x H3 y
    have hD3 : H3 D = some (.lst av2) := by rw [e2 D (by rw [hD2]; simp), hD2]
    have ra3 := ra.mono e2.mo
    have f3 : Fr Fs1 H1 Fs2 H3 := f2.trans e2.fr
    rw [List.drop_eq_getElem_cons hlt] at p2
    have gw := hg (O.add fun a => a = D) Fs2 ρ2 (wipe σ vs) H3 x _ _ (fun σ3 H4 => H4 = H3 ∧ ∃ ρ3, Repr K ks (O.add fun a => a = D) Fs2 ρ3 σ3 H3 ∧ wt ρ3 (fun b ρ2 => if b = true then we ρ2 (fun y ρ3 => acc.length < sizeLine ∧ wLcL wg wt we vs (ds.drop (i + 1)) (acc ++ [y]) (wipeE ρ3 vs) fun acc ρ2 => Ψ (.lst acc) ρ2) (fun _ _ => False) else wLcL wg wt we vs (ds.drop (i + 1)) acc (wipeE ρ2 vs) fun acc ρ2 => Ψ (.lst acc) ρ2) (fun _ _ => False))
      (R2.ext e2) rx p2 (fun ρ3 σ3 R3 p3 => ⟨rfl, ρ3, R3, p3⟩)
    refine gm _ _ _ _ _ (fun σ3 H4 z => ?_) (go _ _ _ _ gw)
    obtain ⟨ew, rfl, ρ3, R3, p3⟩ := z
    rw [wipe_wipe] at ew
    refine ⟨ew, ?_⟩
    refine ht _ Fs2 ρ3 σ3 H4 _ (fun _ _ => False) _ R3 p3 (fun b ρ4 Fs4 H5 _ f4 R4 p4 => ?_) (fun _ _ _ _ _ _ _ _ _ q => q.elim)
    have hD5 : H5 D = some (.lst av2) := by rw [f4.keep D (fun j z => R3.fb j D z hDB) (by rw [hD3]; simp), hD3]
    cases b with
    | false =>
      rw [if_neg Bool.false_ne_true] at p4 ⊢
      exact ⟨hlt, Fs4, _, av2, acc, R4.rewipe ew, f3.trans f4, hD5, ra3.mono f4.mo, p4⟩
    | true =>
      rw [if_pos rfl] at p4 ⊢
      refine he _ Fs4 ρ4 σ3 H5 _ (fun _ _ => False) _ R4 p4 (fun yd ρ5 Fs5 yv H6 _ f5 r5 p5 => ?_) (fun _ _ _ _ _ _ _ _ _ q => q.elim)
      obtain ⟨R5, ry⟩ := r5
      have ra5 := (ra3.mono f4.mo).mono f5.mo
      have hD6 : H6 D = some (.lst av2) := by rw [f5.keep D (fun j z => R4.fb j D z hDB) (by rw [hD5]; simp), hD5]
      refine ⟨av2, hD6, by rw [ra5.length]; exact p5.1, hlt, Fs5, _, av2 ++ [yv], acc ++ [yd], (R5.updB hDB).rewipe ew, ?_, upd_same, (ra5.append (.cons ry .nil)).mono (av_upd_mo (.inr (.inl hDB))), p5.2⟩
      have fA : Fr Fs1 H1 Fs5 H6 := f3.trans (f4.trans f5)
      refine ⟨fun a n h => ?_, fun a h => ?_, fA.fp⟩
      · rw [upd_ne (fun e => by rw [e] at h; exact h hD)]
        exact fA.keep a n h
      · rw [upd_ne (fun e => by rw [e] at h; exact h hD)]
        exact fA.dom a h
  · have e : i = ds.length := by omega
    subst e
    rw [List.drop_length] at p2
    refine .inl ⟨stop (Nat.le_refl _), ?_⟩
    have hn : H D = none := by
      cases q : H D with
      | none => rfl
      | some o => exact absurd hD (f1.dom D (by rw [q]; simp))
    exact hq (.lst acc) ρ2 Fs2 (.ref D) H2 (fun z => by cases z) (f1.trans f2) ⟨fun a => a = D, R2.unwipe, ⟨D, av2, acc, rfl, rfl, fun _ => Iff.rfl, hD2, ra⟩, fun a z => by
      subst z
      exact ⟨fun q => R.od _ q hn, fun q => R.bd _ q hn, .inr hn⟩⟩ p2
/-- pure parts: the slots are as before -/
theorem snd_lcP (hi : PXi X K ks E true pi tg iter wi wiD) (hg : ∀ O Fs ρ σ H v d Ψ Q, Repr K ks O Fs ρ σ H → Rp K (av O Fs) H v d → wg d ρ Ψ → (∀ ρ' σ', Repr K ks O Fs ρ' σ' H → Ψ ρ' → Q σ' H) → g v σ H Q) (gm : GMono g) (go : GOnly g vs)
    (ht : SndB K ks EN true tt wt) (he : Snd K ks EN true .z te we) : Snd K ks E pi (.o shL) (tLc wi g tt te vs) (wLcP wiD wg wt we vs) := fun O Fs ρ σ H Ψ Ξ Q R hw hq hx => by
  refine hi.snd O Fs ρ σ H _ Ξ _ R hw (fun ds ρ1 Fs1 J H1 u1 f1 R1 it p => ?_) hx
  intro D hD
  have e0 : Ext H1 (upd H1 D (.lst [])) := Ext.upd hD
  have hDB : (O.add fun a => a = D).B D := .inr rfl
  let W : Nat → Hp → Prop := fun i H2 => i ≤ ds.length ∧ ∃ (ρ2 : Env) (av2 : List V) (acc : List Fw.D), Repr K ks (O.add fun a => a = D) Fs1 ρ2 (wipe σ vs) H2 ∧ Ext H1 H2 ∧ H2 D = some (.lst av2) ∧
      RpL K (av (O.add fun a => a = D) Fs1) H2 av2 acc ∧ wLcL wg wt we vs (ds.drop i) acc ρ2 (fun acc _ => Ψ (.lst acc) ρ1)
  refine ⟨fun i m H2 => m = ds.length - i ∧ W i H2, ⟨ds.length, rfl, Nat.zero_le _, _, [], [], (R1.add e0 (fun a z => by subst z; exact ⟨hD, by rw [upd_same]; simp⟩)).wipe vs, e0, upd_same, .nil, by simpa using p⟩, ?_⟩
  rintro i m H2 ⟨rfl, hle, ρ2, av2, acc, R2, f2, hD2, ra, p2⟩
  have kp : Kp true (av O Fs1) (av (O.add fun a => a = D) Fs1) H1 H2 := ⟨fun a _ h => f2 a h, fun a z => (av_add_inv z).imp id fun z => by rw [z]; exact hD, fun a => R2.adom⟩
  obtain ⟨go1, stop⟩ := it i _ H2 kp
  by_cases hlt : i < ds.length
  · obtain ⟨hgo, hy⟩ := go1 ds[i] (by simp [hlt])
    refine .inr ⟨hgo, W (i + 1), fun H3 h3 => ⟨ds.length - (i + 1), by omega, rfl, h3⟩, fun x H3 y => ?_⟩
    obtain ⟨e2, rx⟩ := hy x H3 y
    have hD3 : H3 D = some (.lst av2) := by rw [e2 D (by rw [hD2]; simp), hD2]
    have ra3 := ra.mono e2.mo
    rw [List.drop_eq_getElem_cons hlt] at p2
    have gw := hg (O.add fun a => a = D) Fs1 ρ2 (wipe σ vs) H3 x _ _ (fun σ3 H4 => H4 = H3 ∧ ∃ ρ3, Repr K ks (O.add fun a => a = D) Fs1 ρ3 σ3 H3 ∧ wt ρ3 (fun b ρ2 => if b = true then we ρ2 (fun y ρ3 => acc.length < sizeLine ∧ wLcL wg wt we vs (ds.drop (i + 1)) (acc ++ [y]) (wipeE ρ3 vs) fun acc _ => Ψ (.lst acc) ρ1) (fun _ _ => False) else wLcL wg wt we vs (ds.drop (i + 1)) acc (wipeE ρ2 vs) fun acc _ => Ψ (.lst acc) ρ1) (fun _ _ => False))
      (R2.ext e2) rx p2 (fun ρ3 σ3 R3 p3 => ⟨rfl, ρ3, R3, p3⟩)
    refine gm _ _ _ _ _ (fun σ3 H4 z => ?_) (go _ _ _ _ gw)
    obtain ⟨ew, rfl, ρ3, R3, p3⟩ := z
    rw [wipe_wipe] at ew
    refine ⟨ew, ?_⟩
    refine ht _ Fs1 ρ3 σ3 H4 _ (fun _ _ => False) _ R3 p3 (fun b ρ4 Fs4 H5 u4 f4 R4 p4 => ?_) (fun _ _ _ _ _ _ _ _ _ q => q.elim)
    obtain ⟨rfl, rfl, e4⟩ := u4 rfl
    have hD5 : H5 D = some (.lst av2) := by rw [e4 D (by rw [hD3]; simp), hD3]
    cases b with
    | false =>
      rw [if_neg Bool.false_ne_true] at p4 ⊢
      exact ⟨hlt, _, av2, acc, R4.rewipe ew, f2.trans (e2.trans e4), hD5, ra3.mono f4.mo, p4⟩
    | true =>
      rw [if_pos rfl] at p4 ⊢
      refine he _ Fs4 ρ4 σ3 H5 _ (fun _ _ => False) _ R4 p4 (fun yd ρ5 Fs5 yv H6 u5 f5 r5 p5 => ?_) (fun _ _ _ _ _ _ _ _ _ q => q.elim)
      obtain ⟨rfl, rfl, e5⟩ := u5 rfl
      obtain ⟨R5, ry⟩ := r5
      have ra5 := (ra3.mono f4.mo).mono f5.mo
      have hD6 : H6 D = some (.lst av2) := by rw [e5 D (by rw [hD5]; simp), hD5]
      refine ⟨av2, hD6, by rw [ra5.length]; exact p5.1, hlt, _, av2 ++ [yv], acc ++ [yd], (R5.updB hDB).rewipe ew, ?_, upd_same, (ra5.append (.cons ry .nil)).mono (av_upd_mo (.inr (.inl hDB))), p5.2⟩
      intro a h
      rw [upd_ne (fun e => by rw [e] at h; exact h hD)]
      exact (f2.trans (e2.trans (e4.trans e5))) a h
  · have e : i = ds.length := by omega
    subst e
    rw [List.drop_length] at p2
    refine .inl ⟨stop (Nat.le_refl _), ?_⟩
    have hn : H D = none := by
      cases q : H D with
      | none => rfl
      | some o => exact absurd hD (f1.dom D (by rw [q]; simp))
    have R3 : Repr K ks (O.add fun a => a = D) Fs1 ρ1 σ H2 := R1.add f2 (fun a z => by subst z; exact ⟨hD, by rw [hD2]; simp⟩)
    exact hq (.lst acc) ρ1 Fs1 (.ref D) H2 (fun z => let ⟨a, b, c⟩ := u1 z; ⟨a, b, c.trans f2⟩) (f1.trans f2.fr) ⟨fun a => a = D, R3, ⟨D, av2, acc, rfl, rfl, fun _ => Iff.rfl, hD2, ra⟩, fun a z => by
      subst z
      exact ⟨fun q => R.od _ q hn, fun q => R.bd _ q hn, .inr hn⟩⟩ p2
end
end Fw

/-! Fw10: calls of defs: a def's promise over data, its body, its call. -/
namespace Fw
open PySem L2

/-- a promise over data: the arguments, what is wanted of the result and of the lent objects that changed, of an exception -/
abbrev SpD := List D → (D → List D → Prop) → (Exc → List D → Prop) → Prop
def iosL : List SK → Env → Option (List D)
  | [], _ => some []
  | .io _ :: ks, some d :: ρ => (iosL ks ρ).map (d :: ·)
  | .io _ :: _, none :: _ => none
  | .io _ :: _, [] => none
  | .z :: ks, _ :: ρ => iosL ks ρ
  | .t :: ks, _ :: ρ => iosL ks ρ
  | .ln _ :: ks, _ :: ρ => iosL ks ρ
  | .ow _ :: ks, _ :: ρ => iosL ks ρ
  | _ :: _, [] => none
/-- the promise over the heap -/
def spOf (K : PySem.W.Frag) (kp : List SK) (rk : Kd) (S : SpD) : Sp := fun vs H Q E => ∃ (O B : AS) (Fs : Nat → AS) (ds : List D) (Ψ : D → List D → Prop) (Ξ : Exc → List D → Prop),
  Repr K kp ⟨O, B, fun j v => vs[j]? = some v⟩ Fs (ds.map some) (vs.map some) H ∧ S ds Ψ Ξ ∧
  (∀ d ρ' Fs' v H' os, Fr Fs H Fs' H' → Res K kp ⟨O, B, fun j v => vs[j]? = some v⟩ Fs H rk ρ' Fs' (vs.map some) v d H' → iosL kp ρ' = some os → Ψ d os → Q v H') ∧
  (∀ x ρ' Fs' cls od H' os, Repr K kp ⟨O, B, fun j v => vs[j]? = some v⟩ Fs' ρ' (vs.map some) H' → Fr Fs H Fs' H' → XRep K (av ⟨O, B, fun j v => vs[j]? = some v⟩ Fs') H' x cls od → iosL kp ρ' = some os → Ξ x os → E cls od H')
theorem spOf_len {K : PySem.W.Frag} {kp : List SK} {rk : Kd} {S : SpD} {vs : List V} {H : Hp} {Q : VK} {E : XK} (h : spOf K kp rk S vs H Q E) : vs.length = kp.length := by
  obtain ⟨O, B, Fs, ds, Ψ, Ξ, R, _⟩ := h
  have := R.lσ
  rwa [List.length_map] at this

section
variable {K : PySem.W.Frag} {kp kl : List SK} {O : Gh} {Fs : Nat → AS} {ρ : Env} {σ : L2.St} {H : Hp}
/-- at the entry: the parameters, then names without a value -/
theorem Repr.enter (R : Repr K kp O Fs ρ σ H) (h0 : ∀ j a, kp.length ≤ j → ¬ Fs j a) {n : Nat} (hl : kl.length = n) : Repr K (kp ++ kl) O Fs (ρ ++ List.replicate n none) (σ ++ List.replicate n none) H := by
  refine ⟨by rw [List.length_append, List.length_append, List.length_replicate, R.lρ, hl], by rw [List.length_append, List.length_append, List.length_replicate, R.lσ, hl], R.dj, R.od, R.bd, R.fb, R.fd, fun i k d h1 h2 => ?_⟩
  by_cases hi : i < kp.length
  · rw [List.getElem?_append_left hi] at h1
    rw [List.getElem?_append_left (by rw [R.lρ]; exact hi)] at h2
    obtain ⟨v, h3, h4⟩ := R.sl i k d h1 h2
    exact ⟨v, by rw [List.getElem?_append_left (by rw [R.lσ]; exact hi)]; exact h3, h4⟩
  · rw [List.getElem?_append_right (by rw [R.lρ]; omega), List.getElem?_replicate] at h2
    split at h2
    · cases h2
    · cases h2
/-- footprints of what is no parameter are forgotten -/
def cutFs (n : Nat) (Fs : Nat → AS) : Nat → AS := fun i a => i < n ∧ Fs i a
def isIo : SK → Bool
  | .io _ => true
  | _ => false
/-- at the end: what is left of the parameters -/
def mio : List SK → Env → Env
  | .io _ :: ks, d :: ρ => d :: mio ks ρ
  | _ :: ks, _ :: ρ => none :: mio ks ρ
  | _, _ => []
theorem mio_length : ∀ (ks : List SK) (ρ : Env), ks.length ≤ ρ.length → (mio ks ρ).length = ks.length
  | [], _, _ => by simp [mio]
  | k :: ks, [], h => by simp at h
  | k :: ks, d :: ρ, h => by
    have ih := mio_length ks ρ (by simpa using h)
    cases k <;> (unfold mio; rw [List.length_cons, List.length_cons, ih])
theorem mio_at : ∀ {ks : List SK} {ρ : Env} {i : Nat} {k : SK} {d : D}, ks[i]? = some k → (mio ks ρ)[i]? = some (some d) → (∃ s, k = .io s) ∧ ρ[i]? = some (some d)
  | [], _, _, _, _, h, _ => by simp at h
  | k :: ks, [], i, _, _, h, h2 => by cases k <;> simp [mio] at h2
  | k :: ks, e :: ρ, 0, k', d, h, h2 => by
    have hk : k = k' := by simpa using h
    subst hk
    cases k with
    | io s => exact ⟨⟨s, rfl⟩, by simpa [mio] using h2⟩
    | _ => simp [mio] at h2
  | k :: ks, e :: ρ, i + 1, k', d, h, h2 => by
    have h' : ks[i]? = some k' := by simpa using h
    have h2' : (mio ks ρ)[i]? = some (some d) := by cases k <;> simpa [mio] using h2
    obtain ⟨a, b⟩ := mio_at h' h2'
    exact ⟨a, by simpa using b⟩
theorem iosL_mio : ∀ (ks : List SK) (ρ : Env), ks.length ≤ ρ.length → iosL ks (mio ks ρ) = iosL ks ρ
  | [], ρ, _ => by cases ρ <;> simp [mio, iosL]
  | k :: ks, [], h => by simp at h
  | k :: ks, d :: ρ, h => by
    have ih := iosL_mio ks ρ (by simpa using h)
    cases k <;> first
      | (simp only [mio, iosL]; exact ih)
      | (cases d <;> simp only [mio, iosL, ih])
theorem Repr.leave {vs : List V} (R : Repr K (kp ++ kl) ⟨O.O, O.B, fun j v => vs[j]? = some v⟩ Fs ρ σ H) (hv : vs.length = kp.length) : Repr K kp ⟨O.O, O.B, fun j v => vs[j]? = some v⟩ (cutFs kp.length Fs) (mio kp ρ) (vs.map some) H := by
  have hρ : kp.length ≤ ρ.length := by rw [R.lρ, List.length_append]; omega
  have m : Mo (av ⟨O.O, O.B, fun j v => vs[j]? = some v⟩ Fs) (av ⟨O.O, O.B, fun j v => vs[j]? = some v⟩ (cutFs kp.length Fs)) H H := .less fun a z => by
    rcases z with z | z | ⟨i, z⟩
    · exact .inl z
    · exact .inr (.inl z)
    · exact .inr (.inr ⟨i, z.2⟩)
  refine ⟨mio_length _ _ hρ, by rw [List.length_map]; exact hv, fun i j a h1 h2 => R.dj i j a h1.2 h2.2, R.od, R.bd, fun i a h => R.fb i a h.2, fun i a h => R.fd i a h.2, fun i k d h1 h2 => ?_⟩
  obtain ⟨⟨s, rfl⟩, h3⟩ := mio_at h1 h2
  have hi : i < kp.length := (List.getElem?_eq_some_iff.mp h1).1
  obtain ⟨v, h4, h5, h6⟩ := R.sl i (.io s) d (by rw [List.getElem?_append_left hi]; exact h1) h3
  have h6' : vs[i]? = some v := h6
  refine ⟨v, by rw [List.getElem?_map, h6']; rfl, ?_, h6'⟩
  have e : cutFs kp.length Fs i = Fs i := by funext a; exact propext ⟨fun z => z.2, fun z => ⟨hi, z⟩⟩
  show s.rep K _ H v d (cutFs kp.length Fs i)
  rw [e]
  exact s.mono h5 m fun _ _ => rfl
theorem Fr.cut {Fs' : Nat → AS} {H' : Hp} {n : Nat} (f : Fr Fs H Fs' H') : Fr Fs H (cutFs n Fs') H' := ⟨f.keep, f.dom, fun i a h => f.fp i a h.2⟩
/-- the wishes at the end of a body -/
def dEnds (kp : List SK) (Ψ : D → List D → Prop) (Ξ : Exc → List D → Prop) : DEnds where
  nx := fun ρ => ∃ os, iosL kp ρ = some os ∧ Ψ .non os
  rt := fun d ρ => ∃ os, iosL kp ρ = some os ∧ Ψ d os
  bk := fun _ => False
  ct := fun _ => False
  xx := fun x ρ => ∃ os, iosL kp ρ = some os ∧ Ξ x os
/-- a def that falls off its end hands back None -/
def Kd.fall : Kd → Prop
  | .z => True
  | _ => False
theorem Res.reprK {ks : List SK} {O : Gh} {Fs Fs' : Nat → AS} {H H' : Hp} {ρ' : Env} {σ : L2.St} {v : V} {d : D} {kd : Kd} (h : Res K ks O Fs H kd ρ' Fs' σ v d H') : Repr K ks O Fs' ρ' σ H' := by
  cases kd with
  | z => exact h.1
  | t => exact h.1
  | s => exact h.1
  | ln s => exact h.1
  | o s => obtain ⟨Fv, R, _⟩ := h; exact R.less
theorem av_cut {O : Gh} {Fs : Nat → AS} {n : Nat} {a : Addr} (h : av O (cutFs n Fs) a) : av O Fs a := by
  rcases h with z | z | ⟨i, z⟩
  · exact .inl z
  · exact .inr (.inl z)
  · exact .inr (.inr ⟨i, z.2⟩)
theorem Res.leave {vs : List V} {Fs' : Nat → AS} {H' : Hp} {v : V} {d : D} {rk : Kd} (h : Res K (kp ++ kl) ⟨O.O, O.B, fun j v => vs[j]? = some v⟩ Fs H rk ρ Fs' σ v d H') (hv : vs.length = kp.length) :
    Res K kp ⟨O.O, O.B, fun j v => vs[j]? = some v⟩ Fs H rk (mio kp ρ) (cutFs kp.length Fs') (vs.map some) v d H' := by
  have m : ∀ G : Gh, Mo (av G Fs') (av G (cutFs kp.length Fs')) H' H' := fun G => .less fun a z => av_cut z
  cases rk with
  | z => exact ⟨h.1.leave hv, h.2.mono (m _)⟩
  | t => exact ⟨h.1.leave hv, h.2.mono (m _) fun _ _ _ _ q => q⟩
  | s => exact ⟨h.1.leave hv, h.2.imp (Rp.mono (m _)) fun ⟨r, p, e1, e2, e3, e4⟩ => ⟨r.mono (m _) fun _ _ _ _ q => q, p, e1, e2, e3, fun j z => e4 j z.2⟩⟩
  | ln s => obtain ⟨R, F, r⟩ := h; exact ⟨R.leave hv, F, s.mono r (m _) fun _ _ => rfl⟩
  | o s =>
    obtain ⟨Fv, R, r, n⟩ := h
    refine ⟨Fv, Repr.leave (O := ⟨O.O, fun a => O.B a ∨ Fv a, O.io⟩) R hv, s.mono r (m _) fun _ _ => rfl, n⟩
theorem body_ok {rk : Kd} {S : SpD} {E : XK} {t : TS} {w : WS} {vs : List V} {Q : VK} {N : List Str} (hN : N.length = kp.length + kl.length) (h : spOf K kp rk S vs H Q E) (hs : SndS K (kp ++ kl) (fun _ => E) rk t w)
    (hw : ∀ ds Ψ Ξ, ds.length = kp.length → S ds Ψ Ξ → (rk = .z ∧ w (dEnds kp Ψ Ξ) (ds.map some ++ List.replicate kl.length none)) ∨ w { dEnds kp Ψ Ξ with nx := fun _ => False } (ds.map some ++ List.replicate kl.length none)) :
    t { nx := fun _ H' => Q .non H', rt := Q } (L2.start N vs) H := by
  have hv := spOf_len h
  obtain ⟨O, B, Fs, ds, Ψ, Ξ, R, hS, hq, hx⟩ := h
  have hds : ds.length = kp.length := by have := R.lρ; rwa [List.length_map] at this
  have est : L2.start N vs = vs.map some ++ List.replicate kl.length none := by
    unfold L2.start
    rw [hN, hv]
    congr 2
    omega
  rw [est]
  have R0 : Repr K kp ⟨O, B, fun j v => vs[j]? = some v⟩ (cutFs kp.length Fs) (ds.map some) (vs.map some) H := by
    have m : Mo (av ⟨O, B, fun j v => vs[j]? = some v⟩ Fs) (av ⟨O, B, fun j v => vs[j]? = some v⟩ (cutFs kp.length Fs)) H H := .less fun a z => av_cut z
    refine ⟨R.lρ, R.lσ, fun i j a h1 h2 => R.dj i j a h1.2 h2.2, R.od, R.bd, fun i a h => R.fb i a h.2, fun i a h => R.fd i a h.2, fun i k d h1 h2 => ?_⟩
    obtain ⟨v, h3, h4⟩ := R.sl i k d h1 h2
    have hi : i < kp.length := (List.getElem?_eq_some_iff.mp h1).1
    have e : cutFs kp.length Fs i = Fs i := by funext a; exact propext ⟨fun z => z.2, fun z => ⟨hi, z⟩⟩
    refine ⟨v, h3, ?_⟩
    cases k with
    | z => exact Rp.mono m h4
    | t => exact h4.imp (Rp.mono m) fun ⟨r, p, e1, e2, e3, e4⟩ => ⟨r.mono m fun _ _ _ _ q => q, p, e1, e2, e3, fun j z => e4 j z.2⟩
    | ln s => obtain ⟨F, r, n⟩ := h4; exact ⟨F, s.mono r m fun _ _ => rfl, fun a ha => ⟨(n a ha).1, fun j z => (n a ha).2 j z.2⟩⟩
    | ow s =>
      show s.rep K _ H v d (cutFs kp.length Fs i) ∧ ∀ a, cutFs kp.length Fs i a → ¬ O a
      rw [e]
      exact ⟨s.mono h4.1 m fun _ _ => rfl, h4.2⟩
    | io s =>
      show s.rep K _ H v d (cutFs kp.length Fs i) ∧ _
      rw [e]
      exact ⟨s.mono h4.1 m fun _ _ => rfl, h4.2⟩
  have f0 : Fr Fs H (cutFs kp.length Fs) H := (Fr.refl Fs H).cut
  have R1 := R0.enter (fun j a hj z => by have := z.1; omega) (kl := kl) rfl
  have hlen : ∀ {ρ' : Env} {Fs' σ' H'}, Repr K (kp ++ kl) ⟨O, B, fun j v => vs[j]? = some v⟩ Fs' ρ' σ' H' → kp.length ≤ ρ'.length := fun R => by rw [R.lρ, List.length_append]; omega
  have cutAt : ∀ {rk : Kd} {ρ' Fs' σ' v d H'}, Res K (kp ++ kl) ⟨O, B, fun j v => vs[j]? = some v⟩ (cutFs kp.length Fs) H rk ρ' Fs' σ' v d H' → Res K kp ⟨O, B, fun j v => vs[j]? = some v⟩ Fs H rk (mio kp ρ') (cutFs kp.length Fs') (vs.map some) v d H' := fun r =>
    Res.back f0 (Res.leave (O := ⟨O, B, fun _ _ => True⟩) r hv)
  have lret : ∀ d ρ' Fs' σ' v H', Fr (cutFs kp.length Fs) H Fs' H' → Res K (kp ++ kl) ⟨O, B, fun j v => vs[j]? = some v⟩ (cutFs kp.length Fs) H rk ρ' Fs' σ' v d H' → (∃ os, iosL kp ρ' = some os ∧ Ψ d os) → Q v H' := fun d ρ' Fs' σ' v H' f r p => by
    obtain ⟨os, h1, h2⟩ := p
    exact hq d (mio kp ρ') (cutFs kp.length Fs') v H' os (f0.trans f.cut) (cutAt r) (by rw [iosL_mio _ _ (hlen r.reprK)]; exact h1) h2
  have lxx : ∀ (σ' : L2.St) x ρ' Fs' cls od H', Repr K (kp ++ kl) ⟨O, B, fun j v => vs[j]? = some v⟩ Fs' ρ' σ' H' → Fr (cutFs kp.length Fs) H Fs' H' → XRep K (av ⟨O, B, fun j v => vs[j]? = some v⟩ Fs') H' x cls od → (∃ os, iosL kp ρ' = some os ∧ Ξ x os) → E cls od H' := fun σ' x ρ' Fs' cls od H' R' f r p => by
    obtain ⟨os, h1, h2⟩ := p
    refine hx x (mio kp ρ') (cutFs kp.length Fs') cls od H' os (Repr.leave (O := ⟨O, B, fun _ _ => True⟩) R' hv) (f0.trans f.cut) ?_ (by rw [iosL_mio _ _ (hlen R')]; exact h1) h2
    obtain ⟨e1, d, vs', e2, e3, e4, e5⟩ := r
    exact ⟨e1, d, vs', e2, e3, e4.mono (.less fun a z => av_cut z), fun z => e5 (av_cut z)⟩
  rcases hw ds Ψ Ξ hds hS with ⟨hz, hw1⟩ | hw1
  · subst hz
    exact hs _ _ _ _ H (dEnds kp Ψ Ξ) _ R1 hw1 ⟨fun ρ' Fs' σ' H' R' f p => lret .non ρ' Fs' σ' .non H' f ⟨R', .non⟩ p, fun _ _ _ _ _ _ p => p.elim, fun _ _ _ _ _ _ p => p.elim, lret, lxx⟩
  · exact hs _ _ _ _ H { dEnds kp Ψ Ξ with nx := fun _ => False } _ R1 hw1 ⟨fun _ _ _ _ _ _ p => p.elim, fun _ _ _ _ _ _ p => p.elim, fun _ _ _ _ _ _ p => p.elim, lret, lxx⟩
end
end Fw

/-! Fw11: the call of a def by its promise over data. -/
namespace Fw
open PySem L2

/-- what an argument is: plain data, or the object of a slot -/
abbrev Sh := List (Option Nat)
inductive AdL (K : PySem.W.Frag) (A : AS) (σ : L2.St) (H : Hp) : Sh → List D → List V → Prop
  | nil : AdL K A σ H [] [] []
  | v {v : V} {d : D} {sh : Sh} {ds : List D} {vs : List V} : Rp K A H v d → AdL K A σ H sh ds vs → AdL K A σ H (none :: sh) (d :: ds) (v :: vs)
  | s {v : V} {i : Nat} {sh : Sh} {ds : List D} {vs : List V} : σ[i]? = some (some v) → AdL K A σ H sh ds vs → AdL K A σ H (some i :: sh) (.non :: ds) (v :: vs)
theorem AdL.mono {K : PySem.W.Frag} {A A' : AS} {σ : L2.St} {H H' : Hp} (m : Mo A A' H H') : ∀ {sh : Sh} {ds : List D} {vs : List V}, AdL K A σ H sh ds vs → AdL K A' σ H' sh ds vs
  | _, _, _, .nil => .nil
  | _, _, _, .v r t => .v (r.mono m) (AdL.mono m t)
  | _, _, _, .s e t => .s e (AdL.mono m t)
structure PXc (X : Cx) (K : PySem.W.Frag) (ks : List SK) (E : L2.St → XK) (pu : Bool) (es : List Expr) (sh : Sh) (t : TA) (w : WA) : Prop where
  hK : X.K = K
  pa : PA X es t
  snd : ∀ O Fs ρ σ H Ψ Ξ Q, Repr K ks O Fs ρ σ H → w ρ Ψ Ξ → (∀ ds ρ' Fs' vs H', Pu pu ρ ρ' Fs Fs' H H' → Fr Fs H Fs' H' → Repr K ks O Fs' ρ' σ H' → AdL K (av O Fs') σ H' sh ds vs → Ψ ds ρ' → Q vs H') → LkX K ks O Fs σ H Ξ (E σ) → t σ H Q
section
variable {X : Cx} {K : PySem.W.Frag} {ks : List SK} {E : L2.St → XK} {pu pa pb : Bool} {e : Expr} {es : List Expr} {t : TE} {w : WE} {ts : TA} {ws : WA} {pos : Pos} {sh : Sh}
theorem kNil (hK : X.K = K := by rfl) : PXc X K ks E pu [] [] tNil wNil := by cases hK; exact ⟨rfl, pa_nil, fun O Fs ρ σ H Ψ Ξ Q R hw hq hx => hq [] ρ Fs [] H (fun _ => ⟨rfl, rfl, Ext.refl H⟩) (Fr.refl _ _) R .nil hw⟩
theorem kV (h : PX X K ks E pu .z e t w) (hr : PXc X K ks E pu es sh ts ws) (hs : starEach (e :: es) X.env = (false, eval e X.env) :: starEach es X.env := by rfl) : PXc X K ks E pu (e :: es) (none :: sh) (tCons t ts) (wCons w ws) := by cases h.hK; exact ⟨rfl, pa_cons h.pe hr.pa hs, fun O Fs ρ σ H Ψ Ξ Q R hw hq hx => by
  refine h.snd O Fs ρ σ H _ Ξ _ R hw (fun d ρ1 Fs1 v H1 u1 f1 r1 p1 => ?_) hx
  refine hr.snd O Fs1 ρ1 σ H1 _ Ξ _ r1.1 p1 (fun ds ρ2 Fs2 vs H2 u2 f2 R2 r2 p2 => ?_) (hx.step f1)
  exact hq (d :: ds) ρ2 Fs2 (v :: vs) H2 (u1.trans u2) (f1.trans f2) R2 (.v (r1.2.mono f2.mo) r2) p2⟩
/-- the name of a slot: its object is looked at when the call is made -/
def wSlot (i : Nat) (ws : WA) : WA := fun ρ Ψ Ξ => (∃ d, ρ[i]? = some (some d)) ∧ ws ρ (fun ds ρ2 => Ψ (.non :: ds) ρ2) Ξ
theorem kS (i : Nat) {k : SK} {x : Str} (hr : PXc X K ks E pu es sh ts ws) (hk : ks[i]? = some k := by rfl) (hN : X.N[i]? = some x := by rfl) (hv : Vis X.env.scope x := by first | exact Or.inl rfl | exact Or.inr (Or.inl rfl) | exact Or.inr (Or.inr rfl)) (hd : (x == ("__debug__" : Str)) = false := by decide)
    (hcd : (x == ("__classdict__" : Str)) = false := by decide) (hs : starEach (.Name x pos :: es) X.env = (false, eval (.Name x pos) X.env) :: starEach es X.env := by rfl) : PXc X K ks E pu (.Name x pos :: es) (some i :: sh) (tCons (tVar i) ts) (wSlot i ws) := by cases hr.hK; exact ⟨rfl, pa_cons (pe_var hN hv hd hcd) hr.pa hs, fun O Fs ρ σ H Ψ Ξ Q R hw hq hx => by
  obtain ⟨⟨d, h1⟩, hw⟩ := hw
  obtain ⟨v, h3, h4⟩ := R.sl i k d hk h1
  refine ⟨v, h3, hr.snd O Fs ρ σ H _ Ξ _ R hw (fun ds ρ2 Fs2 vs H2 u2 f2 R2 r2 p2 => ?_) hx⟩
  exact hq _ ρ2 Fs2 (v :: vs) H2 u2 f2 R2 (.s h3 r2) p2⟩
end

/-- an argument fits a parameter; mu: the slots that are lent to be changed -/
inductive A1 (ks : List SK) (mu : List Nat) : SK → Option Nat → Prop
  | z : A1 ks mu .z none
  | zs {i : Nat} : ks[i]? = some .z → A1 ks mu .z (some i)
  | t : A1 ks mu .t none
  | ts {i : Nat} {k : SK} : ks[i]? = some k → k.top → i ∉ mu → A1 ks mu .t (some i)
  | ln {i : Nat} {s : Shp} : ks[i]? = some (.ln s) → A1 ks mu (.ln s) (some i)
  | lo {i : Nat} {s : Shp} : ks[i]? = some (.ow s) → i ∉ mu → A1 ks mu (.ln s) (some i)
  | li {i : Nat} {s : Shp} : ks[i]? = some (.io s) → i ∉ mu → A1 ks mu (.ln s) (some i)
  | ow {i : Nat} {s : Shp} : ks[i]? = some (.ow s) → i ∈ mu → A1 ks mu (.io s) (some i)
  | io {i : Nat} {s : Shp} : ks[i]? = some (.io s) → i ∈ mu → A1 ks mu (.io s) (some i)
inductive AOk (ks : List SK) (mu : List Nat) : List SK → Sh → Prop
  | nil : AOk ks mu [] []
  | cons {k : SK} {o : Option Nat} {kp : List SK} {sh : Sh} : A1 ks mu k o → AOk ks mu kp sh → AOk ks mu (k :: kp) (o :: sh)
theorem AOk.at {ks : List SK} {mu : List Nat} : ∀ {kp : List SK} {sh : Sh} {j : Nat} {k : SK}, AOk ks mu kp sh → kp[j]? = some k → ∃ o, sh[j]? = some o ∧ A1 ks mu k o
  | _, _, _, _, .nil, h => by simp at h
  | k0 :: _, _, 0, k, .cons a _, h => by
    have h' : k0 = k := by simpa using h
    subst h'
    exact ⟨_, rfl, a⟩
  | _, _, j + 1, k, .cons _ t, h => by
    obtain ⟨o, h1, h2⟩ := AOk.at (j := j) t (by simpa using h)
    exact ⟨o, by simpa using h1, h2⟩
/-- the slots that the parameters of kind io hold -/
def muts : List SK → Sh → List Nat
  | .io _ :: kp, some i :: sh => i :: muts kp sh
  | _ :: kp, _ :: sh => muts kp sh
  | _, _ => []
/-- the arguments' data, slots looked up -/
def fill (ρ : Env) : Sh → List D → List D
  | none :: sh, d :: ds => d :: fill ρ sh ds
  | some i :: sh, _ :: ds => ((ρ[i]?).join.getD .non) :: fill ρ sh ds
  | _, _ => []
/-- the slots behind the call -/
def outs : List SK → Sh → List D → Env → Env
  | .io _ :: kp, some i :: sh, o :: os, ρ => outs kp sh os (ρ.set i (some o))
  | .io _ :: kp, none :: sh, _ :: os, ρ => outs kp sh os ρ
  | .io _ :: kp, none :: sh, [], ρ => outs kp sh [] ρ
  | .io _ :: kp, some _ :: sh, [], ρ => outs kp sh [] ρ
  | .z :: kp, _ :: sh, os, ρ => outs kp sh os ρ
  | .t :: kp, _ :: sh, os, ρ => outs kp sh os ρ
  | .ln _ :: kp, _ :: sh, os, ρ => outs kp sh os ρ
  | .ow _ :: kp, _ :: sh, os, ρ => outs kp sh os ρ
  | _, _, _, ρ => ρ
/-- every slot named has a value -/
def filled (ρ : Env) (sh : Sh) : Prop := ∀ i, some i ∈ sh → ∃ d, ρ[i]? = some (some d)
def IoAt (kp : List SK) (sh : Sh) (j i : Nat) : Prop := (∃ s, kp[j]? = some (.io s)) ∧ sh[j]? = some (some i)

theorem IoAt.mem : ∀ {kp : List SK} {sh : Sh} {j i : Nat}, IoAt kp sh j i → i ∈ muts kp sh
  | [], _, j, i, h => by obtain ⟨⟨s, h⟩, _⟩ := h; simp at h
  | k :: kp, [], j, i, h => by obtain ⟨_, h⟩ := h; simp at h
  | k :: kp, o :: sh, 0, i, h => by
    obtain ⟨⟨s, h1⟩, h2⟩ := h
    have h1' : k = .io s := by simpa using h1
    have h2' : o = some i := by simpa using h2
    subst h1' h2'
    simp [muts]
  | k :: kp, o :: sh, j + 1, i, h => by
    obtain ⟨⟨s, h1⟩, h2⟩ := h
    have ih : i ∈ muts kp sh := IoAt.mem (j := j) ⟨⟨s, by simpa using h1⟩, by simpa using h2⟩
    cases k <;> cases o <;> simp [muts, ih]
theorem IoAt.inj : ∀ {kp : List SK} {sh : Sh} {j j' i : Nat}, (muts kp sh).Nodup → IoAt kp sh j i → IoAt kp sh j' i → j = j'
  | [], _, j, _, i, _, h, _ => by obtain ⟨⟨s, h⟩, _⟩ := h; simp at h
  | k :: kp, [], j, _, i, _, h, _ => by obtain ⟨_, h⟩ := h; simp at h
  | k :: kp, o :: sh, 0, 0, i, _, _, _ => rfl
  | k :: kp, o :: sh, 0, j' + 1, i, nd, h, h' => by
    obtain ⟨⟨s, h1⟩, h2⟩ := h
    have h1' : k = .io s := by simpa using h1
    have h2' : o = some i := by simpa using h2
    subst h1' h2'
    obtain ⟨⟨s', h3⟩, h4⟩ := h'
    have ih : i ∈ muts kp sh := IoAt.mem (j := j') ⟨⟨s', by simpa using h3⟩, by simpa using h4⟩
    simp [muts, ih] at nd
  | k :: kp, o :: sh, j + 1, 0, i, nd, h, h' => by
    obtain ⟨⟨s, h1⟩, h2⟩ := h'
    have h1' : k = .io s := by simpa using h1
    have h2' : o = some i := by simpa using h2
    subst h1' h2'
    obtain ⟨⟨s', h3⟩, h4⟩ := h
    have ih : i ∈ muts kp sh := IoAt.mem (j := j) ⟨⟨s', by simpa using h3⟩, by simpa using h4⟩
    simp [muts, ih] at nd
  | k :: kp, o :: sh, j + 1, j' + 1, i, nd, h, h' => by
    have nd' : (muts kp sh).Nodup := by
      cases k <;> cases o <;> first
        | exact nd
        | (simp only [muts, List.nodup_cons] at nd; exact nd.2)
        | (simp only [muts] at nd; exact nd)
    obtain ⟨⟨s, h1⟩, h2⟩ := h
    obtain ⟨⟨s', h3⟩, h4⟩ := h'
    have := IoAt.inj (j := j) (j' := j') nd' ⟨⟨s, by simpa using h1⟩, by simpa using h2⟩ ⟨⟨s', by simpa using h3⟩, by simpa using h4⟩
    omega
theorem IoAt.of_mem : ∀ {kp : List SK} {sh : Sh} {i : Nat}, i ∈ muts kp sh → ∃ j, IoAt kp sh j i
  | [], sh, i, h => by simp [muts] at h
  | k :: kp, [], i, h => by cases k <;> simp [muts] at h
  | k :: kp, o :: sh, i, h => by
    have step : i ∈ muts kp sh → ∃ j, IoAt (k :: kp) (o :: sh) j i := fun h => by
      obtain ⟨j, ⟨s, h1⟩, h2⟩ := IoAt.of_mem h
      exact ⟨j + 1, ⟨s, by simpa using h1⟩, by simpa using h2⟩
    cases k with
    | io s =>
      cases o with
      | none => exact step (by simpa [muts] using h)
      | some i' =>
        have h' : i = i' ∨ i ∈ muts kp sh := by simpa [muts] using h
        rcases h' with e | h'
        · subst e; exact ⟨0, ⟨s, by simp⟩, by simp⟩
        · exact step h'
    | z => exact step (by simpa [muts] using h)
    | t => exact step (by simpa [muts] using h)
    | ln s => exact step (by simpa [muts] using h)
    | ow s => exact step (by simpa [muts] using h)
theorem outs_length : ∀ (kp : List SK) (sh : Sh) (os : List D) (ρ : Env), (outs kp sh os ρ).length = ρ.length
  | [], sh, os, ρ => by cases sh <;> cases os <;> simp [outs]
  | k :: kp, [], os, ρ => by cases k <;> cases os <;> simp [outs]
  | k :: kp, o :: sh, os, ρ => by
    cases k with
    | io s => cases o with
      | none => cases os <;> (simp only [outs]; exact outs_length kp sh _ ρ)
      | some i => cases os with
        | nil => simp only [outs]; exact outs_length kp sh _ ρ
        | cons x os => simp only [outs]; rw [outs_length kp sh _ _, List.length_set]
    | z => simp only [outs]; exact outs_length kp sh os ρ
    | t => simp only [outs]; exact outs_length kp sh os ρ
    | ln s => simp only [outs]; exact outs_length kp sh os ρ
    | ow s => simp only [outs]; exact outs_length kp sh os ρ
theorem outs_ne : ∀ {kp : List SK} {sh : Sh} {os : List D} {ρ : Env} {i : Nat}, i ∉ muts kp sh → (outs kp sh os ρ)[i]? = ρ[i]?
  | [], sh, os, ρ, i, _ => by cases sh <;> cases os <;> simp [outs]
  | k :: kp, [], os, ρ, i, _ => by cases k <;> cases os <;> simp [outs]
  | k :: kp, o :: sh, os, ρ, i, h => by
    cases k with
    | io s => cases o with
      | none => cases os <;> (simp only [outs]; exact outs_ne (by simpa [muts] using h))
      | some i' =>
        have h' : ¬ (i = i' ∨ i ∈ muts kp sh) := by simpa [muts] using h
        cases os with
        | nil => simp only [outs]; exact outs_ne fun z => h' (.inr z)
        | cons x os =>
          simp only [outs]
          rw [outs_ne fun z => h' (.inr z), List.getElem?_set_ne fun e => h' (.inl e.symm)]
    | z => simp only [outs]; exact outs_ne (by simpa [muts] using h)
    | t => simp only [outs]; exact outs_ne (by simpa [muts] using h)
    | ln s => simp only [outs]; exact outs_ne (by simpa [muts] using h)
    | ow s => simp only [outs]; exact outs_ne (by simpa [muts] using h)
theorem outs_at : ∀ {kp : List SK} {sh : Sh} {os : List D} {ρ ρm : Env} {i j : Nat}, (muts kp sh).Nodup → sh.length = kp.length → IoAt kp sh j i → iosL kp ρm = some os → i < ρ.length → (outs kp sh os ρ)[i]? = ρm[j]?
  | [], sh, os, ρ, ρm, i, j, _, _, h, _, _ => by obtain ⟨⟨s, h⟩, _⟩ := h; simp at h
  | k :: kp, [], os, ρ, ρm, i, j, _, _, h, _, _ => by obtain ⟨_, h⟩ := h; simp at h
  | k :: kp, o :: sh, os, ρ, [], i, j, nd, hl, h, ho, hi => by cases k <;> simp [iosL] at ho
  | k :: kp, o :: sh, os, ρ, m :: ρm, i, 0, nd, hl, h, ho, hi => by
    obtain ⟨⟨s, h1⟩, h2⟩ := h
    have h1' : k = .io s := by simpa using h1
    have h2' : o = some i := by simpa using h2
    subst h1' h2'
    cases m with
    | none => simp [iosL] at ho
    | some d =>
      cases q : iosL kp ρm with
      | none => simp [iosL, q] at ho
      | some os' =>
        have e : os = d :: os' := by simpa [iosL, q] using ho.symm
        subst e
        have nd' : i ∉ muts kp sh := by simp [muts] at nd; exact nd.1
        simp only [outs]
        rw [outs_ne nd', List.getElem?_set_self hi]
        simp
  | k :: kp, o :: sh, os, ρ, m :: ρm, i, j + 1, nd, hl, h, ho, hi => by
    obtain ⟨⟨s, h1⟩, h2⟩ := h
    have ia : IoAt kp sh j i := ⟨⟨s, by simpa using h1⟩, by simpa using h2⟩
    have hl' : sh.length = kp.length := by simpa using hl
    have g : (m :: ρm)[j + 1]? = ρm[j]? := by simp
    rw [g]
    cases k with
    | io s' =>
      cases m with
      | none => simp [iosL] at ho
      | some d =>
        cases q : iosL kp ρm with
        | none => simp [iosL, q] at ho
        | some os' =>
          have e : os = d :: os' := by simpa [iosL, q] using ho.symm
          subst e
          cases o with
          | none =>
            simp only [outs]
            exact outs_at (by simpa [muts] using nd) hl' ia q hi
          | some i' =>
            simp only [muts, List.nodup_cons] at nd
            simp only [outs]
            exact outs_at nd.2 hl' ia q (by rw [List.length_set]; exact hi)
    | z => simp only [outs]; exact outs_at (by simpa [muts] using nd) hl' ia (by simpa [iosL] using ho) hi
    | t => simp only [outs]; exact outs_at (by simpa [muts] using nd) hl' ia (by simpa [iosL] using ho) hi
    | ln s => simp only [outs]; exact outs_at (by simpa [muts] using nd) hl' ia (by simpa [iosL] using ho) hi
    | ow s => simp only [outs]; exact outs_at (by simpa [muts] using nd) hl' ia (by simpa [iosL] using ho) hi

/-! ### behind a call -/
section
variable {K : PySem.W.Frag} {ks kp : List SK} {G : Gh} {Fs : Nat → AS} {ρ : Env} {σ : L2.St} {H H' : Hp} {sh : Sh} {ds : List D} {vs : List V} {mu : List Nat}
/-- the callee's ghost -/
def callG (G : Gh) (Fs : Nat → AS) (vs : List V) : Gh := ⟨av G Fs, fun _ => False, fun j v => vs[j]? = some v⟩
def callFs (kp : List SK) (sh : Sh) (Fs : Nat → AS) : Nat → AS := fun j a => ∃ i, IoAt kp sh j i ∧ Fs i a
theorem AdL.len {A : AS} : ∀ {sh : Sh} {ds : List D} {vs : List V}, AdL K A σ H sh ds vs → sh.length = vs.length ∧ ds.length = vs.length
  | _, _, _, .nil => ⟨rfl, rfl⟩
  | _, _, _, .v _ t => by have := AdL.len t; simp [this.1, this.2]
  | _, _, _, .s _ t => by have := AdL.len t; simp [this.1, this.2]
theorem fill_len {A : AS} : ∀ {sh : Sh} {ds : List D} {vs : List V}, AdL K A σ H sh ds vs → (fill ρ sh ds).length = vs.length
  | _, _, _, .nil => rfl
  | _, _, _, .v _ t => by simp [fill, fill_len t]
  | _, _, _, .s _ t => by simp [fill, fill_len t]
theorem AOk.len : ∀ {kp : List SK} {sh : Sh}, AOk ks mu kp sh → kp.length = sh.length
  | _, _, .nil => rfl
  | _, _, .cons _ t => by simp [AOk.len t]
/-- the j-th argument -/
theorem AdL.at {A : AS} (ρ : Env) : ∀ {sh : Sh} {ds : List D} {vs : List V} {j : Nat} {o : Option Nat}, AdL K A σ H sh ds vs → sh[j]? = some o →
    ∃ v, vs[j]? = some v ∧ ((o = none ∧ ∃ d, (fill ρ sh ds)[j]? = some d ∧ Rp K A H v d) ∨ ∃ i, o = some i ∧ σ[i]? = some (some v) ∧ (fill ρ sh ds)[j]? = some ((ρ[i]?).join.getD .non))
  | _, _, _, _, _, .nil, h => by simp at h
  | _, _, _, 0, o, .v r t, h => by
    have h' : none = o := by simpa using h
    subst h'
    exact ⟨_, rfl, .inl ⟨rfl, _, rfl, r⟩⟩
  | _, _, _, 0, o, .s (i := i) e t, h => by
    have h' : some i = o := by simpa using h
    subst h'
    exact ⟨_, rfl, .inr ⟨i, rfl, e, rfl⟩⟩
  | _, _, _, j + 1, o, .v r t, h => by
    obtain ⟨v, h1, h2⟩ := AdL.at ρ (j := j) t (by simpa using h)
    exact ⟨v, by simpa using h1, by simpa [fill] using h2⟩
  | _, _, _, j + 1, o, .s e t, h => by
    obtain ⟨v, h1, h2⟩ := AdL.at ρ (j := j) t (by simpa using h)
    exact ⟨v, by simpa using h1, by simpa [fill] using h2⟩
theorem A1.io_mem {s : Shp} {i : Nat} (h : A1 ks mu (.io s) (some i)) : i ∈ mu := by cases h <;> assumption
theorem AOk.io {j i : Nat} (h : AOk ks mu kp sh) (a : IoAt kp sh j i) : ∃ s, kp[j]? = some (.io s) ∧ (ks[i]? = some (.ow s) ∨ ks[i]? = some (.io s)) ∧ i ∈ mu := by
  obtain ⟨⟨s, h1⟩, h2⟩ := a
  obtain ⟨o, h3, h4⟩ := h.at h1
  rw [h2] at h3
  cases h3
  refine ⟨s, h1, ?_, h4.io_mem⟩
  cases h4 with
  | ow e _ => exact .inl e
  | io e _ => exact .inr e
/-- what a callee finds -/
theorem call_in (R : Repr K ks G Fs ρ σ H) (ok : AOk ks mu kp sh) (nd : (muts kp sh).Nodup) (hm : ∀ i ∈ mu, i ∈ muts kp sh) (hf : filled ρ sh) (a : AdL K (av G Fs) σ H sh ds vs) :
    Repr K kp (callG G Fs vs) (callFs kp sh Fs) ((fill ρ sh ds).map some) (vs.map some) H := by
  have hl : kp.length = vs.length := ok.len.trans a.len.1
  have hav : ∀ b, av (callG G Fs vs) (callFs kp sh Fs) b → av G Fs b := fun b h => by
    rcases h with h | h | ⟨j, i, _, h⟩
    · exact h
    · exact h.elim
    · exact .inr (.inr ⟨i, h⟩)
  have m : Mo (av G Fs) (av (callG G Fs vs) (callFs kp sh Fs)) H H := .less hav
  refine ⟨by rw [List.length_map, fill_len a, hl], by rw [List.length_map, hl], fun j k b ⟨i, a1, h1⟩ ⟨i', a2, h2⟩ => ?_, fun b h => R.adom h, fun b h => h.elim, fun j b _ h => h, fun j b ⟨i, _, h⟩ => R.fd i b h, fun j k d h1 h2 => ?_⟩
  · have e := R.dj _ _ _ h1 h2
    subst e
    exact a1.inj nd a2
  · obtain ⟨o, h3, h4⟩ := ok.at h1
    obtain ⟨v, h5, h6⟩ := AdL.at ρ a h3
    refine ⟨v, by rw [List.getElem?_map, h5]; rfl, ?_⟩
    have hio : ∀ {i : Nat}, i ∉ mu → ∀ b, Fs i b → ∀ j', ¬ callFs kp sh Fs j' b := fun hi b hb j' ⟨i', ia, hb'⟩ => by
      have e := R.dj _ _ _ hb hb'
      subst e
      exact hi (ok.io ia).choose_spec.2.2
    rcases h6 with ⟨rfl, d', h7, h8⟩ | ⟨i, rfl, h7, h8⟩
    · rw [List.getElem?_map, h7] at h2
      cases h2
      have r := h8.mono m
      cases h4 with
      | z => exact r
      | t => exact .inl r
    · rw [List.getElem?_map, h8] at h2
      obtain ⟨d0, hd0⟩ := hf i (List.mem_of_getElem? h3)
      rw [hd0] at h2
      have e2 : d = d0 := by simpa using h2.symm
      subst e2
      have slot : ∀ {k' : SK}, ks[i]? = some k' → RSl K G Fs H i k' v d := fun {k'} hk => by
        obtain ⟨v', g1, g2⟩ := R.sl i k' d hk hd0
        rw [h7] at g1
        cases g1
        exact g2
      cases h4 with
      | zs e => exact Rp.mono m (slot e)
      | @ts _ k' e ht hi =>
        have g := slot e
        cases k' with
        | z => exact .inl (Rp.mono m g)
        | t => exact g.imp (Rp.mono m) fun ⟨r, p, e1, e2, e3, e4⟩ => ⟨r.mono m fun _ _ _ _ q => q, p, e1, e2, fun z => z, fun j' ⟨i', _, z⟩ => e4 i' z⟩
        | ln s =>
          obtain ⟨F, r, n⟩ := g
          obtain ⟨y, hp⟩ := ht r
          by_cases hr : ∃ p, v = .ref p
          · obtain ⟨p, rfl⟩ := hr
            exact .inr ⟨y.mono m fun _ _ _ _ q => q, p, rfl, s.dom r p (hp p rfl), fun z => z, fun j' ⟨i', _, z⟩ => (n p (hp p rfl)).2 i' z⟩
          · refine .inl (Rp.mono m ?_)
            cases y with
            | of y => exact y
            | lst _ _ => exact absurd ⟨_, rfl⟩ hr
            | dk _ _ => exact absurd ⟨_, rfl⟩ hr
            | dt _ _ => exact absurd ⟨_, rfl⟩ hr
        | ow s =>
          obtain ⟨y, hp⟩ := ht g.1
          by_cases hr : ∃ p, v = .ref p
          · obtain ⟨p, rfl⟩ := hr
            exact .inr ⟨y.mono m fun _ _ _ _ q => q, p, rfl, R.fd i p (hp p rfl), fun z => z, hio hi p (hp p rfl)⟩
          · refine .inl (Rp.mono m ?_)
            cases y with
            | of y => exact y
            | lst _ _ => exact absurd ⟨_, rfl⟩ hr
            | dk _ _ => exact absurd ⟨_, rfl⟩ hr
            | dt _ _ => exact absurd ⟨_, rfl⟩ hr
        | io s =>
          obtain ⟨y, hp⟩ := ht g.1
          by_cases hr : ∃ p, v = .ref p
          · obtain ⟨p, rfl⟩ := hr
            exact .inr ⟨y.mono m fun _ _ _ _ q => q, p, rfl, R.fd i p (hp p rfl), fun z => z, hio hi p (hp p rfl)⟩
          · refine .inl (Rp.mono m ?_)
            cases y with
            | of y => exact y
            | lst _ _ => exact absurd ⟨_, rfl⟩ hr
            | dk _ _ => exact absurd ⟨_, rfl⟩ hr
            | dt _ _ => exact absurd ⟨_, rfl⟩ hr
      | @ln _ s e =>
        obtain ⟨F, r, n⟩ := slot e
        exact ⟨F, s.mono r m fun _ _ => rfl, fun b hb => ⟨fun z => z, fun j' ⟨i', _, z⟩ => (n b hb).2 i' z⟩⟩
      | @lo _ s e hi => exact ⟨Fs i, s.mono (slot e).1 m fun _ _ => rfl, fun b hb => ⟨fun z => z, hio hi b hb⟩⟩
      | @li _ s e hi => exact ⟨Fs i, s.mono (slot e).1 m fun _ _ => rfl, fun b hb => ⟨fun z => z, hio hi b hb⟩⟩
      | @ow _ s e hi =>
        have ia : IoAt kp sh j i := ⟨⟨s, h1⟩, h3⟩
        have eq : callFs kp sh Fs j = Fs i := by
          funext b
          refine propext ⟨fun ⟨i', ia', z⟩ => ?_, fun z => ⟨i, ia, z⟩⟩
          have : some (some i') = some (some i) := ia'.2.symm.trans ia.2
          cases this
          exact z
        show s.rep K _ H v d (callFs kp sh Fs j) ∧ vs[j]? = some v
        rw [eq]
        exact ⟨s.mono (slot e).1 m fun _ _ => rfl, h5⟩
      | @io _ s e hi =>
        have ia : IoAt kp sh j i := ⟨⟨s, h1⟩, h3⟩
        have eq : callFs kp sh Fs j = Fs i := by
          funext b
          refine propext ⟨fun ⟨i', ia', z⟩ => ?_, fun z => ⟨i, ia, z⟩⟩
          have : some (some i') = some (some i) := ia'.2.symm.trans ia.2
          cases this
          exact z
        show s.rep K _ H v d (callFs kp sh Fs j) ∧ vs[j]? = some v
        rw [eq]
        exact ⟨s.mono (slot e).1 m fun _ _ => rfl, h5⟩
/-- the footprints behind a call -/
def backFs (kp : List SK) (sh : Sh) (Fs Fs' : Nat → AS) : Nat → AS := fun i a => (∃ j, IoAt kp sh j i ∧ Fs' j a) ∨ ((¬ ∃ j, IoAt kp sh j i) ∧ Fs i a)
/-- what the caller finds behind the call -/
theorem call_out {Fs' : Nat → AS} {ρm : Env} {os : List D} {Fv : AS} (R : Repr K ks G Fs ρ σ H) (ok : AOk ks mu kp sh) (nd : (muts kp sh).Nodup) (hom : (∀ i ∈ muts kp sh, ∃ s, ks[i]? = some (.ow s)) ∨ (∀ i ∈ muts kp sh, ∃ s, ks[i]? = some (.io s)))
    (hf : filled ρ sh) (a : AdL K (av G Fs) σ H sh ds vs) (f : Fr (callFs kp sh Fs) H Fs' H') (Rc : Repr K kp ((callG G Fs vs).add Fv) Fs' ρm (vs.map some) H') (ho : iosL kp ρm = some os) (hv : ∀ b, Fv b → ¬ av G Fs b ∧ H b = none) :
    Repr K ks (G.add Fv) (backFs kp sh Fs Fs') (outs kp sh os ρ) σ H' ∧ Fr Fs H (backFs kp sh Fs Fs') H' ∧ ∀ b, av (G.add Fv) (backFs kp sh Fs Fs') b → av ((callG G Fs vs).add Fv) Fs' b := by
  have cf : ∀ j b, callFs kp sh Fs j b → ∃ i, i ∈ muts kp sh ∧ Fs i b := fun j b ⟨i, ia, z⟩ => ⟨i, ia.mem, z⟩
  have fp' : ∀ j b, Fs' j b → (∃ i, i ∈ muts kp sh ∧ Fs i b) ∨ H b = none := fun j b z => (f.fp j b z).imp (fun ⟨j', q⟩ => cf j' b q) id
  have noio : ∀ {i : Nat}, (¬ ∃ j, IoAt kp sh j i) → i ∉ muts kp sh := fun h z => h (IoAt.of_mem z)
  have keepN : ∀ {i b}, i ∉ muts kp sh → Fs i b → H' b = H b := fun {i b} hi z => f.keep b (fun j q => by
    obtain ⟨i', hm, q⟩ := cf j b q
    have e := R.dj _ _ _ z q
    subst e
    exact hi hm) (R.fd i b z)
  have fr : Fr Fs H (backFs kp sh Fs Fs') H' := ⟨fun b n h => f.keep b (fun j ⟨i, _, q⟩ => n i q) h, f.dom, fun i b z => by
    rcases z with ⟨j, _, z⟩ | ⟨_, z⟩
    · exact (fp' j b z).imp (fun ⟨i', _, q⟩ => ⟨i', q⟩) id
    · exact .inl ⟨i, z⟩⟩
  have hav : ∀ b, av (G.add Fv) (backFs kp sh Fs Fs') b → av ((callG G Fs vs).add Fv) Fs' b := fun b z => by
    rcases z with z | (z | z) | ⟨i, ⟨j, _, z⟩ | ⟨_, z⟩⟩
    · exact .inl (.inl z)
    · exact .inl (.inr (.inl z))
    · exact .inr (.inl (.inr z))
    · exact .inr (.inr ⟨j, z⟩)
    · exact .inl (.inr (.inr ⟨i, z⟩))
  have m : Mo (av G Fs) (av (G.add Fv) (backFs kp sh Fs Fs')) H H' := ⟨fun b o n h => by
      have hn : H b ≠ none := fun z => by rw [hc_none.mpr z] at h; cases h
      unfold hc at h ⊢
      rw [f.keep b (fun j ⟨i, _, q⟩ => n (.inr (.inr ⟨i, q⟩))) hn]
      exact h, fun b z => by
      rcases z with z | (z | z) | ⟨i, z⟩
      · exact .inl (.inl z)
      · exact .inl (.inr (.inl z))
      · exact .inr (hv b z).2
      · exact (fr.fp i b z).imp (fun q => .inr (.inr q)) id⟩
  refine ⟨⟨by rw [outs_length]; exact R.lρ, R.lσ, fun i k b h1 h2 => ?_, fun b z => f.dom b (R.od b z), fun b z => z.elim (fun q => f.dom b (R.bd b q)) fun q => Rc.bd b (.inr q), fun i b z q => ?_, fun i b z => ?_, fun i k d h1 h2 => ?_⟩, fr, hav⟩
  · rcases h1 with ⟨j, ia, z1⟩ | ⟨ni, z1⟩
    · rcases h2 with ⟨j', ia', z2⟩ | ⟨ni', z2⟩
      · have e := Rc.dj _ _ _ z1 z2
        subst e
        have : some (some i) = some (some k) := ia.2.symm.trans ia'.2
        cases this
        rfl
      · rcases fp' j b z1 with ⟨i', hm, q⟩ | q
        · have e := R.dj _ _ _ z2 q
          subst e
          exact absurd hm (noio ni')
        · exact absurd q (R.fd k b z2)
    · rcases h2 with ⟨j', ia', z2⟩ | ⟨ni', z2⟩
      · rcases fp' j' b z2 with ⟨i', hm, q⟩ | q
        · have e := R.dj _ _ _ z1 q
          subst e
          exact absurd hm (noio ni)
        · exact absurd q (R.fd i b z1)
      · exact R.dj _ _ _ z1 z2
  · rcases q with q | q
    · rcases z with ⟨j, _, z⟩ | ⟨_, z⟩
      · rcases fp' j b z with ⟨i', _, y⟩ | y
        · exact R.fb i' b y q
        · exact R.bd b q y
      · exact R.fb i b z q
    · rcases z with ⟨j, _, z⟩ | ⟨_, z⟩
      · exact Rc.fb j b z (.inr q)
      · exact (hv b q).1 (.inr (.inr ⟨i, z⟩))
  · rcases z with ⟨j, _, z⟩ | ⟨_, z⟩
    · exact Rc.fd j b z
    · exact f.dom b (R.fd i b z)
  · by_cases hi : ∃ j, IoAt kp sh j i
    · obtain ⟨j, ia⟩ := hi
      obtain ⟨s, g1, g2, g3⟩ := ok.io ia
      have hil : i < ρ.length := by
        rw [R.lρ]
        exact (List.getElem?_eq_some_iff.mp h1).1
      rw [outs_at nd ok.len.symm ia ho hil] at h2
      obtain ⟨v, h3, h4, h5⟩ := Rc.sl j _ d g1 h2
      have h5' : vs[j]? = some v := h5
      obtain ⟨v', h6, h7⟩ := AdL.at ρ a ia.2
      rw [h5'] at h6
      cases h6
      have hσ : σ[i]? = some (some v) := by
        rcases h7 with ⟨q, _⟩ | ⟨i', q, z, _⟩
        · cases q
        · cases q; exact z
      refine ⟨v, hσ, ?_⟩
      have eq : backFs kp sh Fs Fs' i = Fs' j := by
        funext b
        refine propext ⟨fun z => ?_, fun z => .inl ⟨j, ia, z⟩⟩
        rcases z with ⟨j', ia', z⟩ | ⟨n, _⟩
        · rw [ia.inj nd ia']; exact z
        · exact absurd ⟨j, ia⟩ n
      have r : s.rep K (av (G.add Fv) (backFs kp sh Fs Fs')) H' v d (backFs kp sh Fs Fs' i) := by
        rw [eq]
        exact s.mono h4 (.less hav) fun _ _ => rfl
      have hmu := ia.mem
      rcases g2 with g2 | g2
      · rw [g2] at h1
        cases h1
        refine ⟨r, fun b z q => ?_⟩
        rw [eq] at z
        rcases fp' j b z with ⟨i', hm, y⟩ | y
        · rcases hom with hom | hom
          · obtain ⟨s', hs'⟩ := hom i' hm
            obtain ⟨j', ia'⟩ := IoAt.of_mem hm
            obtain ⟨d', hd'⟩ := hf i' (List.mem_of_getElem? ia'.2)
            obtain ⟨_, _, g⟩ := R.sl i' _ d' hs' hd'
            exact g.2 b y q
          · obtain ⟨s', hs'⟩ := hom i hmu
            rw [g2] at hs'
            cases hs'
        · exact R.od b q y
      · rw [g2] at h1
        cases h1
        obtain ⟨d', hd'⟩ := hf i (List.mem_of_getElem? ia.2)
        obtain ⟨v', q1, q2⟩ := R.sl i _ d' g2 hd'
        rw [hσ] at q1
        cases q1
        exact ⟨r, q2.2⟩
    · have hn := noio hi
      rw [outs_ne hn] at h2
      obtain ⟨v, h3, h4⟩ := R.sl i k d h1 h2
      have eq : backFs kp sh Fs Fs' i = Fs i := by
        funext b
        exact propext ⟨fun z => z.elim (fun ⟨j, ia, _⟩ => absurd ⟨j, ia⟩ hi) fun q => q.2, fun z => .inr ⟨hi, z⟩⟩
      refine ⟨v, h3, ?_⟩
      cases k with
      | z => exact Rp.mono m h4
      | t =>
        refine h4.imp (Rp.mono m) fun ⟨r, p, e1, e2, e3, e4⟩ => ?_
        have kp' : H' p = H p := f.keep p (fun j ⟨i', _, q⟩ => e4 i' q) e2
        refine ⟨r.monoAt m fun p' ep o q => ?_, p, e1, by rw [kp']; exact e2, fun z => z.elim e3 fun q => e2 (hv p q).2, fun j z => ?_⟩
        · rw [e1] at ep
          cases ep
          unfold hc at q ⊢
          rw [kp']; exact q
        · rcases z with ⟨j', _, z⟩ | ⟨_, z⟩
          · rcases fp' j' p z with ⟨i', _, y⟩ | y
            · exact e4 i' y
            · exact e2 y
          · exact e4 j z
      | ln s =>
        obtain ⟨F, r, n⟩ := h4
        refine ⟨F, s.mono r m fun b hb => f.keep b (fun j ⟨i', _, q⟩ => (n b hb).2 i' q) (s.dom r b hb), fun b hb => ⟨fun z => z.elim (n b hb).1 fun q => s.dom r b hb (hv b q).2, fun j z => ?_⟩⟩
        rcases z with ⟨j', _, z⟩ | ⟨_, z⟩
        · rcases fp' j' b z with ⟨i', _, y⟩ | y
          · exact (n b hb).2 i' y
          · exact s.dom r b hb y
        · exact (n b hb).2 j z
      | ow s =>
        show s.rep K _ H' v d (backFs kp sh Fs Fs' i) ∧ ∀ a, backFs kp sh Fs Fs' i a → ¬ G.O a
        rw [eq]
        exact ⟨s.mono h4.1 m fun b hb => keepN hn hb, h4.2⟩
      | io s =>
        show s.rep K _ H' v d (backFs kp sh Fs Fs' i) ∧ _
        rw [eq]
        exact ⟨s.mono h4.1 m fun b hb => keepN hn hb, h4.2⟩
end
end Fw

/-! Fw12: the rules of calls, of bodies. -/
namespace Fw
open PySem L2 PySem.Spec

theorem outs_none : ∀ {kp : List SK} {sh : Sh} {os : List D} {ρ : Env}, muts kp sh = [] → outs kp sh os ρ = ρ
  | [], sh, os, ρ, _ => by cases sh <;> cases os <;> simp [outs]
  | k :: kp, [], os, ρ, _ => by cases k <;> cases os <;> simp [outs]
  | k :: kp, o :: sh, os, ρ, h => by
    cases k with
    | io s => cases o with
      | none => cases os <;> (simp only [outs]; exact outs_none (by simpa [muts] using h))
      | some i' => simp [muts] at h
    | z => simp only [outs]; exact outs_none (by simpa [muts] using h)
    | t => simp only [outs]; exact outs_none (by simpa [muts] using h)
    | ln s => simp only [outs]; exact outs_none (by simpa [muts] using h)
    | ow s => simp only [outs]; exact outs_none (by simpa [muts] using h)
def wCall (kp : List SK) (sh : Sh) (sp : SpD) (wa : WA) : WE := fun ρ Ψ Ξ => wa ρ (fun ds ρ1 => filled ρ1 sh ∧ sp (fill ρ1 sh ds) (fun d os => Ψ d (outs kp sh os ρ1)) (fun x os => Ξ x (outs kp sh os ρ1))) Ξ
section
variable {K : PySem.W.Frag} {ks kp : List SK} {G : Gh} {Fs : Nat → AS} {ρ : Env} {σ : L2.St} {H : Hp} {sh : Sh} {ds : List D} {vs : List V} {rk : Kd} {sp : SpD}
def Kd.rt : Kd → Prop
  | .z => True
  | .o _ => True
  | _ => False
theorem av_false {G : Gh} {Fs : Nat → AS} {a : Addr} (h : av (G.add fun _ => False) Fs a) : av G Fs a := (av_add_inv h).elim id False.elim
/-- a call, over the heap -/
theorem call_sp (R : Repr K ks G Fs ρ σ H) (ok : AOk ks (muts kp sh) kp sh) (nd : (muts kp sh).Nodup) (hom : (∀ i ∈ muts kp sh, ∃ s, ks[i]? = some (.ow s)) ∨ (∀ i ∈ muts kp sh, ∃ s, ks[i]? = some (.io s))) (hrk : rk.rt)
    (a : AdL K (av G Fs) σ H sh ds vs) {Ψ : D → Env → Prop} {Ξ : Exc → Env → Prop} (hf : filled ρ sh) (h : sp (fill ρ sh ds) (fun d os => Ψ d (outs kp sh os ρ)) (fun x os => Ξ x (outs kp sh os ρ))) {Q : VK} {E : XK} {pu : Bool} (hpn : pu = true → muts kp sh = [])
    (hq : ∀ d ρ' Fs' v H', Pu pu ρ ρ' Fs Fs' H H' → Fr Fs H Fs' H' → Res K ks G Fs H rk ρ' Fs' σ v d H' → Ψ d ρ' → Q v H') (hx : LkX K ks G Fs σ H Ξ E) : spOf K kp rk sp vs H Q E := by
  have nobk : pu = true → ∀ j i, ¬ IoAt kp sh j i := fun z j i ia => by have := ia.mem; rw [hpn z] at this; cases this
  have puu : ∀ {Fs' : Nat → AS} {H' : Hp} {os : List D}, Fr (callFs kp sh Fs) H Fs' H' → Pu pu ρ (outs kp sh os ρ) Fs (backFs kp sh Fs Fs') H H' := fun {Fs' H' os} f z => ⟨outs_none (hpn z), by
      funext i b
      exact propext ⟨fun q => q.elim (fun ⟨j, ia, _⟩ => absurd ia (nobk z j i)) fun q => q.2, fun q => .inr ⟨fun ⟨j, ia⟩ => nobk z j i ia, q⟩⟩, fun b hb => f.keep b (fun j ⟨i, ia, _⟩ => nobk z j i ia) hb⟩
  refine ⟨av G Fs, fun _ => False, callFs kp sh Fs, fill ρ sh ds, _, _, call_in R ok nd (fun i hi => hi) hf a, h, ?_, ?_⟩
  · intro d ρm Fs' v H' os f r ho p
    cases rk with
    | z =>
      have Rc : Repr K kp ((callG G Fs vs).add fun _ => False) Fs' ρm (vs.map some) H' := r.1.add (Ext.refl _) fun _ z => z.elim
      obtain ⟨R2, fr, hav⟩ := call_out (Fv := fun _ => False) R ok nd hom hf a f Rc ho fun _ z => z.elim
      exact hq d _ _ v H' (puu f) fr ⟨R2.less, r.2.mono (.less fun b z => av_false (hav b (av_add z)))⟩ p
    | o s =>
      obtain ⟨Fv, Rc, rr, n⟩ := r
      have hv : ∀ b, Fv b → ¬ av G Fs b ∧ H b = none := fun b z => ⟨(n b z).1, (n b z).2.2.elim (fun ⟨j, i, _, q⟩ => absurd (.inr (.inr ⟨i, q⟩)) (n b z).1) id⟩
      obtain ⟨R2, fr, hav⟩ := call_out (Fv := Fv) R ok nd hom hf a f Rc ho hv
      exact hq d _ _ v H' (puu f) fr ⟨Fv, R2, s.mono rr (.less hav) fun _ _ => rfl, fun b z => ⟨fun q => (hv b z).1 (.inl q), fun q => (hv b z).1 (.inr (.inl q)), .inr (hv b z).2⟩⟩ p
    | t => exact hrk.elim
    | s => exact hrk.elim
    | ln s => exact hrk.elim
  · intro x ρm Fs' cls od H' os r f xr ho p
    have Rc : Repr K kp ((callG G Fs vs).add fun _ => False) Fs' ρm (vs.map some) H' := r.add (Ext.refl _) fun _ z => z.elim
    obtain ⟨R2, fr, hav⟩ := call_out (Fv := fun _ => False) R ok nd hom hf a f Rc ho fun _ z => z.elim
    refine hx x _ _ cls od H' R2.less fr ?_ p
    obtain ⟨e1, d, vs', e2, e3, e4, e5⟩ := xr
    exact ⟨e1, d, vs', e2, e3, e4.mono (.less fun b z => av_false (hav b (av_add z))), fun z => e5 (av_false (hav _ (av_add z)))⟩
end
section
variable {X : Cx} {K : PySem.W.Frag} {ks kp : List SK} {E : XK} {pu : Bool} {e : Expr} {es : List Expr} {t : TA} {w : WA} {p pos : Pos} {x : Str} {sh : Sh} {rk : Kd} {sp : SpD} {CX : CXT} {k : Nat} {f : Addr} {fd : FuncData} {ps : List Str}
theorem snd_call (h : PXc X K ks (fun _ => E) pu es sh t w) (ok : AOk ks (muts kp sh) kp sh) (nd : (muts kp sh).Nodup) (hom : (∀ i ∈ muts kp sh, ∃ s, ks[i]? = some (.ow s)) ∨ (∀ i ∈ muts kp sh, ∃ s, ks[i]? = some (.io s))) (hrk : rk.rt) (hpn : pu = true → muts kp sh = []) :
    Snd K ks (fun _ => E) pu rk (tCall (spOf K kp rk sp) [] E t) (wCall kp sh sp w) := fun O Fs ρ σ H Ψ Ξ Q R hw hq hx => by
  refine h.snd O Fs ρ σ H _ Ξ _ R hw (fun ds ρ1 Fs1 vs H1 u1 f1 R1 a p1 => ?_) hx
  rw [List.append_nil]
  refine call_sp R1 ok nd hom hrk a p1.1 p1.2 hpn (fun d ρ' Fs' v H' u2 f2 r2 p2 => ?_) (hx.step f1)
  exact hq d ρ' Fs' v H' (u1.trans u2) (f1.trans f2) (r2.back f1) p2
theorem xCall (F : FnOk X.prog X.w K X.mg X.base CX k f fd ps (spOf K kp rk sp)) (hr : Room k X.A) (hm : X.mg x = some (.ref f)) (hk : PySem.W.keepIn K (.ref f) = true) (hb : Binds K fd ps []) (hx : Passes CX X E)
    (h : PXc X K ks (fun _ => E) pu (e :: es) sh t w) (ok : AOk ks (muts kp sh) kp sh) (nd : (muts kp sh).Nodup) (hom : (∀ i ∈ muts kp sh, ∃ s, ks[i]? = some (.ow s)) ∨ (∀ i ∈ muts kp sh, ∃ s, ks[i]? = some (.io s))) (hpn : pu = true → muts kp sh = []) (hrk : rk.rt := by trivial) (hg : Gl X x := by rfl)
    (hdb : (x == ("__debug__" : Str)) = false := by decide) (he : starEach (e :: es) X.env = (false, eval e X.env) :: starEach es X.env := by rfl) (hpl : (backTo pos (starEach es X.env)).any (·.1) = false := by rfl) :
    PX X K ks (fun _ => E) pu rk (.Call (.Name x p) (e :: es) [] pos) (tCall (spOf K kp rk sp) [] E t) (wCall kp sh sp w) := by cases h.hK; exact ⟨rfl, pe_call F hr hg hm hk hb .nil hx h.pa hdb he hpl, snd_call h ok nd hom hrk hpn⟩
/-- no lent object changes -/
theorem hom0 {ks : List SK} : (∀ i ∈ ([] : List Nat), ∃ s, ks[i]? = some (SK.ow s)) ∨ (∀ i ∈ ([] : List Nat), ∃ s, ks[i]? = some (SK.io s)) := .inl fun i h => nomatch h
theorem hom1 {ks : List SK} {i : Nat} {s : Shp} (h : ks[i]? = some (SK.ow s) ∨ ks[i]? = some (SK.io s)) : (∀ j ∈ [i], ∃ s, ks[j]? = some (SK.ow s)) ∨ (∀ j ∈ [i], ∃ s, ks[j]? = some (SK.io s)) := h.imp (fun h j hj => by cases hj with | head => exact ⟨s, h⟩ | tail _ q => cases q) fun h j hj => by cases hj with | head => exact ⟨s, h⟩ | tail _ q => cases q
end
/-! ### a def of the text -/
/-- a promise of a def that no exception leaves -/
abbrev SpN := List D → (D → List D → Prop) → Prop
def spN (S : SpN) : SpD := fun ds Ψ _ => S ds Ψ
section
variable {P : Program} {w : World} {K : PySem.W.Frag} {mg : Str → Option Value} {base : Heap}
theorem okD {x qual : Str} {st : Stmt} {f : Addr} {fd : FuncData} {N ps : List Str} {k : Nat} {kp kl : List SK} {rk : Kd} {S : SpN} (F : Fun K x qual st f fd) (sc : FnScope N ps (defScope st)) (hp : kp.length = ps.length) (hN : N.length = kp.length + kl.length)
    (hbody : ∀ (cdv : Value) (A : Around) (outer : List PySem.Env) (s : Shared) (H : Hp) (E : XK), Room k (A.deeper (PyProof.Rows.envOfC qual (defScope st) s.heap.objs.size f cdv)) →
      ∃ t wd, QSs (cxOf CX0 P w K mg base N qual (defScope st) f cdv A outer s H E).nox K (kp ++ kl) (fun _ => E0) rk (defBody st) t wd ∧
        ∀ ds Ψ, ds.length = kp.length → S ds Ψ → (rk = .z ∧ wd (dEnds kp Ψ fun _ _ => False) (ds.map some ++ List.replicate kl.length none)) ∨ wd { dEnds kp Ψ (fun _ _ => False) with nx := fun _ => False } (ds.map some ++ List.replicate kl.length none)) :
    FnOk P w K mg base CX0 (k + 1) f fd ps (spOf K kp rk (spN S)) := by
  refine F.ok sc (fun vs H Q E h => (spOf_len h).trans hp) (fun cdv A outer s H vs Q E hr h => ?_)
  obtain ⟨t, wd, q, hw⟩ := hbody cdv A outer s H E hr
  refine ⟨t, q.ps, ?_⟩
  obtain ⟨O, B, Fs, ds, Ψ, Ξ, R, hS, hq, hx⟩ := h
  have h' : spOf K kp rk (fun ds Ψ Ξ => S ds Ψ ∧ Ξ = fun _ _ => False) vs H Q E0 := ⟨O, B, Fs, ds, Ψ, fun _ _ => False, R, ⟨hS, rfl⟩, hq, fun _ _ _ _ _ _ _ _ _ _ _ z => z.elim⟩
  refine body_ok hN h' q.snd fun ds Ψ Ξ hl hs => ?_
  obtain ⟨hs, rfl⟩ := hs
  exact hw ds Ψ hl hs
/-- nothing is promised -/
theorem FnOk.none {f : Addr} {fd : FuncData} {ps : List Str} {k : Nat} {kp : List SK} {rk : Kd} {CX : CXT} {S : SpN} (h : ∀ ds Ψ, ¬ S ds Ψ) : FnOk P w K mg base CX k f fd ps (spOf K kp rk (spN S)) :=
  ⟨fun vs H Q E ⟨_, _, _, ds, Ψ, _, _, z, _⟩ => absurd z (h ds _), fun _ _ _ _ _ _ vs _ _ _ _ _ _ ⟨_, _, _, ds, Ψ, _, _, z, _⟩ => absurd z (h ds _)⟩
end
end Fw

/-! Fw13: isinstance, methods of texts, changes of owned lists, several stores at once. -/
namespace Fw
open PySem L2

/-! ### an owned object changes -/
section
variable {K : PySem.W.Frag} {ks : List SK} {G : Gh} {Fs : Nat → AS} {ρ : Env} {σ : L2.St} {H : Hp}
def Owns (ks : List SK) (i : Nat) (s : Shp) : Prop := ks[i]? = some (.ow s) ∨ ks[i]? = some (.io s)
theorem Repr.own (R : Repr K ks G Fs ρ σ H) {i : Nat} {s : Shp} {d : D} (hk : Owns ks i s) (h : ρ[i]? = some (some d)) : ∃ v, σ[i]? = some (some v) ∧ s.rep K (av G Fs) H v d (Fs i) := by
  rcases hk with hk | hk
  · obtain ⟨v, h1, h2⟩ := R.sl i _ d hk h; exact ⟨v, h1, h2.1⟩
  · obtain ⟨v, h1, h2⟩ := R.sl i _ d hk h; exact ⟨v, h1, h2.1⟩
theorem Repr.upO (R : Repr K ks G Fs ρ σ H) {i : Nat} {s : Shp} {p : Addr} {o : HO} {v : V} {d d0 : D} (hk : Owns ks i s) (hp : Fs i p) (hv : σ[i]? = some (some v)) (h0 : ρ[i]? = some (some d0)) (r : s.rep K (av G Fs) (upd H p o) v d (Fs i)) :
    Repr K ks G Fs (ρ.set i (some d)) σ (upd H p o) ∧ Fr Fs H Fs (upd H p o) := by
  have hA : av G Fs p := .inr (.inr ⟨i, hp⟩)
  have m : Mo (av G Fs) (av G Fs) H (upd H p o) := av_upd_mo hA
  have nn : ∀ b, H b ≠ none → upd H p o b ≠ none := fun b z => by
    by_cases e : b = p
    · rw [e, upd_same]; simp
    · rw [upd_ne e]; exact z
  have ne : ∀ {j b}, j ≠ i → Fs j b → upd H p o b = H b := fun {j b} hj z => upd_ne fun e => hj (R.dj j i p (e ▸ z) hp)
  refine ⟨⟨by rw [List.length_set]; exact R.lρ, R.lσ, R.dj, fun b z => nn b (R.od b z), fun b z => nn b (R.bd b z), R.fb, fun j b z => nn b (R.fd j b z), fun j k e h1 h2 => ?_⟩, fun b n h => upd_ne fun e => n i (e ▸ hp), nn, fun j b z => .inl ⟨j, z⟩⟩
  by_cases hj : i = j
  · subst hj
    have hi : i < ρ.length := (List.getElem?_eq_some_iff.mp h0).1
    rw [List.getElem?_set_self hi] at h2
    cases h2
    refine ⟨v, hv, ?_⟩
    rcases hk with hk | hk
    · rw [hk] at h1
      cases h1
      obtain ⟨_, _, g⟩ := R.sl i _ d0 hk h0
      exact ⟨r, g.2⟩
    · rw [hk] at h1
      cases h1
      obtain ⟨v', g1, g⟩ := R.sl i _ d0 hk h0
      rw [hv] at g1
      cases g1
      exact ⟨r, g.2⟩
  · rw [List.getElem?_set_ne hj] at h2
    have nj : j ≠ i := fun e => hj e.symm
    obtain ⟨v', h3, h4⟩ := R.sl j k e h1 h2
    refine ⟨v', h3, ?_⟩
    cases k with
    | z => exact Rp.mono m h4
    | t => exact h4.imp (Rp.mono m) fun ⟨r, q, e1, e2, e3, e4⟩ => ⟨r.monoAt m fun q' eq u z => by
        rw [e1] at eq
        cases eq
        unfold hc at z ⊢
        rw [upd_ne fun e => e4 i (by rw [e]; exact hp)]
        exact z, q, e1, nn q e2, e3, e4⟩
    | ln s' => obtain ⟨F, r, n⟩ := h4; exact ⟨F, s'.mono r m fun b hb => upd_ne fun e => (n b hb).2 i (e ▸ hp), n⟩
    | ow s' => exact ⟨s'.mono h4.1 m fun b hb => ne nj hb, h4.2⟩
    | io s' => exact ⟨s'.mono h4.1 m fun b hb => ne nj hb, h4.2⟩
/-- the list of a slot -/
theorem Repr.lstAt (R : Repr K ks G Fs ρ σ H) {i : Nat} {xs : List D} (hk : Owns ks i shL) (h : ρ[i]? = some (some (.lst xs))) : ∃ p vs, σ[i]? = some (some (.ref p)) ∧ (∀ a, Fs i a ↔ a = p) ∧ H p = some (.lst vs) ∧ RpL K (av G Fs) H vs xs := by
  obtain ⟨v, h1, p, vs, ds, rfl, e, hF, h2, h3⟩ := R.own hk h
  cases e
  exact ⟨p, vs, h1, hF, h2, h3⟩
theorem Repr.putL (R : Repr K ks G Fs ρ σ H) {i : Nat} {p : Addr} {xs ys : List D} {us : List V} (hk : Owns ks i shL) (h : ρ[i]? = some (some (.lst xs))) (hσ : σ[i]? = some (some (.ref p))) (hF : ∀ a, Fs i a ↔ a = p) (r : RpL K (av G Fs) H us ys) :
    Repr K ks G Fs (ρ.set i (some (.lst ys))) σ (upd H p (.lst us)) ∧ Fr Fs H Fs (upd H p (.lst us)) :=
  R.upO hk ((hF p).mpr rfl) hσ h ⟨p, us, ys, rfl, rfl, hF, upd_same, r.mono (av_upd_mo (.inr (.inr ⟨i, (hF p).mpr rfl⟩)))⟩
end

section
variable {X : Cx} {K : PySem.W.Frag} {ks : List SK} {E : L2.St → XK} {rk kd : Kd} {pu pa pb : Bool} {e e2 a b o : Expr} {es : List Expr} {te ta tb to : TE} {we wa wb wo : WE} {pos p p2 apos : Pos} {i : Nat} {x : Str}

/-! ### x.append(e), x an owned list in a slot -/
def wApp (i : Nat) (we : WE) : WS := fun De ρ => (∃ xs, ρ[i]? = some (some (.lst xs))) ∧ we ρ (fun d ρ1 => ∃ xs, ρ1[i]? = some (some (.lst xs)) ∧ xs.length < sizeLine ∧ De.nx (ρ1.set i (some (.lst (xs ++ [d]))))) De.xx
theorem snd_app (hk : Owns ks i shL) (h : Snd K ks E pu .z te we) : SndS K ks E rk (tDrop (tBM K "list" rAppend (tVar i) (tCons te tNil))) (wApp i we) := fun O Fs ρ σ H Dd Dh R hw L => by
  obtain ⟨⟨xs, h1⟩, hw⟩ := hw
  obtain ⟨p, vs, g1, g2, g3, g4⟩ := R.lstAt hk h1
  refine ⟨.ref p, g1, .inl ⟨rfl, vs, SqL.of g3⟩, h O Fs ρ σ H _ Dd.xx _ R hw (fun d ρ1 Fs1 v H1 u f r q => ?_) L.lkx⟩
  obtain ⟨ys, q1, q2, q3⟩ := q
  obtain ⟨p', us, g1', g2', g3', g4'⟩ := r.1.lstAt hk q1
  rw [g1] at g1'
  cases g1'
  refine ⟨p, us, v, rfl, rfl, g3', by rw [g4'.length]; exact q2, ?_⟩
  obtain ⟨R2, f2⟩ := r.1.putL hk q1 g1 g2' (g4'.append (.cons r.2 .nil))
  exact L.nx _ Fs1 σ _ R2 (f.trans f2) q3
theorem sApp {n : Nat} (hk : Owns ks i shL) (h : PX X K ks E false .z e te we) (hN : X.N[i]? = some x := by rfl) (hv : Vis X.env.scope x := by first | exact Or.inl rfl | exact Or.inr (Or.inl rfl) | exact Or.inr (Or.inr rfl)) (hd : (x == ("__debug__" : Str)) = false := by decide) (hcd : (x == ("__classdict__" : Str)) = false := by decide)
    (hbase : attributeBase (.Name x p) "append" X.env (eval (.Name x p) X.env) = eval (.Name x p) X.env := by rfl)
    (hfew : ((backTo p2 (starEach [e] X.env)).all (fun x => !x.1) && (backToKw p2 (keywordEach [] X.env)).all (fun x => x.1.isSome) && decide ([e].length + ([] : List Keyword).length + (if ([] : List Keyword).isEmpty then 0 else 1) < 30)) = true := by rfl)
    (hline : (apos.endLine == p2.line) = true := by rfl) (hs : starEach [e] X.env = (false, eval e X.env) :: starEach [] X.env := by rfl) (hplain : (backTo p2 (starEach [] X.env)).any (·.1) = false := by rfl)
    (hsw : swapsWith (.Call (.Attribute (.Name x p) "append" apos) [e] [] p2) none pos.line X.env = pure false := by rfl) : QS X K ks E rk (.Expr (.Call (.Attribute (.Name x p) "append" apos) [e] [] p2) pos) (tDrop (tBM K "list" rAppend (tVar i) (tCons te tNil))) (wApp i we) := by cases h.hK; exact ⟨rfl, ps_expr (pe_bm PySem.F.plainAttrs_list PySem.F.slot_list_append PySem.F.type_list_append mt_append (pe_var hN hv hd hcd) (pa_cons h.pe pa_nil hs) hbase hfew hline hs hplain) hsw, snd_app hk h.snd⟩
/-! ### x[k] = e, x an owned list in a slot -/
def wPut (i : Nat) (we wk : WE) : WS := fun De ρ => we ρ (fun d ρ1 => (∃ xs, ρ1[i]? = some (some (.lst xs))) ∧ wk ρ1 (fun kd ρ2 => ∃ xs k j, ρ2[i]? = some (some (.lst xs)) ∧ kd = .int k ∧ ixN xs.length k = some j ∧ De.nx (ρ2.set i (some (.lst (xs.set j d))))) De.xx) De.xx
theorem snd_put (hk : Owns ks i shL) (h : Snd K ks E pu .z te we) (h2 : Snd K ks E pu .z tb wb) : SndS K ks E rk (tAsg te (gSub (tVar i) tb rSetL)) (wPut i we wb) := fun O Fs ρ σ H Dd Dh R hw L => by
  refine h O Fs ρ σ H _ Dd.xx _ R hw (fun d ρ1 Fs1 v H1 u f r q => ?_) L.lkx
  obtain ⟨⟨xs, h1⟩, q⟩ := q
  obtain ⟨p, vs, g1, g2, g3, g4⟩ := r.1.lstAt hk h1
  refine ⟨.ref p, g1, h2 O Fs1 ρ1 σ H1 _ Dd.xx _ r.1 q (fun kd ρ2 Fs2 kv H2 u2 f2 r2 q2 => ?_) (L.step f).lkx⟩
  obtain ⟨ys, k, j, q1, rfl, q3, q4⟩ := q2
  obtain ⟨p', us, g1', g2', g3', g4'⟩ := r2.1.lstAt hk q1
  rw [g1] at g1'
  cases g1'
  refine ⟨p, us, k, j, rfl, (by cases r2.2; rfl), g3', by rw [g4'.length]; exact q3, ?_⟩
  obtain ⟨R2, f3⟩ := r2.1.putL hk q1 g1 g2' (g4'.set j (r.2.mono f2.mo))
  exact L.nx _ Fs2 σ _ R2 (f.trans (f2.trans f3)) q4
theorem sPut (hk : Owns ks i shL) (h : PX X K ks E false .z e te we) (h2 : PX X K ks E false .z b tb wb) (hN : X.N[i]? = some x := by rfl) (hv : Vis X.env.scope x := by first | exact Or.inl rfl | exact Or.inr (Or.inl rfl) | exact Or.inr (Or.inr rfl)) (hd : (x == ("__debug__" : Str)) = false := by decide) (hcd : (x == ("__classdict__" : Str)) = false := by decide)
    (ha : ∀ v, assign (.Subscript (.Name x p) b p2) X.env v = (do
      let ov ← holding [v] (eval (.Name x p) X.env)
      let iv ← holding [v, ov] (eval b X.env)
      standAt p2
      holding [v, ov, iv] (setItem ov iv v)
      release [v, ov, iv] []) := by intro _; rfl)
    (hs : swapsWithSole [.Subscript (.Name x p) b p2] e pos.line X.env = pure false := by rfl) (hw : swappedStores [.Subscript (.Name x p) b p2] e X.env = pure none := by rfl) (h1 : (assignEach [.Subscript (.Name x p) b p2] X.env).map (·.2) = [assign (.Subscript (.Name x p) b p2) X.env] := by rfl) :
    QS X K ks E rk (.Assign [.Subscript (.Name x p) b p2] e pos) (tAsg te (gSub (tVar i) tb rSetL)) (wPut i we wb) := by cases h.hK; exact ⟨rfl, ps_asg h.pe (pg_sub (pe_var hN hv hd hcd) h2.pe set_list ha) hs hw h1, snd_put hk h.snd h2.snd⟩

/-! ### methods of texts -/
def MtD (K : PySem.W.Frag) (r : V → List V → Hp → VK → Prop) (wm : Str → D → (D → Prop) → Prop) : Prop := ∀ (A : AS) (H : Hp) (x : Str) (y : V) (d : D) (Ψ : D → Prop) (Q : VK), (∀ a, A a → H a ≠ none) → RT K A H y d → wm x d Ψ → (∀ d v H', Ext H H' → Rp K A H' v d → Ψ d → Q v H') → r (.str x) [y] H Q
def wM1 (wm : Str → D → (D → Prop) → Prop) (wo we : WE) : WE := fun ρ Ψ Ξ => wo ρ (fun d ρ1 => match d with | .str x => we ρ1 (fun y ρ2 => wm x y fun z => Ψ z ρ2) Ξ | _ => False) Ξ
theorem snd_m1 {r : V → List V → Hp → VK → Prop} {wm : Str → D → (D → Prop) → Prop} (m : MtD K r wm) (ho : Snd K ks E pu .z to wo) (he : Snd K ks E pu kd te we) (hk : kd.op) : Snd K ks E pu .z (tM1 r to te) (wM1 wm wo we) := fun O Fs ρ σ H Ψ Ξ Q R hw hq hx => by
  refine ho O Fs ρ σ H _ Ξ _ R hw (fun d ρ1 Fs1 v H1 u1 f1 r1 p1 => ?_) hx
  cases d with
  | str x =>
    have ev : v = .str x := by cases r1.2; rfl
    subst ev
    refine ⟨⟨x, rfl⟩, he O Fs1 ρ1 σ H1 _ Ξ _ r1.1 p1 (fun y ρ2 Fs2 yv H2 u2 f2 r2 p2 => ?_) (hx.step f1)⟩
    obtain ⟨R2, y2⟩ := r2.rt hk
    exact m _ H2 x yv y _ Q (fun a => R2.adom) y2 p2 fun z zv H3 e3 rz pz => hq z ρ2 Fs2 zv H3 ((u1.trans u2).ext e3) (f1.trans (f2.trans e3.fr)) ⟨R2.ext e3, rz⟩ pz
  | _ => exact p1.elim
def dJoin (x : Str) (y : D) (Ψ : D → Prop) : Prop := ∃ ds ys, (y = .lst ds ∨ y = .tup ds) ∧ D.strs ds = some ys ∧ (ys.map (·.length)).sum + ys.length * x.length ≤ 16777216 ∧ Ψ (.str (Txt.join x ys))
abbrev rdJoin (K : PySem.W.Frag) : V → List V → Hp → VK → Prop := fun x xs H Q => ∃ a p, ∃ ys : List Str, x = .str a ∧ xs = [.ref p] ∧ (SqL K H p (ys.map V.str) ∨ SqT K H p (ys.map V.str)) ∧ (ys.map (·.length)).sum + ys.length * a.length ≤ 16777216 ∧ Q (.str (Txt.join a ys)) H
theorem md_join {K : PySem.W.Frag} : MtD K (rdJoin K) dJoin := fun A H x y d Ψ Q hA ry hw hq => by
  obtain ⟨ds, ys, hd, e, hz, hw⟩ := hw
  rw [D.strs_inv e] at hd
  rcases hd with rfl | rfl
  · obtain ⟨p, vs, rfl, e1, r1⟩ := ry.lst_inv
    cases r1.strs_inv
    exact ⟨x, p, ys, rfl, rfl, .inl (SqL.of e1), hz, hq _ _ H (Ext.refl H) (.str _) hw⟩
  · obtain ⟨p, vs, rfl, e1, r1⟩ := ry.tup_inv
    cases r1.strs_inv
    exact ⟨x, p, ys, rfl, rfl, .inr e1, hz, hq _ _ H (Ext.refl H) (.str _) hw⟩
theorem xJoin (ho : PX X K ks E pu .z o to wo) (he : PX X K ks E pu kd e te we) (hk : kd.op := by trivial) (hs : starEach [e] X.env = [(false, eval e X.env)] := by rfl) (hbase : attributeBase o "join" X.env (eval o X.env) = eval o X.env := by rfl) (hline : (apos.endLine == pos.line) = true := by rfl) :
    PX X K ks E pu .z (.Call (.Attribute o "join" apos) [e] [] pos) (tM1 (rdJoin K) to te) (wM1 dJoin wo we) := by cases ho.hK; exact ⟨rfl, pe_join ho.pe he.pe hs hbase hline, snd_m1 md_join ho.snd he.snd hk⟩
def dStarts (x : Str) (y : D) (Ψ : D → Prop) : Prop := match y with
  | .str b => Ψ (.bl (Txt.startswith x b))
  | _ => False
abbrev rdStarts : V → List V → Hp → VK → Prop := fun x xs H Q => ∃ a b, x = .str a ∧ xs = [.str b] ∧ Q (.bl (Txt.startswith a b)) H
theorem md_starts {K : PySem.W.Frag} : MtD K rdStarts dStarts := fun A H x y d Ψ Q hA ry hw hq => by
  unfold dStarts at hw
  split at hw
  · cases ry.str_inv
    exact ⟨_, _, rfl, rfl, hq _ _ H (Ext.refl H) (.bl _) hw⟩
  · exact hw.elim
theorem xStarts (ho : PX X K ks E pu .z o to wo) (he : PX X K ks E pu kd e te we) (hk : kd.op := by trivial) (hs : starEach [e] X.env = [(false, eval e X.env)] := by rfl) (hbase : attributeBase o "startswith" X.env (eval o X.env) = eval o X.env := by rfl) (hline : (apos.endLine == pos.line) = true := by rfl) :
    PX X K ks E pu .z (.Call (.Attribute o "startswith" apos) [e] [] pos) (tM1 rdStarts to te) (wM1 dStarts wo we) := by cases ho.hK; exact ⟨rfl, pe_m1 PySem.F.slot_str_startswith PySem.F.type_str_startswith mt_startswith ho.pe he.pe hs hbase hline, snd_m1 md_starts ho.snd he.snd hk⟩

/-! ### isinstance -/
theorem x_bty {T : String} (hm : X.mg x = none) (hg : Gl X x := by rfl) (hv : bootBuiltins x = some (.type T) := by decide +kernel) (hn : x ≠ "__name__" := by decide) (hd : (x == ("__debug__" : Str)) = false := by decide) (hK : X.K = K := by rfl) : PX X K ks E pu .z (.Name x pos) (tC (.ty T)) (wC (.ty T)) := by cases hK; exact ⟨rfl, pe_bltn hg hm hv rfl hn hd, (snd_c fun _ _ => .ty T).any⟩
def D.tyc : D → Option String
  | .non => some "NoneType"
  | .bl _ => some "bool"
  | .int _ => some "int"
  | .str _ => some "str"
  | .tup _ => some "tuple"
  | .lst _ => some "list"
  | .scr _ => some "list"
  | .dk _ => some "dict"
  | _ => none
theorem RT.tyx {K : PySem.W.Frag} {A : AS} {H : Hp} {v : V} {d : D} {T : String} (r : RT K A H v d) (h : d.tyc = some T) : TyX K H v (.type T) := by
  cases d with
  | non => cases h; cases r.non_inv; exact .base .non
  | bl _ => cases h; cases r.bl_inv; exact .base (.bl _)
  | int _ => cases h; cases r.int_inv; exact .base (.int _)
  | str _ => cases h; cases r.str_inv; exact .base (.str _)
  | tup xs =>
    cases h
    obtain ⟨p, vs, rfl, e, _⟩ := r.tup_inv
    rcases e with (e | ⟨o, e⟩) | ⟨o, its, n, e1, e2, _⟩
    · exact .base (.tup e)
    · exact .fTuple e
    · exact .kTuple e1 e2
  | lst xs =>
    cases h
    obtain ⟨p, vs, rfl, e, _⟩ := r.lst_inv
    exact .base (.lst e)
  | scr xs =>
    cases h
    obtain ⟨p, rfl, e⟩ := r.scr_inv
    rcases e with (e | ⟨o, e⟩) | ⟨o, its, n, e1, e2, _⟩
    · exact .base (.lst e)
    · exact .base (.frz e)
    · exact .kList e1 e2
  | dk xs =>
    cases h
    obtain ⟨p, vs, rfl, e, _⟩ := r.dk_inv
    rcases e with e | ⟨o, e⟩
    · exact .base (.dK e)
    · exact .fDict e
  | dt _ => cases h
  | ins _ _ => cases h
  | ref _ => cases h
  | ty _ => cases h
def anyB (c : String) : List String → Option Bool
  | [] => some false
  | n :: ns => match kitB c n with
    | some true => some true
    | some false => anyB c ns
    | none => none
theorem anyB_ok {K : PySem.W.Frag} {c : String} : ∀ ns : List String, PySem.W.kitAny K (.type c) (ns.map Value.type) = anyB c ns
  | [] => rfl
  | n :: ns => by
    rw [List.map_cons, PySem.W.kitAny, anyB, anyB_ok ns]
    rfl
def D.tys : List D → Option (List String)
  | [] => some []
  | .ty n :: ds => (D.tys ds).map (n :: ·)
  | _ :: _ => none
theorem RpL.tys {K : PySem.W.Frag} {A : AS} {H : Hp} : ∀ {vs : List V} {ds : List D} {ns : List String}, RpL K A H vs ds → D.tys ds = some ns → Paired ClsV vs (ns.map Value.type)
  | _, _, ns, .nil, h => by
    have : ns = [] := by simpa [D.tys] using h.symm
    subst this
    exact .nil
  | _, d :: ds, ns, .cons h t, e => by
    unfold D.tys at e
    split at e
    · rename_i q; cases q
    · rename_i n ds' q
      cases q
      cases g : D.tys ds with
      | none => rw [g] at e; cases e
      | some m =>
        rw [g] at e
        cases e
        cases h
        exact .cons (.ty _) (RpL.tys t g)
    · cases e
def dIsi (d y : D) (Ψ : D → Prop) : Prop := match y with
  | .ty n => ∃ c b, d.tyc = some c ∧ kitB c n = some b ∧ Ψ (.bl b)
  | .tup ts => ∃ c ns b, d.tyc = some c ∧ D.tys ts = some ns ∧ anyB c ns = some b ∧ Ψ (.bl b)
  | _ => False
abbrev rdIsi (K : PySem.W.Frag) : List V → Hp → VK → Prop := fun xs H Q => rIsi K xs H Q ∨ (rIsiT K xs H Q ∨ rIsiK K xs H Q)
theorem cr_isi : CallR X (.builtin "isinstance") (rdIsi X.K) := CallR.or call_isi (CallR.or call_isiT call_isiK)
theorem paired_eq : ∀ {vs : List V} {us ws : List Value}, Paired ClsV vs us → Vals vs ws → ws = us := fun k r => ClsV.all k r
theorem od_isi {K : PySem.W.Frag} {A : AS} {H : Hp} {x v : V} {d y : D} {Ψ : D → Prop} {Q : VK} (rx : RT K A H x d) (ry : Rp K A H v y) (hw : dIsi d y Ψ) (hq : ∀ d v H', Ext H H' → Rp K A H' v d → Ψ d → Q v H') : rdIsi K [x, v] H Q := by
  unfold dIsi at hw
  split at hw
  · obtain ⟨c, b, h1, h2, hw⟩ := hw
    cases ry
    exact .inl ⟨_, _, _, _, b, rfl, .ty _, rx.tyx h1, kit_ty h2, hq _ _ H (Ext.refl H) (.bl _) hw⟩
  · obtain ⟨c, ns, b, h1, h2, h3, hw⟩ := hw
    cases ry with
    | tup n e r => exact .inr (.inl ⟨_, _, _, _, _, b, rfl, hc_tup.mp e, r.tys h2, rx.tyx h1, by rw [anyB_ok, h3], hq _ _ H (Ext.refl H) (.bl _) hw⟩)
    | tupK e r =>
      rcases e (fun _ => none) with (z | ⟨o, z⟩) | ⟨o, its, n, e1, e2, e3, _, e4⟩
      · cases z
      · cases z
      · have eu := ClsV.all (r.tys h2) e4
        obtain ⟨oc, od, dt, sl⟩ := o
        simp only at e2 e3
        subst e2 e3
        refine .inr (.inr ⟨_, _, od, ns.map Value.type, n, sl, _, b, rfl, ?_, rx.tyx h1, by rw [anyB_ok, h3], hq _ _ H (Ext.refl H) (.bl _) hw⟩)
        rw [e1, ← eu]
  · exact hw.elim
def wIsi (wa wb : WE) : WE := fun ρ Ψ Ξ => wa ρ (fun d ρ1 => wb ρ1 (fun y ρ2 => dIsi d y fun z => Ψ z ρ2) Ξ) Ξ
theorem cIsi (hm : X.mg "isinstance" = none) (ha : PX X K ks E pu kd a ta wa) (hb : PX X K ks E true .z b tb wb) (hk : kd.op := by trivial) (hg : Gl X "isinstance" := by rfl) (hs : starEach [a, b] X.env = (false, eval a X.env) :: starEach [b] X.env := by rfl) (hs2 : starEach [b] X.env = (false, eval b X.env) :: starEach [] X.env := by rfl)
    (hpl : (backTo pos (starEach [b] X.env)).any (·.1) = false := by rfl) : PX X K ks E pu .z (.Call (.Name "isinstance" p) [a, b] [] pos) (tCB (rdIsi K) (tCons ta (tCons tb tNil))) (wIsi wa wb) := by cases ha.hK; exact ⟨rfl, pe_callB cr_isi hg hm (by decide +kernel) (pa_cons ha.pe (pa_cons hb.pe pa_nil hs2) hs) (by decide) (by decide) hs hpl, fun O Fs ρ σ H Ψ Ξ Q R hw hq hx => by
    refine ha.snd O Fs ρ σ H _ Ξ _ R hw (fun dx ρ1 Fs1 xv H1 u1 f1 r1 p1 => ?_) hx
    have R1 := (r1.rt hk).1
    refine hb.snd O Fs1 ρ1 σ H1 _ Ξ _ R1 p1 (fun dy ρ2 Fs2 y H2 u2 f2 r2 p2 => ?_) (hx.step f1)
    exact od_isi (r1.stayP hk u2) r2.2 p2 fun d v H' e rp z => hq d ρ2 Fs2 v H' ((u1.trans u2.any).ext e) (f1.trans (f2.trans e.fr)) ⟨r2.1.ext e, rp⟩ z⟩
/-! ### a, b = e1, e2 (names without cells) -/
def wPar (i j : Nat) (wa : WA) : WS := fun De ρ => wa ρ (fun ds ρ' => match ds with | [d, e] => De.nx ((ρ'.set i (some d)).set j (some e)) | _ => False) De.xx
theorem sPar {j : Nat} {y : Str} {ta : TA} {wa : WA} {px py pt : Pos} {kt k2 pt2} (hc : X.calm = true) (hN : X.N.Nodup) (h : PXs X K ks E false [a, b] ta wa) (hij : i ≠ j) (hk : ks[i]? = some .z := by rfl) (hk2 : ks[j]? = some .z := by rfl) (hi : X.N[i]? = some x := by rfl) (hj : X.N[j]? = some y := by rfl)
    (hx : X.env.scope.names.lookup x = some .local := by rfl) (hy : X.env.scope.names.lookup y = some .local := by rfl)
    (hw : swappedStores [.Tuple [.Name x px, .Name y py] kt pt] (.Tuple [a, b] k2 pt2) X.env = pure (some [x, y]) := by rfl)
    (hs : swapsWithSole [.Tuple [.Name x px, .Name y py] kt pt] (.Tuple [a, b] k2 pt2) pos.line X.env = pure false := by rfl) :
    QS X K ks E rk (.Assign [.Tuple [.Name x px, .Name y py] kt pt] (.Tuple [a, b] k2 pt2) pos) (tPar i j ta) (wPar i j wa) := by cases h.hK; exact ⟨rfl, ps_par hc hN hi hj hij hx hy h.pa hw hs, fun O Fs ρ σ H Dd Dh R hw L =>
  h.snd O Fs ρ σ H _ Dd.xx _ R hw (fun ds ρ' Fs' vs H' u f R' r p => by
    split at p
    · cases r with
      | cons r1 t => cases t with
        | cons r2 t =>
          cases t
          exact ⟨_, _, rfl, L.nx _ Fs' _ H' ((R'.set hk r1).set hk2 r2) f p⟩
    · exact p.elim) L.lkx⟩
end
end Fw

/-! Fw14: comprehensions as expressions and as what is stored. -/
namespace Fw
open PySem L2 PySem.Spec PyProof.Rows

structure PBs (X : Cx) (K : PySem.W.Frag) (ks : List SK) (E : L2.St → XK) (pu : Bool) (ifs : List Expr) (t : TT) (w : WB) : Prop where
  hK : X.K = K
  pts : PTs X ifs t
  snd : SndB K ks E pu t w
section
variable {X : Cx} {K : PySem.W.Frag} {ks : List SK} {E : L2.St → XK} {rk kd : Kd} {pu fl pi pt pe : Bool} {tg iter elt c : Expr} {ifs : List Expr} {wi : TI} {wiD : WA} {g : TG} {wg : WG} {tt : TT} {wt : WB} {te : TE} {we : WE} {scope : Scope} {own : List (Str × Nat)} {pos spos py : Pos} {i : Nat} {y : Str}
theorem SndB.any {K : PySem.W.Frag} (h : SndB K ks E true tt wt) : SndB K ks E pu tt wt := fun O Fs ρ σ H Ψ Ξ Q R hw hq hx => h O Fs ρ σ H Ψ Ξ Q R hw (fun b ρ' Fs' H' u f r p => hq b ρ' Fs' H' (fun _ => u rfl) f r p) hx
theorem tN (hK : X.K = K := by rfl) : PBs X K ks E pu [] tYes wYes := by cases hK; exact ⟨rfl, pts_nil, SndB.any snd_yes⟩
theorem t1 (h : PB X K ks E pt c tt wt) : PBs X K ks E pt [c] tt wt := by cases h.hK; exact ⟨rfl, pts_one h.pt, h.snd⟩
abbrev Blk (X : Cx) (scope : Scope) (φ : Cx → Prop) : Prop := ∀ (s : Shared) (H : Hp) (C : Addr) (cl : List (Str × Addr)) (fp : List Addr), φ (X.blk s H scope (compEnvC scope cl C X.env) fp)
theorem Blk.get {φ : Cx → Prop} (h : Blk X scope φ) : ∃ Y : Cx, φ Y := ⟨X.blk X.s_0 X.H_0 scope (compEnvC scope [] 0 X.env) [], h X.s_0 X.H_0 0 [] []⟩
theorem lc_snd (hi : PXi X K ks E false pi tg iter wi wiD) (hg : Blk X scope fun Y => QG Y K ks tg g wg) (gm : GMono g) (go : GOnly g (own.map (·.2))) (ht : Blk X scope fun Y => PBs Y K ks EN pt ifs tt wt) (he : Blk X scope fun Y => PX Y K ks EN pe .z elt te we) :
    Snd K ks E false (.o shL) (tLc wi g tt te (own.map (·.2))) (wLc wiD wg wt we (own.map (·.2))) := by
  obtain ⟨Y1, h1⟩ := hg.get
  obtain ⟨Y2, h2⟩ := ht.get
  obtain ⟨Y3, h3⟩ := he.get
  exact snd_lc hi h1.snd gm go h2.snd h3.snd
theorem lcp_snd (hi : PXi X K ks E true pi tg iter wi wiD) (hg : Blk X scope fun Y => QG Y K ks tg g wg) (gm : GMono g) (go : GOnly g (own.map (·.2))) (ht : Blk X scope fun Y => PBs Y K ks EN true ifs tt wt) (he : Blk X scope fun Y => PX Y K ks EN true .z elt te we) :
    Snd K ks E pi (.o shL) (tLc wi g tt te (own.map (·.2))) (wLcP wiD wg wt we (own.map (·.2))) := by
  obtain ⟨Y1, h1⟩ := hg.get
  obtain ⟨Y2, h2⟩ := ht.get
  obtain ⟨Y3, h3⟩ := he.get
  exact snd_lcP hi h1.snd gm go h2.snd h3.snd
theorem PXi.any (h : PXi X K ks E false pi tg iter wi wiD) : PXi X K ks E true pi tg iter wi wiD := by cases h.hK; exact ⟨rfl, h.pi, fun O Fs ρ σ H Ψ Ξ R R0 hw hq hx => h.snd O Fs ρ σ H Ψ Ξ R R0 hw (fun ds ρ' Fs' J H' u f r it p => hq ds ρ' Fs' J H' u f r (ItOk.any it) p) hx⟩
theorem xLc (own : List (Str × Nat)) (hc : X.calm = true) (hN : X.N.Nodup) (hi : PXi X K ks E false false tg iter wi wiD) (ok : BlkOk X.N X.env.scope scope own) (hg : Blk X scope fun Y => QG Y K ks tg g wg) (gm : GMono g) (go : GOnly g (own.map (·.2))) (ht : Blk X scope fun Y => PBs Y K ks EN false ifs tt wt) (he : Blk X scope fun Y => PX Y K ks EN false .z elt te we)
    (hs : ∀ x, foldedSetIterable iter X.env x = pure x := by intro _; rfl) : PX X K ks E false (.o shL) (.ListComp elt [⟨tg, iter, ifs, 0⟩] scope pos) (tLc wi g tt te (own.map (·.2))) (wLc wiD wg wt we (own.map (·.2))) := by cases hi.hK; exact ⟨rfl, pe_lc hc hN hi.pi ok (fun s H C cl fp => (hg s H C cl fp).pg) (fun s H C cl fp => (ht s H C cl fp).pts) (fun s H C cl fp => (he s H C cl fp).pe) hs, lc_snd hi hg gm go ht he⟩
theorem xLcP (own : List (Str × Nat)) (hc : X.calm = true) (hN : X.N.Nodup) (hi : PXi X K ks E true pi tg iter wi wiD) (ok : BlkOk X.N X.env.scope scope own) (hg : Blk X scope fun Y => QG Y K ks tg g wg) (gm : GMono g) (go : GOnly g (own.map (·.2))) (ht : Blk X scope fun Y => PBs Y K ks EN true ifs tt wt) (he : Blk X scope fun Y => PX Y K ks EN true .z elt te we)
    (hs : ∀ x, foldedSetIterable iter X.env x = pure x := by intro _; rfl) : PX X K ks E pi (.o shL) (.ListComp elt [⟨tg, iter, ifs, 0⟩] scope pos) (tLc wi g tt te (own.map (·.2))) (wLcP wiD wg wt we (own.map (·.2))) := by cases hi.hK; exact ⟨rfl, pe_lc hc hN hi.pi ok (fun s H C cl fp => (hg s H C cl fp).pg) (fun s H C cl fp => (ht s H C cl fp).pts) (fun s H C cl fp => (he s H C cl fp).pe) hs, lcp_snd hi hg gm go ht he⟩
theorem snd_set (h : Snd K ks E pu .z te we) (hk : ks[i]? = some .z) : SndS K ks E rk (tAsg te (gName i)) (wSet i we) := fun O Fs ρ σ H Dd Dh R hw L =>
  h O Fs ρ σ H _ Dd.xx _ R hw (fun d ρ' Fs' v H' u f r p => L.nx _ Fs' _ H' (r.1.set hk r.2) f p) L.lkx
theorem snd_setO {s : Shp} (h : Snd K ks E pu (.o s) te we) (hk : ks[i]? = some (.ow s)) : SndS K ks E rk (tAsg te (gName i)) (wSet i we) := fun O Fs ρ σ H Dd Dh R hw L =>
  h O Fs ρ σ H _ Dd.xx _ R hw (fun d ρ' Fs' v H' u f r p => by
    obtain ⟨Fv, R', q, n⟩ := r
    exact L.nx _ _ _ H' (R'.setO hk q fun a ha => ⟨(n a ha).1, (n a ha).2.1⟩) (f.putO fun a ha => (n a ha).2.2) p) L.lkx
/-- y = [..] on one line, y a plain local; the store by hst -/
theorem sLcG (own : List (Str × Nat)) {wl : WE} (hc : X.calm = true) (hN : X.N.Nodup) (hi : PI X tg iter wi) (ok : BlkOk X.N X.env.scope scope own) (hg : Blk X scope fun Y => QG Y K ks tg g wg) (ht : Blk X scope fun Y => PBs Y K ks EN pt ifs tt wt) (he : Blk X scope fun Y => PX Y K ks EN pe .z elt te we)
    (hst : SndS K ks E rk (tAsg (tLc wi g tt te (own.map (·.2))) (gName i)) (wSet i wl)) (hk : X.env.scope.kind = .function) (hy : X.N[i]? = some y := by rfl) (hyl : X.env.scope.names.lookup y = some .local := by rfl)
    (hl : (py.line == pos.line) = true := by rfl) (ha : (scope.names.any fun (n, k) => n == y && (k == .local || k == .cell)) = false := by decide +kernel) (hp : pos.line = spos.line := by rfl) (hs : ∀ x, foldedSetIterable iter X.env x = pure x := by intro _; rfl) (hK : X.K = K := by rfl) :
    QS X K ks E rk (.Assign [.Name y py] (.ListComp elt [⟨tg, iter, ifs, 0⟩] scope pos) spos) (tAsg (tLc wi g tt te (own.map (·.2))) (gName i)) (wSet i wl) := by cases hK; exact ⟨rfl, ps_setLc hc hN hy hyl (sw_true hk hyl hl ha) hi ok (fun s H C cl fp => (hg s H C cl fp).pg) (fun s H C cl fp => (ht s H C cl fp).pts) (fun s H C cl fp => (he s H C cl fp).pe) hs, hst⟩
theorem sLcP (own : List (Str × Nat)) (hc : X.calm = true) (hN : X.N.Nodup) (hi : PXi X K ks E true false tg iter wi wiD) (ok : BlkOk X.N X.env.scope scope own) (hg : Blk X scope fun Y => QG Y K ks tg g wg) (gm : GMono g) (go : GOnly g (own.map (·.2))) (ht : Blk X scope fun Y => PBs Y K ks EN true ifs tt wt) (he : Blk X scope fun Y => PX Y K ks EN true .z elt te we)
    (hkf : X.env.scope.kind = .function) (hk : ks[i]? = some .z := by rfl) (hy : X.N[i]? = some y := by rfl) (hyl : X.env.scope.names.lookup y = some .local := by rfl)
    (hl : (py.line == pos.line) = true := by rfl) (ha : (scope.names.any fun (n, k) => n == y && (k == .local || k == .cell)) = false := by decide +kernel) (hp : pos.line = spos.line := by rfl) (hs : ∀ x, foldedSetIterable iter X.env x = pure x := by intro _; rfl) :
    QS X K ks E rk (.Assign [.Name y py] (.ListComp elt [⟨tg, iter, ifs, 0⟩] scope pos) spos) (tAsg (tLc wi g tt te (own.map (·.2))) (gName i)) (wSet i (wLcP wiD wg wt we (own.map (·.2)))) := by cases hi.hK; exact sLcG own hc hN hi.pi ok hg ht he (snd_set (lcp_snd hi hg gm go ht he).toZ hk) hkf hy hyl hl ha hp hs
theorem sLcPO (own : List (Str × Nat)) (hc : X.calm = true) (hN : X.N.Nodup) (hi : PXi X K ks E true false tg iter wi wiD) (ok : BlkOk X.N X.env.scope scope own) (hg : Blk X scope fun Y => QG Y K ks tg g wg) (gm : GMono g) (go : GOnly g (own.map (·.2))) (ht : Blk X scope fun Y => PBs Y K ks EN true ifs tt wt) (he : Blk X scope fun Y => PX Y K ks EN true .z elt te we)
    (hkf : X.env.scope.kind = .function) (hk : ks[i]? = some (.ow shL) := by rfl) (hy : X.N[i]? = some y := by rfl) (hyl : X.env.scope.names.lookup y = some .local := by rfl)
    (hl : (py.line == pos.line) = true := by rfl) (ha : (scope.names.any fun (n, k) => n == y && (k == .local || k == .cell)) = false := by decide +kernel) (hp : pos.line = spos.line := by rfl) (hs : ∀ x, foldedSetIterable iter X.env x = pure x := by intro _; rfl) :
    QS X K ks E rk (.Assign [.Name y py] (.ListComp elt [⟨tg, iter, ifs, 0⟩] scope pos) spos) (tAsg (tLc wi g tt te (own.map (·.2))) (gName i)) (wSet i (wLcP wiD wg wt we (own.map (·.2)))) := by cases hi.hK; exact sLcG own hc hN hi.pi ok hg ht he (snd_setO (lcp_snd hi hg gm go ht he) hk) hkf hy hyl hl ha hp hs
theorem sLc (own : List (Str × Nat)) (hc : X.calm = true) (hN : X.N.Nodup) (hi : PXi X K ks E false false tg iter wi wiD) (ok : BlkOk X.N X.env.scope scope own) (hg : Blk X scope fun Y => QG Y K ks tg g wg) (gm : GMono g) (go : GOnly g (own.map (·.2))) (ht : Blk X scope fun Y => PBs Y K ks EN false ifs tt wt) (he : Blk X scope fun Y => PX Y K ks EN false .z elt te we)
    (hkf : X.env.scope.kind = .function) (hk : ks[i]? = some .z := by rfl) (hy : X.N[i]? = some y := by rfl) (hyl : X.env.scope.names.lookup y = some .local := by rfl)
    (hl : (py.line == pos.line) = true := by rfl) (ha : (scope.names.any fun (n, k) => n == y && (k == .local || k == .cell)) = false := by decide +kernel) (hp : pos.line = spos.line := by rfl) (hs : ∀ x, foldedSetIterable iter X.env x = pure x := by intro _; rfl) :
    QS X K ks E rk (.Assign [.Name y py] (.ListComp elt [⟨tg, iter, ifs, 0⟩] scope pos) spos) (tAsg (tLc wi g tt te (own.map (·.2))) (gName i)) (wSet i (wLc wiD wg wt we (own.map (·.2)))) := by cases hi.hK; exact sLcG own hc hN hi.pi ok hg ht he (snd_set (lc_snd hi hg gm go ht he).toZ hk) hkf hy hyl hl ha hp hs
end
end Fw

/-! Fw15: laws of what readings are worth: texts by code points, loops. -/
namespace Fw
open PySem L2

/-! ### texts by their code points -/
def tx (l : List Nat) : Str := ⟨l.toArray⟩
theorem tx_cps (l : List Nat) : (tx l).cps.toList = l := rfl
theorem tx_of (x : Str) : x = tx x.cps.toList := (SX.S_tl x).symm
theorem tx_inj {a b : List Nat} : (tx a = tx b) = (a = b) := propext ⟨fun h => SX.S_inj h, fun h => by rw [h]⟩
theorem tx_len (a : List Nat) : (tx a).length = a.length := SX.S_len a
theorem tx_cat (a b : List Nat) : tx a ++ tx b = tx (a ++ b) := SX.S_cat a b
theorem tx_one (c : Nat) : (⟨#[c]⟩ : Str) = tx [c] := rfl
theorem tx_beq (a b : List Nat) : (tx a == tx b) = decide (a = b) := SX.S_beq_eq
theorem signs_tx (a : List Nat) : signs (tx a) = a.map fun c => .str (tx [c]) := rfl
/-- code points of texts that may be compared -/
def cpOk (a : List Nat) : Bool := a.all (· < 1114112)
theorem cpOk_iff {a : List Nat} : cpOk a = true ↔ ∀ c ∈ a, c < 1114112 := by
  unfold cpOk
  rw [List.all_eq_true]
  simp
/-- xs[lo:hi] -/
def cut {α : Type} (xs : List α) (lo hi : Option Int) : List α := (xs.drop (HT.sIx xs.length 0 lo)).take (HT.sIx xs.length xs.length hi - HT.sIx xs.length 0 lo)
theorem cutD_cut (xs : List D) (lo hi : Option Int) : cutD xs lo hi = cut xs lo hi := rfl
theorem cutS_tx (a : List Nat) (lo hi : Option Int) : cutS (tx a) lo hi = tx (cut a lo hi) := by
  unfold cutS cut
  rw [tx_len]
  rfl
theorem cut_map {α β : Type} (f : α → β) (xs : List α) (lo hi : Option Int) : cut (xs.map f) lo hi = (cut xs lo hi).map f := by
  unfold cut
  rw [List.length_map, List.map_take, List.map_drop]
theorem cut_to {α : Type} (xs : List α) (n : Nat) : cut xs none (some (n : Int)) = xs.take n := by
  unfold cut
  rw [HT.sIx_nat, HT.sIx_none, List.drop_zero, Nat.sub_zero]
  apply List.ext_getElem?
  intro i
  rw [List.getElem?_take, List.getElem?_take]
  by_cases h : i < n
  · rw [if_pos h]
    by_cases h2 : i < xs.length
    · rw [if_pos (by omega)]
    · rw [if_neg (by omega), List.getElem?_eq_none (by omega)]
  · rw [if_neg h, if_neg (by omega)]
theorem cut_from {α : Type} (xs : List α) (n : Nat) : cut xs (some (n : Int)) none = xs.drop n := by
  unfold cut
  rw [HT.sIx_nat, HT.sIx_none]
  apply List.ext_getElem?
  intro i
  rw [List.getElem?_take, List.getElem?_drop, List.getElem?_drop]
  by_cases h : n ≤ xs.length
  · rw [Nat.min_eq_left h]
    by_cases h2 : i < xs.length - n
    · rw [if_pos h2]
    · rw [if_neg h2, List.getElem?_eq_none (by omega)]
  · rw [Nat.min_eq_right (by omega), List.getElem?_eq_none (by omega : xs.length ≤ xs.length + i), List.getElem?_eq_none (by omega : xs.length ≤ n + i), ite_self]
theorem cut_mid {α : Type} (xs : List α) (m n : Nat) : cut xs (some (m : Int)) (some (n : Int)) = (xs.take n).drop m := by
  unfold cut
  rw [HT.sIx_nat, HT.sIx_nat]
  apply List.ext_getElem?
  intro i
  rw [List.getElem?_take, List.getElem?_drop, List.getElem?_drop, List.getElem?_take]
  by_cases h : m ≤ xs.length
  · rw [Nat.min_eq_left h]
    by_cases h2 : m + i < n
    · rw [if_pos h2]
      by_cases h3 : m + i < xs.length
      · rw [if_pos (by omega)]
      · rw [List.getElem?_eq_none (by omega), ite_self]
    · rw [if_neg h2, if_neg (by omega)]
  · rw [Nat.min_eq_right (by omega : xs.length ≤ m), List.getElem?_eq_none (by omega : xs.length ≤ xs.length + i), ite_self]
    split
    · rw [List.getElem?_eq_none (by omega)]
    · rfl
theorem cut_all {α : Type} (xs : List α) : cut xs none none = xs := by
  unfold cut
  rw [HT.sIx_none, HT.sIx_none, List.drop_zero, Nat.sub_zero, List.take_length]
theorem cut_fromL {α : Type} (xs : List α) (n : Nat) : cut xs (some (no_index (OfNat.ofNat n))) none = xs.drop n := cut_from xs n
theorem cut_toL {α : Type} (xs : List α) (n : Nat) : cut xs none (some (no_index (OfNat.ofNat n))) = xs.take n := cut_to xs n
theorem atI_natE {α : Type} (xs : List α) (n : Nat) : atI xs (n : Int) = xs[n]? := by
  unfold atI ixN
  rw [if_pos (by omega)]
  by_cases h : (n : Int) < xs.length
  · rw [if_pos h, Int.toNat_natCast]; rfl
  · rw [if_neg h, List.getElem?_eq_none (by omega)]; rfl
theorem atI_lit {α : Type} (xs : List α) (n : Nat) : atI xs (no_index (OfNat.ofNat n)) = xs[n]? := atI_natE xs n
theorem atI_pos {α : Type} {xs : List α} {i : Int} (h0 : 0 ≤ i) : atI xs i = xs[i.toNat]? := by
  have := atI_natE xs i.toNat
  rw [Int.toNat_of_nonneg h0] at this
  exact this
theorem ixN_nat (m n : Nat) (h : n < m) : ixN m (n : Int) = some n := by
  unfold ixN
  rw [if_pos (by omega), if_pos (by omega), Int.toNat_natCast]
theorem txt_mul (a : List Nat) (n : Int) : Txt.mul (tx a) n = tx (List.replicate n.toNat a).flatten := by
  unfold Txt.mul
  have h2 : ∀ (k : Nat) (acc : Array Nat), (List.replicate k (tx a).cps).foldl (· ++ ·) acc = (acc.toList ++ (List.replicate k a).flatten).toArray := by
    intro k
    induction k with
    | zero => intro acc; simp
    | succ k ih =>
      intro acc
      rw [List.replicate_succ, List.foldl_cons, ih, List.replicate_succ, List.flatten_cons]
      simp [tx]
  split
  · rw [show n.toNat = 0 by omega]; rfl
  · split
    · rename_i h1 h3
      rw [Bool.or_eq_true] at h3
      rcases h3 with h3 | h3
      · have : n = 1 := by simpa using h3
        subst this
        simp
      · have : a = [] := by rw [tx_len] at h3; simpa using h3
        subst this
        simp
    · show (⟨_⟩ : Str) = _
      rw [h2]
      simp [tx]
theorem joinL_nil : ∀ (xs : List (List Nat)), TL.joinL [] xs = xs.flatten
  | [] => rfl
  | [x] => by simp [TL.joinL]
  | x :: y :: r => by
    have := joinL_nil (y :: r)
    simp only [TL.joinL, List.append_nil, List.nil_append, List.flatten_cons] at this ⊢
    rw [this]
theorem txt_join (s : List Nat) (ys : List (List Nat)) : Txt.join (tx s) (ys.map tx) = tx (TL.joinL s ys) := SX.join_S s ys
theorem ofS (s : String) : Str.ofString s = tx (s.toList.map Char.toNat) := Str.ofString_eq_toList s

section
variable {Ψ : D → Prop} {a b : List Nat} {i j : Int} {x y : D} {xs ys : List D} {neg : Bool}
theorem dAdd_tx : dAdd (.str (tx a)) (.str (tx b)) Ψ = (a.length + b.length ≤ sizeLine ∧ Ψ (.str (tx (a ++ b)))) := by
  show ((tx a).length + (tx b).length ≤ sizeLine ∧ Ψ (.str (tx a ++ tx b))) = _
  rw [tx_len, tx_len, tx_cat]
theorem dAdd_int : dAdd (.int i) (.int j) Ψ = Ψ (.int (i + j)) := rfl
theorem dAdd_lst : dAdd (.lst xs) (.lst ys) Ψ = (xs.length + ys.length ≤ sizeLine ∧ Ψ (.lst (xs ++ ys))) := rfl
theorem dAdd_tup : dAdd (.tup xs) (.tup ys) Ψ = (xs.length + ys.length ≤ sizeLine ∧ Ψ (.tup (xs ++ ys))) := rfl
theorem dCat_lst : dCat (.lst xs) (.lst ys) Ψ = (xs.length + ys.length ≤ sizeLine ∧ Ψ (.lst (xs ++ ys))) := rfl
theorem dI_int {C : Int → Int → Prop} {g : Int → Int → D} : dI C g (.int i) (.int j) Ψ = (C i j ∧ Ψ (g i j)) := rfl
theorem dI0_int {g : Int → Int → D} : dI0 g (.int i) (.int j) Ψ = Ψ (g i j) := rfl
theorem dMul_int : dMul (.int i) (.int j) Ψ = (CMulW i j ∧ Ψ (.int (i * j))) := rfl
theorem dMul_tx : dMul (.str (tx a)) (.int i) Ψ = (MulOk (tx a) i ∧ Ψ (.str (tx (List.replicate i.toNat a).flatten))) := by
  show (MulOk (tx a) i ∧ Ψ (.str (Txt.mul (tx a) i))) = _
  rw [txt_mul]
theorem dMul_lst : dMul (.lst xs) (.int i) Ψ = (-(2 ^ 63) ≤ i ∧ i < 2 ^ 63 ∧ xs.length * i.toNat ≤ sizeLine ∧ Ψ (.lst (List.replicate i.toNat xs).flatten)) := rfl
theorem dOrd_int {gi : Int → Int → Bool} {gs : Str → Str → Bool} : dOrd gi gs (.int i) (.int j) Ψ = Ψ (.bl (gi i j)) := rfl
theorem dOrd_tx {gi : Int → Int → Bool} {gs : Str → Str → Bool} : dOrd gi gs (.str (tx a)) (.str (tx b)) Ψ = Ψ (.bl (gs (tx a) (tx b))) := rfl
theorem sLt_tx : sLt (tx a) (tx b) = decide (a < b) := rfl
theorem deq_str {u v : Str} : deq (.str u) (.str v) = decide (u = v) := by
  show (u == v) = _
  by_cases h : u = v
  · subst h; simp
  · simp [h]
theorem deq_int : deq (.int i) (.int j) = decide (i = j) := by
  show (i == j) = _
  by_cases h : i = j
  · subst h; simp
  · simp [h]
theorem deq_bl {k l : Bool} : deq (.bl k) (.bl l) = decide (k = l) := by cases k <;> cases l <;> rfl
theorem cm_tx : D.cm (.str (tx a)) = cpOk a := by
  show (true && (PyData.canLay0 (.str (tx a)) && decide (PyData.depth (.str (tx a)) ≤ 64))) = _
  have h : PyData.strOk (tx a) = cpOk a := by
    unfold PyData.strOk cpOk
    rw [← Array.all_toList]
    rfl
  simp [PyData.canLay0, PyData.depth, h]
theorem dEq_tx : dEq (.str (tx a)) (.str (tx b)) Ψ = (cpOk a = true ∧ cpOk b = true ∧ Ψ (.bl (decide (a = b)))) := by
  unfold dEq
  simp only [deq_str, cm_tx, tx_inj]
theorem dNe_tx : dNe (.str (tx a)) (.str (tx b)) Ψ = (cpOk a = true ∧ cpOk b = true ∧ Ψ (.bl (decide (¬ a = b)))) := by
  unfold dNe
  simp only [deq_str, cm_tx, tx_inj, decide_not]
theorem dEq_int : dEq (.int i) (.int j) Ψ = Ψ (.bl (decide (i = j))) := by
  unfold dEq
  rw [deq_int]
  simp [D.cm, D.ok, D.py, show SeqAt.shaped (PyData.int i) = true from rfl, show SeqAt.shaped (PyData.int j) = true from rfl]
theorem dNe_int : dNe (.int i) (.int j) Ψ = Ψ (.bl (decide (¬ i = j))) := by
  unfold dNe
  rw [deq_int]
  simp [D.cm, D.ok, D.py, show SeqAt.shaped (PyData.int i) = true from rfl, show SeqAt.shaped (PyData.int j) = true from rfl]
theorem dEq_bl {k l : Bool} : dEq (.bl k) (.bl l) Ψ = Ψ (.bl (decide (k = l))) := by
  unfold dEq
  rw [deq_bl]
  simp [D.cm, D.ok, D.py, show SeqAt.shaped (PyData.bool k) = true from rfl, show SeqAt.shaped (PyData.bool l) = true from rfl]
theorem dNe_bl {k l : Bool} : dNe (.bl k) (.bl l) Ψ = Ψ (.bl (decide (¬ k = l))) := by
  unfold dNe
  rw [deq_bl]
  simp [D.cm, D.ok, D.py, show SeqAt.shaped (PyData.bool k) = true from rfl, show SeqAt.shaped (PyData.bool l) = true from rfl]
theorem dIsN_non : dIsN x .non Ψ = Ψ (.bl x.isNon) := by unfold dIsN; simp
theorem dNotN_non : dNotN x .non Ψ = Ψ (.bl (!x.isNon)) := by unfold dNotN; simp
theorem dIsB_bl {k l : Bool} : dIsB (.bl k) (.bl l) Ψ = Ψ (.bl (decide (k = l))) := rfl
theorem dIsNotB_bl {k l : Bool} : dIsNotB (.bl k) (.bl l) Ψ = Ψ (.bl (!decide (k = l))) := rfl
theorem dLen_tx : dLen (.str (tx a)) Ψ = (a.length ≤ sizeLine ∧ Ψ (.int (a.length : Int))) := by
  show ((tx a).length ≤ sizeLine ∧ Ψ (.int ((tx a).length : Int))) = _
  rw [tx_len]
theorem dLen_lst : dLen (.lst xs) Ψ = Ψ (.int (xs.length : Int)) := rfl
theorem dLen_tup : dLen (.tup xs) Ψ = Ψ (.int (xs.length : Int)) := rfl
theorem dLen_scr {ns : List Int} : dLen (.scr ns) Ψ = Ψ (.int (ns.length : Int)) := rfl
theorem dIx_lst : dIx (.lst xs) (.int i) Ψ = ∃ d, atI xs i = some d ∧ Ψ d := rfl
theorem dIx_tup : dIx (.tup xs) (.int i) Ψ = ∃ d, atI xs i = some d ∧ Ψ d := rfl
theorem dIx_tx : dIx (.str (tx a)) (.int i) Ψ = (a.length ≤ sizeLine ∧ ∃ c, atI a i = some c ∧ Ψ (.str (tx [c]))) := by
  show ((tx a).length ≤ sizeLine ∧ _) = _
  rw [tx_len]
  rfl
theorem dSl_tx {lo hi : Option Int} : dSl (.str (tx a)) lo hi Ψ = (a.length ≤ sizeLine ∧ Ψ (.str (tx (cut a lo hi)))) := by
  show ((tx a).length ≤ sizeLine ∧ Ψ (.str (cutS (tx a) lo hi))) = _
  rw [tx_len, cutS_tx]
theorem dSl_lst {lo hi : Option Int} : dSl (.lst xs) lo hi Ψ = Ψ (.lst (cut xs lo hi)) := rfl
theorem dSl_tup {lo hi : Option Int} : dSl (.tup xs) lo hi Ψ = Ψ (.tup (cut xs lo hi)) := rfl
theorem dSl_scr {ns : List Int} {lo hi : Option Int} : dSl (.scr ns) lo hi Ψ = Ψ (.lst ((cut ns lo hi).map .int)) := by
  show Ψ (.lst (cut (ns.map .int) lo hi)) = _
  rw [cut_map]
theorem dSlL_lst {lo hi : Option Int} : dSlL (.lst xs) lo hi Ψ = Ψ (.lst (cut xs lo hi)) := rfl
theorem dTru_tx : dTru (.str (tx a)) = fun Φ => a.length ≤ sizeLine ∧ Φ (!a.isEmpty) := by
  funext Φ
  show ((tx a).length ≤ sizeLine ∧ Φ (((tx a).length : Int) != 0)) = _
  rw [tx_len]
  cases a with
  | nil => rfl
  | cons c r =>
    have h : ((((c :: r).length : Nat) : Int) != 0) = true := by simp; omega
    rw [h]
    rfl
theorem dJoin_tx {s : List Nat} {ws : List (List Nat)} (h1 : (ws.map (·.length)).sum + ws.length * s.length ≤ 16777216) (h : Ψ (.str (tx (TL.joinL s ws)))) : dJoin (tx s) (.lst (ws.map fun w => .str (tx w))) Ψ := by
  refine ⟨_, ws.map tx, .inl rfl, ?_, ?_, ?_⟩
  · rw [show (ws.map fun w => D.str (tx w)) = (ws.map tx).map D.str by rw [List.map_map]; rfl, D.strs_map]
  · rw [List.map_map, List.length_map, show ((fun x => x.length) ∘ tx) = List.length from funext fun w => tx_len w, tx_len]; exact h1
  · rw [txt_join]; exact h
theorem dJoin0 {ws : List (List Nat)} (h1 : ws.flatten.length ≤ 16777216) (h : Ψ (.str (tx ws.flatten))) : dJoin (tx []) (.lst (ws.map fun w => .str (tx w))) Ψ := by
  refine dJoin_tx ?_ ?_
  · rw [List.length_nil, Nat.mul_zero, Nat.add_zero, ← List.length_flatten]; exact h1
  · rw [joinL_nil]; exact h
theorem dItems_lst {Ψ : List D → Prop} : dItems (.lst xs) Ψ = Ψ xs := rfl
theorem dItems_tup {Ψ : List D → Prop} : dItems (.tup xs) Ψ = Ψ xs := rfl
theorem dItems_tx {Ψ : List D → Prop} : dItems (.str (tx a)) Ψ = Ψ (a.map fun c => .str (tx [c])) := rfl
end

/-! ### sizes of products -/
theorem cmulW {i j : Int} (a b : Nat) (hi : i.natAbs < 2 ^ a) (hj : j.natAbs < 2 ^ b) (h : a + b < 1000000) : CMulW i j := by
  unfold CMulW
  have f : ∀ (n k : Nat), n < 2 ^ k → n.log2 ≤ k := fun n k h => by
    by_cases h0 : n = 0
    · subst h0; simp
    · exact Nat.le_of_lt ((Nat.log2_lt h0).mpr h)
  have h1 := f _ _ hi
  have h2 := f _ _ hj
  omega
theorem cmul64 {i j : Int} (hi : -18446744073709551616 < i ∧ i < 18446744073709551616) (hj : -18446744073709551616 < j ∧ j < 18446744073709551616) : CMulW i j := cmulW 64 64 (by omega) (by omega) (by omega)
theorem cdivW {i j : Int} (h0 : 0 < j) (h : j < 18446744073709551616) : CDivW i j := by
  refine ⟨h0, ?_⟩
  have h1 : j.natAbs.log2 < 64 := (Nat.log2_lt (by omega)).mpr (by omega)
  omega

/-! ### loops -/
theorem wLoop_inv {wg : WG} {wb : WS} {De : DEnds} (I : Nat → Env → Prop) : ∀ (ds : List D) (ρ : Env), I 0 ρ →
    (∀ i d, ds[i]? = some d → ∀ ρ, I i ρ → ∀ k : Env → Prop, (∀ ρ, I (i + 1) ρ → k ρ) → wg d ρ fun ρ1 => wb { De with nx := k, ct := k, bk := De.nx } ρ1) →
    (∀ ρ, I ds.length ρ → De.nx ρ) → wLoop wg wb ds De ρ
  | [], ρ, h0, hb, he => he ρ h0
  | d :: ds, ρ, h0, hb, he => hb 0 d rfl ρ h0 _ fun ρ2 h2 => wLoop_inv (fun i => I (i + 1)) ds ρ2 h2 (fun i d hd ρ hI k hk => hb (i + 1) d hd ρ hI k hk) he
/-- .. over what is behind -/
theorem wLoop_rest {wg : WG} {wb : WS} {De : DEnds} (I : List D → Env → Prop) : ∀ (ds : List D) (ρ : Env), I ds ρ →
    (∀ d r, ∀ ρ, I (d :: r) ρ → ∀ k : Env → Prop, (∀ ρ, I r ρ → k ρ) → wg d ρ fun ρ1 => wb { De with nx := k, ct := k, bk := De.nx } ρ1) →
    (∀ ρ, I [] ρ → De.nx ρ) → wLoop wg wb ds De ρ
  | [], ρ, h0, hb, he => he ρ h0
  | d :: ds, ρ, h0, hb, he => hb d ds ρ h0 _ fun ρ2 h2 => wLoop_rest I ds ρ2 h2 hb he
theorem wWhile_inv {wc : WB} {wb : WS} {De : DEnds} {ρ : Env} (W : Nat → Env → Prop) (Q : Env → Prop) {m0 : Nat} (h0 : W m0 ρ)
    (hs : ∀ m ρ, W m ρ → ∀ k kx : Env → Prop, (∀ ρ' m', m' < m → W m' ρ' → k ρ') → (∀ ρ', Q ρ' → kx ρ') → wc ρ (fun b ρ1 => if b = true then wb { De with nx := k, ct := k, bk := kx } ρ1 else kx ρ1) De.xx)
    (he : ∀ ρ, Q ρ → De.nx ρ) : wWhile wc wb De ρ := ⟨W, ⟨m0, h0⟩, fun m ρ hw => hs m ρ hw _ _ (fun _ m' h1 h2 => ⟨m', h1, h2⟩) he⟩
/-- a comprehension without tests of pure parts -/
theorem wLcL_map {wg : WG} {we : WE} {vs : List Nat} {ρ : Env} {Ψ : List D → Env → Prop} (f : D → D) : ∀ (ds acc : List D),
    (∀ d ∈ ds, ∀ k : D → Env → Prop, (∀ ρ3, wipeE ρ3 vs = ρ → k (f d) ρ3) → wg d ρ fun ρ1 => we ρ1 k fun _ _ => False) →
    acc.length + ds.length ≤ sizeLine → Ψ (acc ++ ds.map f) ρ → wLcL wg wYes we vs ds acc ρ Ψ
  | [], acc, hb, hs, h => by simpa [wLcL] using h
  | d :: ds, acc, hb, hs, h => by
    have hs' : acc.length + (ds.length + 1) ≤ sizeLine := hs
    refine hb d (List.mem_cons_self ..) _ fun ρ3 e => ⟨by omega, ?_⟩
    rw [e]
    exact wLcL_map f ds (acc ++ [f d]) (fun x hx => hb x (List.mem_cons_of_mem _ hx)) (by rw [List.length_append, List.length_cons, List.length_nil]; omega) (by simpa using h)
theorem wLcL_filter {wg : WG} {wt : WB} {we : WE} {vs : List Nat} {ρ : Env} {Ψ : List D → Env → Prop} (p : D → Bool) (f : D → D) : ∀ (ds acc : List D),
    (∀ d ∈ ds, ∀ (k : D → Env → Prop) (k' : Env → Prop), (p d = true → ∀ ρ3, wipeE ρ3 vs = ρ → k (f d) ρ3) → (p d = false → ∀ ρ3, wipeE ρ3 vs = ρ → k' ρ3) → wg d ρ fun ρ1 => wt ρ1 (fun b ρ2 => if b = true then we ρ2 k (fun _ _ => False) else k' ρ2) fun _ _ => False) →
    acc.length + ds.length ≤ sizeLine → Ψ (acc ++ (ds.filter p).map f) ρ → wLcL wg wt we vs ds acc ρ Ψ
  | [], acc, hb, hs, h => by simpa [wLcL] using h
  | d :: ds, acc, hb, hs, h => by
    have hs' : acc.length + (ds.length + 1) ≤ sizeLine := hs
    refine hb d (List.mem_cons_self ..) _ _ (fun hp ρ3 e => ⟨by omega, ?_⟩) fun hp ρ3 e => ?_
    · rw [e]
      refine wLcL_filter p f ds (acc ++ [f d]) (fun x hx => hb x (List.mem_cons_of_mem _ hx)) (by rw [List.length_append, List.length_cons, List.length_nil]; omega) ?_
      rw [List.filter_cons_of_pos hp, List.map_cons] at h
      simpa using h
    · rw [e]
      refine wLcL_filter p f ds acc (fun x hx => hb x (List.mem_cons_of_mem _ hx)) (by omega) ?_
      rw [List.filter_cons_of_neg (by rw [hp]; exact Bool.false_ne_true)] at h
      exact h
theorem wLcL_mapT {α : Type} {wg : WG} {we : WE} {vs : List Nat} {ρ : Env} {Ψ : List D → Env → Prop} (g f : α → D) : ∀ (l : List α) (acc : List D),
    (∀ a ∈ l, ∀ k : D → Env → Prop, (∀ ρ3, wipeE ρ3 vs = ρ → k (f a) ρ3) → wg (g a) ρ fun ρ1 => we ρ1 k fun _ _ => False) →
    acc.length + l.length ≤ sizeLine → Ψ (acc ++ l.map f) ρ → wLcL wg wYes we vs (l.map g) acc ρ Ψ
  | [], acc, hb, hs, h => by simpa [wLcL] using h
  | d :: ds, acc, hb, hs, h => by
    have hs' : acc.length + (ds.length + 1) ≤ sizeLine := hs
    refine hb d (List.mem_cons_self ..) _ fun ρ3 e => ⟨by omega, ?_⟩
    rw [e]
    exact wLcL_mapT g f ds (acc ++ [f d]) (fun x hx => hb x (List.mem_cons_of_mem _ hx)) (by rw [List.length_append, List.length_cons, List.length_nil]; omega) (by simpa using h)
theorem wLcL_filT {α : Type} {wg : WG} {wt : WB} {we : WE} {vs : List Nat} {ρ : Env} {Ψ : List D → Env → Prop} (g : α → D) (p : α → Bool) (f : α → D) : ∀ (l : List α) (acc : List D),
    (∀ d ∈ l, ∀ (k : D → Env → Prop) (k' : Env → Prop), (p d = true → ∀ ρ3, wipeE ρ3 vs = ρ → k (f d) ρ3) → (p d = false → ∀ ρ3, wipeE ρ3 vs = ρ → k' ρ3) → wg (g d) ρ fun ρ1 => wt ρ1 (fun b ρ2 => if b = true then we ρ2 k (fun _ _ => False) else k' ρ2) fun _ _ => False) →
    acc.length + l.length ≤ sizeLine → Ψ (acc ++ (l.filter p).map f) ρ → wLcL wg wt we vs (l.map g) acc ρ Ψ
  | [], acc, hb, hs, h => by simpa [wLcL] using h
  | d :: ds, acc, hb, hs, h => by
    have hs' : acc.length + (ds.length + 1) ≤ sizeLine := hs
    refine hb d (List.mem_cons_self ..) _ _ (fun hp ρ3 e => ⟨by omega, ?_⟩) fun hp ρ3 e => ?_
    · rw [e]
      refine wLcL_filT g p f ds (acc ++ [f d]) (fun x hx => hb x (List.mem_cons_of_mem _ hx)) (by rw [List.length_append, List.length_cons, List.length_nil]; omega) ?_
      rw [List.filter_cons_of_pos hp, List.map_cons] at h
      simpa using h
    · rw [e]
      refine wLcL_filT g p f ds acc (fun x hx => hb x (List.mem_cons_of_mem _ hx)) (by omega) ?_
      rw [List.filter_cons_of_neg (by rw [hp]; exact Bool.false_ne_true)] at h
      exact h
theorem irange_nat (n : Nat) : irange 0 n = (List.range n).map fun i : Nat => .int (i : Int) := by
  unfold irange
  simp
/-- for over typed items; what is to come -/
theorem wLoop_T {α : Type} {wg : WG} {wb : WS} {De : DEnds} (g : α → D) (I : List α → Env → Prop) : ∀ (l : List α) (ρ : Env), I l ρ →
    (∀ a r ρ, I (a :: r) ρ → ∀ k : Env → Prop, (∀ ρ, I r ρ → k ρ) → wg (g a) ρ fun ρ1 => wb { De with nx := k, ct := k, bk := De.nx } ρ1) →
    (∀ ρ, I [] ρ → De.nx ρ) → wLoop wg wb (l.map g) De ρ
  | [], ρ, h0, hb, he => he ρ h0
  | d :: ds, ρ, h0, hb, he => hb d ds ρ h0 _ fun ρ2 h2 => wLoop_T g I ds ρ2 h2 hb he
/-- a comprehension that changes what is owned: an invariant of the state and of what was told so far -/
theorem wLcL_inv {wg : WG} {we : WE} {vs : List Nat} {Ψ : List D → Env → Prop} (I : Nat → List D → Env → Prop) : ∀ (ds acc : List D) (ρ : Env), I 0 acc ρ →
    (∀ i d, ds[i]? = some d → ∀ acc ρ, I i acc ρ → ∀ k : D → Env → Prop, (∀ y ρ3, acc.length < sizeLine → I (i + 1) (acc ++ [y]) (wipeE ρ3 vs) → k y ρ3) → wg d ρ fun ρ1 => we ρ1 k fun _ _ => False) →
    acc.length + ds.length ≤ sizeLine → (∀ acc ρ, I ds.length acc ρ → Ψ acc ρ) → wLcL wg wYes we vs ds acc ρ Ψ
  | [], acc, ρ, h0, hb, hs, h => h acc ρ h0
  | d :: ds, acc, ρ, h0, hb, hs, h => by
    have hs' : acc.length + (ds.length + 1) ≤ sizeLine := hs
    refine hb 0 d rfl acc ρ h0 _ fun y ρ3 hl hi => ⟨hl, ?_⟩
    exact wLcL_inv (fun i => I (i + 1)) ds (acc ++ [y]) _ hi (fun i d hd => hb (i + 1) d hd) (by rw [List.length_append, List.length_cons, List.length_nil]; omega) h
theorem irange_get {lo : Int} {n i : Nat} {d : D} (h : (irange lo n)[i]? = some d) : i < n ∧ d = .int (lo + (i : Int)) := by
  unfold irange at h
  rw [List.getElem?_map] at h
  by_cases hi : i < n
  · rw [List.getElem?_range hi] at h
    exact ⟨hi, by simpa using h.symm⟩
  · rw [List.getElem?_eq_none (by rw [List.length_range]; omega)] at h
    cases h
theorem irange_len {lo : Int} {n : Nat} : (irange lo n).length = n := by unfold irange; rw [List.length_map, List.length_range]

/-! ### what is so between two pieces -/
theorem seq_mid {w v : WS} {De : DEnds} {ρ : Env} (M : Env → Prop) (h1 : ∀ k : Env → Prop, (∀ ρ, M ρ → k ρ) → w { De with nx := k } ρ) (h2 : ∀ ρ, M ρ → v De ρ) : wSeq w v De ρ := h1 _ h2

/-! ### the unfolding -/
def lstAt (d : Option (Option D)) (φ : List D → Prop) : Prop := match d with
  | some (some (.lst xs)) => φ xs
  | _ => False
def intAt (d : D) (φ : Int → Prop) : Prop := match d with
  | .int i => φ i
  | _ => False
def blAt (d : D) (φ : Bool → Prop) : Prop := match d with
  | .bl i => φ i
  | _ => False
def strAt (d : D) (φ : Str → Prop) : Prop := match d with
  | .str i => φ i
  | _ => False
def tupAt (d : D) (φ : List D → Prop) : Prop := match d with
  | .tup i => φ i
  | _ => False
def natAt (d : Option Nat) (φ : Nat → Prop) : Prop := match d with
  | some i => φ i
  | _ => False
section
variable {xs : List D} {i : Int} {k : Bool} {x : Str} {n : Nat}
theorem lstAt_some {φ : List D → Prop} : lstAt (some (some (.lst xs))) φ = φ xs := rfl
theorem intAt_int {φ : Int → Prop} : intAt (.int i) φ = φ i := rfl
theorem blAt_bl {φ : Bool → Prop} : blAt (.bl k) φ = φ k := rfl
theorem strAt_str {φ : Str → Prop} : strAt (.str x) φ = φ x := rfl
theorem tupAt_tup {φ : List D → Prop} : tupAt (.tup xs) φ = φ xs := rfl
theorem natAt_some {φ : Nat → Prop} : natAt (some n) φ = φ n := rfl
theorem isNon_non : D.isNon .non = true := rfl
theorem isNon_bl : D.isNon (.bl k) = false := rfl
theorem isNon_int : D.isNon (.int i) = false := rfl
theorem isNon_str : D.isNon (.str x) = false := rfl
theorem isNon_tup : D.isNon (.tup xs) = false := rfl
theorem isNon_lst : D.isNon (.lst xs) = false := rfl
variable {Ψ : D → Prop} {Φ : Bool → Prop} {Θ : List D → Prop} {j : Int}
theorem dTru_non : dTru .non Φ = Φ false := rfl
theorem dTru_bl : dTru (.bl k) Φ = Φ k := rfl
theorem dTru_int : dTru (.int i) Φ = Φ (i != 0) := rfl
theorem dTru_lst : dTru (.lst xs) Φ = Φ (!xs.isEmpty) := rfl
theorem dTru_tup : dTru (.tup xs) Φ = Φ (!xs.isEmpty) := rfl
theorem dList_lst : dList (.lst xs) Ψ = Ψ (.lst xs) := rfl
theorem dList_tup : dList (.tup xs) Ψ = Ψ (.lst xs) := rfl
theorem dList_scr {ns : List Int} : dList (.scr ns) Ψ = Ψ (.lst (ns.map .int)) := rfl
theorem dTuple_lst : dTuple (.lst xs) Ψ = Ψ (.tup xs) := rfl
theorem dTuple_tup : dTuple (.tup xs) Ψ = Ψ (.tup xs) := rfl
theorem dInt_int : dInt (.int i) Ψ = Ψ (.int i) := rfl
theorem dInt_bl : dInt (.bl k) Ψ = Ψ (.int (if k then 1 else 0)) := rfl
theorem dAbs_int : dAbs (.int i) Ψ = Ψ (.int (if i < 0 then -i else i)) := rfl
theorem dMax2_int : dMax2 [.int i, .int j] Ψ = Ψ (.int (if j > i then j else i)) := rfl
theorem dMin2_int : dMin2 [.int i, .int j] Ψ = Ψ (.int (if j < i then j else i)) := rfl
theorem dRev_lst : dRevItems (.lst xs) Θ = Θ xs.reverse := rfl
theorem dRev_tup : dRevItems (.tup xs) Θ = Θ xs.reverse := rfl
theorem dAll_map {α : Type} {l : List α} {f : α → Bool} : dAll (.lst (l.map fun a => .bl (f a))) Ψ = Ψ (.bl (l.all f)) := by
  have e : (l.map fun a => D.bl (f a)) = (l.map f).map .bl := by rw [List.map_map]; rfl
  apply propext
  constructor
  · rintro ⟨ds, bs, h1, h2, h⟩
    cases h1
    rw [e, D.bls_map] at h2
    cases h2
    simpa using h
  · intro h
    exact ⟨_, l.map f, rfl, by rw [e, D.bls_map], by simpa using h⟩
theorem dAny_map {α : Type} {l : List α} {f : α → Bool} : dAny (.lst (l.map fun a => .bl (f a))) Ψ = Ψ (.bl (l.any f)) := by
  have e : (l.map fun a => D.bl (f a)) = (l.map f).map .bl := by rw [List.map_map]; rfl
  apply propext
  constructor
  · rintro ⟨ds, bs, h1, h2, h⟩
    cases h1
    rw [e, D.bls_map] at h2
    cases h2
    simpa using h
  · intro h
    exact ⟨_, l.map f, rfl, by rw [e, D.bls_map], by simpa using h⟩
theorem dSum_map {α : Type} {l : List α} {f : α → Int} : dSum (.lst (l.map fun a => .int (f a))) Ψ = Ψ (.int (l.map f).sum) := by
  have e : (l.map fun a => D.int (f a)) = (l.map f).map .int := by rw [List.map_map]; rfl
  apply propext
  constructor
  · rintro ⟨ds, bs, h1, h2, h⟩
    cases h1
    rw [e, D.ints_map] at h2
    cases h2
    exact h
  · intro h
    exact ⟨_, l.map f, rfl, by rw [e, D.ints_map], h⟩
theorem dIsi_of {d : D} {c n : String} {b : Bool} (h1 : d.tyc = some c) (h2 : kitB c n = some b) : dIsi d (.ty n) Ψ = Ψ (.bl b) := by
  show (∃ c b, d.tyc = some c ∧ kitB c n = some b ∧ Ψ (.bl b)) = _
  rw [h1]
  apply propext
  constructor
  · rintro ⟨c', b', e1, e2, h⟩
    cases e1
    rw [h2] at e2
    cases e2
    exact h
  · intro h; exact ⟨c, b, rfl, h2, h⟩
theorem dIsi_ofT {d : D} {c : String} {ts : List D} {ns : List String} {b : Bool} (h1 : d.tyc = some c) (h3 : D.tys ts = some ns) (h2 : anyB c ns = some b) : dIsi d (.tup ts) Ψ = Ψ (.bl b) := by
  show (∃ c ns b, d.tyc = some c ∧ D.tys ts = some ns ∧ anyB c ns = some b ∧ Ψ (.bl b)) = _
  rw [h1, h3]
  apply propext
  constructor
  · rintro ⟨c', ns', b', e1, e3, e2, h⟩
    cases e1
    cases e3
    rw [h2] at e2
    cases e2
    exact h
  · intro h; exact ⟨c, ns, b, rfl, rfl, h2, h⟩
end
theorem isi_non_list {Ψ : D → Prop} : dIsi (.non) (.ty "list") Ψ = Ψ (.bl false) := dIsi_of rfl (by decide)
theorem isi_non_tuple {Ψ : D → Prop} : dIsi (.non) (.ty "tuple") Ψ = Ψ (.bl false) := dIsi_of rfl (by decide)
theorem isi_non_dict {Ψ : D → Prop} : dIsi (.non) (.ty "dict") Ψ = Ψ (.bl false) := dIsi_of rfl (by decide)
theorem isi_non_int {Ψ : D → Prop} : dIsi (.non) (.ty "int") Ψ = Ψ (.bl false) := dIsi_of rfl (by decide)
theorem isi_non_str {Ψ : D → Prop} : dIsi (.non) (.ty "str") Ψ = Ψ (.bl false) := dIsi_of rfl (by decide)
theorem isi_non_bool {Ψ : D → Prop} : dIsi (.non) (.ty "bool") Ψ = Ψ (.bl false) := dIsi_of rfl (by decide)
theorem isi_non_lt {Ψ : D → Prop} : dIsi (.non) (.tup [.ty "list", .ty "tuple"]) Ψ = Ψ (.bl false) := dIsi_ofT rfl rfl (by decide)
theorem isi_bl_list {Ψ : D → Prop} {k : Bool} : dIsi (.bl k) (.ty "list") Ψ = Ψ (.bl false) := dIsi_of rfl (by decide)
theorem isi_bl_tuple {Ψ : D → Prop} {k : Bool} : dIsi (.bl k) (.ty "tuple") Ψ = Ψ (.bl false) := dIsi_of rfl (by decide)
theorem isi_bl_dict {Ψ : D → Prop} {k : Bool} : dIsi (.bl k) (.ty "dict") Ψ = Ψ (.bl false) := dIsi_of rfl (by decide)
theorem isi_bl_int {Ψ : D → Prop} {k : Bool} : dIsi (.bl k) (.ty "int") Ψ = Ψ (.bl true) := dIsi_of rfl (by decide)
theorem isi_bl_str {Ψ : D → Prop} {k : Bool} : dIsi (.bl k) (.ty "str") Ψ = Ψ (.bl false) := dIsi_of rfl (by decide)
theorem isi_bl_bool {Ψ : D → Prop} {k : Bool} : dIsi (.bl k) (.ty "bool") Ψ = Ψ (.bl true) := dIsi_of rfl (by decide)
theorem isi_bl_lt {Ψ : D → Prop} {k : Bool} : dIsi (.bl k) (.tup [.ty "list", .ty "tuple"]) Ψ = Ψ (.bl false) := dIsi_ofT rfl rfl (by decide)
theorem isi_int_list {Ψ : D → Prop} {i : Int} : dIsi (.int i) (.ty "list") Ψ = Ψ (.bl false) := dIsi_of rfl (by decide)
theorem isi_int_tuple {Ψ : D → Prop} {i : Int} : dIsi (.int i) (.ty "tuple") Ψ = Ψ (.bl false) := dIsi_of rfl (by decide)
theorem isi_int_dict {Ψ : D → Prop} {i : Int} : dIsi (.int i) (.ty "dict") Ψ = Ψ (.bl false) := dIsi_of rfl (by decide)
theorem isi_int_int {Ψ : D → Prop} {i : Int} : dIsi (.int i) (.ty "int") Ψ = Ψ (.bl true) := dIsi_of rfl (by decide)
theorem isi_int_str {Ψ : D → Prop} {i : Int} : dIsi (.int i) (.ty "str") Ψ = Ψ (.bl false) := dIsi_of rfl (by decide)
theorem isi_int_bool {Ψ : D → Prop} {i : Int} : dIsi (.int i) (.ty "bool") Ψ = Ψ (.bl false) := dIsi_of rfl (by decide)
theorem isi_int_lt {Ψ : D → Prop} {i : Int} : dIsi (.int i) (.tup [.ty "list", .ty "tuple"]) Ψ = Ψ (.bl false) := dIsi_ofT rfl rfl (by decide)
theorem isi_str_list {Ψ : D → Prop} {x : Str} : dIsi (.str x) (.ty "list") Ψ = Ψ (.bl false) := dIsi_of rfl (by decide)
theorem isi_str_tuple {Ψ : D → Prop} {x : Str} : dIsi (.str x) (.ty "tuple") Ψ = Ψ (.bl false) := dIsi_of rfl (by decide)
theorem isi_str_dict {Ψ : D → Prop} {x : Str} : dIsi (.str x) (.ty "dict") Ψ = Ψ (.bl false) := dIsi_of rfl (by decide)
theorem isi_str_int {Ψ : D → Prop} {x : Str} : dIsi (.str x) (.ty "int") Ψ = Ψ (.bl false) := dIsi_of rfl (by decide)
theorem isi_str_str {Ψ : D → Prop} {x : Str} : dIsi (.str x) (.ty "str") Ψ = Ψ (.bl true) := dIsi_of rfl (by decide)
theorem isi_str_bool {Ψ : D → Prop} {x : Str} : dIsi (.str x) (.ty "bool") Ψ = Ψ (.bl false) := dIsi_of rfl (by decide)
theorem isi_str_lt {Ψ : D → Prop} {x : Str} : dIsi (.str x) (.tup [.ty "list", .ty "tuple"]) Ψ = Ψ (.bl false) := dIsi_ofT rfl rfl (by decide)
theorem isi_tup_list {Ψ : D → Prop} {xs : List D} : dIsi (.tup xs) (.ty "list") Ψ = Ψ (.bl false) := dIsi_of rfl (by decide)
theorem isi_tup_tuple {Ψ : D → Prop} {xs : List D} : dIsi (.tup xs) (.ty "tuple") Ψ = Ψ (.bl true) := dIsi_of rfl (by decide)
theorem isi_tup_dict {Ψ : D → Prop} {xs : List D} : dIsi (.tup xs) (.ty "dict") Ψ = Ψ (.bl false) := dIsi_of rfl (by decide)
theorem isi_tup_int {Ψ : D → Prop} {xs : List D} : dIsi (.tup xs) (.ty "int") Ψ = Ψ (.bl false) := dIsi_of rfl (by decide)
theorem isi_tup_str {Ψ : D → Prop} {xs : List D} : dIsi (.tup xs) (.ty "str") Ψ = Ψ (.bl false) := dIsi_of rfl (by decide)
theorem isi_tup_bool {Ψ : D → Prop} {xs : List D} : dIsi (.tup xs) (.ty "bool") Ψ = Ψ (.bl false) := dIsi_of rfl (by decide)
theorem isi_tup_lt {Ψ : D → Prop} {xs : List D} : dIsi (.tup xs) (.tup [.ty "list", .ty "tuple"]) Ψ = Ψ (.bl true) := dIsi_ofT rfl rfl (by decide)
theorem isi_lst_list {Ψ : D → Prop} {xs : List D} : dIsi (.lst xs) (.ty "list") Ψ = Ψ (.bl true) := dIsi_of rfl (by decide)
theorem isi_lst_tuple {Ψ : D → Prop} {xs : List D} : dIsi (.lst xs) (.ty "tuple") Ψ = Ψ (.bl false) := dIsi_of rfl (by decide)
theorem isi_lst_dict {Ψ : D → Prop} {xs : List D} : dIsi (.lst xs) (.ty "dict") Ψ = Ψ (.bl false) := dIsi_of rfl (by decide)
theorem isi_lst_int {Ψ : D → Prop} {xs : List D} : dIsi (.lst xs) (.ty "int") Ψ = Ψ (.bl false) := dIsi_of rfl (by decide)
theorem isi_lst_str {Ψ : D → Prop} {xs : List D} : dIsi (.lst xs) (.ty "str") Ψ = Ψ (.bl false) := dIsi_of rfl (by decide)
theorem isi_lst_bool {Ψ : D → Prop} {xs : List D} : dIsi (.lst xs) (.ty "bool") Ψ = Ψ (.bl false) := dIsi_of rfl (by decide)
theorem isi_lst_lt {Ψ : D → Prop} {xs : List D} : dIsi (.lst xs) (.tup [.ty "list", .ty "tuple"]) Ψ = Ψ (.bl true) := dIsi_ofT rfl rfl (by decide)
theorem wVar_eq {i : Nat} {ρ : Env} {Ψ : D → Env → Prop} {Ξ : Exc → Env → Prop} : wVar i ρ Ψ Ξ = (∃ d, ρ[i]? = some (some d) ∧ Ψ d ρ) := rfl
theorem wC_eq {d : D} {ρ : Env} {Ψ : D → Env → Prop} {Ξ : Exc → Env → Prop} : wC d ρ Ψ Ξ = (Ψ d ρ) := rfl
theorem w2e_eq {w2 : W2} {wa wb : WE} {ρ : Env} {Ψ : D → Env → Prop} {Ξ : Exc → Env → Prop} : w2e w2 wa wb ρ Ψ Ξ = (wa ρ (fun x ρ1 => wb ρ1 (fun y ρ2 => w2 x y fun d => Ψ d ρ2) Ξ) Ξ) := rfl
theorem wB_eq {w : WE} {ρ : Env} {Ψ : Bool → Env → Prop} {Ξ : Exc → Env → Prop} : wB w ρ Ψ Ξ = (w ρ (fun d ρ' => blAt d fun b => Ψ b ρ') Ξ) := rfl
theorem wTr_eq {w : WE} {ρ : Env} {Ψ : Bool → Env → Prop} {Ξ : Exc → Env → Prop} : wTr w ρ Ψ Ξ = (w ρ (fun d ρ' => dTru d fun b => Ψ b ρ') Ξ) := rfl
theorem wAnd_eq {w v : WB} {ρ : Env} {Ψ : Bool → Env → Prop} {Ξ : Exc → Env → Prop} : wAnd w v ρ Ψ Ξ = (w ρ (fun c ρ1 => if c = true then v ρ1 Ψ Ξ else Ψ false ρ1) Ξ) := rfl
theorem wOr_eq {w v : WB} {ρ : Env} {Ψ : Bool → Env → Prop} {Ξ : Exc → Env → Prop} : wOr w v ρ Ψ Ξ = (w ρ (fun c ρ1 => if c = true then Ψ true ρ1 else v ρ1 Ψ Ξ) Ξ) := rfl
theorem wNot_eq {w : WB} {ρ : Env} {Ψ : Bool → Env → Prop} {Ξ : Exc → Env → Prop} : wNot w ρ Ψ Ξ = (w ρ (fun c ρ1 => Ψ (!c) ρ1) Ξ) := rfl
theorem wAndV_eq {w v : WE} {ρ : Env} {Ψ : D → Env → Prop} {Ξ : Exc → Env → Prop} : wAndV w v ρ Ψ Ξ = (w ρ (fun d ρ1 => blAt d fun c => (if c = true then v ρ1 Ψ Ξ else Ψ (.bl false) ρ1)) Ξ) := rfl
theorem wOrV_eq {w v : WE} {ρ : Env} {Ψ : D → Env → Prop} {Ξ : Exc → Env → Prop} : wOrV w v ρ Ψ Ξ = (w ρ (fun d ρ1 => blAt d fun c => (if c = true then Ψ (.bl true) ρ1 else v ρ1 Ψ Ξ)) Ξ) := rfl
theorem wNotV_eq {w : WE} {ρ : Env} {Ψ : D → Env → Prop} {Ξ : Exc → Env → Prop} : wNotV w ρ Ψ Ξ = (w ρ (fun d ρ1 => dTru d fun b => Ψ (.bl (!b)) ρ1) Ξ) := rfl
theorem wIf_eq {wt : WB} {wa wb : WE} {ρ : Env} {Ψ : D → Env → Prop} {Ξ : Exc → Env → Prop} : wIf wt wa wb ρ Ψ Ξ = (wt ρ (fun c ρ1 => if c = true then wa ρ1 Ψ Ξ else wb ρ1 Ψ Ξ) Ξ) := rfl
theorem wChain_eq {w2 w2' : W2} {wa wb wc : WE} {ρ : Env} {Ψ : D → Env → Prop} {Ξ : Exc → Env → Prop} : wChain w2 w2' wa wb wc ρ Ψ Ξ = (wa ρ (fun x ρ1 => wb ρ1 (fun y ρ2 => w2 x y fun d => blAt d fun k => (if k = true then wc ρ2 (fun z ρ3 => w2' y z fun d => Ψ d ρ3) Ξ else Ψ (.bl false) ρ2)) Ξ) Ξ) := rfl
theorem wNil_eq  {ρ : Env} {Ψ : List D → Env → Prop} {Ξ : Exc → Env → Prop} : wNil ρ Ψ Ξ = (Ψ [] ρ) := rfl
theorem wCons_eq {w : WE} {ws : WA} {ρ : Env} {Ψ : List D → Env → Prop} {Ξ : Exc → Env → Prop} : wCons w ws ρ Ψ Ξ = (w ρ (fun d ρ1 => ws ρ1 (fun ds ρ2 => Ψ (d :: ds) ρ2) Ξ) Ξ) := rfl
theorem wTup_eq {w : WA} {ρ : Env} {Ψ : D → Env → Prop} {Ξ : Exc → Env → Prop} : wTup w ρ Ψ Ξ = (w ρ (fun ds ρ' => ds.length ≤ sizeLine ∧ Ψ (.tup ds) ρ') Ξ) := rfl
theorem wLst_eq {w : WA} {ρ : Env} {Ψ : D → Env → Prop} {Ξ : Exc → Env → Prop} : wLst w ρ Ψ Ξ = (w ρ (fun ds ρ' => ds.length ≤ sizeLine ∧ Ψ (.lst ds) ρ') Ξ) := rfl
theorem w1e_eq {wl : D → (D → Prop) → Prop} {w : WE} {ρ : Env} {Ψ : D → Env → Prop} {Ξ : Exc → Env → Prop} : w1e wl w ρ Ψ Ξ = (w ρ (fun d ρ' => wl d fun z => Ψ z ρ') Ξ) := rfl
theorem wLe_eq {wl : List D → (D → Prop) → Prop} {w : WA} {ρ : Env} {Ψ : D → Env → Prop} {Ξ : Exc → Env → Prop} : wLe wl w ρ Ψ Ξ = (w ρ (fun d ρ' => wl d fun z => Ψ z ρ') Ξ) := rfl
theorem wNoPart_eq  {ρ : Env} {Ψ : Option Int → Env → Prop} {Ξ : Exc → Env → Prop} : wNoPart ρ Ψ Ξ = (Ψ none ρ) := rfl
theorem wPart_eq {w : WE} {ρ : Env} {Ψ : Option Int → Env → Prop} {Ξ : Exc → Env → Prop} : wPart w ρ Ψ Ξ = (w ρ (fun d ρ' => intAt d fun i => Ψ (some i) ρ') Ξ) := rfl
theorem wSl_eq {ws : D → Option Int → Option Int → (D → Prop) → Prop} {w : WE} {wl wh : WO} {ρ : Env} {Ψ : D → Env → Prop} {Ξ : Exc → Env → Prop} : wSl ws w wl wh ρ Ψ Ξ = (w ρ (fun d ρ1 => wl ρ1 (fun lo ρ2 => wh ρ2 (fun hi ρ3 => ws d lo hi fun z => Ψ z ρ3) Ξ) Ξ) Ξ) := rfl
theorem wNext_eq  {De : DEnds} {ρ : Env} : wNext De ρ = (De.nx ρ) := rfl
theorem wSeq_eq {w v : WS} {De : DEnds} {ρ : Env} : wSeq w v De ρ = (w { De with nx := v De } ρ) := rfl
theorem wBrk_eq  {De : DEnds} {ρ : Env} : wBrk De ρ = (De.bk ρ) := rfl
theorem wCnt_eq  {De : DEnds} {ρ : Env} : wCnt De ρ = (De.ct ρ) := rfl
theorem wNever_eq  {De : DEnds} {ρ : Env} : wNever De ρ = (False) := rfl
theorem wExp_eq {w : WE} {De : DEnds} {ρ : Env} : wExp w De ρ = (w ρ (fun _ ρ' => De.nx ρ') De.xx) := rfl
theorem wRet_eq {w : WE} {De : DEnds} {ρ : Env} : wRet w De ρ = (w ρ De.rt De.xx) := rfl
theorem wRetN_eq  {De : DEnds} {ρ : Env} : wRetN De ρ = (De.rt .non ρ) := rfl
theorem wIfS_eq {wt : WB} {w v : WS} {De : DEnds} {ρ : Env} : wIfS wt w v De ρ = (wt ρ (fun c ρ1 => if c = true then w De ρ1 else v De ρ1) De.xx) := rfl
theorem wSet_eq {i : Nat} {w : WE} {De : DEnds} {ρ : Env} : wSet i w De ρ = (w ρ (fun d ρ' => De.nx (ρ'.set i (some d))) De.xx) := rfl
theorem wgName_eq {i : Nat} {d : D} {ρ : Env} {Ψ : Env → Prop} : wgName i d ρ Ψ = (Ψ (ρ.set i (some d))) := rfl
theorem wgNil_eq  {ds : List D} {ρ : Env} {Ψ : Env → Prop} : wgNil ds ρ Ψ = (ds = [] ∧ Ψ ρ) := rfl
theorem wgCons_eq {w : WG} {ws : WGs} {ds : List D} {ρ : Env} {Ψ : Env → Prop} : wgCons w ws ds ρ Ψ = (match ds with | d :: r => w d ρ fun ρ' => ws r ρ' Ψ | [] => False) := rfl
theorem wgTup_eq {n : Nat} {ws : WGs} {d : D} {ρ : Env} {Ψ : Env → Prop} : wgTup n ws d ρ Ψ = (tupAt d fun ds => ds.length = n ∧ ws ds ρ Ψ) := rfl
theorem wAsg_eq {w : WE} {wg : WG} {De : DEnds} {ρ : Env} : wAsg w wg De ρ = (w ρ (fun d ρ' => wg d ρ' De.nx) De.xx) := rfl
theorem wAug_eq {i : Nat} {w : WE} {w2 : W2} {De : DEnds} {ρ : Env} : wAug i w w2 De ρ = (∃ x, ρ[i]? = some (some x) ∧ w ρ (fun y ρ' => w2 x y fun z => De.nx (ρ'.set i (some z))) De.xx) := rfl
theorem wiSeq_eq {w : WE} {ρ : Env} {Ψ : List D → Env → Prop} {Ξ : Exc → Env → Prop} : wiSeq w ρ Ψ Ξ = (w ρ (fun d ρ' => dItems d fun ds => Ψ ds ρ') Ξ) := rfl
theorem wiRng1_eq {w : WA} {ρ : Env} {Ψ : List D → Env → Prop} {Ξ : Exc → Env → Prop} : wiRng1 w ρ Ψ Ξ = (w ρ (fun ds ρ' => match ds with | [.int j] => -(2 ^ 62) ≤ j ∧ j < 2 ^ 62 ∧ Ψ (irange 0 j.toNat) ρ' | _ => False) Ξ) := rfl
theorem wiRng2_eq {w : WA} {ρ : Env} {Ψ : List D → Env → Prop} {Ξ : Exc → Env → Prop} : wiRng2 w ρ Ψ Ξ = (w ρ (fun ds ρ' => match ds with | [.int i, .int j] => (-(2 ^ 62) ≤ i ∧ i < 2 ^ 62 ∧ -(2 ^ 62) ≤ j ∧ j < 2 ^ 62) ∧ Ψ (irange i (j - i).toNat) ρ' | _ => False) Ξ) := rfl
theorem wiEnum_eq {w : WA} {ρ : Env} {Ψ : List D → Env → Prop} {Ξ : Exc → Env → Prop} : wiEnum w ρ Ψ Ξ = (w ρ (fun ds ρ' => match ds with | [.lst xs] => Ψ (xs.zipIdx.map fun q => .tup [.int (q.2 : Nat), q.1]) ρ' | _ => False) Ξ) := rfl
theorem wiZip_eq {w : WA} {ρ : Env} {Ψ : List D → Env → Prop} {Ξ : Exc → Env → Prop} : wiZip w ρ Ψ Ξ = (w ρ (fun ds ρ' => match ds with | [.lst xs, .lst ys] => Ψ ((xs.zip ys).map fun x => .tup [x.1, x.2]) ρ' | _ => False) Ξ) := rfl
theorem wiRev_eq {w : WE} {ρ : Env} {Ψ : List D → Env → Prop} {Ξ : Exc → Env → Prop} : wiRev w ρ Ψ Ξ = (w ρ (fun d ρ' => dRevItems d fun ds => Ψ ds ρ') Ξ) := rfl
theorem wFor_eq {wi : WA} {wg : WG} {wb : WS} {De : DEnds} {ρ : Env} : wFor wi wg wb De ρ = (wi ρ (fun ds ρ1 => wLoop wg wb ds De ρ1) De.xx) := rfl
theorem wWhile_eq {wc : WB} {wb : WS} {De : DEnds} {ρ : Env} : wWhile wc wb De ρ = (∃ W : Nat → Env → Prop, (∃ m, W m ρ) ∧ ∀ m ρ, W m ρ → wc ρ (fun b ρ1 => if b = true then wb { De with nx := fun ρ' => ∃ m', m' < m ∧ W m' ρ', ct := fun ρ' => ∃ m', m' < m ∧ W m' ρ', bk := De.nx } ρ1 else De.nx ρ1) De.xx) := rfl
theorem wLc_eq {wi : WA} {wg : WG} {wt : WB} {we : WE} {vs : List Nat} {ρ : Env} {Ψ : D → Env → Prop} {Ξ : Exc → Env → Prop} : wLc wi wg wt we vs ρ Ψ Ξ = (wi ρ (fun ds ρ1 => wLcL wg wt we vs ds [] (wipeE ρ1 vs) fun acc ρ2 => Ψ (.lst acc) ρ2) Ξ) := rfl
theorem wLcP_eq {wi : WA} {wg : WG} {wt : WB} {we : WE} {vs : List Nat} {ρ : Env} {Ψ : D → Env → Prop} {Ξ : Exc → Env → Prop} : wLcP wi wg wt we vs ρ Ψ Ξ = (wi ρ (fun ds ρ1 => wLcL wg wt we vs ds [] (wipeE ρ1 vs) fun acc _ => Ψ (.lst acc) ρ1) Ξ) := rfl
theorem wYes_eq  {ρ : Env} {Ψ : Bool → Env → Prop} {Ξ : Exc → Env → Prop} : wYes ρ Ψ Ξ = (Ψ true ρ) := rfl
theorem wSlot_eq {i : Nat} {ws : WA} {ρ : Env} {Ψ : List D → Env → Prop} {Ξ : Exc → Env → Prop} : wSlot i ws ρ Ψ Ξ = ((∃ d, ρ[i]? = some (some d)) ∧ ws ρ (fun ds ρ2 => Ψ (.non :: ds) ρ2) Ξ) := rfl
theorem wCall_eq {kp : List SK} {sh : Sh} {sp : SpD} {wa : WA} {ρ : Env} {Ψ : D → Env → Prop} {Ξ : Exc → Env → Prop} : wCall kp sh sp wa ρ Ψ Ξ = (wa ρ (fun ds ρ1 => filled ρ1 sh ∧ sp (fill ρ1 sh ds) (fun d os => Ψ d (outs kp sh os ρ1)) (fun x os => Ξ x (outs kp sh os ρ1))) Ξ) := rfl
theorem wM1_eq {wm : Str → D → (D → Prop) → Prop} {wo we : WE} {ρ : Env} {Ψ : D → Env → Prop} {Ξ : Exc → Env → Prop} : wM1 wm wo we ρ Ψ Ξ = (wo ρ (fun d ρ1 => strAt d fun x => we ρ1 (fun y ρ2 => wm x y fun z => Ψ z ρ2) Ξ) Ξ) := rfl
theorem wIsi_eq {wa wb : WE} {ρ : Env} {Ψ : D → Env → Prop} {Ξ : Exc → Env → Prop} : wIsi wa wb ρ Ψ Ξ = (wa ρ (fun d ρ1 => wb ρ1 (fun y ρ2 => dIsi d y fun z => Ψ z ρ2) Ξ) Ξ) := rfl
theorem wPar_eq {i j : Nat} {wa : WA} {De : DEnds} {ρ : Env} : wPar i j wa De ρ = (wa ρ (fun ds ρ' => match ds with | [d, e] => De.nx ((ρ'.set i (some d)).set j (some e)) | _ => False) De.xx) := rfl
theorem Sp_nx {kp : List SK} {Ψ : D → List D → Prop} {ρ : Env} {Ξ : Exc → List D → Prop} : (dEnds kp Ψ Ξ).nx ρ = ∃ os, iosL kp ρ = some os ∧ Ψ .non os := rfl
theorem Sp_rt {kp : List SK} {Ψ : D → List D → Prop} {ρ : Env} {Ξ : Exc → List D → Prop} {d : D} : (dEnds kp Ψ Ξ).rt d ρ = ∃ os, iosL kp ρ = some os ∧ Ψ d os := rfl
theorem filled_nil {ρ : Env} : filled ρ [] = True := propext ⟨fun _ => trivial, fun _ i h => nomatch h⟩
theorem filled_none {ρ : Env} {sh : Sh} : filled ρ (none :: sh) = filled ρ sh := propext ⟨fun h i hi => h i (List.mem_cons_of_mem _ hi), fun h i hi => h i (by cases hi with | tail _ q => exact q)⟩
theorem filled_some {ρ : Env} {sh : Sh} {i : Nat} : filled ρ (some i :: sh) = ((∃ d, ρ[i]? = some (some d)) ∧ filled ρ sh) := propext ⟨fun h => ⟨h i (List.mem_cons_self ..), fun j hj => h j (List.mem_cons_of_mem _ hj)⟩, fun h j hj => by
  cases hj with
  | head => exact h.1
  | tail _ q => exact h.2 j q⟩
theorem lstAt_ex {d : Option (Option D)} {φ : List D → Prop} : (∃ xs, d = some (some (.lst xs)) ∧ φ xs) = lstAt d φ := by
  apply propext
  constructor
  · rintro ⟨xs, rfl, h⟩; exact h
  · intro h
    unfold lstAt at h
    split at h
    · exact ⟨_, rfl, h⟩
    · exact h.elim
theorem intAt_ex {d : D} {φ : Int → Prop} : (∃ k, d = .int k ∧ φ k) = intAt d φ := by
  apply propext
  constructor
  · rintro ⟨xs, rfl, h⟩; exact h
  · intro h
    unfold intAt at h
    split at h
    · exact ⟨_, rfl, h⟩
    · exact h.elim
theorem natAt_ex {d : Option Nat} {φ : Nat → Prop} : (∃ k, d = some k ∧ φ k) = natAt d φ := by
  apply propext
  constructor
  · rintro ⟨xs, rfl, h⟩; exact h
  · intro h
    unfold natAt at h
    split at h
    · exact ⟨_, rfl, h⟩
    · exact h.elim
theorem wPut_eq {i : Nat} {we wk : WE} {De : DEnds} {ρ : Env} : wPut i we wk De ρ = we ρ (fun d ρ1 => lstAt ρ1[i]? (fun _ => True) ∧ wk ρ1 (fun kd ρ2 => lstAt ρ2[i]? fun xs => intAt kd fun k => natAt (ixN xs.length k) fun j => De.nx (ρ2.set i (some (.lst (xs.set j d))))) De.xx) De.xx := by
  have h1 : ∀ ρ1 : Env, (∃ xs, ρ1[i]? = some (some (.lst xs))) = lstAt ρ1[i]? (fun _ => True) := fun ρ1 => by rw [← lstAt_ex]; simp
  have h2 : ∀ (d : D) (kd : D) (ρ2 : Env), (∃ xs k j, ρ2[i]? = some (some (.lst xs)) ∧ kd = .int k ∧ ixN xs.length k = some j ∧ De.nx (ρ2.set i (some (.lst (xs.set j d))))) = lstAt ρ2[i]? fun xs => intAt kd fun k => natAt (ixN xs.length k) fun j => De.nx (ρ2.set i (some (.lst (xs.set j d)))) := fun d kd ρ2 => by
    simp only [← lstAt_ex, ← intAt_ex, ← natAt_ex]
    apply propext
    constructor
    · rintro ⟨xs, k, j, a, b, c, e⟩; exact ⟨xs, a, k, b, j, c, e⟩
    · rintro ⟨xs, a, k, b, j, c, e⟩; exact ⟨xs, k, j, a, b, c, e⟩
  unfold wPut
  simp only [h1, h2]
theorem wApp_eq {i : Nat} {we : WE} {De : DEnds} {ρ : Env} : wApp i we De ρ = (lstAt ρ[i]? (fun _ => True) ∧ we ρ (fun d ρ1 => lstAt ρ1[i]? fun xs => xs.length < sizeLine ∧ De.nx (ρ1.set i (some (.lst (xs ++ [d]))))) De.xx) := by
  have h1 : ∀ ρ1 : Env, (∃ xs, ρ1[i]? = some (some (.lst xs))) = lstAt ρ1[i]? (fun _ => True) := fun ρ1 => by rw [← lstAt_ex]; simp
  unfold wApp
  simp only [h1, lstAt_ex]
theorem ixN_lit {m : Nat} (n : Nat) : ixN m (no_index (OfNat.ofNat n)) = if n < m then some n else none := by
  show ixN m (n : Int) = _
  by_cases h : n < m
  · rw [ixN_nat m n h, if_pos h]
  · rw [if_neg h]
    unfold ixN
    rw [if_pos (by omega), if_neg (by omega)]
theorem szL_eq : sizeLine = 16777216 := by decide +kernel
end Fw

/-! Fw16: more rules: several stores at once with owned objects. -/
namespace Fw
open PySem L2 PySem.Spec PyProof.Rows
section
variable {X : Cx} {K : PySem.W.Frag} {ks : List SK} {E : L2.St → XK} {rk kd : Kd} {pu : Bool} {e a b c : Expr} {te ta tb tc : TE} {we wa wb wc : WE} {pos : Pos} {i j l : Nat} {x y z : Str}
/-- an owned object stays what it is while another piece runs -/
theorem Res.held {s : Shp} {O : Gh} {Fs1 Fs2 : Nat → AS} {H1 H2 : Hp} {v : V} {d : D} {Fv : AS} {ρ1 : Env} {σ : L2.St} (R1 : Repr K ks (O.add Fv) Fs1 ρ1 σ H1) (r : s.rep K (av (O.add Fv) Fs1) H1 v d Fv) (f : Fr Fs1 H1 Fs2 H2) : s.rep K (av (O.add Fv) Fs2) H2 v d Fv :=
  s.mono r f.mo fun a ha => f.keep a (fun i z => R1.fb i a z (.inr ha)) (s.dom r a ha)
theorem LkX.add {O : Gh} {Fv : AS} {Fs : Nat → AS} {σ : L2.St} {H : Hp} {Ξ : Exc → Env → Prop} {Ex : XK} (h : LkX K ks O Fs σ H Ξ Ex) : LkX K ks (O.add Fv) Fs σ H Ξ Ex := fun x ρ' Fs' cls od H' R f r p => h x ρ' Fs' cls od H' R.less f ⟨r.1, by
  obtain ⟨d, vs, e1, e2, e3, e4⟩ := r.2
  exact ⟨d, vs, e1, e2, e3.mono (.less fun a z => av_add z), fun z => e4 (av_add z)⟩⟩ p
theorem sParO {s : Shp} {px py pt : Pos} {kt k2 pt2} (hc : X.calm = true) (hN : X.N.Nodup) (h1 : PX X K ks E false (.o s) a ta wa) (h2 : PX X K ks E false .z b tb wb) (hij : i ≠ j) (hk : ks[i]? = some (.ow s) := by rfl) (hk2 : ks[j]? = some .z := by rfl) (hi : X.N[i]? = some x := by rfl) (hj : X.N[j]? = some y := by rfl)
    (hx : X.env.scope.names.lookup x = some .local := by rfl) (hy : X.env.scope.names.lookup y = some .local := by rfl)
    (hs1 : starEach [a, b] X.env = (false, eval a X.env) :: starEach [b] X.env := by rfl) (hs2 : starEach [b] X.env = (false, eval b X.env) :: starEach [] X.env := by rfl)
    (hw : swappedStores [.Tuple [.Name x px, .Name y py] kt pt] (.Tuple [a, b] k2 pt2) X.env = pure (some [x, y]) := by rfl)
    (hs : swapsWithSole [.Tuple [.Name x px, .Name y py] kt pt] (.Tuple [a, b] k2 pt2) pos.line X.env = pure false := by rfl) :
    QS X K ks E rk (.Assign [.Tuple [.Name x px, .Name y py] kt pt] (.Tuple [a, b] k2 pt2) pos) (tPar i j (tCons ta (tCons tb tNil))) (wPar i j (wCons wa (wCons wb wNil))) := by
  cases h1.hK
  refine ⟨rfl, ps_par hc hN hi hj hij hx hy (pa_cons h1.pe (pa_cons h2.pe pa_nil hs2) hs1) hw hs, fun O Fs ρ σ H Dd Dh R hw L => ?_⟩
  refine h1.snd O Fs ρ σ H _ Dd.xx _ R hw (fun d1 ρ1 Fs1 v1 H1 u1 f1 r1 p1 => ?_) L.lkx
  obtain ⟨Fv, R1, q1, n1⟩ := r1
  refine h2.snd (O.add Fv) Fs1 ρ1 σ H1 _ Dd.xx _ R1 p1 (fun d2 ρ2 Fs2 v2 H2 u2 f2 r2 p2 => ?_) ((L.lkx.step f1).add)
  have q2 := Res.held R1 q1 f2
  have n2 : ∀ a, Fv a → ¬ O.O a ∧ ¬ O.B a := fun a ha => ⟨(n1 a ha).1, (n1 a ha).2.1⟩
  have R3 := (r2.1.set hk2 r2.2).setO hk q2 n2
  rw [List.set_comm _ _ (fun z => hij z.symm), List.set_comm (l := σ) _ _ (fun z => hij z.symm)] at R3
  refine ⟨v1, v2, rfl, L.nx _ _ _ H2 R3 (Fr.putO (f1.trans f2) fun a ha => (n1 a ha).2.2) p2⟩
theorem sParOO {s s2 : Shp} {px py pt : Pos} {kt k2 pt2} (hc : X.calm = true) (hN : X.N.Nodup) (h1 : PX X K ks E false (.o s) a ta wa) (h2 : PX X K ks E false (.o s2) b tb wb) (hij : i ≠ j) (hk : ks[i]? = some (.ow s) := by rfl) (hk2 : ks[j]? = some (.ow s2) := by rfl) (hi : X.N[i]? = some x := by rfl) (hj : X.N[j]? = some y := by rfl)
    (hx : X.env.scope.names.lookup x = some .local := by rfl) (hy : X.env.scope.names.lookup y = some .local := by rfl)
    (hs1 : starEach [a, b] X.env = (false, eval a X.env) :: starEach [b] X.env := by rfl) (hs2 : starEach [b] X.env = (false, eval b X.env) :: starEach [] X.env := by rfl)
    (hw : swappedStores [.Tuple [.Name x px, .Name y py] kt pt] (.Tuple [a, b] k2 pt2) X.env = pure (some [x, y]) := by rfl)
    (hs : swapsWithSole [.Tuple [.Name x px, .Name y py] kt pt] (.Tuple [a, b] k2 pt2) pos.line X.env = pure false := by rfl) :
    QS X K ks E rk (.Assign [.Tuple [.Name x px, .Name y py] kt pt] (.Tuple [a, b] k2 pt2) pos) (tPar i j (tCons ta (tCons tb tNil))) (wPar i j (wCons wa (wCons wb wNil))) := by
  cases h1.hK
  refine ⟨rfl, ps_par hc hN hi hj hij hx hy (pa_cons h1.pe (pa_cons h2.pe pa_nil hs2) hs1) hw hs, fun O Fs ρ σ H Dd Dh R hw L => ?_⟩
  refine h1.snd O Fs ρ σ H _ Dd.xx _ R hw (fun d1 ρ1 Fs1 v1 H1 u1 f1 r1 p1 => ?_) L.lkx
  obtain ⟨Fv, R1, q1, n1⟩ := r1
  refine h2.snd (O.add Fv) Fs1 ρ1 σ H1 _ Dd.xx _ R1 p1 (fun d2 ρ2 Fs2 v2 H2 u2 f2 r2 p2 => ?_) ((L.lkx.step f1).add)
  obtain ⟨Fv2, R2, q2, n2⟩ := r2
  have n1' : ∀ a, Fv a → ¬ O.O a ∧ ¬ O.B a := fun a ha => ⟨(n1 a ha).1, (n1 a ha).2.1⟩
  have m1 : Mo (av (O.add Fv) Fs1) (av ((O.add Fv).add Fv2) Fs2) H1 H2 := ⟨f2.mo.keep, fun a z => (av_add_inv z).elim (f2.mo.av a) fun q => (n2 a q).2.2.elim (fun ⟨j', y⟩ => .inl (.inr (.inr ⟨j', y⟩))) .inr⟩
  have q1' := s.mono q1 m1 fun a ha => f2.keep a (fun i z => R1.fb i a z (.inr ha)) (s.dom q1 a ha)
  have R3 := R2.setO hk2 q2 fun a ha => ⟨(n2 a ha).1, (n2 a ha).2.1⟩
  have q3 : s.rep X.K (av (O.add Fv) (putFs Fs2 j Fv2)) H2 v1 d1 Fv := s.mono q1' (.less fun a z => by
    rcases z with z | z | ⟨q, z⟩
    · exact .inl z
    · exact .inr (.inl (.inl z))
    · by_cases hq : q = j
      · subst hq; rw [putFs_self] at z; exact .inr (.inl (.inr z))
      · rw [putFs_ne hq] at z; exact .inr (.inr ⟨q, z⟩)) fun _ _ => rfl
  have R4 := R3.setO hk q3 n1'
  rw [List.set_comm _ _ (fun z => hij z.symm), List.set_comm (l := σ) _ _ (fun z => hij z.symm)] at R4
  refine ⟨v1, v2, rfl, L.nx _ _ _ H2 R4 (Fr.putO (Fr.putO (f1.trans f2) fun a ha => (n2 a ha).2.2.elim (fun ⟨q, y⟩ => f1.fp q a y) fun y => .inr (by
    cases hh : H a with
    | none => rfl
    | some o => exact absurd y (f1.dom a (by rw [hh]; simp)))) fun a ha => (n1 a ha).2.2) p2⟩
end
end Fw

/-! Fw17: instances: shapes, fields, methods, makings. -/
namespace Fw
open PySem L2 PySem.Spec PyProof.Rows

/-! ### the shape -/
def repI (C : Addr) (K : PySem.W.Frag) (A : AS) (H : Hp) (v : V) (d : D) (F : AS) : Prop :=
  ∃ (p dx : Addr) (vs : List (Str × V)) (ds : List (Str × D)), v = .ref p ∧ d = .ins C ds ∧ (∀ a, F a ↔ a = p) ∧ H p = some (.ins C dx vs) ∧ RpF K A H vs ds
def shI (C : Addr) : Shp where
  rep := repI C
  mono := by
    rintro K A A' H H' v d F ⟨p, dx, vs, ds, rfl, rfl, hF, e, r⟩ m k
    exact ⟨p, dx, vs, ds, rfl, rfl, hF, by rw [k p ((hF p).mpr rfl)]; exact e, r.mono m⟩
  dom := by
    rintro K A H v d F ⟨p, dx, vs, ds, rfl, rfl, hF, e, r⟩ a ha z
    rw [(hF a).mp ha, e] at z
    cases z
  frz := by
    rintro K A A' H v d F ⟨p, dx, vs, ds, rfl, rfl, hF, e, r⟩ h1 h2
    exact .ins (h1 p ((hF p).mpr rfl)) (hc_ins.mpr e) (r.mono (.less h2))
def dputF (f : Str) (v : D) : List (Str × D) → List (Str × D)
  | [] => [(f, v)]
  | (g, x) :: r => if g = f then (g, v) :: r else (g, x) :: dputF f v r
section
variable {K : PySem.W.Frag} {A : AS} {H : Hp}
theorem RpF.look {f : Str} : ∀ {vs : List (Str × V)} {ds : List (Str × D)} {d : D}, RpF K A H vs ds → ds.lookup f = some d → ∃ v, vs.lookup f = some v ∧ Rp K A H v d
  | _, _, d, .nil, h => by cases h
  | (k, v) :: vs, (_, d') :: ds, d, .cons r t, h => by
    rw [List.lookup_cons] at h ⊢
    cases e : f == k with
    | true =>
      rw [e] at h
      have h' : some d' = some d := h
      cases h'
      exact ⟨v, rfl, r⟩
    | false =>
      rw [e] at h
      exact RpF.look t h
theorem RpF.lookN {f : Str} : ∀ {vs : List (Str × V)} {ds : List (Str × D)}, RpF K A H vs ds → ds.lookup f = none → vs.lookup f = none
  | _, _, .nil, h => rfl
  | (k, v) :: vs, (_, d') :: ds, .cons r t, h => by
    rw [List.lookup_cons] at h ⊢
    cases e : f == k with
    | true => rw [e] at h; cases h
    | false =>
      rw [e] at h
      exact RpF.lookN t h
theorem RpF.length : ∀ {vs : List (Str × V)} {ds : List (Str × D)}, RpF K A H vs ds → vs.length = ds.length
  | _, _, .nil => rfl
  | _, _, .cons r t => by rw [List.length_cons, List.length_cons, RpF.length t]
theorem RpF.put {f : Str} {v : V} {d : D} (r : Rp K A H v d) : ∀ {vs : List (Str × V)} {ds : List (Str × D)}, RpF K A H vs ds → RpF K A H (putF f v vs) (dputF f d ds)
  | _, _, .nil => .cons r .nil
  | (k, x) :: vs, (_, y) :: ds, .cons q t => by
    unfold putF dputF
    split
    · exact .cons r t
    · exact .cons q (RpF.put r t)
end
theorem dputF_eq (f : Str) (v : D) (g : Str) (x : D) (r : List (Str × D)) : dputF f v ((g, x) :: r) = if g = f then (g, v) :: r else (g, x) :: dputF f v r := rfl

/-! ### one slot more -/
section
variable {K : PySem.W.Frag} {ks : List SK} {G : Gh} {Fs : Nat → AS} {ρ : Env} {σ : L2.St} {H : Hp} {s : Shp} {Fv : AS} {v : V} {d : D}
theorem Repr.push (R : Repr K ks (G.add Fv) Fs ρ σ H) (r : s.rep K (av (G.add Fv) Fs) H v d Fv) (n : ∀ a, Fv a → ¬ G.O a ∧ ¬ G.B a) :
    Repr K (ks ++ [.ow s]) G (putFs Fs ks.length Fv) (ρ ++ [some d]) (σ ++ [some v]) H := by
  have lρ := R.lρ
  have lσ := R.lσ
  have m : Mo (av (G.add Fv) Fs) (av G (putFs Fs ks.length Fv)) H H := .less fun a z => by
    rcases z with z | z | ⟨j, z⟩
    · exact .inl z
    · exact .inr (.inl (.inl z))
    · by_cases hj : j = ks.length
      · subst hj; rw [putFs_self] at z; exact .inr (.inl (.inr z))
      · rw [putFs_ne hj] at z; exact .inr (.inr ⟨j, z⟩)
  refine ⟨by simp [lρ], by simp [lσ], fun j k a h1 h2 => ?_, R.od, fun a z => R.bd a (.inl z), fun j a h z => ?_, fun j a h => ?_, fun j k e h1 h2 => ?_⟩
  · by_cases hj : j = ks.length
    · subst hj
      rw [putFs_self] at h1
      by_cases hk : k = ks.length
      · exact hk.symm
      · rw [putFs_ne hk] at h2
        exact absurd (.inr h1) (R.fb k a h2)
    · rw [putFs_ne hj] at h1
      by_cases hk : k = ks.length
      · subst hk
        rw [putFs_self] at h2
        exact absurd (.inr h2) (R.fb j a h1)
      · rw [putFs_ne hk] at h2
        exact R.dj j k a h1 h2
  · by_cases hj : j = ks.length
    · subst hj
      rw [putFs_self] at h
      exact (n a h).2 z
    · rw [putFs_ne hj] at h
      exact R.fb j a h (.inl z)
  · by_cases hj : j = ks.length
    · subst hj
      rw [putFs_self] at h
      exact R.bd a (.inr h)
    · rw [putFs_ne hj] at h
      exact R.fd j a h
  · by_cases hj : j < ks.length
    · rw [List.getElem?_append_left hj] at h1
      rw [List.getElem?_append_left (by omega)] at h2
      obtain ⟨v', h3, h4⟩ := R.sl j k e h1 h2
      have nj : j ≠ ks.length := by omega
      refine ⟨v', by rw [List.getElem?_append_left (by omega)]; exact h3, ?_⟩
      cases k with
      | z => exact Rp.mono m h4
      | t =>
        refine h4.imp (Rp.mono m) fun ⟨r, p, e1, e2, e3, e4⟩ => ⟨r.mono m fun _ _ _ _ q => q, p, e1, e2, fun z => e3 (.inl z), fun q z => ?_⟩
        by_cases hq : q = ks.length
        · subst hq; rw [putFs_self] at z; exact e3 (.inr z)
        · rw [putFs_ne hq] at z; exact e4 q z
      | ln s =>
        obtain ⟨F, r, n'⟩ := h4
        refine ⟨F, s.mono r m fun _ _ => rfl, fun a ha => ⟨fun z => (n' a ha).1 (.inl z), fun q z => ?_⟩⟩
        by_cases hq : q = ks.length
        · subst hq; rw [putFs_self] at z; exact (n' a ha).1 (.inr z)
        · rw [putFs_ne hq] at z; exact (n' a ha).2 q z
      | ow s =>
        show s.rep K _ H v' e (putFs Fs ks.length Fv j) ∧ ∀ a, putFs Fs ks.length Fv j a → ¬ G.O a
        rw [putFs_ne nj]
        exact ⟨s.mono h4.1 m fun _ _ => rfl, h4.2⟩
      | io s =>
        show s.rep K _ H v' e (putFs Fs ks.length Fv j) ∧ G.io j v'
        rw [putFs_ne nj]
        exact ⟨s.mono h4.1 m fun _ _ => rfl, h4.2⟩
    · rw [List.getElem?_append_right (by omega)] at h1
      have hj2 : j = ks.length := by
        by_cases h0 : j - ks.length = 0
        · omega
        · rw [List.getElem?_eq_none (by simp; omega)] at h1
          cases h1
      subst hj2
      rw [Nat.sub_self] at h1
      have h1' : SK.ow s = k := by simpa using h1
      subst h1'
      rw [List.getElem?_append_right (by omega), lρ, Nat.sub_self] at h2
      have h2' : d = e := by simpa using h2
      subst h2'
      refine ⟨v, by rw [List.getElem?_append_right (by omega), lσ, Nat.sub_self]; rfl, ?_⟩
      show s.rep K _ H v d (putFs Fs ks.length Fv ks.length) ∧ ∀ a, putFs Fs ks.length Fv ks.length a → ¬ G.O a
      rw [putFs_self]
      exact ⟨s.mono r m fun _ _ => rfl, fun a ha => (n a ha).1⟩
theorem Repr.pop (R : Repr K (ks ++ [.ow s]) G Fs (ρ ++ [some d]) (σ ++ [some v]) H) (hl : ρ.length = ks.length) (hσ : σ.length = ks.length) :
    Repr K ks (G.add (Fs ks.length)) (putFs Fs ks.length fun _ => False) ρ σ H ∧ s.rep K (av (G.add (Fs ks.length)) (putFs Fs ks.length fun _ => False)) H v d (Fs ks.length) ∧ ∀ a, Fs ks.length a → ¬ G.O a ∧ ¬ G.B a := by
  have hav : ∀ a, av (G.add (Fs ks.length)) (putFs Fs ks.length fun _ => False) a → av G Fs a := fun a z => by
    rcases z with z | (z | z) | ⟨j, z⟩
    · exact .inl z
    · exact .inr (.inl z)
    · exact .inr (.inr ⟨_, z⟩)
    · by_cases hj : j = ks.length
      · subst hj; rw [putFs_self] at z; exact z.elim
      · rw [putFs_ne hj] at z; exact .inr (.inr ⟨j, z⟩)
  have m : Mo (av G Fs) (av (G.add (Fs ks.length)) (putFs Fs ks.length fun _ => False)) H H := .less hav
  obtain ⟨v', h3, h4⟩ := R.sl ks.length (.ow s) d (by simp) (by rw [List.getElem?_append_right (by omega), hl, Nat.sub_self]; rfl)
  rw [List.getElem?_append_right (by omega), hσ, Nat.sub_self] at h3
  have h3' : v = v' := by simpa using h3
  subst h3'
  refine ⟨⟨hl, hσ, fun j k a h1 h2 => ?_, R.od, fun a z => z.elim (R.bd a) (R.fd _ a), fun j a h z => ?_, fun j a h => ?_, fun j k e h1 h2 => ?_⟩, s.mono h4.1 m fun _ _ => rfl, fun a ha => ⟨h4.2 a ha, R.fb _ a ha⟩⟩
  · by_cases hj : j = ks.length
    · subst hj; rw [putFs_self] at h1; exact h1.elim
    · by_cases hk : k = ks.length
      · subst hk; rw [putFs_self] at h2; exact h2.elim
      · rw [putFs_ne hj] at h1
        rw [putFs_ne hk] at h2
        exact R.dj j k a h1 h2
  · by_cases hj : j = ks.length
    · subst hj; rw [putFs_self] at h; exact h.elim
    · rw [putFs_ne hj] at h
      rcases z with z | z
      · exact R.fb j a h z
      · exact hj (R.dj _ _ a h z)
  · by_cases hj : j = ks.length
    · subst hj; rw [putFs_self] at h; exact h.elim
    · rw [putFs_ne hj] at h
      exact R.fd j a h
  · have hj : j < ks.length := (List.getElem?_eq_some_iff.mp h1).1
    have nj : j ≠ ks.length := by omega
    obtain ⟨v', g3, g4⟩ := R.sl j k e (by rw [List.getElem?_append_left hj]; exact h1) (by rw [List.getElem?_append_left (by omega)]; exact h2)
    rw [List.getElem?_append_left (by omega)] at g3
    refine ⟨v', g3, ?_⟩
    have nf : ∀ q a, putFs Fs ks.length (fun _ => False) q a → Fs q a := fun q a z => by
      by_cases hq : q = ks.length
      · subst hq; rw [putFs_self] at z; exact z.elim
      · rw [putFs_ne hq] at z; exact z
    cases k with
    | z => exact Rp.mono m g4
    | t => exact g4.imp (Rp.mono m) fun ⟨r, p, e1, e2, e3, e4⟩ => ⟨r.mono m fun _ _ _ _ q => q, p, e1, e2, fun z => z.elim e3 (e4 _), fun q z => e4 q (nf q p z)⟩
    | ln s =>
      obtain ⟨F, r, n'⟩ := g4
      exact ⟨F, s.mono r m fun _ _ => rfl, fun a ha => ⟨fun z => z.elim (n' a ha).1 ((n' a ha).2 _), fun q z => (n' a ha).2 q (nf q a z)⟩⟩
    | ow s =>
      show s.rep K _ H v' e (putFs Fs ks.length (fun _ => False) j) ∧ ∀ a, putFs Fs ks.length (fun _ => False) j a → ¬ G.O a
      rw [putFs_ne nj]
      exact ⟨s.mono g4.1 m fun _ _ => rfl, g4.2⟩
    | io s =>
      show s.rep K _ H v' e (putFs Fs ks.length (fun _ => False) j) ∧ G.io j v'
      rw [putFs_ne nj]
      exact ⟨s.mono g4.1 m fun _ _ => rfl, g4.2⟩
end
/-! ### attributes -/
def insAt (d : Option (Option D)) (φ : Addr → List (Str × D) → Prop) : Prop := match d with
  | some (some (.ins C fs)) => φ C fs
  | _ => False
def SK.sh (s : Shp) : SK → Prop
  | .ln u => u = s
  | .ow u => u = s
  | .io u => u = s
  | _ => False
section
variable {K : PySem.W.Frag} {ks : List SK} {G : Gh} {Fs : Nat → AS} {ρ : Env} {σ : L2.St} {H : Hp} {s : Shp} {i : Nat} {k : SK} {d : D}
theorem Repr.shAt (R : Repr K ks G Fs ρ σ H) (hk : ks[i]? = some k) (hs : k.sh s) (h : ρ[i]? = some (some d)) : ∃ v F, σ[i]? = some (some v) ∧ s.rep K (av G Fs) H v d F := by
  obtain ⟨v, h1, h2⟩ := R.sl i k d hk h
  cases k with
  | z => exact hs.elim
  | t => exact hs.elim
  | ln t => have hs' : t = s := hs; subst hs'; obtain ⟨F, r, _⟩ := h2; exact ⟨v, F, h1, r⟩
  | ow t => have hs' : t = s := hs; subst hs'; exact ⟨v, _, h1, h2.1⟩
  | io t => have hs' : t = s := hs; subst hs'; exact ⟨v, _, h1, h2.1⟩
end
def wFld (i : Nat) (f : Str) : WE := fun ρ Ψ _ => insAt ρ[i]? fun _ fs => ∃ d, fs.lookup f = some d ∧ Ψ d ρ
def insD (d : D) (φ : Addr → List (Str × D) → Prop) : Prop := match d with
  | .ins C fs => φ C fs
  | _ => False
def wFldZ (C : Addr) (f : Str) (w : WE) : WE := fun ρ Ψ Ξ => w ρ (fun d ρ' => insD d fun C' fs => C' = C ∧ ∃ d, fs.lookup f = some d ∧ Ψ d ρ') Ξ
section
variable {X : Cx} {K : PySem.W.Frag} {ks : List SK} {E : L2.St → XK} {rk kd : Kd} {pu : Bool} {e o a b c : Expr} {te ta tb tc to : TE} {we wa wb wc wo : WE} {pos p pos' tpos : Pos} {i j l : Nat} {x y z f : Str} {C : Addr} {k : SK}
theorem xFld (i : Nat) (hs : k.sh (shI C)) (c : Cls K C) (n : NoAttr K C f) (hk : ks[i]? = some k := by rfl) (hN : X.N[i]? = some x := by rfl) (hv : Vis X.env.scope x := by first | exact Or.inl rfl | exact Or.inr (Or.inl rfl) | exact Or.inr (Or.inr rfl)) (hd : (x == ("__debug__" : Str)) = false := by decide)
    (hcd : (x == ("__classdict__" : Str)) = false := by decide) (hb : attributeBase (.Name x p) f X.env (eval (.Name x p) X.env) = eval (.Name x p) X.env := by rfl) (hK : X.K = K := by rfl) : PX X K ks E pu .z (.Attribute (.Name x p) f pos) (tFld K (tVar i) f) (wFld i f) := by
  cases hK
  refine ⟨rfl, pe_fld (pe_var hN hv hd hcd) hb, fun O Fs ρ σ H Ψ Ξ Q R hw hq hx => ?_⟩
  unfold wFld insAt at hw
  split at hw
  · rename_i C' fs e
    obtain ⟨d, h1, h2⟩ := hw
    obtain ⟨v, F, g1, q, dx, vs, ds, rfl, e2, _, g2, g3⟩ := R.shAt hk hs e
    cases e2
    obtain ⟨u, l1, l2⟩ := g3.look h1
    exact ⟨_, g1, q, C, dx, vs, u, rfl, g2, c, n, l1, hq d ρ Fs u H (fun _ => ⟨rfl, rfl, Ext.refl H⟩) (Fr.refl _ _) ⟨R, l2⟩ h2⟩
  · exact hw.elim
theorem xFldZ (c : Cls K C) (n : NoAttr K C f) (h : PX X K ks E pu .z o to wo) (hb : attributeBase o f X.env (eval o X.env) = eval o X.env := by rfl) : PX X K ks E pu .z (.Attribute o f pos) (tFld K to f) (wFldZ C f wo) := by
  cases h.hK
  refine ⟨rfl, pe_fld h.pe hb, fun O Fs ρ σ H Ψ Ξ Q R hw hq hx => ?_⟩
  refine h.snd O Fs ρ σ H _ Ξ _ R hw (fun d ρ' Fs' v H' u f' r p => ?_) hx
  unfold insD at p
  split at p
  · obtain ⟨rfl, d2, h1, h2⟩ := p
    obtain ⟨R', r⟩ := r
    cases r with
    | ins na e rf =>
      obtain ⟨u2, l1, l2⟩ := rf.look h1
      exact ⟨_, _, _, _, u2, rfl, hc_ins.mp e, c, n, l1, hq d2 ρ' Fs' u2 H' u f' ⟨R', l2⟩ h2⟩
  · exact p.elim
/-- self.f = e, self an object that may be changed -/
def wPutF (i : Nat) (f : Str) (we : WE) : WS := fun De ρ => we ρ (fun d ρ' => insAt ρ'[i]? fun C fs => fs.length < 1000 ∧ De.nx (ρ'.set i (some (.ins C (dputF f d fs))))) De.xx
theorem sPutF (i : Nat) (c : Cls K C) (n : NoAttr K C f) (h : PX X K ks E false .z e te we) (hk : Owns ks i (shI C) := by first | exact .inl rfl | exact .inr rfl) (hN : X.N[i]? = some x := by rfl) (hv : Vis X.env.scope x := by first | exact Or.inl rfl | exact Or.inr (Or.inl rfl) | exact Or.inr (Or.inr rfl)) (hd : (x == ("__debug__" : Str)) = false := by decide)
    (hcd : (x == ("__classdict__" : Str)) = false := by decide) (hs : swapsWith e (some (.Attribute (.Name x p) f pos')) pos.line X.env = pure false := by rfl) : QS X K ks E rk (.Assign [.Attribute (.Name x p) f pos'] e pos) (sFld K (tVar i) te f) (wPutF i f we) := by
  cases h.hK
  refine ⟨rfl, ps_fld (pe_var hN hv hd hcd) h.pe hs, fun O Fs ρ σ H Dd Dh R hw L => ?_⟩
  refine h.snd O Fs ρ σ H _ Dd.xx _ R hw (fun d ρ' Fs' v H' u f' r q => ?_) L.lkx
  obtain ⟨R', rv⟩ := r
  unfold insAt at q
  split at q
  · rename_i C' fs e
    obtain ⟨q1, q2⟩ := q
    obtain ⟨w, g1, q, dx, vs, ds, rfl, e2, hF, g2, g3⟩ := R'.own hk e
    cases e2
    refine ⟨_, g1, q, C, dx, vs, rfl, g2, c, n, by rw [g3.length]; exact q1, ?_⟩
    have hA : Fs' i q := (hF q).mpr rfl
    obtain ⟨R2, f2⟩ := R'.upO (p := q) (o := .ins C dx (putF f v vs)) (d := .ins C (dputF f d fs)) hk hA g1 e ⟨q, dx, _, _, rfl, rfl, hF, upd_same, (RpF.put rv g3).mono (av_upd_mo (.inr (.inr ⟨i, hA⟩)))⟩
    exact L.nx _ Fs' _ _ R2 (f'.trans f2) q2
  · exact q.elim
end
end Fw

/-! Fw18: methods, makings. -/
namespace Fw
open PySem L2 PySem.Spec PyProof.Rows

section
variable {X : Cx} {K : PySem.W.Frag} {ks kp : List SK} {rk kd : Kd} {pu : Bool} {e o a b c : Expr} {es : List Expr} {te ta tb tc to : TE} {we wa wb wc wo : WE} {pos p pos' tpos apos : Pos} {i j l : Nat} {x y z f m : Str} {C : Addr} {k : SK} {t : TA} {w : WA} {sh : Sh} {sp : SpD} {CX : CXT} {n : Nat} {g : Addr} {fd : FuncData} {ps : List Str}
/-! ### self.f op= e -/
def wAugF (i : Nat) (f : Str) (we : WE) (w2 : W2) : WS := fun De ρ => insAt ρ[i]? fun _ fs => ∃ x, fs.lookup f = some x ∧ we ρ (fun y ρ' => w2 x y fun z => insAt ρ'[i]? fun C fs => fs.length < 1000 ∧ De.nx (ρ'.set i (some (.ins C (dputF f z fs))))) De.xx
theorem sAugF (i : Nat) {E : L2.St → XK} {op : Operator} {rd : V → V → Hp → VK → Prop} {w2 : W2} (c : Cls K C) (na : NoAttr K C f) (hop : InOp X op rd) (od : OpD K rd w2) (h : PX X K ks E false .z e te we) (hk : Owns ks i (shI C) := by first | exact .inl rfl | exact .inr rfl) (hN : X.N[i]? = some x := by rfl)
    (hv : Vis X.env.scope x := by first | exact Or.inl rfl | exact Or.inr (Or.inl rfl) | exact Or.inr (Or.inr rfl)) (hd : (x == ("__debug__" : Str)) = false := by decide) (hcd : (x == ("__classdict__" : Str)) = false := by decide) :
    QS X K ks E rk (.AugAssign (.Attribute (.Name x p) f tpos) op e pos) (sFldAug K (tVar i) te rd f) (wAugF i f we w2) := by
  cases h.hK
  refine ⟨rfl, ps_fldaug (pe_var hN hv hd hcd) h.pe hop, fun O Fs ρ σ H Dd Dh R hw L => ?_⟩
  unfold wAugF at hw
  have hw' := hw
  unfold insAt at hw
  split at hw
  · rename_i C' fs e1
    obtain ⟨d1, h1, hw⟩ := hw
    obtain ⟨v1, g1, q1, dx, vs, ds, rfl, e2, hF, g2, g3⟩ := R.own hk e1
    cases e2
    obtain ⟨u1, l1, l2⟩ := g3.look h1
    refine ⟨_, g1, q1, C, dx, vs, u1, rfl, g2, c, na, l1, ?_⟩
    refine h.snd O Fs ρ σ H _ Dd.xx _ R hw (fun d ρ' Fs' v H' u f' r q => ?_) L.lkx
    obtain ⟨R', rv⟩ := r
    refine od _ H' u1 v d1 d _ _ (fun a => R'.adom) (.of (l2.mono f'.mo)) (.of rv) q fun z vz H2 ex rz qz => ?_
    have R2 := R'.ext ex
    split at qz
    · rename_i C2 fs2 e3
      obtain ⟨qa, qb⟩ := qz
      obtain ⟨w3, k1, q3, dx3, vs3, ds3, rfl, e4, hF3, k2, k3⟩ := R2.own hk e3
      cases e4
      rw [g1] at k1
      cases k1
      have hA : Fs' i q1 := (hF3 q1).mpr rfl
      refine ⟨dx3, vs3, k2, by rw [k3.length]; exact qa, ?_⟩
      obtain ⟨R3, f3⟩ := R2.upO (p := q1) (o := .ins C dx3 (putF f vz vs3)) (d := .ins C (dputF f z fs2)) hk hA g1 e3 ⟨q1, dx3, _, _, rfl, rfl, hF3, upd_same, (RpF.put rz k3).mono (av_upd_mo (.inr (.inr ⟨i, hA⟩)))⟩
      exact L.nx _ Fs' _ _ R3 (f'.trans (ex.fr.trans f3)) qb
    · exact qz.elim
  · exact hw.elim
/-! ### o.m(e, ..), o the object of a slot -/
def wMeth (m : Str) (i : Nat) (kp : List SK) (sh : Sh) (sp : SpD) (wa : WA) : WE := fun ρ Ψ Ξ => (insAt ρ[i]? fun _ fs => fs.lookup m = none) ∧ wa ρ (fun ds ρ1 => filled ρ1 (some i :: sh) ∧ sp (fill ρ1 (some i :: sh) (.non :: ds)) (fun d os => Ψ d (outs kp (some i :: sh) os ρ1)) (fun x os => Ξ x (outs kp (some i :: sh) os ρ1))) Ξ
variable {E : XK}
theorem snd_meth (hk : ks[i]? = some k) (hs : k.sh (shI C)) (h : PXc X K ks (fun _ => E) pu es sh t w) (ok : AOk ks (muts kp (some i :: sh)) kp (some i :: sh)) (nd : (muts kp (some i :: sh)).Nodup)
    (hom : (∀ j ∈ muts kp (some i :: sh), ∃ s, ks[j]? = some (.ow s)) ∨ (∀ j ∈ muts kp (some i :: sh), ∃ s, ks[j]? = some (.io s))) (hrk : rk.rt) (hpn : pu = true → muts kp (some i :: sh) = []) :
    Snd K ks (fun _ => E) pu rk (tMeth C m (spOf K kp rk sp) [] E (tVar i) t) (wMeth m i kp sh sp w) := fun O Fs ρ σ H Ψ Ξ Q R hw hq hx => by
  obtain ⟨hi, hw⟩ := hw
  unfold insAt at hi
  split at hi
  · rename_i C' fs e1
    obtain ⟨v, F, g1, q, dx, vs, ds, rfl, e2, _, g2, g3⟩ := R.shAt hk hs e1
    cases e2
    refine ⟨_, g1, q, dx, vs, rfl, g2, g3.lookN hi, ?_⟩
    refine h.snd O Fs ρ σ H _ Ξ _ R hw (fun ds ρ1 Fs1 us H1 u1 f1 R1 a p1 => ?_) hx
    rw [List.append_nil]
    refine call_sp R1 ok nd hom hrk (.s g1 a) p1.1 p1.2 hpn (fun d ρ' Fs' v H' u2 f2 r2 p2 => ?_) (hx.step f1)
    exact hq d ρ' Fs' v H' (u1.trans u2) (f1.trans f2) (r2.back f1) p2
  · exact hi.elim
theorem xMeth {pl : Sem Bool} (c : Cls K C) (hm : Meth K C m g) (F : FnOk X.prog X.w K X.mg X.base CX n g fd ps (spOf K kp rk sp)) (hr : Room n X.A) (hb : Binds K fd ps []) (hxx : Passes CX X E) (hs : k.sh (shI C)) (h : PXc X K ks (fun _ => E) pu (e :: es) sh t w) (ok : AOk ks (muts kp (some i :: sh)) kp (some i :: sh)) (nd : (muts kp (some i :: sh)).Nodup)
    (hom : (∀ j ∈ muts kp (some i :: sh), ∃ s, ks[j]? = some (.ow s)) ∨ (∀ j ∈ muts kp (some i :: sh), ∃ s, ks[j]? = some (.io s))) (hpn : pu = true → muts kp (some i :: sh) = []) (hrk : rk.rt := by trivial) (hk : ks[i]? = some k := by rfl) (hN : X.N[i]? = some x := by rfl)
    (hv : Vis X.env.scope x := by first | exact Or.inl rfl | exact Or.inr (Or.inl rfl) | exact Or.inr (Or.inr rfl)) (hd : (x == ("__debug__" : Str)) = false := by decide) (hcd : (x == ("__classdict__" : Str)) = false := by decide)
    (hst : starEach (e :: es) X.env = (false, eval e X.env) :: starEach es X.env := by rfl) (hpl : (backTo pos (starEach es X.env)).any (·.1) = false := by rfl)
    (ht : eval (.Call (.Attribute (.Name x p) m apos) (e :: es) [] pos) X.env = (do
      let ov ← eval (.Name x p) X.env
      standAt apos.atName
      let (f, first) ← holding [ov] (getMethod ov m pl)
      callWith pos f first (backTo pos (starEach (e :: es) X.env)) (backToKw pos (keywordEach [] X.env))) := by rfl) :
    PX X K ks (fun _ => E) pu rk (.Call (.Attribute (.Name x p) m apos) (e :: es) [] pos) (tMeth C m (spOf K kp rk sp) [] E (tVar i) t) (wMeth m i kp sh sp w) := by
  cases h.hK
  exact ⟨rfl, pe_meth (pl := pl) (pe_var hN hv hd hcd) c hm F hr hb .nil hxx h.pa hst hpl ht, snd_meth hk hs h ok nd hom hrk hpn⟩
theorem xMeth0 {pl : Sem Bool} (c : Cls K C) (hm : Meth K C m g) (F : FnOk X.prog X.w K X.mg X.base CX n g fd ps (spOf K kp rk sp)) (hr : Room n X.A) (hb : Binds K fd ps []) (hxx : Passes CX X E) (hs : k.sh (shI C)) (ok : AOk ks (muts kp [some i]) kp [some i]) (nd : (muts kp [some i]).Nodup)
    (hom : (∀ j ∈ muts kp [some i], ∃ s, ks[j]? = some (.ow s)) ∨ (∀ j ∈ muts kp [some i], ∃ s, ks[j]? = some (.io s))) (hpn : pu = true → muts kp [some i] = []) (hrk : rk.rt := by trivial) (hk : ks[i]? = some k := by rfl) (hN : X.N[i]? = some x := by rfl)
    (hv : Vis X.env.scope x := by first | exact Or.inl rfl | exact Or.inr (Or.inl rfl) | exact Or.inr (Or.inr rfl)) (hd : (x == ("__debug__" : Str)) = false := by decide) (hcd : (x == ("__classdict__" : Str)) = false := by decide)
    (ht : eval (.Call (.Attribute (.Name x p) m apos) [] [] pos) X.env = (do
      let ov ← eval (.Name x p) X.env
      standAt apos.atName
      let (f, first) ← holding [ov] (getMethod ov m pl)
      callWith pos f first (backTo pos (starEach [] X.env)) (backToKw pos (keywordEach [] X.env))) := by rfl) (hK : X.K = K := by rfl) :
    PX X K ks (fun _ => E) pu rk (.Call (.Attribute (.Name x p) m apos) [] [] pos) (tMeth C m (spOf K kp rk sp) [] E (tVar i) tNil) (wMeth m i kp [] sp wNil) := by
  cases hK
  exact ⟨rfl, pe_meth0 (pl := pl) (pe_var hN hv hd hcd) c hm F hr hb .nil hxx ht, snd_meth hk hs kNil ok nd hom hrk hpn⟩
/-! ### o.m(e, ..), o plain data -/
def wMethZ (C : Addr) (m : Str) (kp : List SK) (sh : Sh) (sp : SpD) (wo : WE) (wa : WA) : WE := fun ρ Ψ Ξ => wo ρ (fun d0 ρ0 => (insD d0 fun C' fs => C' = C ∧ fs.lookup m = none) ∧ wa ρ0 (fun ds ρ1 => filled ρ1 sh ∧ sp (d0 :: fill ρ1 sh ds) (fun d os => Ψ d (outs kp (none :: sh) os ρ1)) (fun x os => Ξ x (outs kp (none :: sh) os ρ1))) Ξ) Ξ
theorem snd_methZ (ho : Snd K ks (fun _ => E) pu .z to wo) (h : PXc X K ks (fun _ => E) pu es sh t w) (ok : AOk ks (muts kp (none :: sh)) kp (none :: sh)) (nd : (muts kp (none :: sh)).Nodup)
    (hom : (∀ j ∈ muts kp (none :: sh), ∃ s, ks[j]? = some (.ow s)) ∨ (∀ j ∈ muts kp (none :: sh), ∃ s, ks[j]? = some (.io s))) (hrk : rk.rt) (hpn : pu = true → muts kp (none :: sh) = []) :
    Snd K ks (fun _ => E) pu rk (tMeth C m (spOf K kp rk sp) [] E to t) (wMethZ C m kp sh sp wo w) := fun O Fs ρ σ H Ψ Ξ Q R hw hq hx => by
  refine ho O Fs ρ σ H _ Ξ _ R hw (fun d0 ρ0 Fs0 v0 H0 u0 f0 r0 p0 => ?_) hx
  obtain ⟨hi, hw2⟩ := p0
  unfold insD at hi
  split at hi
  · rename_i C' fs
    obtain ⟨rfl, hi⟩ := hi
    obtain ⟨R0, r0⟩ := r0
    have r0' := r0
    cases r0 with
    | ins na e rf =>
      refine ⟨_, _, _, rfl, hc_ins.mp e, rf.lookN hi, ?_⟩
      refine h.snd O Fs0 ρ0 σ H0 _ Ξ _ R0 hw2 (fun ds ρ1 Fs1 us H1 u1 f1 R1 a p1 => ?_) (hx.step f0)
      rw [List.append_nil]
      have hf : filled ρ1 (none :: sh) := by rw [show filled ρ1 (none :: sh) = filled ρ1 sh from propext ⟨fun h i hi => h i (List.mem_cons_of_mem _ hi), fun h i hi => h i (by cases hi with | tail _ q => exact q)⟩]; exact p1.1
      refine call_sp R1 ok nd hom hrk (.v (r0'.mono f1.mo) a) hf p1.2 hpn (fun d ρ' Fs' v H' u2 f2 r2 p2 => ?_) ((hx.step f0).step f1)
      exact hq d ρ' Fs' v H' (u0.trans (u1.trans u2)) (f0.trans (f1.trans f2)) ((r2.back f1).back f0) p2
  · exact hi.elim
theorem xMethZ {pl : Sem Bool} (c : Cls K C) (hm : Meth K C m g) (F : FnOk X.prog X.w K X.mg X.base CX n g fd ps (spOf K kp rk sp)) (hr : Room n X.A) (hb : Binds K fd ps []) (hxx : Passes CX X E) (ho : PX X K ks (fun _ => E) pu .z o to wo) (h : PXc X K ks (fun _ => E) pu (e :: es) sh t w) (ok : AOk ks (muts kp (none :: sh)) kp (none :: sh)) (nd : (muts kp (none :: sh)).Nodup)
    (hom : (∀ j ∈ muts kp (none :: sh), ∃ s, ks[j]? = some (.ow s)) ∨ (∀ j ∈ muts kp (none :: sh), ∃ s, ks[j]? = some (.io s))) (hpn : pu = true → muts kp (none :: sh) = []) (hrk : rk.rt := by trivial)
    (hst : starEach (e :: es) X.env = (false, eval e X.env) :: starEach es X.env := by rfl) (hpl : (backTo pos (starEach es X.env)).any (·.1) = false := by rfl)
    (ht : eval (.Call (.Attribute o m apos) (e :: es) [] pos) X.env = (do
      let ov ← eval o X.env
      standAt apos.atName
      let (f, first) ← holding [ov] (getMethod ov m pl)
      callWith pos f first (backTo pos (starEach (e :: es) X.env)) (backToKw pos (keywordEach [] X.env))) := by rfl) :
    PX X K ks (fun _ => E) pu rk (.Call (.Attribute o m apos) (e :: es) [] pos) (tMeth C m (spOf K kp rk sp) [] E to t) (wMethZ C m kp sh sp wo w) := by
  cases h.hK
  exact ⟨rfl, pe_meth (pl := pl) ho.pe c hm F hr hb .nil hxx h.pa hst hpl ht, snd_methZ ho.snd h ok nd hom hrk hpn⟩
theorem xMethZ0 {pl : Sem Bool} (c : Cls K C) (hm : Meth K C m g) (F : FnOk X.prog X.w K X.mg X.base CX n g fd ps (spOf K kp rk sp)) (hr : Room n X.A) (hb : Binds K fd ps []) (hxx : Passes CX X E) (ho : PX X K ks (fun _ => E) pu .z o to wo) (ok : AOk ks (muts kp [none]) kp [none]) (nd : (muts kp [none]).Nodup)
    (hom : (∀ j ∈ muts kp [none], ∃ s, ks[j]? = some (.ow s)) ∨ (∀ j ∈ muts kp [none], ∃ s, ks[j]? = some (.io s))) (hpn : pu = true → muts kp [none] = []) (hrk : rk.rt := by trivial)
    (ht : eval (.Call (.Attribute o m apos) [] [] pos) X.env = (do
      let ov ← eval o X.env
      standAt apos.atName
      let (f, first) ← holding [ov] (getMethod ov m pl)
      callWith pos f first (backTo pos (starEach [] X.env)) (backToKw pos (keywordEach [] X.env))) := by rfl) :
    PX X K ks (fun _ => E) pu rk (.Call (.Attribute o m apos) [] [] pos) (tMeth C m (spOf K kp rk sp) [] E to tNil) (wMethZ C m kp [] sp wo wNil) := by
  cases ho.hK
  exact ⟨rfl, pe_meth0 (pl := pl) ho.pe c hm F hr hb .nil hxx ht, snd_methZ ho.snd kNil ok nd hom hrk hpn⟩
end

/-! ### C(e, ..) -/
section
variable {K : PySem.W.Frag} {ks kp : List SK} {σ : L2.St} {H : Hp} {A A' : AS} {sh : Sh} {ds : List D} {vs : List V} {ρ : Env} {v : V} {d : D} {k : SK} {n : Nat}
theorem A1.push {k0 : SK} {o : Option Nat} (hn : n = ks.length) (h : A1 ks [] k0 o) : A1 (ks ++ [k]) [n] k0 o := by
  have up : ∀ {i : Nat} {q : SK}, ks[i]? = some q → (ks ++ [k])[i]? = some q ∧ i ∉ [n] := fun {i q} e => by
    have hi : i < ks.length := (List.getElem?_eq_some_iff.mp e).1
    refine ⟨by rw [List.getElem?_append_left hi]; exact e, fun z => ?_⟩
    rw [List.mem_singleton] at z
    omega
  cases h with
  | z => exact .z
  | zs e => exact .zs (up e).1
  | t => exact .t
  | ts e ht _ => exact .ts (up e).1 ht (up e).2
  | ln e => exact .ln (up e).1
  | lo e _ => exact .lo (up e).1 (up e).2
  | li e _ => exact .li (up e).1 (up e).2
  | ow e z => cases z
  | io e z => cases z
theorem AOk.push (hn : n = ks.length) : ∀ {kp : List SK} {sh : Sh}, AOk ks [] kp sh → AOk (ks ++ [k]) [n] kp sh
  | _, _, .nil => .nil
  | _, _, .cons a t => .cons (a.push hn) (AOk.push hn t)
theorem AdL.push {σ2 : L2.St} : ∀ {sh : Sh} {ds : List D} {vs : List V}, AdL K A σ H sh ds vs → AdL K A (σ ++ σ2) H sh ds vs
  | _, _, _, .nil => .nil
  | _, _, _, .v r t => .v r (AdL.push t)
  | _, _, _, .s e t => .s (by rw [List.getElem?_append_left (List.getElem?_eq_some_iff.mp e).1]; exact e) (AdL.push t)
theorem fill_push {ρ2 : Env} (hl : ρ.length = σ.length) : ∀ {sh : Sh} {ds : List D} {vs : List V}, AdL K A σ H sh ds vs → fill (ρ ++ ρ2) sh ds = fill ρ sh ds
  | _, _, _, .nil => rfl
  | _, _, _, .v r t => by rw [fill, fill, fill_push hl t]
  | _, _, _, .s e t => by
    rw [fill, fill, fill_push hl t, List.getElem?_append_left (by rw [hl]; exact (List.getElem?_eq_some_iff.mp e).1)]
theorem filled_push {ρ2 : Env} (h : filled ρ sh) : filled (ρ ++ ρ2) sh := fun i hi => by
  obtain ⟨d, e⟩ := h i hi
  exact ⟨d, by rw [List.getElem?_append_left (List.getElem?_eq_some_iff.mp e).1]; exact e⟩
end
def wMake (C : Addr) (sh : Sh) (sp : SpD) (wa : WA) : WE := fun ρ Ψ Ξ => wa ρ (fun ds ρ1 => filled ρ1 sh ∧ sp (.ins C [] :: fill ρ1 sh ds) (fun d os => d = .non ∧ Ψ (os.headD (.ins C [])) ρ1) (fun x _ => Ξ x ρ1)) Ξ
section
variable {X : Cx} {K : PySem.W.Frag} {ks kp : List SK} {pu : Bool} {e : Expr} {es : List Expr} {pos p : Pos} {x : Str} {C : Addr} {t : TA} {w : WA} {sh : Sh} {sp : SpD} {CX : CXT} {n : Nat} {g : Addr} {fd : FuncData} {ps : List Str} {E : XK}
theorem snd_make (h : PXc X K ks (fun _ => E) false es sh t w) (ok : AOk ks [] kp sh) (hmu : muts kp sh = []) :
    Snd K ks (fun _ => E) false (.o (shI C)) (tMake C (spOf K (.io (shI C) :: kp) .z sp) [] E t) (wMake C sh sp w) := fun O Fs ρ σ H Ψ Ξ Q R hw hq hx => by
  refine h.snd O Fs ρ σ H _ Ξ _ R hw (fun ds ρ1 Fs1 vs H1 u1 f1 R1 a p1 => ?_) hx
  intro x dx nx ndx nex
  rw [List.append_nil]
  have ex : Ext H1 (upd (upd H1 dx (.own x)) x (.ins C dx [])) := (Ext.upd ndx).trans (Ext.upd (by rw [upd_ne (fun z => nex z.symm)]; exact nx))
  generalize hH2 : upd (upd H1 dx (.own x)) x (.ins C dx []) = H2 at *
  have e2 : H2 x = some (.ins C dx []) := by rw [← hH2, upd_same]
  have na : ∀ b, b = x → ¬ O.O b ∧ ¬ O.B b := fun b z => by
    subst z
    exact ⟨fun q => R1.od _ q nx, fun q => R1.bd _ q nx⟩
  have R2 : Repr K ks (O.add fun b => b = x) Fs1 ρ1 σ H2 := R1.add ex fun b z => by subst z; exact ⟨nx, by rw [e2]; simp⟩
  have R3 := R2.push (s := shI C) (v := .ref x) (d := .ins C []) ⟨x, dx, [], [], rfl, rfl, fun _ => Iff.rfl, e2, .nil⟩ na
  have lρ := R1.lρ
  have lσ := R1.lσ
  have hmu2 : muts (SK.io (shI C) :: kp) (some ks.length :: sh) = [ks.length] := by simp [muts, hmu]
  have a2 : AdL K (av O (putFs Fs1 ks.length fun b => b = x)) (σ ++ [some (V.ref x)]) H2 sh ds vs := by
    refine AdL.push (a.mono ⟨fun b o n q => ex.hc q, fun b z => ?_⟩)
    rcases z with z | z | ⟨j, z⟩
    · exact .inl (.inl z)
    · exact .inl (.inr (.inl z))
    · by_cases hj : j = ks.length
      · subst hj; rw [putFs_self] at z; rw [z]; exact .inr nx
      · rw [putFs_ne hj] at z; exact .inl (.inr (.inr ⟨j, z⟩))
  have fr0 : Fr Fs1 H1 (putFs Fs1 ks.length fun b => b = x) H2 := ⟨fun b _ hb => ex b hb, fun b hb => ex.dom hb, fun j b z => by
    by_cases hj : j = ks.length
    · subst hj; rw [putFs_self] at z; rw [z]; exact .inr nx
    · rw [putFs_ne hj] at z; exact .inl ⟨j, z⟩⟩
  have outE : ∀ os : List D, outs (SK.io (shI C) :: kp) (some ks.length :: sh) os (ρ1 ++ [some (D.ins C [])]) = ρ1 ++ [some (os.headD (.ins C []))] := fun os => by
    cases os with
    | nil => simp only [outs]; rw [outs_none hmu]; rfl
    | cons o os =>
      simp only [outs]
      rw [outs_none hmu, List.set_append_right _ _ (by omega), lρ, Nat.sub_self]
      rfl
  refine call_sp (Ψ := fun d ρ' => d = .non ∧ ∃ o, ρ' = ρ1 ++ [some o] ∧ Ψ o ρ1) (Ξ := fun x ρ' => ∃ o, ρ' = ρ1 ++ [some o] ∧ Ξ x ρ1) (pu := false) R3 (rk := .z) (sp := sp) (sh := some ks.length :: sh) (ds := .non :: ds) (vs := .ref x :: vs) ?_ ?_ ?_ trivial ?_ ?_ ?_ (fun z => by cases z) ?_ ?_
  · rw [hmu2]
    exact .cons (.ow (by simp) (by simp)) (ok.push rfl)
  · rw [hmu2]; simp
  · rw [hmu2]
    refine .inl fun j hj => ?_
    rw [List.mem_singleton] at hj
    subst hj
    exact ⟨shI C, by simp⟩
  · exact .s (by rw [List.getElem?_append_right (by omega), lσ, Nat.sub_self]; rfl) a2
  · intro i hi
    cases hi with
    | head => exact ⟨.ins C [], by rw [List.getElem?_append_right (by omega), lρ, Nat.sub_self]; rfl⟩
    | tail _ hi => exact filled_push p1.1 i hi
  · have e3 : fill (ρ1 ++ [some (D.ins C [])]) (some ks.length :: sh) (.non :: ds) = .ins C [] :: fill ρ1 sh ds := by
      rw [fill, fill_push (by omega) a, List.getElem?_append_right (by omega), lρ, Nat.sub_self]
      rfl
    rw [e3]
    have e4 : (fun d os => (d = D.non ∧ ∃ o, outs (SK.io (shI C) :: kp) (some ks.length :: sh) os (ρ1 ++ [some (D.ins C [])]) = ρ1 ++ [some o] ∧ Ψ o ρ1)) = fun d os => d = .non ∧ Ψ (os.headD (.ins C [])) ρ1 := by
      funext d os
      rw [outE os]
      refine propext ⟨fun ⟨h1, o, h2, h3⟩ => ⟨h1, ?_⟩, fun ⟨h1, h2⟩ => ⟨h1, _, rfl, h2⟩⟩
      have : os.headD (.ins C []) = o := by simpa using h2
      rw [this]
      exact h3
    have e5 : (fun (x : Exc) os => ∃ o, outs (SK.io (shI C) :: kp) (some ks.length :: sh) os (ρ1 ++ [some (D.ins C [])]) = ρ1 ++ [some o] ∧ Ξ x ρ1) = fun x _ => Ξ x ρ1 := by
      funext x os
      rw [outE os]
      exact propext ⟨fun ⟨_, _, h⟩ => h, fun h => ⟨_, rfl, h⟩⟩
    rw [e4, e5]
    exact p1.2
  · rintro d ρ' Fs' v' H' _ f2 r2 ⟨rfl, o, rfl, p2⟩
    obtain ⟨R4, r4⟩ := r2
    cases r4
    refine ⟨rfl, ?_⟩
    obtain ⟨R5, q5, n5⟩ := R4.pop lρ lσ
    have f3 : Fr Fs1 H1 Fs' H' := fr0.trans f2
    have f4 : Fr Fs1 H1 (putFs Fs' ks.length fun _ => False) H' := ⟨f3.keep, f3.dom, fun j b z => by
      by_cases hj : j = ks.length
      · subst hj; rw [putFs_self] at z; exact z.elim
      · rw [putFs_ne hj] at z; exact f3.fp j b z⟩
    refine hq o ρ1 _ (.ref x) H' (fun z => by cases z) (f1.trans f4) ⟨Fs' ks.length, R5, q5, fun b hb => ⟨(n5 b hb).1, (n5 b hb).2, ?_⟩⟩ p2
    rcases f3.fp _ b hb with ⟨j, q⟩ | q
    · rcases f1.fp j b q with ⟨j', q'⟩ | q'
      · exact .inl ⟨j', q'⟩
      · exact .inr q'
    · refine .inr ?_
      cases hh : H b with
      | none => rfl
      | some o => exact absurd q (f1.dom b (by rw [hh]; simp))
  · rintro y ρ' Fs' cls od H' R4 f2 xr ⟨o, rfl, q⟩
    obtain ⟨R5, q5, n5⟩ := R4.pop lρ lσ
    have f3 : Fr Fs1 H1 Fs' H' := fr0.trans f2
    have f4 : Fr Fs1 H1 (putFs Fs' ks.length fun _ => False) H' := ⟨f3.keep, f3.dom, fun j b z => by
      by_cases hj : j = ks.length
      · subst hj; rw [putFs_self] at z; exact z.elim
      · rw [putFs_ne hj] at z; exact f3.fp j b z⟩
    obtain ⟨c1, dd, vs', c2, c3, c4, c5⟩ := xr
    have less : ∀ b, av O (putFs Fs' ks.length fun _ => False) b → av O Fs' b := fun b z => by
      rcases z with z | z | ⟨j, z⟩
      · exact .inl z
      · exact .inr (.inl z)
      · by_cases hj : j = ks.length
        · subst hj; rw [putFs_self] at z; exact z.elim
        · rw [putFs_ne hj] at z; exact .inr (.inr ⟨j, z⟩)
    exact (hx.step f1) y ρ1 _ cls od H' R5.less f4 ⟨c1, dd, vs', c2, c3, c4.mono (.less less), fun z => c5 (less _ z)⟩ q
theorem xMake (M : Mk K C g) (F : FnOk X.prog X.w K X.mg X.base CX n g fd ps (spOf K (.io (shI C) :: kp) .z sp)) (hr : Room (n + 1) X.A) (hm : X.mg x = some (.ref C)) (hb : Binds K fd ps []) (hxx : Passes CX X E) (h : PXc X K ks (fun _ => E) false (e :: es) sh t w) (ok : AOk ks [] kp sh) (hmu : muts kp sh = []) (hg : Gl X x := by rfl)
    (hdb : (x == ("__debug__" : Str)) = false := by decide) (he : starEach (e :: es) X.env = (false, eval e X.env) :: starEach es X.env := by rfl) (hpl : (backTo pos (starEach es X.env)).any (·.1) = false := by rfl) :
    PX X K ks (fun _ => E) false (.o (shI C)) (.Call (.Name x p) (e :: es) [] pos) (tMake C (spOf K (.io (shI C) :: kp) .z sp) [] E t) (wMake C sh sp w) := by
  cases h.hK
  exact ⟨rfl, pe_make M F hr hg hm hb .nil hxx h.pa hdb he hpl, snd_make h ok hmu⟩
theorem xMake0 (M : Mk K C g) (F : FnOk X.prog X.w K X.mg X.base CX n g fd ps (spOf K [.io (shI C)] .z sp)) (hr : Room (n + 1) X.A) (hm : X.mg x = some (.ref C)) (hb : Binds K fd ps []) (hxx : Passes CX X E) (hg : Gl X x := by rfl) (hdb : (x == ("__debug__" : Str)) = false := by decide) (hK : X.K = K := by rfl) :
    PX X K ks (fun _ => E) false (.o (shI C)) (.Call (.Name x p) [] [] pos) (tMake C (spOf K [.io (shI C)] .z sp) [] E tNil) (wMake C [] sp wNil) := by
  cases hK
  exact ⟨rfl, pe_make0 M F hr hg hm hb .nil hxx hdb, snd_make kNil .nil rfl⟩
end
theorem od_inAdd {K : PySem.W.Frag} : OpD K rAdd (dI0 fun i j => .int (i + j)) := fun A H x y dx dy Ψ Q hA rx ry hw hq => by
  unfold dI0 at hw
  split at hw
  · cases rx.int_inv; cases ry.int_inv
    exact ⟨_, _, rfl, rfl, hq _ _ H (Ext.refl H) (.int _) hw⟩
  · exact hw.elim
theorem od_inSub {K : PySem.W.Frag} : OpD K rSub (dI0 fun i j => .int (i - j)) := fun A H x y dx dy Ψ Q hA rx ry hw hq => by
  unfold dI0 at hw
  split at hw
  · cases rx.int_inv; cases ry.int_inv
    exact ⟨_, _, rfl, rfl, hq _ _ H (Ext.refl H) (.int _) hw⟩
  · exact hw.elim
theorem hom2 {ks : List SK} {i j : Nat} {s u : Shp} (h : (ks[i]? = some (SK.ow s) ∧ ks[j]? = some (SK.ow u)) ∨ (ks[i]? = some (SK.io s) ∧ ks[j]? = some (SK.io u))) :
    (∀ q ∈ [i, j], ∃ s, ks[q]? = some (SK.ow s)) ∨ (∀ q ∈ [i, j], ∃ s, ks[q]? = some (SK.io s)) := h.imp
  (fun h q hq => by
    simp only [List.mem_cons, List.not_mem_nil, or_false] at hq
    rcases hq with rfl | rfl
    · exact ⟨s, h.1⟩
    · exact ⟨u, h.2⟩)
  (fun h q hq => by
    simp only [List.mem_cons, List.not_mem_nil, or_false] at hq
    rcases hq with rfl | rfl
    · exact ⟨s, h.1⟩
    · exact ⟨u, h.2⟩)
/-! ### their laws for simp! only [] -/
section
variable {ρ : Env} {Ψ : D → Env → Prop} {Ξ : Exc → Env → Prop} {De : DEnds} {i : Nat} {f m : Str} {C : Addr} {wo we : WE} {w2 : W2} {kp : List SK} {sh : Sh} {sp : SpD} {wa : WA} {fs : List (Str × D)} {φ : Addr → List (Str × D) → Prop}
theorem wFld_eq : wFld i f ρ Ψ Ξ = (insAt ρ[i]? fun _ fs => ∃ d, fs.lookup f = some d ∧ Ψ d ρ) := rfl
theorem wFldZ_eq : wFldZ C f wo ρ Ψ Ξ = (wo ρ (fun d ρ' => insD d fun C' fs => C' = C ∧ ∃ d, fs.lookup f = some d ∧ Ψ d ρ') Ξ) := rfl
theorem wPutF_eq : wPutF i f we De ρ = (we ρ (fun d ρ' => insAt ρ'[i]? fun C fs => fs.length < 1000 ∧ De.nx (ρ'.set i (some (.ins C (dputF f d fs))))) De.xx) := rfl
theorem wAugF_eq : wAugF i f we w2 De ρ = (insAt ρ[i]? fun _ fs => ∃ x, fs.lookup f = some x ∧ we ρ (fun y ρ' => w2 x y fun z => insAt ρ'[i]? fun C fs => fs.length < 1000 ∧ De.nx (ρ'.set i (some (.ins C (dputF f z fs))))) De.xx) := rfl
theorem wMeth_eq : wMeth m i kp sh sp wa ρ Ψ Ξ = ((insAt ρ[i]? fun _ fs => fs.lookup m = none) ∧ wa ρ (fun ds ρ1 => filled ρ1 (some i :: sh) ∧ sp (fill ρ1 (some i :: sh) (.non :: ds)) (fun d os => Ψ d (outs kp (some i :: sh) os ρ1)) (fun x os => Ξ x (outs kp (some i :: sh) os ρ1))) Ξ) := rfl
theorem wMethZ_eq : wMethZ C m kp sh sp wo wa ρ Ψ Ξ = (wo ρ (fun d0 ρ0 => (insD d0 fun C' fs => C' = C ∧ fs.lookup m = none) ∧ wa ρ0 (fun ds ρ1 => filled ρ1 sh ∧ sp (d0 :: fill ρ1 sh ds) (fun d os => Ψ d (outs kp (none :: sh) os ρ1)) (fun x os => Ξ x (outs kp (none :: sh) os ρ1))) Ξ) Ξ) := rfl
theorem wMake_eq : wMake C sh sp wa ρ Ψ Ξ = (wa ρ (fun ds ρ1 => filled ρ1 sh ∧ sp (.ins C [] :: fill ρ1 sh ds) (fun d os => d = .non ∧ Ψ (os.headD (.ins C [])) ρ1) (fun x _ => Ξ x ρ1)) Ξ) := rfl
theorem insAt_ins : insAt (some (some (.ins C fs))) φ = φ C fs := rfl
theorem insD_ins : insD (.ins C fs) φ = φ C fs := rfl
theorem look_nil {g : Str} : ([] : List (Str × D)).lookup g = none := rfl
theorem look_cons {g h : Str} {d : D} : ((h, d) :: fs).lookup g = if g = h then some d else fs.lookup g := by
  rw [List.lookup_cons]
  by_cases e : g = h
  · subst e; simp
  · rw [if_neg e, show (g == h) = false from beq_eq_false_iff_ne.mpr e]
theorem dput_nil {g : Str} {d : D} : dputF g d [] = [(g, d)] := rfl
theorem dput_cons {g h : Str} {d x : D} : dputF g d ((h, x) :: fs) = if h = g then (h, d) :: fs else (h, x) :: dputF g d fs := rfl
end
end Fw

/-! Fw19: slices stored; more of lists. -/
namespace Fw
open PySem L2 PySem.Spec PyProof.Rows

/-! ### x[a:c] = e -/
def gSl (to ta tc : TE) : TG := fun v σ H Q => to σ H fun x H1 => ta σ H1 fun y H2 => tc σ H2 fun z H3 => ∃ (l b : Addr) (xs ys : List V) (i j : Int), x = .ref l ∧ v = .ref b ∧ y = .int i ∧ z = .int j ∧ H3 l = some (.lst xs) ∧ H3 b = some (.lst ys) ∧ l ≠ b ∧ 0 ≤ i ∧ i ≤ j ∧ j ≤ xs.length ∧ xs.length + ys.length ≤ sizeLine ∧
  Q σ (upd H3 l (.lst (xs.take i.toNat ++ ys ++ xs.drop j.toNat)))
section
variable {X : Cx} {o a c : Expr} {to ta tc : TE} {pos p2 : Pos}
theorem pg_sl (ho : PE X o to) (ha : PE X a ta) (hc : PE X c tc)
    (has : ∀ v, assign (.Subscript o (.Slice (some a) (some c) none p2) pos) X.env v = (do
      let ov ← holding [v] (eval o X.env)
      let iv ← holding [v, ov] (eval (.Slice (some a) (some c) none p2) X.env)
      standAt pos
      holding [v, ov, iv] (setItem ov iv v)
      release [iv, v, ov] []) := by intro _; rfl) : PG X (.Subscript o (.Slice (some a) (some c) none p2) pos) (gSl to ta tc) := by
  refine ⟨fun pins s σ H v u Q I r h => ?_⟩
  rw [has]
  refine wpAny_bind (wpAny_holding (thn (ho.run pins s σ H _ I h) fun ov s1 ⟨x, H1, I1, r1, q1⟩ => ?_))
  refine wpAny_bind (wpAny_holding ?_)
  refine wpAny_Slice ?_
  rw [evalPart_some, evalPart_some]
  refine thn (ha.run pins s1 σ H1 _ I1 q1) fun vl s2 ⟨y, H2, I2, r2, q2⟩ => thn (hc.run pins s2 σ H2 _ I2 q2) fun vu s3 ⟨z, H3, I3, r3, q3⟩ => ?_
  obtain ⟨l, b, xs, ys, i, j, rfl, rfl, rfl, rfl, e1, e2, ne, h0, h1, h2, hz, q⟩ := q3
  rw [evalPart_none]
  refine wpAny_pure ?_
  have I4 : Inv X pins σ H3 { s3 with heap := s3.heap.push { cls := .type "slice", data := .fields #[vl, vu, .none] } } := I3.kept (t' := s3.toks) fun b ob q => Heap.get?_push_of_some _ q
  obtain rfl : ov = Value.ref l := r1
  obtain rfl : u = Value.ref b := r
  refine wpAny_bind (wpAny_standAt (wpAny_bind (wpAny_holding ?_)))
  refine set_slice I4 e1 e2 ne (Heap.IsSliceOf.new ..) r2 r3 h0 h1 h2 hz fun s' I5 => ?_
  exact wpAny_release ⟨σ, _, I5, q⟩
end
def wPutS (i : Nat) (we wa wc : WE) : WS := fun De ρ => we ρ (fun d ρ1 => lstAt ρ1[i]? (fun _ => True) ∧ wa ρ1 (fun da ρ2 => wc ρ2 (fun dc ρ3 => lstAt ρ3[i]? fun xs => lstAt (some (some d)) fun ys => intAt da fun m => intAt dc fun n => 0 ≤ m ∧ m ≤ n ∧ n ≤ xs.length ∧ xs.length + ys.length ≤ sizeLine ∧
  De.nx (ρ3.set i (some (.lst (xs.take m.toNat ++ ys ++ xs.drop n.toNat))))) De.xx) De.xx) De.xx
section
variable {X : Cx} {K : PySem.W.Frag} {ks : List SK} {E : L2.St → XK} {rk kd : Kd} {pu : Bool} {e a b c : Expr} {te ta tb tc : TE} {we wa wb wc : WE} {pos p pos' p2 : Pos} {i j l : Nat} {x y z : Str}
theorem RpL.putS {K : PySem.W.Frag} {A : AS} {H : Hp} {vs us : List V} {xs ys : List D} (r : RpL K A H vs xs) (q : RpL K A H us ys) (m n : Nat) : RpL K A H (vs.take m ++ us ++ vs.drop n) (xs.take m ++ ys ++ xs.drop n) := ((r.take m).append q).append (r.drop n)
theorem sPutS (hk : Owns ks i shL) (h : PX X K ks E false (.o shL) e te we) (ha : PX X K ks E false .z a ta wa) (hc : PX X K ks E false .z c tc wc) (hN : X.N[i]? = some x := by rfl) (hv : Vis X.env.scope x := by first | exact Or.inl rfl | exact Or.inr (Or.inl rfl) | exact Or.inr (Or.inr rfl)) (hd : (x == ("__debug__" : Str)) = false := by decide)
    (hcd : (x == ("__classdict__" : Str)) = false := by decide)
    (has : ∀ v, assign (.Subscript (.Name x p) (.Slice (some a) (some c) none p2) pos') X.env v = (do
      let ov ← holding [v] (eval (.Name x p) X.env)
      let iv ← holding [v, ov] (eval (.Slice (some a) (some c) none p2) X.env)
      standAt pos'
      holding [v, ov, iv] (setItem ov iv v)
      release [iv, v, ov] []) := by intro _; rfl)
    (hs : swapsWithSole [.Subscript (.Name x p) (.Slice (some a) (some c) none p2) pos'] e pos.line X.env = pure false := by rfl) (hw : swappedStores [.Subscript (.Name x p) (.Slice (some a) (some c) none p2) pos'] e X.env = pure none := by rfl)
    (h1 : (assignEach [.Subscript (.Name x p) (.Slice (some a) (some c) none p2) pos'] X.env).map (·.2) = [assign (.Subscript (.Name x p) (.Slice (some a) (some c) none p2) pos') X.env] := by rfl) :
    QS X K ks E rk (.Assign [.Subscript (.Name x p) (.Slice (some a) (some c) none p2) pos'] e pos) (tAsg te (gSl (tVar i) ta tc)) (wPutS i we wa wc) := by
  cases h.hK
  refine ⟨rfl, ps_asg h.pe (pg_sl (pe_var hN hv hd hcd) ha.pe hc.pe has) hs hw h1, fun O Fs ρ σ H Dd Dh R hq L => ?_⟩
  refine h.snd O Fs ρ σ H _ Dd.xx _ R hq (fun d ρ1 Fs1 v H1 u1 f1 r1 p1 => ?_) L.lkx
  obtain ⟨Fv, R1, q1, n1⟩ := r1
  obtain ⟨z1, p1⟩ := p1
  rw [← lstAt_ex] at z1
  obtain ⟨xs0, e0, _⟩ := z1
  obtain ⟨l0, vs0, g0, hF0, k0, rl0⟩ := R1.lstAt hk e0
  refine ⟨.ref l0, g0, ?_⟩
  refine ha.snd (O.add Fv) Fs1 ρ1 σ H1 _ Dd.xx _ R1 p1 (fun da ρ2 Fs2 va H2 u2 f2 r2 p2 => ?_) ((L.lkx.step f1).add)
  refine hc.snd (O.add Fv) Fs2 ρ2 σ H2 _ Dd.xx _ r2.1 p2 (fun dc ρ3 Fs3 vc H3 u3 f3 r3 p3 => ?_) (((L.lkx.step f1).step f2).add)
  have q3 := Res.held R1 q1 (f2.trans f3)
  obtain ⟨b, us, ys, rfl, rfl, hFb, eb, rb⟩ := q3
  rw [← lstAt_ex] at p3
  obtain ⟨xs, e3, p3⟩ := p3
  obtain ⟨l, vs, g3, hF3, k3, rl3⟩ := r3.1.lstAt hk e3
  rw [g0] at g3
  cases g3
  rw [lstAt_some, ← intAt_ex] at p3
  obtain ⟨m, rfl, p3⟩ := p3
  rw [← intAt_ex] at p3
  obtain ⟨n, rfl, p3⟩ := p3
  obtain ⟨hm0, hmn, hn, hz, p3⟩ := p3
  have ra := r2.2
  have rc := r3.2
  cases ra
  cases rc
  have hne : l0 ≠ b := fun z => r3.1.fb i b (by rw [← z]; exact (hF3 _).mpr rfl) (.inr ((hFb b).mpr rfl))
  refine ⟨l0, b, vs, us, m, n, rfl, rfl, rfl, rfl, k3, eb, hne, hm0, hmn, by rw [rl3.length]; exact hn, by rw [rl3.length, rb.length]; exact hz, ?_⟩
  obtain ⟨R4, f4⟩ := r3.1.putL hk e3 g0 hF3 (rl3.putS rb m.toNat n.toNat)
  exact L.nx _ Fs3 σ _ R4.less (f1.trans (f2.trans (f3.trans f4))) p3
end
theorem wPutS_eq {i : Nat} {we wa wc : WE} {De : DEnds} {ρ : Env} : wPutS i we wa wc De ρ = (we ρ (fun d ρ1 => lstAt ρ1[i]? (fun _ => True) ∧ wa ρ1 (fun da ρ2 => wc ρ2 (fun dc ρ3 => lstAt ρ3[i]? fun xs => lstAt (some (some d)) fun ys => intAt da fun m => intAt dc fun n => 0 ≤ m ∧ m ≤ n ∧ n ≤ xs.length ∧ xs.length + ys.length ≤ sizeLine ∧
  De.nx (ρ3.set i (some (.lst (xs.take m.toNat ++ ys ++ xs.drop n.toNat))))) De.xx) De.xx) De.xx) := rfl
/-! ### -i, xs[::-1] -/
def dNeg (d : D) (Ψ : D → Prop) : Prop := match d with
  | .int i => Ψ (.int (-i))
  | _ => False
theorem dNeg_int {i : Int} {Ψ : D → Prop} : dNeg (.int i) Ψ = Ψ (.int (-i)) := rfl
def dRevL (d : D) (Ψ : D → Prop) : Prop := match d with
  | .lst xs => Ψ (.lst xs.reverse)
  | _ => False
theorem dRevL_lst {xs : List D} {Ψ : D → Prop} : dRevL (.lst xs) Ψ = Ψ (.lst xs.reverse) := rfl
section
variable {X : Cx} {K : PySem.W.Frag} {ks : List SK} {E : L2.St → XK} {kd : Kd} {pu : Bool} {a : Expr} {ta : TE} {wa : WE} {pos p1 p2 p3 : Pos} {k : Nat}
theorem xNeg (h : PX X K ks E pu kd a ta wa) (hk : kd.op := by trivial) : PX X K ks E pu .z (.UnaryOp .USub a pos) (tUn (rU fun i => .int (-i)) ta) (w1e dNeg wa) := by
  cases h.hK
  refine ⟨rfl, pe_un un_neg h.pe, fun O Fs ρ σ H Ψ Ξ Q R hw hq hx => ?_⟩
  refine h.snd O Fs ρ σ H _ Ξ _ R hw (fun d ρ' Fs' v H' u f r p => ?_) hx
  obtain ⟨R', y⟩ := r.rt hk
  unfold dNeg at p
  split at p
  · cases y.int_inv
    exact ⟨_, rfl, hq _ ρ' Fs' _ H' u f ⟨R', .int _⟩ p⟩
  · exact p.elim
theorem xRev (h : PX X K ks E pu kd a ta wa) (hk : kd.op := by trivial) : PX X K ks E pu (.o shL) (.Subscript a (.Slice none none (some (.UnaryOp .USub (.Constant (.int 1) k p1) p2)) p3) pos) (tRevL K ta) (w1e dRevL wa) := by
  cases h.hK
  refine ⟨rfl, pe_revL h.pe, fun O Fs ρ σ H Ψ Ξ Q R hw hq hx => ?_⟩
  refine h.snd O Fs ρ σ H _ Ξ _ R hw (fun d ρ' Fs' v H' u f r p => ?_) hx
  obtain ⟨R', y⟩ := r.rt hk
  unfold dRevL at p
  split at p
  · obtain ⟨q, vs, rfl, e1, r1⟩ := y.lst_inv
    refine ⟨q, vs, rfl, SqL.of e1, fun l hl => hq _ ρ' Fs' _ _ (u.ext (Ext.upd hl)) (f.trans (Ext.upd hl).fr) (res_new R' hl (fun a h => f.dom a h) r1.reverse) p⟩
  · exact p.elim
end
/-! ### xs.index(y) of flat items -/
def dIndex (x y : D) (Ψ : D → Prop) : Prop := match x with
  | .lst xs => y.flat = true ∧ xs.all D.flat = true ∧ ∃ j z, xs[j]? = some z ∧ eqV z.toV y.toV = true ∧ (∀ i, i < j → ∀ z', xs[i]? = some z' → eqV z'.toV y.toV = false) ∧ Ψ (.int (j : Nat))
  | _ => False
end Fw

/-! Fw20: dicts of ints and texts as keys: comprehensions, stores, deletions, their lists. -/
namespace Fw
open PySem L2 PySem.Spec PyProof.Rows

/-! ### data -/
def putD (kvs : List (Key × D)) (k : Key) (v : D) : List (Key × D) :=
  if (kvs.any fun kv => decide (kv.1 = k)) = true then kvs.map (fun kv => if kv.1 = k then (kv.1, v) else kv) else kvs ++ [(k, v)]
def dropD (kvs : List (Key × D)) (k : Key) : List (Key × D) := kvs.filter fun kv => decide (kv.1 ≠ k)
def keyV : Key → D
  | .inl i => .int i
  | .inr x => .str x
section
variable {K : PySem.W.Frag} {A : AS} {H : Hp}
theorem RpK.any {k : Key} : ∀ {vs : List (Key × V)} {ds : List (Key × D)}, RpK K A H vs ds → (vs.any fun kv => decide (kv.1 = k)) = (ds.any fun kv => decide (kv.1 = k))
  | _, _, .nil => rfl
  | _, _, .cons _ t => by rw [List.any_cons, List.any_cons, RpK.any t]
theorem RpK.map1 {k : Key} {v : V} {d : D} (h : Rp K A H v d) : ∀ {vs : List (Key × V)} {ds : List (Key × D)}, RpK K A H vs ds → RpK K A H (vs.map fun kv => if kv.1 = k then (kv.1, v) else kv) (ds.map fun kv => if kv.1 = k then (kv.1, d) else kv)
  | _, _, .nil => .nil
  | (kk, x) :: vs, (_, y) :: ds, .cons q t => by
    rw [List.map_cons, List.map_cons]
    by_cases e : kk = k
    · rw [if_pos e, if_pos e]; exact .cons h (RpK.map1 h t)
    · rw [if_neg e, if_neg e]; exact .cons q (RpK.map1 h t)
theorem RpK.append : ∀ {vs us : List (Key × V)} {ds es : List (Key × D)}, RpK K A H vs ds → RpK K A H us es → RpK K A H (vs ++ us) (ds ++ es)
  | _, _, _, _, .nil, q => q
  | _, _, _, _, .cons h t, q => .cons h (RpK.append t q)
theorem RpK.put {k : Key} {v : V} {d : D} {vs : List (Key × V)} {ds : List (Key × D)} (r : RpK K A H vs ds) (h : Rp K A H v d) : RpK K A H (putK vs k v) (putD ds k d) := by
  unfold putK putD
  rw [r.any]
  split
  · exact r.map1 h
  · exact r.append (.cons h .nil)
theorem RpK.drop {k : Key} : ∀ {vs : List (Key × V)} {ds : List (Key × D)}, RpK K A H vs ds → RpK K A H (dropK vs k) (dropD ds k)
  | _, _, .nil => .nil
  | (kk, x) :: vs, (_, y) :: ds, .cons q t => by
    have ih := RpK.drop (k := k) t
    unfold dropK dropD at ih ⊢
    by_cases e : kk = k
    · rw [List.filter_cons_of_neg (by simp [e]), List.filter_cons_of_neg (by simp [e])]; exact ih
    · rw [List.filter_cons_of_pos (by simp [e]), List.filter_cons_of_pos (by simp [e])]; exact .cons q ih
theorem rp_key (k : Key) : Rp K A H (L2.kV k) (keyV k) := by
  cases k with
  | inl i => exact .int i
  | inr x => exact .str x
theorem RpK.keys : ∀ {vs : List (Key × V)} {ds : List (Key × D)}, RpK K A H vs ds → RpL K A H (vs.map fun kv => L2.kV kv.1) (ds.map fun kv => keyV kv.1)
  | _, _, .nil => .nil
  | (kk, _) :: vs, _ :: ds, .cons _ t => .cons (rp_key kk) (RpK.keys t)
end

/-! ### list(d) -/
theorem call_list_dR {X : Cx} (hc : X.calm = true) : CallR X (.type "list") (fun xs H Q => ∃ p kvs, xs = [V.ref p] ∧ Rd H p (.dK kvs) ∧ ∀ q, H q = none → Q (.ref q) (upd H q (.lst (kvs.map fun kv => L2.kV kv.1)))) := by
  intro pins s σ H xs us Q I r h
  obtain ⟨p, kvs, rfl, hk, q⟩ := h
  obtain ⟨u, rfl, rx⟩ := vals1 r
  cases rx
  obtain ⟨z, lo, vs, rk, hd⟩ := dk_rd I.hok hk
  obtain ⟨ep, hat⟩ := hd.dictAt
  have hl : kvs.length = vs.length := Paired.length rk
  refine PySem.W.kdl_call (PySem.W.kdl_dict (knd := mixKind X.prog X.w) (kvs := vs) (ep := ep) lo) (I.ok.hd hc) hat (by rw [← hl]; exact z) fun h' tk acc' c' hkeep hS hacc => ?_
  have ok : ObjOk X.prog X.w (upd H s.heap.objs.size (.lst (kvs.map fun kv => L2.kV kv.1))) h' s.heap.objs.size (.lst (kvs.map fun kv => L2.kV kv.1)) := by
    refine ⟨by rw [List.length_map]; exact z, acc'.toList, c', ?_, by rw [Array.toArray_toList]; exact hS⟩
    have el : acc'.toList.length = acc'.size := by simp
    refine vals_of_at (by rw [List.length_map, el, hacc.1, hl]) fun j x w h1 h2 => ?_
    obtain ⟨k, y, hky, hi⟩ := hacc.2 j w (by rw [← Array.getElem?_toList]; exact h2)
    have e1 : (kvs.map (·.1))[j]? = some k := by rw [KV.keys rk, List.getElem?_map, hky]; rfl
    have e3 : (kvs.map fun kv => L2.kV kv.1) = (kvs.map (·.1)).map L2.kV := by rw [List.map_map]; rfl
    rw [e3, List.getElem?_map, e1] at h1
    cases h1
    exact keyIs_rel hi
  exact ⟨.ref s.heap.objs.size, _, I.laid hkeep (Nat.le_refl _) ok, rfl, q _ (I.hok.fresh (Nat.le_refl _))⟩
def dListA (d : D) (Ψ : D → Prop) : Prop := match d with
  | .lst xs => Ψ (.lst xs)
  | .tup xs => Ψ (.lst xs)
  | .scr xs => Ψ (.lst (xs.map .int))
  | .dk kvs => Ψ (.lst (kvs.map fun kv => keyV kv.1))
  | _ => False
abbrev rdListA (K : PySem.W.Frag) : List V → Hp → VK → Prop := fun xs H Q => rdList K xs H Q ∨ ∃ p kvs, xs = [V.ref p] ∧ Rd H p (.dK kvs) ∧ ∀ q, H q = none → Q (.ref q) (upd H q (.lst (kvs.map fun kv => L2.kV kv.1)))
theorem cr_listA {X : Cx} (hc : X.calm = true) : CallR X (.type "list") (rdListA X.K) := CallR.or call_list_of (call_list_dR hc)
theorem cn_listA {K : PySem.W.Frag} : CaN K (rdListA K) dListA := fun A H x d Ψ Q hA rx hw hq => by
  unfold dListA at hw
  split at hw
  · exact .inl (cn_list A H x _ Ψ Q hA rx hw hq)
  · exact .inl (cn_list A H x _ Ψ Q hA rx hw hq)
  · exact .inl (cn_list A H x _ Ψ Q hA rx hw hq)
  · obtain ⟨p, vs, rfl, e1, r1⟩ := rx.dk_inv
    exact .inr ⟨p, vs, rfl, e1, fun q hq' => hq _ _ q hq' r1.keys hw⟩
  · exact hw.elim

/-! ### {k: v for ..}, its parts pure -/
def wDcL (wg : WG) (wt : WB) (wk wv : WE) (vs : List Nat) : List D → List (Key × D) → Env → (List (Key × D) → Env → Prop) → Prop
  | [], acc, ρ, Ψ => Ψ acc ρ
  | d :: ds, acc, ρ, Ψ => wg d ρ fun ρ1 => wt ρ1 (fun b ρ2 => if b = true then wk ρ2 (fun y ρ3 => wv ρ3 (fun z ρ4 => acc.length < sizeLine ∧ ∃ k, y.key = some k ∧ wDcL wg wt wk wv vs ds (putD acc k z) (wipeE ρ4 vs) Ψ) (fun _ _ => False)) (fun _ _ => False) else wDcL wg wt wk wv vs ds acc (wipeE ρ2 vs) Ψ) (fun _ _ => False)
def wDcP (wi : WA) (wg : WG) (wt : WB) (wk wv : WE) (vs : List Nat) : WE := fun ρ Ψ Ξ => wi ρ (fun ds ρ1 => wDcL wg wt wk wv vs ds [] (wipeE ρ1 vs) fun acc _ => Ψ (.dk acc) ρ1) Ξ
theorem res_newK {K : PySem.W.Frag} {ks : List SK} {O : Gh} {Fs Fs' : Nat → AS} {ρ : Env} {σ : L2.St} {H H' : Hp} {vs : List (Key × V)} {ds : List (Key × D)} {p : Addr} (R : Repr K ks O Fs' ρ σ H) (hp : H p = none) (h0 : ∀ a, (H' a ≠ none → H a ≠ none)) (r : RpK K (av O Fs') H vs ds) : Res K ks O Fs H' (.o shK) ρ Fs' σ (.ref p) (.dk ds) (upd H p (.dK vs)) := by
  have e : Ext H (upd H p (.dK vs)) := Ext.upd hp
  have hn : H' p = none := by
    cases q : H' p with
    | none => rfl
    | some o => exact absurd hp (h0 p (by rw [q]; simp))
  refine ⟨fun a => a = p, R.add e (fun a z => by subst z; exact ⟨hp, by rw [upd_same]; simp⟩), ⟨p, vs, ds, rfl, rfl, fun _ => Iff.rfl, upd_same, ?_⟩, fun a z => ?_⟩
  · exact r.mono ⟨fun a o _ q => e.hc q, fun a z => (av_add_inv z).imp id fun q => by rw [q]; exact hp⟩
  · subst z
    exact ⟨fun q => R.od _ q hp, fun q => R.bd _ q hp, .inr hn⟩
section
variable {X : Cx} {K : PySem.W.Frag} {ks : List SK} {E : L2.St → XK} {rk kd : Kd} {pu fl pi pt pe : Bool} {tg iter kx vx c : Expr} {ifs : List Expr} {wi : TI} {wiD : WA} {g : TG} {wg : WG} {tt : TT} {wt : WB} {tk tv : TE} {wk wv : WE} {vs : List Nat} {scope : Scope} {own : List (Str × Nat)} {pos spos py : Pos} {i : Nat} {y : Str}
theorem snd_dcP (hi : PXi X K ks E true pi tg iter wi wiD) (hg : ∀ O Fs ρ σ H v d Ψ Q, Repr K ks O Fs ρ σ H → Rp K (av O Fs) H v d → wg d ρ Ψ → (∀ ρ' σ', Repr K ks O Fs ρ' σ' H → Ψ ρ' → Q σ' H) → g v σ H Q) (gm : GMono g) (go : GOnly g vs)
    (ht : SndB K ks EN true tt wt) (hk : Snd K ks EN true .z tk wk) (he : Snd K ks EN true .z tv wv) : Snd K ks E pi (.o shK) (tDc wi g tt tk tv vs) (wDcP wiD wg wt wk wv vs) := fun O Fs ρ σ H Ψ Ξ Q R hw hq hx => by
  refine hi.snd O Fs ρ σ H _ Ξ _ R hw (fun ds ρ1 Fs1 J H1 u1 f1 R1 it p => ?_) hx
  intro D hD
  have e0 : Ext H1 (upd H1 D (.dK [])) := Ext.upd hD
  have hDB : (O.add fun a => a = D).B D := .inr rfl
  let W : Nat → Hp → Prop := fun i H2 => i ≤ ds.length ∧ ∃ (ρ2 : Env) (av2 : List (Key × V)) (acc : List (Key × Fw.D)), Repr K ks (O.add fun a => a = D) Fs1 ρ2 (wipe σ vs) H2 ∧ Ext H1 H2 ∧ H2 D = some (.dK av2) ∧
      RpK K (av (O.add fun a => a = D) Fs1) H2 av2 acc ∧ wDcL wg wt wk wv vs (ds.drop i) acc ρ2 (fun acc _ => Ψ (.dk acc) ρ1)
  refine ⟨fun i m H2 => m = ds.length - i ∧ W i H2, ⟨ds.length, rfl, Nat.zero_le _, _, [], [], (R1.add e0 (fun a z => by subst z; exact ⟨hD, by rw [upd_same]; simp⟩)).wipe vs, e0, upd_same, .nil, by simpa using p⟩, ?_⟩
  rintro i m H2 ⟨rfl, hle, ρ2, av2, acc, R2, f2, hD2, ra, p2⟩
  have kp : Kp true (av O Fs1) (av (O.add fun a => a = D) Fs1) H1 H2 := ⟨fun a _ h => f2 a h, fun a z => (av_add_inv z).imp id fun z => by rw [z]; exact hD, fun a => R2.adom⟩
  obtain ⟨go1, stop⟩ := it i _ H2 kp
  by_cases hlt : i < ds.length
  · obtain ⟨hgo, hy⟩ := go1 ds[i] (by simp [hlt])
    refine .inr ⟨hgo, W (i + 1), fun H3 h3 => ⟨ds.length - (i + 1), by omega, rfl, h3⟩, fun x H3 y => ?_⟩
    obtain ⟨e2, rx⟩ := hy x H3 y
    have hD3 : H3 D = some (.dK av2) := by rw [e2 D (by rw [hD2]; simp), hD2]
    have ra3 := ra.mono e2.mo
    rw [List.drop_eq_getElem_cons hlt] at p2
    have gw := hg (O.add fun a => a = D) Fs1 ρ2 (wipe σ vs) H3 x _ _ (fun σ3 H4 => H4 = H3 ∧ ∃ ρ3, Repr K ks (O.add fun a => a = D) Fs1 ρ3 σ3 H3 ∧ wt ρ3 (fun b ρ2 => if b = true then wk ρ2 (fun y ρ3 => wv ρ3 (fun z ρ4 => acc.length < sizeLine ∧ ∃ k, y.key = some k ∧ wDcL wg wt wk wv vs (ds.drop (i + 1)) (putD acc k z) (wipeE ρ4 vs) fun acc _ => Ψ (.dk acc) ρ1) (fun _ _ => False)) (fun _ _ => False) else wDcL wg wt wk wv vs (ds.drop (i + 1)) acc (wipeE ρ2 vs) fun acc _ => Ψ (.dk acc) ρ1) (fun _ _ => False))
      (R2.ext e2) rx p2 (fun ρ3 σ3 R3 p3 => ⟨rfl, ρ3, R3, p3⟩)
    refine gm _ _ _ _ _ (fun σ3 H4 z => ?_) (go _ _ _ _ gw)
    obtain ⟨ew, rfl, ρ3, R3, p3⟩ := z
    rw [wipe_wipe] at ew
    refine ⟨ew, ?_⟩
    refine ht _ Fs1 ρ3 σ3 H4 _ (fun _ _ => False) _ R3 p3 (fun b ρ4 Fs4 H5 u4 f4 R4 p4 => ?_) (fun _ _ _ _ _ _ _ _ _ q => q.elim)
    obtain ⟨rfl, rfl, e4⟩ := u4 rfl
    have hD5 : H5 D = some (.dK av2) := by rw [e4 D (by rw [hD3]; simp), hD3]
    cases b with
    | false =>
      rw [if_neg Bool.false_ne_true] at p4 ⊢
      exact ⟨hlt, _, av2, acc, R4.rewipe ew, f2.trans (e2.trans e4), hD5, ra3.mono f4.mo, p4⟩
    | true =>
      rw [if_pos rfl] at p4 ⊢
      refine hk _ Fs4 ρ4 σ3 H5 _ (fun _ _ => False) _ R4 p4 (fun yd ρ5 Fs5 yv H6 u5 f5 r5 p5 => ?_) (fun _ _ _ _ _ _ _ _ _ q => q.elim)
      obtain ⟨rfl, rfl, e5⟩ := u5 rfl
      refine he _ Fs5 ρ5 σ3 H6 _ (fun _ _ => False) _ r5.1 p5 (fun zd ρ6 Fs6 zv H7 u6 f6 r6 p6 => ?_) (fun _ _ _ _ _ _ _ _ _ q => q.elim)
      obtain ⟨rfl, rfl, e6⟩ := u6 rfl
      obtain ⟨R6, rz⟩ := r6
      obtain ⟨p6, k, ek, p7⟩ := p6
      have ra6 := ((ra3.mono f4.mo).mono f5.mo).mono f6.mo
      have hD7 : H7 D = some (.dK av2) := by rw [e6 D (by rw [e5 D (by rw [hD5]; simp), hD5]; simp), e5 D (by rw [hD5]; simp), hD5]
      refine ⟨av2, k, (RT.of r5.2).key ek, hD7, by rw [ra6.length]; exact p6, hlt, _, putK av2 k zv, putD acc k zd, (R6.updB hDB).rewipe ew, ?_, upd_same, (ra6.put rz).mono (av_upd_mo (.inr (.inl hDB))), p7⟩
      intro a h
      rw [upd_ne (fun e => by rw [e] at h; exact h hD)]
      exact (f2.trans (e2.trans (e4.trans (e5.trans e6)))) a h
  · have e : i = ds.length := by omega
    subst e
    rw [List.drop_length] at p2
    refine .inl ⟨stop (Nat.le_refl _), ?_⟩
    have hn : H D = none := by
      cases q : H D with
      | none => rfl
      | some o => exact absurd hD (f1.dom D (by rw [q]; simp))
    have R3 : Repr K ks (O.add fun a => a = D) Fs1 ρ1 σ H2 := R1.add f2 (fun a z => by subst z; exact ⟨hD, by rw [hD2]; simp⟩)
    exact hq (.dk acc) ρ1 Fs1 (.ref D) H2 (fun z => let ⟨a, b, c⟩ := u1 z; ⟨a, b, c.trans f2⟩) (f1.trans f2.fr) ⟨fun a => a = D, R3, ⟨D, av2, acc, rfl, rfl, fun _ => Iff.rfl, hD2, ra⟩, fun a z => by
      subst z
      exact ⟨fun q => R.od _ q hn, fun q => R.bd _ q hn, .inr hn⟩⟩ p2
theorem dcp_snd (hi : PXi X K ks E true pi tg iter wi wiD) (hg : Blk X scope fun Y => QG Y K ks tg g wg) (gm : GMono g) (go : GOnly g (own.map (·.2))) (ht : Blk X scope fun Y => PBs Y K ks EN true ifs tt wt) (hk : Blk X scope fun Y => PX Y K ks EN true .z kx tk wk) (he : Blk X scope fun Y => PX Y K ks EN true .z vx tv wv) :
    Snd K ks E pi (.o shK) (tDc wi g tt tk tv (own.map (·.2))) (wDcP wiD wg wt wk wv (own.map (·.2))) := by
  obtain ⟨Y1, h1⟩ := hg.get
  obtain ⟨Y2, h2⟩ := ht.get
  obtain ⟨Y3, h3⟩ := he.get
  obtain ⟨Y4, h4⟩ := hk.get
  exact snd_dcP hi h1.snd gm go h2.snd h4.snd h3.snd
theorem xDcP (own : List (Str × Nat)) (hc : X.calm = true) (hN : X.N.Nodup) (hi : PXi X K ks E true pi tg iter wi wiD) (ok : BlkOk X.N X.env.scope scope own) (hg : Blk X scope fun Y => QG Y K ks tg g wg) (gm : GMono g) (go : GOnly g (own.map (·.2))) (ht : Blk X scope fun Y => PBs Y K ks EN true ifs tt wt) (hk : Blk X scope fun Y => PX Y K ks EN true .z kx tk wk) (he : Blk X scope fun Y => PX Y K ks EN true .z vx tv wv)
    (hs : ∀ x, foldedSetIterable iter X.env x = pure x := by intro _; rfl) : PX X K ks E pi (.o shK) (.DictComp kx vx [⟨tg, iter, ifs, 0⟩] scope pos) (tDc wi g tt tk tv (own.map (·.2))) (wDcP wiD wg wt wk wv (own.map (·.2))) := by
  cases hi.hK
  exact ⟨rfl, pe_dc hc hN hi.pi ok (fun s H C cl fp => (hg s H C cl fp).pg) (fun s H C cl fp => (ht s H C cl fp).pts) (fun s H C cl fp => (hk s H C cl fp).pe) (fun s H C cl fp => (he s H C cl fp).pe) hs, dcp_snd hi hg gm go ht hk he⟩
/-- y = {..} on one line, y a plain local -/
theorem ps_dcSet (hc : X.calm = true) (hN : X.N.Nodup) (hy : X.N[i]? = some y) (hyl : X.env.scope.names.lookup y = some .local)
    (hsw : swapsWith (.DictComp kx vx [⟨tg, iter, ifs, 0⟩] scope pos) (some (.Name y py)) spos.line X.env = pure true) (hi : PI X tg iter wi) (ok : BlkOk X.N X.env.scope scope own)
    (hg : Blk X scope fun Y => PG Y tg g) (ht : Blk X scope fun Y => PTs Y ifs tt) (hk : Blk X scope fun Y => PE Y kx tk) (he : Blk X scope fun Y => PE Y vx tv) (hs : ∀ x, foldedSetIterable iter X.env x = pure x) :
    PS X (.Assign [.Name y py] (.DictComp kx vx [⟨tg, iter, ifs, 0⟩] scope pos) spos) (tAsg (tDc wi g tt tk tv (own.map (·.2))) (gName i)) := by
  refine ⟨fun pins s σ H Dn I w0 => ?_⟩
  rw [exec_Assign_Name_used _ _ _ _ hsw]
  refine wpAny_bind (wpAny_standAt (wpAny_bind ?_))
  have w1 : tDc wi g tt tk tv (own.map (·.2)) σ H (fun x H1 => gName i x σ H1 Dn.nx) := w0
  show wpAny _ X.A (do let _ ← comprehension (.DictComp kx vx [⟨tg, iter, ifs, 0⟩] scope pos) scope X.env (firstIterPos [⟨tg, iter, ifs, 0⟩] pos) newDict false (eval iter X.env) (some (assign (.Name y py) X.env))) _ _ s
  refine wpAny_bind (thn (dc_core (Qf := fun _ t => SP X pins Dn .next t) hc hN I hi ok hg ht hk he hs w1 fun L C t m H' I' q hn f => ?_) fun _ t hq => wpAny_pure (wpAny_pure hq))
  show wpAny _ _ (assign (.Name y py) X.env (.ref L)) _ _ _
  refine wpAny_assign_Name (store_ok2 (v := V.ref L) I' hN hy (.inl hyl) rfl (fun t2 I2 ⟨a, sb, ha⟩ => ?_) (.inr hyl))
  obtain ⟨f0, f1, f2, f3, f4, f5⟩ := f
  have haC : C ≠ a := by
    rcases ha with z | z
    · rw [z]; exact f1
    · exact fun e => f4 y a z e.symm
  refine ⟨m, hn.sameBut sb haC, fun h3 sb3 => ⟨_, H', I2.turned (t' := t2.toks) (fun b o hb e => (sb3.2 b hb).trans e) f0 f1 f3 f4 f5, q⟩⟩
theorem sw_dc {gs : List Comprehension} {l : Nat} {env : PySem.Env} (hk : env.scope.kind = .function) (hy : env.scope.names.lookup y = some .local) (hl : (py.line == pos.line) = true)
    (ha : (scope.names.any fun (n, k) => n == y && (k == .local || k == .cell)) = false) : swapsWith (.DictComp kx vx gs scope pos) (some (.Name y py)) l env = pure true := by
  have k1 : env.kindOf y = some .local := hy
  have k2 : env.blockKind = .function := by unfold Env.blockKind; rw [hk]; rfl
  unfold swapsWith
  simp only [k1, k2, ha, Expr.pos, hl]
  rfl
theorem sDcG (own : List (Str × Nat)) {wl : WE} (hc : X.calm = true) (hN : X.N.Nodup) (hi : PI X tg iter wi) (ok : BlkOk X.N X.env.scope scope own) (hg : Blk X scope fun Y => QG Y K ks tg g wg) (ht : Blk X scope fun Y => PBs Y K ks EN pt ifs tt wt) (hk : Blk X scope fun Y => PX Y K ks EN pe .z kx tk wk) (he : Blk X scope fun Y => PX Y K ks EN pe .z vx tv wv)
    (hst : SndS K ks E rk (tAsg (tDc wi g tt tk tv (own.map (·.2))) (gName i)) (wSet i wl)) (hkf : X.env.scope.kind = .function) (hy : X.N[i]? = some y := by rfl) (hyl : X.env.scope.names.lookup y = some .local := by rfl)
    (hl : (py.line == pos.line) = true := by rfl) (ha : (scope.names.any fun (n, k) => n == y && (k == .local || k == .cell)) = false := by decide +kernel) (hp : pos.line = spos.line := by rfl) (hs : ∀ x, foldedSetIterable iter X.env x = pure x := by intro _; rfl) (hK : X.K = K := by rfl) :
    QS X K ks E rk (.Assign [.Name y py] (.DictComp kx vx [⟨tg, iter, ifs, 0⟩] scope pos) spos) (tAsg (tDc wi g tt tk tv (own.map (·.2))) (gName i)) (wSet i wl) := by
  cases hK
  exact ⟨rfl, ps_dcSet hc hN hy hyl (sw_dc hkf hyl hl ha) hi ok (fun s H C cl fp => (hg s H C cl fp).pg) (fun s H C cl fp => (ht s H C cl fp).pts) (fun s H C cl fp => (hk s H C cl fp).pe) (fun s H C cl fp => (he s H C cl fp).pe) hs, hst⟩
/-- .. in an owned slot -/
theorem sDcPO (own : List (Str × Nat)) (hc : X.calm = true) (hN : X.N.Nodup) (hi : PXi X K ks E true false tg iter wi wiD) (ok : BlkOk X.N X.env.scope scope own) (hg : Blk X scope fun Y => QG Y K ks tg g wg) (gm : GMono g) (go : GOnly g (own.map (·.2))) (ht : Blk X scope fun Y => PBs Y K ks EN true ifs tt wt) (hkx : Blk X scope fun Y => PX Y K ks EN true .z kx tk wk) (he : Blk X scope fun Y => PX Y K ks EN true .z vx tv wv)
    (hkf : X.env.scope.kind = .function) (hk : ks[i]? = some (.ow shK) := by rfl) (hy : X.N[i]? = some y := by rfl) (hyl : X.env.scope.names.lookup y = some .local := by rfl)
    (hl : (py.line == pos.line) = true := by rfl) (ha : (scope.names.any fun (n, k) => n == y && (k == .local || k == .cell)) = false := by decide +kernel) (hp : pos.line = spos.line := by rfl) (hs : ∀ x, foldedSetIterable iter X.env x = pure x := by intro _; rfl) :
    QS X K ks E rk (.Assign [.Name y py] (.DictComp kx vx [⟨tg, iter, ifs, 0⟩] scope pos) spos) (tAsg (tDc wi g tt tk tv (own.map (·.2))) (gName i)) (wSet i (wDcP wiD wg wt wk wv (own.map (·.2)))) := by
  cases hi.hK
  exact sDcG own hc hN hi.pi ok hg ht hkx he (snd_setO (dcp_snd hi hg gm go ht hkx he) hk) hkf hy hyl hl ha hp hs
/-- .. as plain data -/
theorem sDcP (own : List (Str × Nat)) (hc : X.calm = true) (hN : X.N.Nodup) (hi : PXi X K ks E true false tg iter wi wiD) (ok : BlkOk X.N X.env.scope scope own) (hg : Blk X scope fun Y => QG Y K ks tg g wg) (gm : GMono g) (go : GOnly g (own.map (·.2))) (ht : Blk X scope fun Y => PBs Y K ks EN true ifs tt wt) (hkx : Blk X scope fun Y => PX Y K ks EN true .z kx tk wk) (he : Blk X scope fun Y => PX Y K ks EN true .z vx tv wv)
    (hkf : X.env.scope.kind = .function) (hk : ks[i]? = some .z := by rfl) (hy : X.N[i]? = some y := by rfl) (hyl : X.env.scope.names.lookup y = some .local := by rfl)
    (hl : (py.line == pos.line) = true := by rfl) (ha : (scope.names.any fun (n, k) => n == y && (k == .local || k == .cell)) = false := by decide +kernel) (hp : pos.line = spos.line := by rfl) (hs : ∀ x, foldedSetIterable iter X.env x = pure x := by intro _; rfl) :
    QS X K ks E rk (.Assign [.Name y py] (.DictComp kx vx [⟨tg, iter, ifs, 0⟩] scope pos) spos) (tAsg (tDc wi g tt tk tv (own.map (·.2))) (gName i)) (wSet i (wDcP wiD wg wt wk wv (own.map (·.2)))) := by
  cases hi.hK
  exact sDcG own hc hN hi.pi ok hg ht hkx he (snd_set (dcp_snd hi hg gm go ht hkx he).toZ hk) hkf hy hyl hl ha hp hs
end
end Fw

/-! Fw21: dicts in slots changed; index; max by len. -/
namespace Fw
open PySem L2 PySem.Spec PyProof.Rows

def dkAt (d : Option (Option D)) (φ : List (Key × D) → Prop) : Prop := match d with
  | some (some (.dk xs)) => φ xs
  | _ => False
def keyAt (d : D) (φ : Key → Prop) : Prop := match d with
  | .int i => φ (.inl i)
  | .str x => φ (.inr x)
  | _ => False
section
variable {kvs : List (Key × D)} {φ : List (Key × D) → Prop} {ψ : Key → Prop}
theorem dkAt_some : dkAt (some (some (.dk kvs))) φ = φ kvs := rfl
theorem keyAt_int {i : Int} : keyAt (.int i) ψ = ψ (.inl i) := rfl
theorem keyAt_str {x : Str} : keyAt (.str x) ψ = ψ (.inr x) := rfl
theorem dkAt_ex {d : Option (Option D)} : (∃ xs, d = some (some (.dk xs)) ∧ φ xs) = dkAt d φ := by
  apply propext
  constructor
  · rintro ⟨xs, rfl, h⟩; exact h
  · intro h
    unfold dkAt at h
    split at h
    · exact ⟨_, rfl, h⟩
    · exact h.elim
theorem keyAt_ex {d : D} : (∃ k, d.key = some k ∧ ψ k) = keyAt d ψ := by
  apply propext
  constructor
  · rintro ⟨k, e, h⟩
    cases d <;> cases e <;> exact h
  · intro h
    cases d with
    | int i => exact ⟨_, rfl, h⟩
    | str x => exact ⟨_, rfl, h⟩
    | _ => exact h.elim
end
section
variable {K : PySem.W.Frag} {ks : List SK} {G : Gh} {Fs : Nat → AS} {ρ : Env} {σ : L2.St} {H : Hp}
theorem Repr.dkAt (R : Repr K ks G Fs ρ σ H) {i : Nat} {xs : List (Key × D)} (hk : Owns ks i shK) (h : ρ[i]? = some (some (.dk xs))) : ∃ p vs, σ[i]? = some (some (.ref p)) ∧ (∀ a, Fs i a ↔ a = p) ∧ H p = some (.dK vs) ∧ RpK K (av G Fs) H vs xs := by
  obtain ⟨v, h1, p, vs, ds, rfl, e, hF, h2, h3⟩ := R.own hk h
  cases e
  exact ⟨p, vs, h1, hF, h2, h3⟩
theorem Repr.putKV (R : Repr K ks G Fs ρ σ H) {i : Nat} {p : Addr} {xs ys : List (Key × D)} {us : List (Key × V)} (hk : Owns ks i shK) (h : ρ[i]? = some (some (.dk xs))) (hσ : σ[i]? = some (some (.ref p))) (hF : ∀ a, Fs i a ↔ a = p) (r : RpK K (av G Fs) H us ys) :
    Repr K ks G Fs (ρ.set i (some (.dk ys))) σ (upd H p (.dK us)) ∧ Fr Fs H Fs (upd H p (.dK us)) :=
  R.upO hk ((hF p).mpr rfl) hσ h ⟨p, us, ys, rfl, rfl, hF, upd_same, r.mono (av_upd_mo (.inr (.inr ⟨i, (hF p).mpr rfl⟩)))⟩
end

/-! ### d[k] = v, del d[a], del d[a], d[b] -/
def wPutK (i : Nat) (we wk : WE) : WS := fun De ρ => we ρ (fun d ρ1 => dkAt ρ1[i]? (fun _ => True) ∧ wk ρ1 (fun kd ρ2 => dkAt ρ2[i]? fun kvs => keyAt kd fun k => kvs.length < sizeLine ∧ De.nx (ρ2.set i (some (.dk (putD kvs k d))))) De.xx) De.xx
theorem wPutK_eq {i : Nat} {we wk : WE} {De : DEnds} {ρ : Env} : wPutK i we wk De ρ = we ρ (fun d ρ1 => dkAt ρ1[i]? (fun _ => True) ∧ wk ρ1 (fun kd ρ2 => dkAt ρ2[i]? fun kvs => keyAt kd fun k => kvs.length < sizeLine ∧ De.nx (ρ2.set i (some (.dk (putD kvs k d))))) De.xx) De.xx := rfl
def wDelK (i : Nat) (wk : WE) : WS := fun De ρ => dkAt ρ[i]? (fun _ => True) ∧ wk ρ (fun kd ρ2 => dkAt ρ2[i]? fun kvs => keyAt kd fun k => (valD kvs k).isSome = true ∧ De.nx (ρ2.set i (some (.dk (dropD kvs k))))) De.xx
theorem wDelK_eq {i : Nat} {wk : WE} {De : DEnds} {ρ : Env} : wDelK i wk De ρ = (dkAt ρ[i]? (fun _ => True) ∧ wk ρ (fun kd ρ2 => dkAt ρ2[i]? fun kvs => keyAt kd fun k => (valD kvs k).isSome = true ∧ De.nx (ρ2.set i (some (.dk (dropD kvs k))))) De.xx) := rfl
section
variable {X : Cx} {K : PySem.W.Frag} {ks : List SK} {E : L2.St → XK} {rk kd : Kd} {pu : Bool} {e a b o : Expr} {te ta tb to : TE} {we wa wb wo : WE} {pos p p2 p3 p4 apos cpos : Pos} {i : Nat} {x : Str}
theorem snd_putK (hk : Owns ks i shK) (h : Snd K ks E pu .z te we) (h2 : Snd K ks E pu .z tb wb) : SndS K ks E rk (sDPut (tVar i) tb te) (wPutK i we wb) := fun O Fs ρ σ H Dd Dh R hw L => by
  refine h O Fs ρ σ H _ Dd.xx _ R hw (fun d ρ1 Fs1 v H1 u f r q => ?_) L.lkx
  obtain ⟨q0, q⟩ := q
  rw [← dkAt_ex] at q0
  obtain ⟨xs, h1, _⟩ := q0
  obtain ⟨p, vs, g1, g2, g3, g4⟩ := r.1.dkAt hk h1
  refine ⟨.ref p, g1, h2 O Fs1 ρ1 σ H1 _ Dd.xx _ r.1 q (fun kd ρ2 Fs2 kv H2 u2 f2 r2 q2 => ?_) (L.step f).lkx⟩
  rw [← dkAt_ex] at q2
  obtain ⟨ys, q1, q2⟩ := q2
  rw [← keyAt_ex] at q2
  obtain ⟨k, ek, hl, q4⟩ := q2
  obtain ⟨p', us, g1', g2', g3', g4'⟩ := r2.1.dkAt hk q1
  rw [g1] at g1'
  cases g1'
  obtain ⟨R2, f3⟩ := r2.1.putKV hk q1 g1 g2' (g4'.put (k := k) (r.2.mono f2.mo))
  refine ⟨p, _, rfl, ?_, L.nx _ Fs2 σ _ R2 (f.trans (f2.trans f3)) q4⟩
  rw [(RT.of r2.2).key ek]
  exact DPut.k g3' (by rw [g4'.length]; exact hl)
theorem sPutK (hu : X.A.units + 64 < cLine) (hk : Owns ks i shK) (h : PX X K ks E false .z e te we) (h2 : PX X K ks E false .z b tb wb) (hN : X.N[i]? = some x := by rfl) (hv : Vis X.env.scope x := by first | exact Or.inl rfl | exact Or.inr (Or.inl rfl) | exact Or.inr (Or.inr rfl)) (hd : (x == ("__debug__" : Str)) = false := by decide) (hcd : (x == ("__classdict__" : Str)) = false := by decide)
    (hs : swapsWith e (some (.Subscript (.Name x p) b p2)) pos.line X.env = pure false := by rfl) :
    QS X K ks E rk (.Assign [.Subscript (.Name x p) b p2] e pos) (sDPut (tVar i) tb te) (wPutK i we wb) := by
  cases h.hK
  exact ⟨rfl, ps_dput (by omega) (pe_var hN hv hd hcd) h2.pe h.pe hs, snd_putK hk h.snd h2.snd⟩
theorem snd_delK (hk : Owns ks i shK) (h : Snd K ks E pu .z tb wb) : SndS K ks E rk (sDDel (tVar i) tb) (wDelK i wb) := fun O Fs ρ σ H Dd Dh R hw L => by
  obtain ⟨q0, hw⟩ := hw
  rw [← dkAt_ex] at q0
  obtain ⟨xs, h1, _⟩ := q0
  obtain ⟨p, vs, g1, g2, g3, g4⟩ := R.dkAt hk h1
  refine ⟨.ref p, g1, h O Fs ρ σ H _ Dd.xx _ R hw (fun kd ρ2 Fs2 kv H2 u2 f2 r2 q2 => ?_) L.lkx⟩
  rw [← dkAt_ex] at q2
  obtain ⟨ys, q1, q2⟩ := q2
  rw [← keyAt_ex] at q2
  obtain ⟨k, ek, hl, q4⟩ := q2
  obtain ⟨p', us, g1', g2', g3', g4'⟩ := r2.1.dkAt hk q1
  rw [g1] at g1'
  cases g1'
  obtain ⟨R2, f3⟩ := r2.1.putKV hk q1 g1 g2' (g4'.drop (k := k))
  exact ⟨p, us, k, rfl, g3', (RT.of r2.2).key ek, by rw [g4'.some]; exact hl, L.nx _ Fs2 σ _ R2 (f2.trans f3) q4⟩
def sDDel2 (td ta tb : TE) : TS := fun D => sDDel td ta { D with nx := sDDel td tb D }
theorem ps_ddel2 {o o2 a b : Expr} {td ta tb : TE} (ho : PE X o td) (ho2 : PE X o2 td) (ha : PE X a ta) (hb : PE X b tb) : PS X (.Delete [.Subscript o a p, .Subscript o2 b p2] pos) (sDDel2 td ta tb) := by
  refine ⟨fun pins s σ H D I h => ?_⟩
  refine wpAny_Delete (wpAny_deleteEach_cons (wpAny_delete_Subscript (thn (ho.run pins s σ H _ I h) fun u s1 ⟨x, H1, I1, rx, q1⟩ => thn (ha.run pins s1 σ H1 _ I1 q1) fun iv s2 ⟨y, H2, I2, ry, a, kvs, k, ex, e, ey, l, q2⟩ => ?_)))
  subst ex ey
  obtain rfl : u = Value.ref a := rx
  refine d_delItem I2 e ry l fun s3 I3 => wpAny_deleteEach_cons (wpAny_delete_Subscript (thn (ho2.run pins s3 σ _ _ I3 q2) fun u' s4 ⟨x', H4, I4, rx', q4⟩ => thn (hb.run pins s4 σ H4 _ I4 q4) fun iv' s5 ⟨y', H5, I5, ry', a', kvs', k', ex', e', ey', l', q5⟩ => ?_))
  subst ex' ey'
  obtain rfl : u' = Value.ref a' := rx'
  exact d_delItem I5 e' ry' l' fun s6 I6 => wpAny_deleteEach_nil ⟨σ, _, I6, q5⟩
def wDelK2 (i : Nat) (wa wb : WE) : WS := fun De => wDelK i wa { De with nx := wDelK i wb De }
theorem wDelK2_eq {i : Nat} {wa wb : WE} {De : DEnds} {ρ : Env} : wDelK2 i wa wb De ρ = wDelK i wa { De with nx := wDelK i wb De } ρ := rfl
theorem sDelK (hk : Owns ks i shK) (h : PX X K ks E false .z a ta wa) (hN : X.N[i]? = some x := by rfl) (hv : Vis X.env.scope x := by first | exact Or.inl rfl | exact Or.inr (Or.inl rfl) | exact Or.inr (Or.inr rfl)) (hd : (x == ("__debug__" : Str)) = false := by decide) (hcd : (x == ("__classdict__" : Str)) = false := by decide) :
    QS X K ks E rk (.Delete [.Subscript (.Name x p) a p2] pos) (sDDel (tVar i) ta) (wDelK i wa) := by
  cases h.hK
  exact ⟨rfl, ps_ddel (pe_var hN hv hd hcd) h.pe, snd_delK hk h.snd⟩
theorem snd_delK2 (hk : Owns ks i shK) (h : Snd K ks E pu .z ta wa) (h2 : Snd K ks E pu .z tb wb) : SndS K ks E rk (sDDel2 (tVar i) ta tb) (wDelK2 i wa wb) := fun O Fs ρ σ H Dd Dh R hw L =>
  snd_delK hk h O Fs ρ σ H _ _ R hw ⟨fun ρ' Fs' σ' H' R' f p => snd_delK hk h2 O Fs' ρ' σ' H' Dd Dh R' p (L.step f), L.bk, L.ct, L.rt, L.xx⟩
theorem sDelK2 (hk : Owns ks i shK) (h : PX X K ks E false .z a ta wa) (h2 : PX X K ks E false .z b tb wb) (hN : X.N[i]? = some x := by rfl) (hv : Vis X.env.scope x := by first | exact Or.inl rfl | exact Or.inr (Or.inl rfl) | exact Or.inr (Or.inr rfl)) (hd : (x == ("__debug__" : Str)) = false := by decide) (hcd : (x == ("__classdict__" : Str)) = false := by decide) :
    QS X K ks E rk (.Delete [.Subscript (.Name x p) a p2, .Subscript (.Name x p3) b p4] pos) (sDDel2 (tVar i) ta tb) (wDelK2 i wa wb) := by
  cases h.hK
  exact ⟨rfl, ps_ddel2 (pe_var hN hv hd hcd) (pe_var hN hv hd hcd) h.pe h2.pe, snd_delK2 hk h.snd h2.snd⟩
/-! ### xs.index(y) -/
def wIndex (wo we : WE) : WE := fun ρ Ψ Ξ => wo ρ (fun d ρ1 => lstAt (some (some d)) (fun _ => True) ∧ we ρ1 (fun y ρ2 => dIndex d y fun z => Ψ z ρ2) Ξ) Ξ
theorem wIndex_eq {wo we : WE} {ρ : Env} {Ψ : D → Env → Prop} {Ξ : Exc → Env → Prop} : wIndex wo we ρ Ψ Ξ = wo ρ (fun d ρ1 => lstAt (some (some d)) (fun _ => True) ∧ we ρ1 (fun y ρ2 => dIndex d y fun z => Ψ z ρ2) Ξ) Ξ := rfl
theorem snd_index (ho : Snd K ks E pu .z to wo) (he : Snd K ks E pu .z te we) : Snd K ks E pu .z (tBM K "list" (rIndex K) to (tCons te tNil)) (wIndex wo we) := fun O Fs ρ σ H Ψ Ξ Q R hw hq hx => by
  refine ho O Fs ρ σ H _ Ξ _ R hw (fun d ρ1 Fs1 v H1 u1 f1 r1 p1 => ?_) hx
  obtain ⟨q0, p1⟩ := p1
  rw [← lstAt_ex] at q0
  obtain ⟨xs, e0, _⟩ := q0
  cases e0
  obtain ⟨p, vs, rfl, e1, l1⟩ := (RT.of r1.2).lst_inv
  have s1 : SqL K H1 p vs := SqL.of e1
  refine ⟨.inl ⟨rfl, vs, s1⟩, he O Fs1 ρ1 σ H1 _ Ξ _ r1.1 p1 (fun y ρ2 Fs2 yv H2 u2 f2 r2 p2 => ?_) (hx.step f1)⟩
  obtain ⟨fy, fx, j, z, hj, hz, hno, hΨ⟩ := p2
  obtain ⟨p', vs', e', e2, l2⟩ := (RT.of (r1.2.mono f2.mo)).lst_inv
  cases e'
  have ey := r2.2.toV fy
  have ev := l2.toV fx
  subst ey ev
  refine ⟨p, _, y.toV, j, z.toV, rfl, rfl, SqL.of e2, flatV_toV fy, all_flatV fx, by rw [List.getElem?_map, hj]; rfl, hz, fun m z' hm hz' => ?_, ?_⟩
  · rw [List.getElem?_map] at hz'
    obtain ⟨w, hw, rfl⟩ := Option.map_eq_some_iff.mp hz'
    exact hno m hm w hw
  · exact hq _ ρ2 Fs2 _ H2 (u1.trans u2) (f1.trans f2) ⟨r2.1, .int _⟩ hΨ
theorem xIndex (ho : PX X K ks E pu .z o to wo) (he : PX X K ks E pu .z e te we) (hs : starEach [e] X.env = (false, eval e X.env) :: starEach [] X.env := by rfl)
    (hbase : attributeBase o "index" X.env (eval o X.env) = eval o X.env := by rfl)
    (hfew : ((backTo cpos (starEach [e] X.env)).all (fun x => !x.1) && (backToKw cpos (keywordEach [] X.env)).all (fun x => x.1.isSome) && decide ([e].length + ([] : List Keyword).length + (if ([] : List Keyword).isEmpty then 0 else 1) < 30)) = true := by rfl)
    (hline : (apos.endLine == cpos.line) = true := by rfl) (hplain : (backTo cpos (starEach [] X.env)).any (·.1) = false := by rfl) :
    PX X K ks E pu .z (.Call (.Attribute o "index" apos) [e] [] cpos) (tBM K "list" (rIndex K) to (tCons te tNil)) (wIndex wo we) := by
  cases ho.hK
  exact ⟨rfl, pe_bm PySem.F.plainAttrs_list PySem.F.slot_list_index PySem.F.type_list_index mt_index ho.pe (pa_cons he.pe pa_nil hs) hbase hfew hline hs hplain, snd_index ho.snd he.snd⟩
/-! ### max(xs, key=len), xs texts -/
def tMaxLen (K : PySem.W.Frag) (te : TE) : TE := fun σ H Q => te σ H fun x H1 => ∃ (a : Addr) (ys : List Str), x = .ref a ∧ SqL K H1 a (ys.map V.str) ∧ 0 < ys.length ∧ (∀ y, y ∈ ys → y.length ≤ sizeLine) ∧ ∀ m, m ∈ ys → (∀ y, y ∈ ys → y.length ≤ m.length) → Q (.str m) H1
theorem call_maxLen (hc : X.calm = true) {pins : List (Addr × Obj)} {s : Shared} {σ : L2.St} {H : Hp} {a : Addr} {ys : List Str} {Q : VK} (I : Inv X pins σ H s) (hs : SqL X.K H a (ys.map V.str)) (hn : 0 < ys.length) (hz : ∀ y, y ∈ ys → y.length ≤ sizeLine)
    (q : ∀ m, m ∈ ys → (∀ y, y ∈ ys → y.length ≤ m.length) → Q (.str m) H) : wpAny (model X.prog X.w) X.A (call (.builtin "max") [.ref a] [(Str.ofString "key", .builtin "len")]) (EP X pins σ Q) X.xe s := by
  obtain ⟨its, rv, hl, _⟩ := I.list hs
  have hS := rv.strs
  have hlen := hS.length
  refine call_max_walkKB (iter_anyList hl.isList fun s₂ e st hfp hlI => ?_)
  subst e
  have W := (Walks.list (prog := X.prog) (w := X.w) (A := X.A.in1) (I.ok.hd hc) s.heap.objs.size a hlI its.toArray).toS
  have at_ : ∀ i v, its.toArray[i]? = some v → ∃ y t, v = Value.str y t ∧ ys[i]? = some y := fun i v h => hS.item i v (by simpa using h)
  have hbz : ∀ b u, s.heap.get? b = some u → b < s.heap.objs.size := fun b u h => Heap.lt_size h
  refine ⟨_, _, _, _, _, _, _, fun s' => ∃ h' tk, s' = { s with heap := h', toks := tk } ∧ ∀ b u, s.heap.get? b = some u → h'.get? b = some u, fun i k _ => ∃ t, k = Value.int ((ys.getD i Str.empty).length : Nat) t, fun i j => decide (((ys.getD i Str.empty).length : Int) > (ys.getD j Str.empty).length), rfl, W, st, hfp, ?_, ⟨?_, ?_, ?_, ?_⟩, ⟨_, _, rfl, fun b u h => Heap.get?_push_of_some _ h⟩, ?_⟩
  · show 0 < its.toArray.size
    simp only [List.size_toArray]; omega
  · rintro s1 s' ⟨h', tk, rfl, k⟩ m
    refine ⟨s'.heap, s'.toks, ?_, fun b u h => m.heap b u ?_ (k b u h)⟩
    · obtain ⟨a1, a2, a3, a4, a5⟩ := s'
      have g1 := m.gens
      have g2 := m.drawn
      have g3 := m.os
      simp only at g1 g2 g3
      subst g1 g2 g3
      rfl
    · have := hbz b u h
      simp only [List.mem_cons, List.not_mem_nil, or_false]
      rintro (e | e)
      · have e2 : b = s.heap.objs.size + 1 := e.trans (Heap.size_push ..)
        have h3 : b < s.heap.objs.size := this
        exact absurd (e2 ▸ h3) (Nat.not_lt.mpr (Nat.le_succ _))
      · have h3 : b < s.heap.objs.size := this
        exact absurd (e ▸ h3) (Nat.lt_irrefl _)
  · rintro i k s1 s' h _
    exact h
  · rintro i v s1 o Q' E' hi hP ⟨h', tk, rfl, k⟩ hst hS' hQ
    obtain ⟨y, t, rfl, hy⟩ := at_ i v hP
    have hle : y.length ≤ sizeLine := hz y (List.mem_of_getElem? hy)
    have hn := L2.line63
    refine P.len_str (by omega) (hQ _ _ ⟨h', _, rfl, k⟩ hst hS' ⟨_, by rw [List.getD_eq_getElem?_getD, hy]; rfl⟩ fun _ _ h => h)
  · rintro i j ki kj s1 Q' E' _ ⟨t1, rfl⟩ ⟨t2, rfl⟩ hQ
    exact CmpOf.ints_gt (P := fun i v => ∃ t, v = .int ((ys.getD i Str.empty).length : Nat) t) (fun i => ((ys.getD i Str.empty).length : Int)) (fun i v h => h) i j _ _ _ _ _ ⟨t1, rfl⟩ ⟨t2, rfl⟩ hQ
  · rintro v s' hP ⟨h', tk, rfl, k⟩
    obtain ⟨y, t, rfl, hy⟩ := at_ _ v hP
    obtain ⟨h1, h2⟩ := argBest_gt (fun i => ((ys.getD i Str.empty).length : Int)) (its.toArray.size - 1)
    refine ⟨.str y, H, I.kept k, ⟨t, rfl⟩, q y (List.mem_of_getElem? hy) fun z hz => ?_⟩
    obtain ⟨j, hj, ej⟩ := List.getElem_of_mem hz
    have := h2 j (by simp only [List.size_toArray]; omega)
    have ej' : ys.getD j Str.empty = z := by rw [List.getD_eq_getElem?_getD, List.getElem?_eq_getElem hj, ej]; rfl
    have ey' : ys.getD (argBest (fun i j => decide (((ys.getD i Str.empty).length : Int) > (ys.getD j Str.empty).length)) (its.toArray.size - 1)) Str.empty = y := by rw [List.getD_eq_getElem?_getD, hy]; rfl
    rw [ej', ey'] at this
    omega
theorem callWith_kwB {env : PySem.Env} {M : Model} {A : Around} {E : Value → Shared → Prop} {s : Shared} {pos : Pos} {id : String} {e : Expr} {kn : Str} {kx : Expr} {kp : Pos} {Q : Value → Shared → Prop}
    (h : wpAny M A (spliced (backTo pos (starEach [e] env))) (fun vs s₁ => wpAny M A (eval kx env) (fun u s₂ => wpAny M A (call (.builtin id) vs [(kn, u)]) Q E s₂) E s₁) E s)
    (he : backTo pos (starEach [e] env) = (false, eval e env) :: backTo pos (starEach [] env) := by rfl)
    (hplain : (backTo pos (starEach [e] env)).any (·.1) = false := by rfl) :
    wpAny M A (callWith pos (.builtin id) [] (backTo pos (starEach [e] env)) (backToKw pos (keywordEach [⟨some kn, kx, kp⟩] env))) Q E s := by
  refine PyProof.Rows.callWith_kw (wpAny_mono h (fun vs s1 h1 => ?_) fun _ _ q => q) he hplain rfl rfl
  show wpAny _ _ (evalAll ((do let v ← eval kx env; standAt pos; pure v) :: (backToKw pos (keywordEach [] env)).map (·.2))) _ _ s1
  refine wpAny_evalAll_cons (wpAny_bind (wpAny_mono h1 (fun u s2 h2 => wpAny_bind (wpAny_standAt (wpAny_pure (wpAny_evalAll_nil h2)))) fun _ _ q => q))
theorem pe_maxLen (hc : X.calm = true) (hm : X.mg "max" = none) (hml : X.mg "len" = none) (hg : Gl X "max") (hgl : Gl X "len") (ha : PE X e te) (hv : bootBuiltins "max" = some (.builtin "max")) (hvl : bootBuiltins "len" = some (.builtin "len"))
    (hs : starEach [e] X.env = (false, eval e X.env) :: starEach [] X.env) (he : backTo cpos (starEach [e] X.env) = (false, eval e X.env) :: backTo cpos (starEach [] X.env)) (hplain : (backTo cpos (starEach [e] X.env)).any (·.1) = false) :
    PE X (.Call (.Name "max" p) [e] [⟨some "key", .Name "len" p2, p3⟩] cpos) (tMaxLen X.K te) := by
  refine ⟨fun pins s σ H Q I h => ?_⟩
  refine wpAny_Call_Name_kw (ld_blt I hg hm hv ?_ (by decide) (by decide))
  refine callWith_kwB (thn ((pa_cons ha pa_nil hs).run cpos pins s σ H (fun vs H1 => match vs with
    | [x] => ∃ (a : Addr) (ys : List Str), x = .ref a ∧ SqL X.K H1 a (ys.map V.str) ∧ 0 < ys.length ∧ (∀ y, y ∈ ys → y.length ≤ sizeLine) ∧ ∀ m, m ∈ ys → (∀ y, y ∈ ys → y.length ≤ m.length) → Q (.str m) H1
    | _ => False) I h) fun us s1 ⟨vs, H1, I1, r1, q1⟩ => ?_) he hplain
  dsimp only at q1
  split at q1
  · obtain ⟨a, ys, rfl, hq, hn, hz, q⟩ := q1
    obtain rfl := Vals.ref1 r1
    refine ld_blt I1 hgl hml hvl ?_ (by decide) (by decide)
    exact call_maxLen hc I1 hq hn hz q
  · exact q1.elim
def dMaxLen (d : D) (Ψ : D → Prop) : Prop := match d with
  | .lst xs => ∃ ys, D.strs xs = some ys ∧ 0 < ys.length ∧ (∀ y, y ∈ ys → y.length ≤ sizeLine) ∧ ∀ m, m ∈ ys → (∀ y, y ∈ ys → y.length ≤ m.length) → Ψ (.str m)
  | _ => False
theorem snd_maxLen (h : Snd K ks E pu kd te we) (hk : kd.op) : Snd K ks E pu .z (tMaxLen K te) (w1e dMaxLen we) := fun O Fs ρ σ H Ψ Ξ Q R hw hq hx => by
  refine h O Fs ρ σ H _ Ξ _ R hw (fun d ρ1 Fs1 v H1 u1 f1 r1 p1 => ?_) hx
  obtain ⟨R1, y⟩ := r1.rt hk
  unfold dMaxLen at p1
  split at p1
  · obtain ⟨ys, e, hn, hz, hm⟩ := p1
    rw [D.strs_inv e] at y
    obtain ⟨q, vs, rfl, e1, r2⟩ := y.lst_inv
    cases r2.strs_inv
    exact ⟨q, ys, rfl, SqL.of e1, hn, hz, fun m h1 h2 => hq _ ρ1 Fs1 _ H1 u1 f1 ⟨R1, .str _⟩ (hm m h1 h2)⟩
  · exact p1.elim
theorem xMaxLen (hc : X.calm = true) (hm : X.mg "max" = none) (hml : X.mg "len" = none) (h : PX X K ks E pu kd e te we) (hk : kd.op := by trivial) (hg : Gl X "max" := by rfl) (hgl : Gl X "len" := by rfl)
    (hv : bootBuiltins "max" = some (.builtin "max") := by decide +kernel) (hvl : bootBuiltins "len" = some (.builtin "len") := by decide +kernel)
    (hs : starEach [e] X.env = (false, eval e X.env) :: starEach [] X.env := by rfl) (he : backTo cpos (starEach [e] X.env) = (false, eval e X.env) :: backTo cpos (starEach [] X.env) := by rfl) (hplain : (backTo cpos (starEach [e] X.env)).any (·.1) = false := by rfl) :
    PX X K ks E pu .z (.Call (.Name "max" p) [e] [⟨some "key", .Name "len" p2, p3⟩] cpos) (tMaxLen K te) (w1e dMaxLen we) := by
  cases h.hK
  exact ⟨rfl, pe_maxLen hc hm hml hg hgl h.pe hv hvl hs he hplain, snd_maxLen h.snd hk⟩
end
theorem wDcP_eq {wi : WA} {wg : WG} {wt : WB} {wk wv : WE} {vs : List Nat} {ρ : Env} {Ψ : D → Env → Prop} {Ξ : Exc → Env → Prop} : wDcP wi wg wt wk wv vs ρ Ψ Ξ = wi ρ (fun ds ρ1 => wDcL wg wt wk wv vs ds [] (wipeE ρ1 vs) fun acc _ => Ψ (.dk acc) ρ1) Ξ := rfl
section
variable {kvs : List (Key × D)} {xs : List D} {Ψ : D → Prop}
theorem dMaxLen_lst : dMaxLen (.lst xs) Ψ = ∃ ys, D.strs xs = some ys ∧ 0 < ys.length ∧ (∀ y, y ∈ ys → y.length ≤ sizeLine) ∧ ∀ m, m ∈ ys → (∀ y, y ∈ ys → y.length ≤ m.length) → Ψ (.str m) := rfl
theorem dListA_lst : dListA (.lst xs) Ψ = Ψ (.lst xs) := rfl
theorem dListA_dk : dListA (.dk kvs) Ψ = Ψ (.lst (kvs.map fun kv => keyV kv.1)) := rfl
theorem dLen_dk : dLen (.dk kvs) Ψ = Ψ (.int kvs.length) := rfl
theorem dIx_dk {y : D} : dIx (.dk kvs) y Ψ = keyAt y fun k => ∃ d, valD kvs k = some d ∧ Ψ d := by
  rw [← keyAt_ex]
  unfold dIx
  apply propext
  constructor
  · rintro ⟨k, d, h1, h2, h3⟩; exact ⟨k, h1, d, h2, h3⟩
  · rintro ⟨k, h1, d, h2, h3⟩; exact ⟨k, d, h1, h2, h3⟩
theorem dInW_dk {y : Str} {neg : Bool} : dInW neg (.str y) (.dk kvs) Ψ = Ψ (.bl (if neg then !(valD kvs (.inr y)).isSome else (valD kvs (.inr y)).isSome)) := by
  show (∃ k, (D.str y).key = some k ∧ _) = _
  apply propext
  constructor
  · rintro ⟨k, h1, h2⟩; cases h1; exact h2
  · intro h; exact ⟨_, rfl, h⟩
theorem dIndex_lst {y : D} : dIndex (.lst xs) y Ψ = (y.flat = true ∧ xs.all D.flat = true ∧ ∃ j z, xs[j]? = some z ∧ eqV z.toV y.toV = true ∧ (∀ i, i < j → ∀ z', xs[i]? = some z' → eqV z'.toV y.toV = false) ∧ Ψ (.int (j : Nat))) := rfl
end
end Fw

/-! Fw22: an owned local handed over. -/
namespace Fw
open PySem L2 PySem.Spec PyProof.Rows
def wMove (i : Nat) : WE := fun ρ Ψ _ => ∃ d, ρ[i]? = some (some d) ∧ Ψ d (ρ.set i none)
theorem wMove_eq {i : Nat} {ρ : Env} {Ψ : D → Env → Prop} {Ξ : Exc → Env → Prop} : wMove i ρ Ψ Ξ = ∃ d, ρ[i]? = some (some d) ∧ Ψ d (ρ.set i none) := rfl
section
variable {X : Cx} {K : PySem.W.Frag} {ks : List SK} {E : L2.St → XK} {pos : Pos} {i : Nat} {s : Shp}
def offFs (Fs : Nat → AS) (i : Nat) : Nat → AS := fun j => if j = i then fun _ => False else Fs j
theorem offFs_le {Fs : Nat → AS} {i j : Nat} {a : Addr} (h : offFs Fs i j a) : j ≠ i ∧ Fs j a := by
  unfold offFs at h
  split at h
  · exact h.elim
  · exact ⟨‹_›, h⟩
theorem offFs_ne {Fs : Nat → AS} {i j : Nat} (h : j ≠ i) : offFs Fs i j = Fs j := if_neg h
theorem snd_move (hk : ks[i]? = some (.ow s)) : Snd K ks E false (.o s) (tVar i) (wMove i) := fun O Fs ρ σ H Ψ Ξ Q R hw hq hx => by
  obtain ⟨d, h1, h2⟩ := hw
  obtain ⟨v, h3, h4, h5⟩ := R.sl i _ d hk h1
  have hav : ∀ a, av (O.add (Fs i)) (offFs Fs i) a → av O Fs a := fun a z => by
    rcases z with z | (z | z) | ⟨j, z⟩
    · exact .inl z
    · exact .inr (.inl z)
    · exact .inr (.inr ⟨i, z⟩)
    · exact .inr (.inr ⟨j, (offFs_le z).2⟩)
  have m : Mo (av O Fs) (av (O.add (Fs i)) (offFs Fs i)) H H := .less hav
  refine ⟨v, h3, hq d (ρ.set i none) (offFs Fs i) v H (fun z => by cases z) ⟨fun _ _ _ => rfl, fun _ h => h, fun j a z => .inl ⟨j, (offFs_le z).2⟩⟩ ⟨Fs i, ?_, ?_, fun a ha => ⟨h5 a ha, R.fb i a ha, .inl ⟨i, ha⟩⟩⟩ h2⟩
  · refine ⟨by rw [List.length_set]; exact R.lρ, R.lσ, fun j j' a h h' => R.dj j j' a (offFs_le h).2 (offFs_le h').2, R.od, fun a z => z.elim (R.bd a) (R.fd i a), fun j a z q => q.elim (R.fb j a (offFs_le z).2) fun q => (offFs_le z).1 (R.dj j i a (offFs_le z).2 q), fun j a z => R.fd j a (offFs_le z).2, fun j k e g1 g2 => ?_⟩
    by_cases hj : i = j
    · subst hj
      rw [List.getElem?_set_self (List.getElem?_eq_some_iff.mp h1).1] at g2
      cases g2
    · have nj : j ≠ i := fun z => hj z.symm
      rw [List.getElem?_set_ne hj] at g2
      obtain ⟨v', g3, g4⟩ := R.sl j k e g1 g2
      refine ⟨v', g3, ?_⟩
      cases k with
      | z => exact Rp.mono m g4
      | t => exact g4.imp (Rp.mono m) fun ⟨r, p, e1, e2, e3, e4⟩ => ⟨r.mono m fun _ _ _ _ q => q, p, e1, e2, fun z => z.elim e3 (e4 i), fun j' z => e4 j' (offFs_le z).2⟩
      | ln s' => obtain ⟨F, r, n⟩ := g4; exact ⟨F, s'.mono r m fun _ _ => rfl, fun a ha => ⟨fun z => z.elim (n a ha).1 ((n a ha).2 i), fun j' z => (n a ha).2 j' (offFs_le z).2⟩⟩
      | ow s' =>
        refine ⟨?_, ?_⟩
        · rw [offFs_ne nj]; exact s'.mono g4.1 m fun _ _ => rfl
        · rw [offFs_ne nj]; exact g4.2
      | io s' =>
        refine ⟨?_, g4.2⟩
        rw [offFs_ne nj]; exact s'.mono g4.1 m fun _ _ => rfl
  · exact s.mono h4 m fun _ _ => rfl
theorem xMove (i : Nat) {x : Str} (hk : ks[i]? = some (.ow s) := by rfl) (hN : X.N[i]? = some x := by rfl) (hv : Vis X.env.scope x := by first | exact Or.inl rfl | exact Or.inr (Or.inl rfl) | exact Or.inr (Or.inr rfl)) (hd : (x == ("__debug__" : Str)) = false := by decide)
    (hcd : (x == ("__classdict__" : Str)) = false := by decide) (hK : X.K = K := by rfl) : PX X K ks E false (.o s) (.Name x pos) (tVar i) (wMove i) := by cases hK; exact ⟨rfl, pe_var hN hv hd hcd, snd_move hk⟩
end
end Fw

/-! Fw23: sets of texts, made by a comprehension of two clauses, sorted. -/
namespace Fw
open PySem PySem.Spec PyProof.Rows L2

/-! ### the texts of a table -/
def txOf (e : Int × Value) : Str := match e.2 with
  | .str x _ => x
  | _ => Str.empty
def TxEnt (w : World) (e : Int × Value) : Prop := ∃ x t, e.2 = Value.str x t ∧ e.1 = hashStr w x
/-- a set of just these texts at a, one that can be walked -/
def SetT (w : World) (h : Heap) (a : Addr) (l : List Str) : Prop :=
  ∃ o es ep t, h.get? a = some o ∧ o.ExactSet ∧ o.data = .set es ep t ∧ (∀ e ∈ es.toList, TxEnt w e) ∧ l.Nodup ∧ (es.toList.map txOf).Perm l ∧
    es.size < scanBound ∧ t.fits es.size = true ∧ Ris t.place.toList ∧ (w.params.followText "set-order" = true ∨ t.led = true)
section
variable {P : Program} {w : World} {h h' : Heap} {a : Addr} {l : List Str}
theorem SetT.at (R : SetT w h a l) (k : ∀ o, h.get? a = some o → h'.get? a = some o) : SetT w h' a l := by
  obtain ⟨o, es, ep, t, ho, r⟩ := R
  exact ⟨o, es, ep, t, k o ho, r⟩
theorem isS (x : Str) (u : Tok) : (strKind P w).is x (.str x u) = true := by
  show Value.isStrOf x (.str x u) = true
  simp [Value.isStrOf]
theorem txEnt_elems {L : List (Int × Value)} (g : ∀ e ∈ L, TxEnt w e) : ElemsOf (strKind P w) L := fun e he => by
  obtain ⟨x, t, h1, h2⟩ := g e he
  exact ⟨⟨x, by rw [h1]; exact isS x t, h2⟩, by rw [h1] <;> rfl⟩
theorem txEnt_is {e : Int × Value} (g : TxEnt w e) (x : Str) : (strKind P w).is x e.2 = true ↔ txOf e = x := by
  obtain ⟨y, t, h1, _⟩ := g
  have e1 : txOf e = y := by unfold txOf; rw [h1]
  rw [h1, e1]
  constructor
  · intro q; exact (strKind P w).inj _ _ _ (isS y t) q
  · rintro rfl; exact isS _ t
theorem SetT.setOf (R : SetT w h a l) : h.SetOf (strKind P w) a (fun x => decide (x ∈ l)) l.length := by
  obtain ⟨o, es, ep, t, ho, hx, hd, g, nd, hp, hb, hf, _⟩ := R
  refine ⟨o, es, ep, t, ho, hx, hd, txEnt_elems g, fun x => ?_, hb, hf, ?_⟩
  · rw [decide_eq_true_eq, ← hp.mem_iff, List.mem_map]
    constructor
    · rintro ⟨e, he, q⟩; exact ⟨e, he, (txEnt_is (g e he) x).mpr q⟩
    · rintro ⟨e, he, q⟩; exact ⟨e, he, (txEnt_is (g e he) x).mp q⟩
  · rw [← hp.length_eq, List.length_map, Array.length_toList]
theorem setT_fresh (w : World) (h : Heap) : SetT w (h.push { cls := .type "set", dict := none, data := .set #[] 0 (.fresh 0 0 (!w.params.followText "set-order")) }) h.objs.size [] := by
  refine ⟨_, #[], 0, _, Heap.get?_push_size _ rfl, ⟨rfl, rfl, rfl⟩, rfl, fun e he => by simp at he, by simp, List.Perm.refl _, by decide, by rfl, List.Pairwise.nil, ?_⟩
  show _ ∨ (!w.params.followText "set-order") = true
  cases w.params.followText "set-order" with
  | false => exact .inr rfl
  | true => exact .inl rfl
end

section
variable {P : Program} {w : World} {A : Around} {E : Value → Shared → Prop} {s : Shared} {a : Addr} {l : List Str}
/-- the last part of adding: the table stored, and laid anew where it is too full -/
theorem setT_tail {g : Bool → Sem Unit} (hg : ∀ (b : Bool) (s1 : Shared) (Q : Unit → Shared → Prop), Q () s1 → wpAny (model P w) A (g b) Q E s1)
    {o : Obj} {es : Array (Int × Value)} {ep : Nat} {t : SetTable} (ho : s.heap.get? a = some o) (hex : o.ExactSet) (hd : o.data = .set es ep t) {es1 : Array (Int × Value)} {t2 : SetTable}
    (g1 : ∀ e ∈ es1.toList, TxEnt w e) (nd : l.Nodup) (hp : (es1.toList.map txOf).Perm l) (hb : es1.size < scanBound) (hf : t2.fits es1.size = true) (hr : Ris t2.place.toList) (hl : w.params.followText "set-order" = true ∨ t2.led = true)
    {wasDummy : Bool} {R : Option Bool → Shared → Prop} (hR : ∀ h', Heap.SameBut a s.heap h' → SetT w h' a l → R (some true) { s with heap := h' }) :
    wpAny (model P w) A (do
        storeSet a es1 t2
        if (!wasDummy && t2.tooFull) = true then do
            g (relayAll t2 es1 (SetTable.grown es1.size)).2.2
            storeSet a (relayAll t2 es1 (SetTable.grown es1.size)).1 (relayAll t2 es1 (SetTable.grown es1.size)).2.1
            pure (some true)
          else pure (some true)) R E s := by
  have first := PpSet.storeB_at (es' := es1) (t' := t2) ho hd
  have same := Heap.SameBut.update s.heap a (Obj.putSet es1 t2)
  refine wpAny_bind (wpAny_storeSet_of ho hd ?_ (fits_of_scanBound hb))
  split
  · rcases hZ : relayAll t2 es1 (SetTable.grown es1.size) with ⟨es2, t3, gave⟩
    have pm := relayAll_perm t2 es1 (SetTable.grown es1.size)
    have f3 := relayAll_fits t2 es1 (SetTable.grown es1.size)
    have r3 := relayAll_ris t2 es1 (SetTable.grown es1.size)
    have l3 := relayAll_led t2 es1 (SetTable.grown es1.size)
    rw [hZ] at pm f3 r3 l3
    dsimp only at pm f3 r3 l3 ⊢
    have sz : es2.size = es1.size := by rw [← Array.length_toList, pm.length_eq, Array.length_toList]
    refine wpAny_bind (hg _ _ _ (wpAny_bind (wpAny_storeSet_of first rfl ?_ (fits_of_scanBound (sz ▸ hb)))))
    have second := PpSet.storeB_at (es' := es2) (t' := t3) first rfl
    exact wpAny_pure (hR _ (same.trans (Heap.SameBut.update _ a _)) ⟨_, es2, _, t3, second, hex, rfl, fun e he => g1 e (pm.mem_iff.mp he), nd, (pm.map txOf).trans hp, sz ▸ hb, f3, r3, hl.imp id fun z => l3.trans z⟩)
  · exact wpAny_pure (hR _ same ⟨_, es1, _, t2, first, hex, rfl, g1, nd, hp, hb, hf, hr, hl⟩)
def addS (l : List Str) (x : Str) : List Str := if x ∈ l then l else l ++ [x]
theorem setT_hashed {x : Str} {u : Tok} {Q : Bool → Shared → Prop} (R : SetT w s.heap a l) (room : l.length + 1 < scanBound) (hQ : ∀ b h', Heap.SameBut a s.heap h' → SetT w h' a (addS l x) → Q b { s with heap := h' }) :
    wpAny (model P w) A (setAddHashed a (.str x u) ((strKind P w).hash x)) Q E s := by
  obtain ⟨o, es, ep, t, ho, hex, hd, g, nd, hp, hb, hf, hr, hl⟩ := R
  have el : ElemsOf (strKind P w) es.toList := txEnt_elems g
  have sc : (Value.str x u).scannable = true := rfl
  unfold setAddHashed setAddHashedIn
  refine wpAny_holding (wpAny_bind (wpAny_setState_of ho hd hf ?_))
  dsimp only
  rw [byScan_of sc hb el]
  simp only [↓reduceIte]
  unfold setAddByScan
  refine wpAny_bind (wpAny_bind (wpAny_rule (wpAny_bind (wpAny_setScan_of (isS x u) ho hd hf el ?_))))
  cases hfi : List.findIdx? (fun e => (strKind P w).is x e.2) es.toList with
  | some j =>
    obtain ⟨hj, pj, _⟩ := List.findIdx?_eq_some_iff_getElem.mp hfi
    have hm : x ∈ l := hp.mem_iff.mp (List.mem_map.mpr ⟨_, List.getElem_mem hj, (txEnt_is (g _ (List.getElem_mem hj)) x).mp pj⟩)
    dsimp only
    refine wpAny_pure (wpAny_pure (hQ _ s.heap (Heap.SameBut.refl a s.heap) ?_))
    unfold addS
    rw [if_pos hm]
    exact ⟨o, es, ep, t, ho, hex, hd, g, nd, hp, hb, hf, hr, hl⟩
  | none =>
    have hn : x ∉ l := fun z => by
      obtain ⟨e, he, q⟩ := List.mem_map.mp (hp.mem_iff.mpr z)
      have c := List.findIdx?_eq_none_iff.mp hfi e he
      rw [(txEnt_is (g e he) x).mpr q] at c
      cases c
    have new : addS l x = l ++ [x] := if_neg hn
    rw [new] at hQ
    dsimp only
    rcases hZ : layNew t es ((strKind P w).hash x) (.str x u) with ⟨es1, t1, wasDummy, gave⟩
    have pm := layNew_perm t es ((strKind P w).hash x) (.str x u)
    have f1 := layNew_fits t es ((strKind P w).hash x) (.str x u)
    have r1 := layNew_ris t es ((strKind P w).hash x) (.str x u) hr
    have l1 := layNew_led t es ((strKind P w).hash x) (.str x u)
    rw [hZ] at pm f1 r1 l1
    dsimp only at pm f1 r1 l1 ⊢
    rw [Array.toList_push] at pm
    have g1 : ∀ e ∈ es1.toList, TxEnt w e := fun e he => (List.mem_append.mp (pm.mem_iff.mp he)).elim (g e) fun z => by
      rw [List.mem_singleton.mp z]
      exact ⟨x, u, rfl, rfl⟩
    have nd1 : (l ++ [x]).Nodup := List.nodup_append.mpr ⟨nd, by simp, fun y hy z hz => by
      rw [List.mem_singleton.mp hz]
      rintro rfl
      exact hn hy⟩
    have p1 : (es1.toList.map txOf).Perm (l ++ [x]) := (pm.map txOf).trans (by rw [List.map_append]; exact hp.append_right _)
    have sz : es1.size = l.length + 1 := by
      have := p1.length_eq
      rwa [List.length_map, Array.length_toList, List.length_append] at this
    have gaveway : ∀ (b : Bool) {s1 : Shared} {Q' : Unit → Shared → Prop}, Q' () s1 → wpAny (model P w) A (match b with | true => rule "set.scan.the-table-gave-way" | false => pure ()) Q' E s1 := fun b s1 Q' q => by
      cases b with
      | true => exact wpAny_rule q
      | false => exact wpAny_pure q
    have led : w.params.followText "set-order" = true ∨ t1.led = true := hl.imp id fun z => l1.trans z
    refine wpAny_bind (gaveway _ ?_)
    split
    · refine wpAny_bind ?_
      rw [hashByValue_scannable 8 sc]
      refine wpAny_pure (setT_tail ?_ ho hex hd g1 nd1 p1 (sz ▸ room) ?_ ?_ ?_ fun h' sb r => ?_)
      · intro b s1 Q' q; cases b <;> first | exact wpAny_pure q | exact wpAny_rule q
      · first | (split <;> first | exact f1 | exact SetTable.fits_plain_off f1) | exact f1
      · first | (split <;> exact r1) | exact r1
      · first | (split <;> exact led) | exact led
      · dsimp only; exact wpAny_pure (hQ _ h' sb r)
    · refine wpAny_bind (wpAny_pure ?_)
      simp only [↓reduceIte]
      refine setT_tail ?_ ho hex hd g1 nd1 p1 (sz ▸ room) f1 r1 led fun h' sb r => ?_
      · intro b s1 Q' q; cases b <;> first | exact wpAny_pure q | exact wpAny_rule q
      · dsimp only; exact wpAny_pure (hQ _ h' sb r)
theorem setT_add {x : Str} {u : Tok} {Q : Value → Shared → Prop} (R : SetT w s.heap a l) (room : l.length + 1 < scanBound) (hQ : ∀ h' tk, Heap.SameBut a s.heap h' → SetT w h' a (addS l x) → Q .none { s with heap := h', toks := tk }) :
    wpAny (model P w) A (call (.builtin "set.add") [.ref a, .str x u]) Q E s := by
  have hS : s.heap.SetOf (strKind P w) a (fun x => decide (x ∈ l)) l.length := R.setOf
  refine wpAny_call_entry PySem.F.slot_set_add hS.typeIs PySem.F.entry_set_add ?_ (PySem.F.args_set_add_2 _ _)
  unfold Builtin.«set.add» Builtin.Frozenset.oneOther
  simp only [List.isEmpty_nil, bind_assoc]
  unfold Builtin.Frozenset.addrOf setAdd
  refine wpAny_bind (wpAny_pure ?_)
  try dsimp only
  refine wpAny_bind (wpAny_pure ?_)
  try dsimp only
  refine wpAny_bind (wpAny_holding (wpAny_bind ((strKind P w).pyHash (isS x u) ?_)))
  refine setT_hashed (s := { s with toks := s.toks + 1 }) R room fun b h' sb r => ?_
  show wpAny _ _ (ret Value.none) _ _ _
  exact wpAny_pure ⟨_, rfl, hQ h' _ sb r⟩
end
/-! ### as a tracked thing -/
def SetTO (w : World) (a : Addr) (l : List Str) : HO := .ext fun h => SetT w h a l
theorem setTO_new {w : World} {P : Program} {H : Hp} {h : Heap} {a : Addr} {l : List Str} (R : SetT w h a l) : ObjOk P w H h a (SetTO w a l) := by
  have ⟨o, _, _, _, ho, _⟩ := R
  exact ⟨R, ⟨o, ho⟩, fun _ _ p k => SetT.at p k⟩
section
variable {X : Cx} {pins : List (Addr × Obj)} {σ : L2.St} {H : Hp} {s : Shared}
theorem setTO_get {a : Addr} {l : List Str} (I : Inv X pins σ H s) (ha : H a = some (SetTO X.w a l)) : SetT X.w s.heap a l := (I.hok a _ ha).1
theorem addT_ok {E : Value → Shared → Prop} {D : Addr} {l : List Str} {x : Str} {v : Value} {Q : Value → Shared → Prop} (I : Inv X pins σ H s) (hD : H D = some (SetTO X.w D l)) (rv : RelV (.str x) v) (room : l.length + 1 < scanBound)
    (h : ∀ s', Inv X pins σ (upd H D (SetTO X.w D (addS l x))) s' → Q .none s') : wpAny (model X.prog X.w) X.A (call (.builtin "set.add") [.ref D, v]) Q E s := by
  obtain ⟨u, rfl⟩ := rv
  refine setT_add (setTO_get I hD) room fun h' tk sb new => h _ ?_
  have he : ∃ q, h'.get? D = some q := by
    have ⟨o, _, _, _, ho, _⟩ := new
    exact ⟨o, ho⟩
  exact I.write (e := D) (t' := tk) (by rw [hD]; trivial) (.inl rfl) (fun b q hb hu => (sb.2 b hb).trans hu) he (setTO_new new)
end
end Fw

/-! Fw24: {elt for .. for ..} of texts. -/
namespace Fw
open PySem PySem.Spec PyProof.Rows L2

section
variable {prog : Program} {w : World} {A : Around} {R : Result → Shared → Prop} {s : Shared} {elt t0 i0 t1 i1 : Expr} {ifs0 ifs1 : List Expr} {scope : Scope} {pos : Pos} {it acc : Value} {env : PySem.Env}
/-- two clauses -/
abbrev gs2 (t0 i0 : Expr) (ifs0 : List Expr) (t1 i1 : Expr) (ifs1 : List Expr) : List Comprehension := [⟨t0, i0, ifs0, 0⟩, ⟨t1, i1, ifs1, 0⟩]
theorem set2_out (elt t0 i0 t1 i1 : Expr) (ifs0 ifs1 : List Expr) (scope : Scope) (pos : Pos) (it acc : Value) (env : PySem.Env) :
    compTurn (.SetComp elt (gs2 t0 i0 ifs0 t1 i1 ifs1) scope pos) 0 it acc env = (do
      standAt i0.pos
      match ← pyNext it with
      | none => pure (.done .next)
      | some v =>
        letOwnedTupleGo t0 it v
        assign t0 env v
        let mut ok := true
        for c in ifs0 do
          if ok then ok ← isTrue c env (eval c env)
        if ok then
          let x ← eval i1 env
          standAt i1.pos
          let x ← foldedSetIterable i1 env x
          let _ ← runOwn (.compStart (.SetComp elt (gs2 t0 i0 ifs0 t1 i1 ifs1) scope pos) 1 (← holding [x] (pyIter x)) acc env) env
        again (.compLoop (.SetComp elt (gs2 t0 i0 ifs0 t1 i1 ifs1) scope pos) 0 it acc env)) := by rfl
theorem set2_in (elt t0 i0 t1 i1 : Expr) (ifs0 ifs1 : List Expr) (scope : Scope) (pos : Pos) (it acc : Value) (env : PySem.Env) :
    compTurn (.SetComp elt (gs2 t0 i0 ifs0 t1 i1 ifs1) scope pos) 1 it acc env = (do
      standAt i1.pos
      match ← pyNext it with
      | none => pure (.done .next)
      | some v =>
        letOwnedTupleGo t1 it v
        assign t1 env v
        let mut ok := true
        for c in ifs1 do
          if ok then ok ← isTrue c env (eval c env)
        if ok then
          (do let v ← eval elt env; standAt elt.pos; let _ ← call (.builtin "set.add") [acc, v])
        again (.compLoop (.SetComp elt (gs2 t0 i0 ifs0 t1 i1 ifs1) scope pos) 1 it acc env)) := by rfl
/-- what a turn is to give: EE: where an error goes, K: where the next turn begins -/
abbrev setErr (M : Model) (A : Around) (env : PySem.Env) (R : Result → Shared → Prop) : Value → Shared → Prop := notedBy M A env fun e s' => R (.error e) s'
abbrev tests (c : List Expr) (env : PySem.Env) : Sem Bool := forIn c true fun c r => if r = true then do let ok ← isTrue c env (eval c env); pure (ForInStep.yield ok) else pure (ForInStep.yield r)
theorem set2_loop0 (hs : ∀ x, foldedSetIterable i1 env x = pure x) (I : Nat → Shared → Prop)
    (turn : ∀ n s, I n s → wpAny (model prog w) A (pyNext it) (fun r s1 => match r with
      | none => R (.ok .next) s1
      | some v => wpAny (model prog w) A (letOwnedTupleGo t0 it v) (fun _ s2 => wpAny (model prog w) A (assign t0 env v) (fun _ s3 => wpAny (model prog w) A (tests ifs0 env) (fun ok s4 =>
            if ok = true then wpAny (model prog w) A (eval i1 env) (fun x s5 => wpAny (model prog w) A (pyIter x) (fun it1 s6 =>
              codeAny (model prog w) A (.compStart (.SetComp elt (gs2 t0 i0 ifs0 t1 i1 ifs1) scope pos) 1 it1 acc env) (fun r s' => match r with
                | .ok _ => ∃ m, m < n ∧ I m s'
                | .error _ => False) s6) (setErr (model prog w) A env R) s5) (setErr (model prog w) A env R) s4
            else ∃ m, m < n ∧ I m s4) (setErr (model prog w) A env R) s3) (setErr (model prog w) A env R) s2) (setErr (model prog w) A env R) s1) (setErr (model prog w) A env R) s)
    (n : Nat) (h : I n s) : codeAny (model prog w) A (.compLoop (.SetComp elt (gs2 t0 i0 ifs0 t1 i1 ifs1) scope pos) 0 it acc env) R s := by
  refine codeAny_loop rfl I (fun n s hI => ?_) n h
  show wpAny _ A ((compTurn (.SetComp elt (gs2 t0 i0 ifs0 t1 i1 ifs1) scope pos) 0 it acc env).onRaise (fun x => do noteFrame x env; theTreesLotGoes x)) _ _ s
  rw [set2_out]
  refine wpAny_noted (wpAny_bind (wpAny_standAt (wpAny_bind (wpAny_mono (turn n s hI) (fun r s1 h1 => ?_) fun _ _ z => z))))
  rcases r with _ | v
  · exact wpAny_pure h1
  refine wpAny_bind (wpAny_mono h1 (fun _ s2 h2 => wpAny_bind (wpAny_mono h2 (fun _ s3 h3 => wpAny_bind (wpAny_mono h3 (fun ok s4 h4 => ?_) fun _ _ z => z)) fun _ _ z => z)) fun _ _ z => z)
  rcases ok with _ | _
  · exact wpAny_pure ⟨rfl, h4⟩
  refine wpAny_bind (wpAny_mono h4 (fun x s5 h5 => wpAny_bind (wpAny_standAt (wpAny_bind (wpAny_of_eq (hs x) (wpAny_bind (wpAny_holding (wpAny_mono h5 (fun it1 s6 h6 => ?_) fun _ _ z => z))))))) fun _ _ z => z)
  refine wpAny_bind (wpAny_runOwn ?_)
  rw [Around.mark_none]
  refine codeAny_mono h6 fun r s' hr => ?_
  rcases r with e | f
  · exact hr.elim
  · first
      | exact wpAny_pure ⟨rfl, hr⟩
      | exact wpAny_bind (wpAny_pure (wpAny_pure ⟨rfl, hr⟩))
theorem set2_loop1 (I : Nat → Shared → Prop)
    (turn : ∀ n s, I n s → wpAny (model prog w) A (pyNext it) (fun r s1 => match r with
      | none => R (.ok .next) s1
      | some v => wpAny (model prog w) A (letOwnedTupleGo t1 it v) (fun _ s2 => wpAny (model prog w) A (assign t1 env v) (fun _ s3 => wpAny (model prog w) A (tests ifs1 env) (fun ok s4 =>
            if ok = true then wpAny (model prog w) A (eval elt env) (fun x s5 => wpAny (model prog w) A (call (.builtin "set.add") [acc, x]) (fun _ s6 => ∃ m, m < n ∧ I m s6) (setErr (model prog w) A env R) s5) (setErr (model prog w) A env R) s4
            else ∃ m, m < n ∧ I m s4) (setErr (model prog w) A env R) s3) (setErr (model prog w) A env R) s2) (setErr (model prog w) A env R) s1) (setErr (model prog w) A env R) s)
    (n : Nat) (h : I n s) : codeAny (model prog w) A (.compLoop (.SetComp elt (gs2 t0 i0 ifs0 t1 i1 ifs1) scope pos) 1 it acc env) R s := by
  refine codeAny_loop rfl I (fun n s hI => ?_) n h
  show wpAny _ A ((compTurn (.SetComp elt (gs2 t0 i0 ifs0 t1 i1 ifs1) scope pos) 1 it acc env).onRaise (fun x => do noteFrame x env; theTreesLotGoes x)) _ _ s
  rw [set2_in]
  refine wpAny_noted (wpAny_bind (wpAny_standAt (wpAny_bind (wpAny_mono (turn n s hI) (fun r s1 h1 => ?_) fun _ _ z => z))))
  rcases r with _ | v
  · exact wpAny_pure h1
  refine wpAny_bind (wpAny_mono h1 (fun _ s2 h2 => wpAny_bind (wpAny_mono h2 (fun _ s3 h3 => wpAny_bind (wpAny_mono h3 (fun ok s4 h4 => ?_) fun _ _ z => z)) fun _ _ z => z)) fun _ _ z => z)
  rcases ok with _ | _
  · exact wpAny_pure ⟨rfl, h4⟩
  exact wpAny_bind (wpAny_bind (wpAny_mono h4 (fun x s5 h5 => wpAny_bind (wpAny_standAt (wpAny_bind (wpAny_mono h5 (fun _ s6 h6 => wpAny_pure (wpAny_pure ⟨rfl, h6⟩)) fun _ _ z => z)))) fun _ _ z => z))
theorem set2_start1 (h0 : codeAny (model prog w) A (.compLoop (.SetComp elt (gs2 t0 i0 ifs0 t1 i1 ifs1) scope pos) 1 it acc env) R s)
    (h : wpAny (model prog w) A (pyIter it) (fun it' s' => codeAny (model prog w) A (.compLoop (.SetComp elt (gs2 t0 i0 ifs0 t1 i1 ifs1) scope pos) 1 it' acc env) R s') (setErr (model prog w) A env R) s) :
    codeAny (model prog w) A (.compStart (.SetComp elt (gs2 t0 i0 ifs0 t1 i1 ifs1) scope pos) 1 it acc env) R s := by
  refine codeAny_of_tree ?_
  show wpAny _ _ ((compStart (.SetComp elt (gs2 t0 i0 ifs0 t1 i1 ifs1) scope pos) 1 it acc env).onRaise (fun x => do noteFrame x env; standAt theWindowsPlace)) _ _ s
  refine wpAny_notedAt ?_
  unfold compStart
  show wpAny _ _ (ask >>= _) _ _ s
  refine wpAny_bind (wpAny_askSetting (wpAny_ite ?_))
  split
  · first
      | exact wpAny_bind (wpAny_pure (wpAny_pure (And.intro rfl h0)))
      | exact wpAny_pure (And.intro rfl h0)
  · first
      | exact wpAny_bind (wpAny_rule (wpAny_bind (wpAny_standAt (wpAny_bind (wpAny_mono h (fun it' s' z => wpAny_pure (And.intro rfl z)) fun _ _ z => z)))))
      | (refine wpAny_bind (wpAny_rule ?_); show wpAny _ _ (standAt i1.pos >>= _) _ _ s; exact wpAny_bind (wpAny_standAt (wpAny_bind (wpAny_mono h (fun it' s' z => wpAny_pure (And.intro rfl z)) fun _ _ z => z))))
end

section
variable {X : Cx}
/-- what the inner clause's loop is to give, from the slots σ2: K where it ends -/
def inT (w : World) (D : Addr) (J1 : It) (g1 : TG) (tt1 : TT) (te : TE) (vs1 : List Nat) (σ2 : L2.St) (K : Hp → Prop) (H4 : Hp) : Prop :=
  ∃ W1 : Nat → Nat → Hp → Prop, (∃ m, W1 0 m H4) ∧ ∀ j k H, W1 j k H → (J1.stop j H ∧ K H) ∨ (J1.go j H ∧ ∃ N1 : Hp → Prop, (∀ H', N1 H' → ∃ k', k' < k ∧ W1 (j + 1) k' H') ∧
    ∀ x H', J1.yld j H x H' → g1 x (wipe σ2 vs1) H' fun σ3 H5 => wipe σ3 vs1 = wipe σ2 vs1 ∧ tt1 σ3 H5 fun b H6 => if b = true then te σ3 H6 fun y H7 => ∃ (x : Str) (l : List Str), y = .str x ∧ H7 D = some (SetTO w D l) ∧ l.length + 1 < scanBound ∧ N1 (upd H7 D (SetTO w D (addS l x))) else N1 H6)
def tSc2 (w : World) (wi : TI) (g : TG) (tt : TT) (wi1 : TI) (g1 : TG) (tt1 : TT) (te : TE) (vs vs1 : List Nat) : TE := fun σ H Q => wi σ H fun J H1 => ∀ D, H1 D = none → ∃ W : Nat → Nat → Hp → Prop, (∃ m, W 0 m (upd H1 D (SetTO w D []))) ∧ ∀ i m H, W i m H →
  (J.stop i H ∧ Q (.ref D) H) ∨ (J.go i H ∧ ∃ Nx : Hp → Prop, (∀ H', Nx H' → ∃ m', m' < m ∧ W (i + 1) m' H') ∧ ∀ x H', J.yld i H x H' → g x (wipe σ vs) H' fun σ2 H2 => wipe σ2 vs = wipe σ vs ∧ tt σ2 H2 fun b H3 =>
    if b = true then wi1 σ2 H3 fun J1 H4 => inT w D J1 g1 tt1 te vs1 σ2 Nx H4 else Nx H3)
theorem sc2_core {pins : List (Addr × Obj)} {s : Shared} {σ : L2.St} {H : Hp} {Q : VK} {elt tg iter tg1 iter1 : Expr} {ifs ifs1 : List Expr} {scope : Scope} {own : List (Str × Nat)} {vs1 : List Nat} {pos pos' : Pos} {wi wi1 : TI} {g g1 : TG} {tt tt1 : TT} {te : TE} {use : Option (Value → Sem Unit)} {Qf : Value → Shared → Prop}
    (hc : X.calm = true) (hN : X.N.Nodup) (I : Inv X pins σ H s) (hi : PI X tg iter wi) (ok : BlkOk X.N X.env.scope scope own) (hv : ∀ i ∈ vs1, i ∈ own.map (·.2))
    (hg : Blk X scope fun Y => PG Y tg g) (ht : Blk X scope fun Y => PTs Y ifs tt) (he : Blk X scope fun Y => PE Y elt te) (hs : ∀ x, foldedSetIterable iter X.env x = pure x)
    (hi1 : Blk X scope fun Y => PI Y tg1 iter1 wi1) (hg1 : Blk X scope fun Y => PG Y tg1 g1) (ht1 : Blk X scope fun Y => PTs Y ifs1 tt1) (hs1 : ∀ env x, foldedSetIterable iter1 env x = pure x)
    (h : tSc2 X.w wi g tt wi1 g1 tt1 te (own.map (·.2)) vs1 σ H Q)
    (hRR : ∀ D C s' m H', Inv X pins σ H' s' → Q (.ref D) H' → s'.heap.Ns C m → FpOk X pins H' C → compPost (model X.prog X.w) X.A X.xe use Qf (.ref D) C (.ok .next) s') :
    wpAny (model X.prog X.w) X.A (comprehension (.SetComp elt (gs2 tg iter ifs tg1 iter1 ifs1) scope pos) scope X.env pos' (newSet (.type "set")) false (eval iter X.env) use) Qf X.xe s := by
  have hfree : ∀ y ∈ scope.names, y.2 = .free → ∃ c, X.env.cells.lookup y.1 = some c := fun y hy e => (ok.free y hy e).elim (fun k => I.ok.has _ (.inl k)) fun k => I.ok.has _ (.inr k)
  refine wpAny_comprehension_free (use := use) rfl hs (closure_ok hfree) ok.kind (fun y hy e => by rw [ok.uniq y hy, e]) (thn (hi.run pins s σ H _ I h) fun xv s1 hx => thn hx fun itv s2 h2 => ?_)
  obtain ⟨it, fp, tn, J, H2, rfl, I2, T, st2, f2, q⟩ := h2
  refine PpSet.newSet_ok (newEnv_comp ?_)
  obtain ⟨D, hD⟩ : ∃ D, s2.heap.objs.size = D := ⟨_, rfl⟩
  rw [hD]
  obtain ⟨W, ⟨m0, w0⟩, turn⟩ := q D (I2.hok.fresh (Nat.le_of_eq hD))
  obtain ⟨s3, hs3⟩ : ∃ s3 : Shared, s3 = { s2 with heap := s2.heap.push { cls := .type "set", dict := none, data := .set #[] 0 (.fresh 0 0 (!X.w.params.followText "set-order")) } } := ⟨_, rfl⟩
  rw [← hs3]
  have h3 : s3.heap = s2.heap.push { cls := .type "set", dict := none, data := .set #[] 0 (.fresh 0 0 (!X.w.params.followText "set-order")) } := by rw [hs3]
  have I3 : Inv X pins σ (upd H2 D (SetTO X.w D [])) s3 := by
    rw [hs3]
    refine I2.laid (t' := s2.toks) (fun b o e => Heap.get?_push_of_some _ e) (Nat.le_of_eq hD) ?_
    rw [← hD]
    exact setTO_new (setT_fresh X.w _)
  obtain ⟨H3, hH3⟩ : ∃ H3, upd H2 D (SetTO X.w D []) = H3 := ⟨_, rfl⟩
  have f3 : ∀ b ∈ fp, FpOk X pins H3 b ∧ b < s3.heap.objs.size := fun b hb => by
    obtain ⟨o, e, _⟩ := T.obj _ _ st2 b hb
    have hlt := Heap.lt_size e
    refine ⟨⟨?_, (f2 b hb).2⟩, by rw [h3, Heap.size_push]; exact Nat.lt_succ_of_lt hlt⟩
    rw [← hH3, upd_ne (by rw [← hD]; exact Nat.ne_of_lt hlt)]
    exact (f2 b hb).1
  have st3 : tn 0 s3.heap := T.keep _ _ _ st2 fun b _ o e => by rw [h3]; exact Heap.get?_push_of_some _ e
  rw [hH3] at I3 w0
  have I4 := block_start I3 ok hN f3
  obtain ⟨ce, hce⟩ : ∃ ce, compEnvC scope (cellsFrom (s3.heap.objs.size + 1) scope.names (cloFrom X.env.cells scope.names [])) s3.heap.objs.size X.env = ce := ⟨_, rfl⟩
  show codeAny _ _ (.compStart (.SetComp elt (gs2 tg iter ifs tg1 iter1 ifs1) scope pos) 0 (.ref it) (.ref D) (compEnvC scope (cellsFrom (s3.heap.objs.size + 1) scope.names (cloFrom X.env.cells scope.names [])) s3.heap.objs.size X.env)) (compPost (model X.prog X.w) X.A X.xe use Qf (.ref D) s3.heap.objs.size) { s3 with heap := pushCells (s3.heap.push { cls := .type "dict", data := .dict #[] }) scope.names }
  have pg := hg s3 H3 s3.heap.objs.size (cellsFrom (s3.heap.objs.size + 1) scope.names (cloFrom X.env.cells scope.names [])) fp
  have pt := ht s3 H3 s3.heap.objs.size (cellsFrom (s3.heap.objs.size + 1) scope.names (cloFrom X.env.cells scope.names [])) fp
  have pe := he s3 H3 s3.heap.objs.size (cellsFrom (s3.heap.objs.size + 1) scope.names (cloFrom X.env.cells scope.names [])) fp
  have pi1 := hi1 s3 H3 s3.heap.objs.size (cellsFrom (s3.heap.objs.size + 1) scope.names (cloFrom X.env.cells scope.names [])) fp
  have pg1 := hg1 s3 H3 s3.heap.objs.size (cellsFrom (s3.heap.objs.size + 1) scope.names (cloFrom X.env.cells scope.names [])) fp
  have pt1 := ht1 s3 H3 s3.heap.objs.size (cellsFrom (s3.heap.objs.size + 1) scope.names (cloFrom X.env.cells scope.names [])) fp
  have cL : ce.locals = s3.heap.objs.size := by rw [← hce] <;> rfl
  rw [hce] at I4 pg pt pe pi1 pg1 pt1 ⊢
  have nfp : ∀ b ∈ fp, H3 b = none := fun b hb => (f3 b hb).1.1
  obtain ⟨s4, hs4⟩ : ∃ s4 : Shared, ({ s3 with heap := pushCells (s3.heap.push { cls := .type "dict", data := .dict #[] }) scope.names } : Shared) = s4 := ⟨_, rfl⟩
  rw [hs4] at I4 ⊢
  have st4 : tn 0 s4.heap := T.keep _ _ _ st3 fun b _ o e => by rw [← hs4]; exact pushCells_keeps _ _ _ _ (Heap.get?_push_of_some _ e)
  -- the block
  let Y := X.blk s3 H3 scope ce fp
  let τ := wipe σ (own.map (·.2))
  have still : ∀ {σ' : L2.St} {H' : Hp} {s' : Shared}, Inv Y [] σ' H' s' → (∀ b ∈ fp, H' b = none) → ∀ b ∈ fp, FpOk Y [] H' b := fun {σ' H' s'} I' hn b hb =>
    ⟨hn b hb, (I'.ok.exf b hb).1, I'.ok.exfs b hb, .inl hb, fun x c e => (I'.ok.exf b hb).2 x c e, fun p hp => absurd (show p ∈ ([] : List (Addr × Obj)) ++ [] from hp) (by simp)⟩
  let St0 : Nat → Shared → Prop := fun n s' => ∃ i H', Inv Y [] τ H' s' ∧ tn i s'.heap ∧ (∀ b ∈ fp, H' b = none) ∧ W i n H'
  have loop : codeAny (model X.prog X.w) X.A (.compLoop (.SetComp elt (gs2 tg iter ifs tg1 iter1 ifs1) scope pos) 0 (.ref it) (.ref D) ce) (compPost (model X.prog X.w) X.A X.xe use Qf (.ref D) s3.heap.objs.size) s4 := by
    refine set2_loop0 (hs1 ce) St0 (fun n s5 ⟨i, H5, I5, st5, n5, w5⟩ => ?_) m0 ⟨0, H3, I4, st4, nfp, w0⟩
    rcases turn i n H5 w5 with ⟨stop, qq⟩ | ⟨go, Nx, hNx, step⟩
    · refine thnF (T.done Y rfl rfl rfl hc i [] s5 _ H5 (fun _ _ => False) I5 (still I5 n5) st5 stop) fun r s6 ⟨hr, I6⟩ => ?_
      subst hr
      have I7 : Inv X pins σ H5 s6 := I3.call' (ch := fp) I6.os I6.base I6.hok I6.bare fun b hb => ⟨(f3 b hb).1.2.2.2.1, (f3 b hb).1.2.1, (f3 b hb).1.2.2.2.2.1, (f3 b hb).1.2.2.2.2.2⟩
      have nC : H5 s3.heap.objs.size = none := cL ▸ (show H5 ce.locals = none from I6.free)
      obtain ⟨m, hn, _⟩ := I6.loc
      exact hRR D s3.heap.objs.size s6 m H5 I7 qq (cL ▸ (show s6.heap.Ns ce.locals m from hn)) (I3.fpOk (Nat.le_refl _) nC)
    refine thnF (T.item Y rfl rfl rfl hc i [] s5 _ H5 (fun _ _ => False) I5 (still I5 n5) st5 go) fun r s6 ⟨u, hr, h6⟩ => ?_
    subst hr
    refine thnF h6 fun _ s7 ⟨x, H7, I7, r7, y7, st7, n7⟩ => ?_
    have I7p := I7.pinned (still I7 n7) (T.obj _ _ st7)
    refine thnF (pg.run _ s7 _ H7 x u _ I7p r7 (step x H7 y7)) fun _ s8 ⟨σ8, H8, I8, hw8, q8⟩ => ?_
    refine thnF (pt.run _ s8 σ8 H8 _ I8 q8) fun b s9 ⟨H9, I9, q9⟩ => ?_
    have back : ∀ {σ9 : L2.St} {s' : Shared} {H' : Hp}, Inv Y ([] ++ pinsAt fp s7.heap) σ9 H' s' → τ.length = σ9.length → (∀ (j : Nat) v, τ[j]? = some (some v) → σ9[j]? = some (some v)) → Nx H' → ∃ m, m < n ∧ St0 m s' := fun {σ9 s' H'} I' hl hk nx => by
      obtain ⟨m', hm, w'⟩ := hNx H' nx
      have pin : ∀ b ∈ fp, ∀ o, s7.heap.get? b = some o → s'.heap.get? b = some o ∧ H' b = none := fun b hb o e => ⟨(I'.pin (b, o) (List.mem_append_right _ (List.mem_append_right _ (mem_pinsAt hb e)))).1, (I'.pin (b, o) (List.mem_append_right _ (List.mem_append_right _ (mem_pinsAt hb e)))).2.1⟩
      exact ⟨m', hm, i + 1, H', (I'.unpinned (pins := [])).weak hl hk, T.keep _ _ _ st7 fun b hb o e => (pin b hb o e).1, fun b hb => (T.obj _ _ st7 b hb).elim fun o z => (pin b hb o z.1).2, w'⟩
    have hl8 : τ.length = σ8.length := by show (wipe σ _).length = _; rw [← hw8, wipe_length]
    have hk8 : ∀ (j : Nat) v, τ[j]? = some (some v) → σ8[j]? = some (some v) ∧ j ∉ own.map (·.2) := fun j v e => by
      have e' : (wipe σ (own.map (·.2)))[j]? = some (some v) := e
      rw [← hw8] at e'
      exact wipe_some e'
    rcases b with _ | _
    · exact back I9 hl8 (fun j v e => (hk8 j v e).1) q9
    refine thnF (pi1.run _ s9 σ8 H9 _ I9 q9) fun xv s10 hx => thnF hx fun itv s11 h11 => ?_
    obtain ⟨it1, fp1, tn1, J1, H11, rfl, I11, T1, st11, f11, W1, ⟨m1, w1⟩, turn1⟩ := h11
    have still1 : ∀ {H' : Hp}, (∀ b ∈ fp1, H' b = none) → ∀ b ∈ fp1, FpOk Y ([] ++ pinsAt fp s7.heap) H' b := fun hn b hb => ⟨hn b hb, (f11 b hb).2⟩
    let St1 : Nat → Shared → Prop := fun k s' => ∃ j H', Inv Y ([] ++ pinsAt fp s7.heap) (wipe σ8 vs1) H' s' ∧ tn1 j s'.heap ∧ (∀ b ∈ fp1, H' b = none) ∧ W1 j k H'
    have loop1 : codeAny (model X.prog X.w) X.A (.compLoop (.SetComp elt (gs2 tg iter ifs tg1 iter1 ifs1) scope pos) 1 (.ref it1) (.ref D) ce) (fun r s' => match r with
        | .ok _ => ∃ m, m < n ∧ St0 m s'
        | .error _ => False) s11 := by
      refine set2_loop1 St1 (fun k s12 ⟨j, H12, I12, st12, n12, w12⟩ => ?_) m1 ⟨0, H11, I11.weak (wipe_length _ _) (fun j v e => (wipe_some e).1), st11, fun b hb => (f11 b hb).1, w1⟩
      rcases turn1 j k H12 w12 with ⟨stop1, nx1⟩ | ⟨go1, N1, hN1, step1⟩
      · refine thnF (T1.done Y rfl rfl rfl hc j _ s12 (wipe σ8 vs1) H12 (fun _ _ => False) I12 (still1 n12) st12 stop1) fun r s13 ⟨hr, I13⟩ => ?_
        subst hr
        refine back I13 (hl8.trans (wipe_length σ8 vs1).symm) (fun j v e => ?_) nx1
        rw [wipe_out fun z => (hk8 j v e).2 (hv j z)]
        exact (hk8 j v e).1
      refine thnF (T1.item Y rfl rfl rfl hc j _ s12 (wipe σ8 vs1) H12 (fun _ _ => False) I12 (still1 n12) st12 go1) fun r s13 ⟨u1, hr, h13⟩ => ?_
      subst hr
      refine thnF h13 fun _ s14 ⟨x1, H14, I14, r14, y14, st14, n14⟩ => ?_
      have I14p := I14.pinned (still1 n14) (T1.obj _ _ st14)
      refine thnF (pg1.run _ s14 (wipe σ8 vs1) H14 x1 u1 _ I14p r14 (step1 x1 H14 y14)) fun _ s15 ⟨σ15, H15, I15, hw15, q15⟩ => ?_
      refine thnF (pt1.run _ s15 σ15 H15 _ I15 q15) fun b1 s16 ⟨H16, I16, q16⟩ => ?_
      have back1 : ∀ {s' : Shared} {H' : Hp}, Inv Y (([] ++ pinsAt fp s7.heap) ++ pinsAt fp1 s14.heap) σ15 H' s' → N1 H' → ∃ m, m < k ∧ St1 m s' := fun {s' H'} I' nx => by
        obtain ⟨m', hm, w'⟩ := hN1 H' nx
        have pin : ∀ b ∈ fp1, ∀ o, s14.heap.get? b = some o → s'.heap.get? b = some o ∧ H' b = none := fun b hb o e => ⟨(I'.pin (b, o) (List.mem_append_right _ (List.mem_append_right _ (mem_pinsAt hb e)))).1, (I'.pin (b, o) (List.mem_append_right _ (List.mem_append_right _ (mem_pinsAt hb e)))).2.1⟩
        refine ⟨m', hm, j + 1, H', I'.unpinned.weak (by rw [← hw15, wipe_length]) (fun j v e => by rw [← hw15] at e; exact (wipe_some e).1), T1.keep _ _ _ st14 fun b hb o e => (pin b hb o e).1, fun b hb => (T1.obj _ _ st14 b hb).elim fun o z => (pin b hb o z.1).2, w'⟩
      rcases b1 with _ | _
      · exact back1 I16 q16
      refine thnF (pe.run _ s16 σ15 H16 _ I16 q16) fun z s17 ⟨yv, H17, I17, r17, xs, l, ey, hD17, hz17, nx⟩ => ?_
      subst ey
      exact addT_ok (X := Y) I17 hD17 r17 hz17 fun s18 I18 => back1 I18 nx
    exact set2_start1 loop1 (T1.self X.A 0 _ _ _ st11 loop1)
  exact PpSet.codeAny_compStart_set loop (T.self X.A 0 _ _ _ st4 loop)
theorem pe_sc2 {elt tg iter tg1 iter1 : Expr} {ifs ifs1 : List Expr} {scope : Scope} {own : List (Str × Nat)} {vs1 : List Nat} {pos : Pos} {wi wi1 : TI} {g g1 : TG} {tt tt1 : TT} {te : TE} (hc : X.calm = true) (hN : X.N.Nodup) (hi : PI X tg iter wi) (ok : BlkOk X.N X.env.scope scope own) (hv : ∀ i ∈ vs1, i ∈ own.map (·.2))
    (hg : Blk X scope fun Y => PG Y tg g) (ht : Blk X scope fun Y => PTs Y ifs tt) (hi1 : Blk X scope fun Y => PI Y tg1 iter1 wi1) (hg1 : Blk X scope fun Y => PG Y tg1 g1) (ht1 : Blk X scope fun Y => PTs Y ifs1 tt1) (he : Blk X scope fun Y => PE Y elt te)
    (hs : ∀ x, foldedSetIterable iter X.env x = pure x) (hs1 : ∀ env x, foldedSetIterable iter1 env x = pure x) :
    PE X (.SetComp elt (gs2 tg iter ifs tg1 iter1 ifs1) scope pos) (tSc2 X.w wi g tt wi1 g1 tt1 te (own.map (·.2)) vs1) := by
  refine ⟨fun pins s σ H Q I h => ?_⟩
  rw [PpSet.eval_SetComp]
  refine sc2_core hc hN I hi ok hv hg ht he hs hi1 hg1 ht1 hs1 h fun D C s' m H' I' q hn f => ⟨m, hn, fun h'' sb => ?_⟩
  obtain ⟨f0, f1, f2, f3, f4, f5⟩ := f
  exact ⟨.ref D, H', I'.turned (t' := s'.toks) (fun b o hb e => (sb.2 b hb).trans e) f0 f1 f3 f4 f5, rfl, q⟩
end
end Fw

/-! Fw25: sorted: of a list of texts, of a set of texts, by len. -/
namespace Fw
open PySem PySem.Spec PyProof.Rows L2

/-! ### orders -/
def leS (a b : Str) : Bool := decide (a.cps.toList ≤ b.cps.toList)
def srtS (l : List Str) : List Str := l.mergeSort leS
def srtLen (l : List Str) : List Str := l.mergeSort fun a b => decide ((b.length : Int) ≤ (a.length : Int))
theorem leS_trans (a b c : Str) (h : leS a b = true) (h' : leS b c = true) : leS a c = true := decide_eq_true (List.le_trans (of_decide_eq_true h) (of_decide_eq_true h'))
theorem leS_total (a b : Str) : (leS a b || leS b a) = true := by
  unfold leS
  rw [Bool.or_eq_true, decide_eq_true_eq, decide_eq_true_eq]
  exact List.le_total ..
theorem leS_anti {a b : Str} (h : leS a b = true) (h' : leS b a = true) : a = b := by
  have := List.le_antisymm (of_decide_eq_true h) (of_decide_eq_true h')
  rw [tx_of a, tx_of b, this]
theorem srtS_perm (l : List Str) : (srtS l).Perm l := List.mergeSort_perm ..
theorem srtS_sorted (l : List Str) : (srtS l).Pairwise (fun a b => leS a b = true) := List.pairwise_mergeSort leS_trans leS_total l
theorem srtS_unique {l l' : List Str} (h : l.Perm l') : srtS l = srtS l' := by
  refine List.Perm.eq_of_pairwise (le := fun a b => leS a b = true) (fun a b _ _ h1 h2 => leS_anti h1 h2) (srtS_sorted l) (srtS_sorted l') ?_
  exact (srtS_perm l).trans (h.trans (srtS_perm l').symm)

/-! ### values -/
def isStrV (v : Value) (x : Str) : Prop := ∃ t, v = Value.str x t
theorem each_of : ∀ {us : List Value} {xs : List Str}, StrsAre us xs → PySem.W.EachIs isStrV us xs
  | _, _, .nil => .nil
  | _, _, .cons x t h => .cons ⟨t, rfl⟩ (each_of h)
theorem of_each : ∀ {us : List Value} {xs : List Str}, PySem.W.EachIs isStrV us xs → StrsAre us xs
  | _, _, .nil => .nil
  | _, _, .cons ⟨t, e⟩ h => by subst e; exact .cons _ t (of_each h)
theorem each_reads {h : Heap} {P : List Addr → Prop} (hP : P []) : ∀ {us : List Value} {xs : List Str}, StrsAre us xs → PySem.W.EachIs (fun v b => ∃ as, Reads h v (PyData.str b) as ∧ P as) us xs
  | _, _, .nil => .nil
  | _, _, .cons x t r => .cons ⟨[], .str x t, hP⟩ (each_reads hP r)
theorem each_reads0 {h : Heap} : ∀ {us : List Value} {xs : List Str}, StrsAre us xs → PySem.W.EachIs (fun v b => ∃ as, Reads h v (PyData.str b) as) us xs
  | _, _, .nil => .nil
  | _, _, .cons x t r => .cons ⟨[], .str x t⟩ (each_reads0 r)
theorem alike_strs (xs : List Str) : PySem.W.AllAlike (xs.map PyData.str) := PySem.W.AllAlike.of fun _ _ => rfl
theorem sortable_strs (xs : List Str) : PySem.W.Sortable (xs.map PyData.str) := PySem.W.Sortable.others fun _ => ⟨(fun z => by cases z), fun _ z => by cases z⟩
theorem dataLe_strs : PySem.W.dataLe false (fun b : Str => PyData.str b) = leS := PySem.W.dataLe_str (fun b : Str => b)
theorem depth_str (x : Str) : (PyData.str x).depth = 0 := by simp [PyData.depth]
theorem depth_int (i : Int) : (PyData.int i).depth = 0 := by simp [PyData.depth]
section
variable {X : Cx}
/-- a new list at p behind a call that kept all -/
theorem laid_strs {pins : List (Addr × Obj)} {s : Shared} {σ : L2.St} {H : Hp} {h' : Heap} {tk : Nat} {p : Addr} {out : List Value} {ys : List Str} {c : Nat} (I : Inv X pins σ H s) (k : ∀ b o, s.heap.get? b = some o → h'.get? b = some o) (hp : s.heap.objs.size ≤ p)
    (ho : h'.get? p = some (seqObj "list" out.toArray c)) (hS : StrsAre out ys) (hz : ys.length ≤ sizeLine) : Inv X pins σ (upd H p (.lst (ys.map V.str))) { s with heap := h', toks := tk } ∧ H p = none :=
  ⟨I.laid (t' := tk) k hp ⟨by rw [List.length_map]; exact hz, out, c, vals_of_strs hS, ho⟩, I.hok.fresh hp⟩
/-- sorted(xs), xs a list of texts of any length -/
def rSrtL (K : PySem.W.Frag) : List V → Hp → VK → Prop := fun vs H Q => ∃ (a : Addr) (xs : List Str), vs = [V.ref a] ∧ SqL K H a (xs.map V.str) ∧ ∀ p, H p = none → Q (.ref p) (upd H p (.lst ((srtS xs).map V.str)))
theorem cr_srtL (hu : X.A.units + 64 < cLine) : CallR X (.builtin "sorted") (rSrtL X.K) := by
  intro pins s σ H vs us Q I r h
  obtain ⟨a, xs, rfl, hs, q⟩ := h
  obtain ⟨its, rv, hl, hz⟩ := I.list hs
  rw [Vals.ref1 r]
  have hS := rv.strs
  rw [List.length_map] at hz
  refine PySem.W.sorted_data (enc := fun b : Str => PyData.str b) hl.isList (each_of hS) (each_reads0 hS) (alike_strs xs) (sortable_strs xs) hz (fun b _ => by rw [depth_str]; omega) fun out ho eo => ?_
  rw [dataLe_strs] at eo
  obtain ⟨ep, he'⟩ := PyProof.Rows.sortedAll_at s.heap its (List.toArray out)
  obtain ⟨I', hp⟩ := laid_strs (tk := s.toks) I (fun _ _ => PyProof.Rows.sortedAll_old) (Nat.le_succ _) he' (of_each eo) (by show (srtS xs).length ≤ _; rw [(srtS_perm xs).length_eq]; exact hz)
  exact ⟨.ref _, _, I', rfl, q _ hp⟩
/-- sorted(d), d a dict of texts -/
def rSrtD : List V → Hp → VK → Prop := fun vs H Q => ∃ (a : Addr) (kvs : List (Key × V)) (xs : List Str), vs = [V.ref a] ∧ Rd H a (.dK kvs) ∧ kvs.map (·.1) = xs.map Sum.inr ∧ ∀ p, H p = none → Q (.ref p) (upd H p (.lst ((srtS xs).map V.str)))
/-- sorted(s), s a set of texts -/
def rSrtT (w : World) : List V → Hp → VK → Prop := fun vs H Q => ∃ (a : Addr) (l : List Str), vs = [V.ref a] ∧ H a = some (SetTO w a l) ∧ ∀ p, H p = none → Q (.ref p) (upd H p (.lst ((srtS l).map V.str)))
theorem strs_of : ∀ (l : List Value), (∀ v ∈ l, ∃ x t, v = Value.str x t) → ∀ (f : Value → Str), (∀ x t, f (.str x t) = x) → StrsAre l (l.map f)
  | [], _, _, _ => .nil
  | v :: l, h, f, hf => by
    obtain ⟨x, t, rfl⟩ := h v List.mem_cons_self
    rw [List.map_cons, hf]
    exact .cons x t (strs_of l (fun u hu => h u (List.mem_cons_of_mem _ hu)) f hf)
def strOfV (v : Value) : Str := match v with
  | .str x _ => x
  | _ => Str.empty
theorem cr_srtT (hc : X.calm = true) (hu : X.A.units + 64 < cLine) : CallR X (.builtin "sorted") (rSrtT X.w) := by
  intro pins s σ H vs us Q I r h
  obtain ⟨a, l, rfl, ha, q⟩ := h
  rw [Vals.ref1 r]
  obtain ⟨o, es, ep, t, ho, hex, hd, g, nd, hp, hb, hf, hr, hl⟩ := setTO_get I ha
  refine Calls.call_function_entry kind_sorted plain_sorted entry_sorted (args_sorted1 _) ?_
  unfold Builtin.«sorted»
  refine wpAny_bind (m := checkCount "sorted" 1 1 _) (wpAny_pure ?_)
  refine wpAny_bind (collect_set (A := X.A.in1) (I.ok.hd hc) ⟨o, ho, hex.1, hd⟩ hf hb hr hl fun s1 out k1 hz g1 o1 pm => ?_)
  have hlen : out.length = l.length := by rw [pm.length_eq, List.length_map, ← hp.length_eq, List.length_map]
  have hbl : l.length < scanBound := by rw [← hp.length_eq, List.length_map, Array.length_toList]; exact hb
  have hsl : l.length ≤ sizeLine := fits_of_scanBound hbl
  have hS : StrsAre out (out.map strOfV) := strs_of out (fun v hv => by
    obtain ⟨e, he, q⟩ := List.mem_map.mp (pm.mem_iff.mp hv)
    obtain ⟨x, tt, h1, _⟩ := g e he
    exact ⟨x, tt, by rw [← q]; exact h1⟩) strOfV fun _ _ => rfl
  have pl : (out.map strOfV).Perm l := by
    have q1 := pm.map strOfV
    rw [List.map_map] at q1
    exact q1.trans hp
  have I1 : Inv X pins σ H s1 := I.call' (ch := []) o1 (Un.kept k1) (I.hok.kept k1) (by rw [g1]; exact I.bare) (fun _ z => nomatch z)
  refine wpAny_bind (wpAny_newList ?_ (by rw [hlen]; exact hsl))
  have hoL : (s1.heap.push (seqObj "list" out.toArray 0)).get? s1.heap.objs.size = some (seqObj "list" out.toArray 0) := Heap.get?_push_size _ rfl
  refine wpAny_bind (wpAny_holding (PySem.W.list_sort_data (enc := fun b : Str => PyData.str b) hoL (each_of hS) (each_reads (P := fun as => s1.heap.objs.size ∉ as) (by simp) hS) (alike_strs _) (sortable_strs _) (by rw [List.length_map, hlen]; exact hsl)
    (fun b _ => by rw [depth_str]; show X.A.in1.units + 1 + 0 < cLine; have : X.A.in1.units = X.A.units + 1 := rfl; omega) fun out2 ho2 eo => ?_))
  rw [dataLe_strs] at eo
  have e1 : (out.map strOfV).mergeSort leS = srtS l := srtS_unique pl
  rw [e1] at eo
  obtain ⟨c, hc'⟩ := sortedHeap_at (vs := out) (out := List.toArray out2) hoL
  obtain ⟨I', hpn⟩ := laid_strs (tk := s1.toks) I1 (h' := sortedHeap (s1.heap.push (seqObj "list" out.toArray 0)) s1.heap.objs.size out (List.toArray out2)) (fun b u e => by
    have hlt := Heap.lt_size e
    rw [sortedHeap_old (Nat.ne_of_lt hlt) (by rw [size_push']; exact Nat.lt_succ_of_lt hlt)]
    exact Heap.get?_push_of_some _ e) (Nat.le_refl _) hc' (of_each eo) (by rw [(srtS_perm l).length_eq]; exact hsl)
  exact wpAny_pure ⟨_, rfl, .ref _, _, I', rfl, q _ hpn⟩
/-- sorted(xs, key=len, reverse=True) -/
theorem call_srtLen (hu : X.A.units + 64 < cLine) {pins : List (Addr × Obj)} {s : Shared} {σ : L2.St} {H : Hp} {a : Addr} {xs : List Str} {Q : VK} (I : Inv X pins σ H s) (hs : SqL X.K H a (xs.map V.str)) (hz : ∀ y, y ∈ xs → y.length ≤ sizeLine)
    (q : ∀ p, H p = none → Q (.ref p) (upd H p (.lst ((srtLen xs).map V.str)))) : wpAny (model X.prog X.w) X.A (call (.builtin "sorted") [.ref a] [(Str.ofString "key", .builtin "len"), (Str.ofString "reverse", .bool true)]) (EP X pins σ Q) X.xe s := by
  obtain ⟨its, rv, hl, hzl⟩ := I.list hs
  have hS := rv.strs
  rw [List.length_map] at hzl
  have hn := L2.line63
  refine PySem.W.sorted_key_data (b := true) (fun x : Str => PyData.int (x.length : Int)) hl.isList (each_of hS) (PySem.W.AllAlike.of fun _ _ => rfl) (PySem.W.Sortable.others fun _ => ⟨(fun z => by cases z), fun _ z => by cases z⟩) hzl (fun b _ => by rw [depth_int]; omega) (ksk_s2 _ _ _) (fun _ => ksk_l2 _ _ _) (fun _ => ksk_t5 _ _ _)
    (fun v x ⟨t, ev⟩ hx h tk k => ?_) fun out c h' tk k fr hD ho eo => ?_
  · subst ev
    have := hz x hx
    exact P.len_str (by omega) ⟨h, _, rfl, fun _ _ e => e, .int _ _⟩
  · have e2 : PySem.W.dataLe true (fun x : Str => PyData.int (x.length : Int)) = fun a b => decide ((b.length : Int) ≤ (a.length : Int)) := PySem.W.dataGe_int (fun x : Str => (x.length : Int))
    rw [e2] at eo
    obtain ⟨I', hp⟩ := laid_strs (tk := tk) I k (Nat.le_succ _) hD (of_each eo) (by show (srtLen xs).length ≤ _; unfold srtLen; rw [List.length_mergeSort]; exact hzl)
    exact ⟨.ref _, _, I', rfl, q _ hp⟩
end
end Fw

/-! Fw26: sorted as data. -/
namespace Fw
open PySem L2 PySem.Spec PyProof.Rows

theorem wipe_sub {σ : L2.St} {vs1 vs : List Nat} (h : ∀ i ∈ vs1, i ∈ vs) : L2.wipe (L2.wipe σ vs1) vs = L2.wipe σ vs := by
  apply List.ext_getElem?
  intro j
  rw [wipe_at, wipe_at, wipe_length, wipe_at]
  by_cases hj : j ∈ vs
  · rw [if_pos hj, if_pos hj]
  · rw [if_neg hj, if_neg hj, if_neg fun z => hj (h j z)]
def wScIn (wg1 : WG) (wt1 : WB) (we : WE) (vs1 : List Nat) : List D → List Str → Env → (List Str → Env → Prop) → Prop
  | [], acc, ρ, Ψ => Ψ acc ρ
  | d :: ds, acc, ρ, Ψ => wg1 d ρ fun ρ1 => wt1 ρ1 (fun b ρ2 => if b = true then we ρ2 (fun y ρ3 => strAt y fun x => acc.length + 1 < scanBound ∧ wScIn wg1 wt1 we vs1 ds (addS acc x) (wipeE ρ3 vs1) Ψ) (fun _ _ => False) else wScIn wg1 wt1 we vs1 ds acc (wipeE ρ2 vs1) Ψ) (fun _ _ => False)
def wScOut (wg : WG) (wt : WB) (wi1 : WA) (wg1 : WG) (wt1 : WB) (we : WE) (vs vs1 : List Nat) : List D → List Str → Env → (List Str → Env → Prop) → Prop
  | [], acc, ρ, Ψ => Ψ acc ρ
  | d :: ds, acc, ρ, Ψ => wg d ρ fun ρ1 => wt ρ1 (fun b ρ2 => if b = true then wi1 ρ2 (fun ds1 ρ3 => wScIn wg1 wt1 we vs1 ds1 acc (wipeE ρ3 vs1) fun acc' ρ4 => wScOut wg wt wi1 wg1 wt1 we vs vs1 ds acc' (wipeE ρ4 vs) Ψ) (fun _ _ => False) else wScOut wg wt wi1 wg1 wt1 we vs vs1 ds acc (wipeE ρ2 vs) Ψ) (fun _ _ => False)
def wSrtS2 (wi : WA) (wg : WG) (wt : WB) (wi1 : WA) (wg1 : WG) (wt1 : WB) (we : WE) (vs vs1 : List Nat) : WE := fun ρ Ψ Ξ => wi ρ (fun ds ρ1 => wScOut wg wt wi1 wg1 wt1 we vs vs1 ds [] (wipeE ρ1 vs) fun acc _ => Ψ (.lst ((srtS acc).map D.str)) ρ1) Ξ
theorem wSrtS2_eq {wi : WA} {wg : WG} {wt : WB} {wi1 : WA} {wg1 : WG} {wt1 : WB} {we : WE} {vs vs1 : List Nat} {ρ : Env} {Ψ : D → Env → Prop} {Ξ : Exc → Env → Prop} :
    wSrtS2 wi wg wt wi1 wg1 wt1 we vs vs1 ρ Ψ Ξ = wi ρ (fun ds ρ1 => wScOut wg wt wi1 wg1 wt1 we vs vs1 ds [] (wipeE ρ1 vs) fun acc _ => Ψ (.lst ((srtS acc).map D.str)) ρ1) Ξ := rfl
theorem rpl_strs {K : PySem.W.Frag} {A : AS} {H : Hp} : ∀ l : List Str, RpL K A H (l.map V.str) (l.map D.str)
  | [] => .nil
  | x :: l => .cons (.str x) (rpl_strs l)
/-- what a store does, as data -/
def SndG (K : PySem.W.Frag) (ks : List SK) (g : TG) (wg : WG) : Prop := ∀ O Fs ρ σ H v d Ψ Q, Repr K ks O Fs ρ σ H → Rp K (av O Fs) H v d → wg d ρ Ψ → (∀ ρ' σ', Repr K ks O Fs ρ' σ' H → Ψ ρ' → Q σ' H) → g v σ H Q
section
variable {X : Cx} {K : PySem.W.Frag} {ks : List SK} {E : L2.St → XK} {rk kd : Kd} {pu fl pi pt pe : Bool} {tg iter tg1 iter1 elt c e : Expr} {ifs ifs1 : List Expr} {wi wi1 : TI} {wiD wiD1 : WA} {g g1 : TG} {wg wg1 : WG} {tt tt1 : TT} {wt wt1 : WB} {te : TE} {we : WE} {vs vs1 : List Nat} {scope : Scope} {own : List (Str × Nat)} {pos cpos p p2 p3 p4 : Pos} {w : World}
theorem snd_srtS2 (hi : PXi X K ks E true pi tg iter wi wiD) (hg : SndG K ks g wg) (gm : GMono g) (go : GOnly g vs) (ht : SndB K ks EN true tt wt)
    (hi1 : ∀ O Fs ρ σ H Ψ Ξ R, Repr K ks O Fs ρ σ H → wiD1 ρ Ψ Ξ → (∀ ds ρ' Fs' J H', Pu true ρ ρ' Fs Fs' H H' → Fr Fs H Fs' H' → Repr K ks O Fs' ρ' σ H' → ItOk false K (av O Fs') H' J ds → Ψ ds ρ' → R J H') → LkX K ks O Fs σ H Ξ (EN σ) → wi1 σ H R)
    (hg1 : SndG K ks g1 wg1) (gm1 : GMono g1) (go1 : GOnly g1 vs1) (ht1 : SndB K ks EN true tt1 wt1) (he : Snd K ks EN true .z te we) (hv : ∀ i ∈ vs1, i ∈ vs) :
    Snd K ks E pi (.o shL) (tCB (rSrtT w) (tCons (tSc2 w wi g tt wi1 g1 tt1 te vs vs1) tNil)) (wSrtS2 wiD wg wt wiD1 wg1 wt1 we vs vs1) := fun O Fs ρ σ H Ψ Ξ Q R hw hq hx => by
  refine hi.snd O Fs ρ σ H _ Ξ _ R hw (fun ds ρ1 Fs1 J H1 u1 f1 R1 it p => ?_) hx
  intro D hD
  let OD := O.add fun a => a = D
  have hDB : OD.B D := .inr rfl
  have kpD : ∀ {H2 : Hp}, Ext H1 H2 → Ext H1 (upd H2 D (SetTO w D ([] : List Str))) ∨ True := fun _ => .inr trivial
  let Fin : List Str → Env → Prop := fun acc _ => Ψ (.lst ((srtS acc).map Fw.D.str)) ρ1
  let W : Nat → Hp → Prop := fun i H2 => i ≤ ds.length ∧ ∃ (ρ2 : Env) (acc : List Str), Repr K ks OD Fs1 ρ2 (L2.wipe σ vs) H2 ∧ Ext H1 H2 ∧ H2 D = some (SetTO w D acc) ∧ wScOut wg wt wiD1 wg1 wt1 we vs vs1 (ds.drop i) acc ρ2 Fin
  have e0 : Ext H1 (upd H1 D (SetTO w D [])) := Ext.upd hD
  refine ⟨fun i m H2 => m = ds.length - i ∧ W i H2, ⟨ds.length, rfl, Nat.zero_le _, _, [], (R1.add e0 (fun a z => by subst z; exact ⟨hD, by rw [upd_same]; simp⟩)).wipe vs, e0, upd_same, by rw [List.drop_zero]; exact p⟩, ?_⟩
  rintro i m H2 ⟨rfl, hle, ρ2, acc, R2, f2, hD2, p2⟩
  have kp : Kp true (av O Fs1) (av OD Fs1) H1 H2 := ⟨fun a _ h => f2 a h, fun a z => (av_add_inv z).imp id fun z => by rw [z]; exact hD, fun a => R2.adom⟩
  obtain ⟨go0, stop⟩ := it i _ H2 kp
  rcases Nat.lt_or_ge i ds.length with hlt | hge
  case inr =>
    have e : i = ds.length := by omega
    subst e
    rw [List.drop_length] at p2
    refine .inl ⟨stop (Nat.le_refl _), D, acc, rfl, hD2, fun q hqn => ?_⟩
    have R3 : Repr K ks O Fs1 ρ1 σ H2 := R1.ext f2
    exact hq _ ρ1 Fs1 _ _ (fun z => let ⟨a, b, c⟩ := u1 z; ⟨a, b, (c.trans f2).trans (Ext.upd hqn)⟩) (f1.trans (f2.trans (Ext.upd hqn)).fr) (res_new R3 hqn (fun a h => f2.dom (f1.dom a h)) (rpl_strs _)) p2
  obtain ⟨hgo, hy⟩ := go0 ds[i] (by simp [hlt])
  refine .inr ⟨hgo, W (i + 1), fun H3 h3 => ⟨ds.length - (i + 1), by omega, rfl, h3⟩, fun x H3 y => ?_⟩
  obtain ⟨e2, rx⟩ := hy x H3 y
  have hD3 : H3 D = some (SetTO w D acc) := by rw [e2 D (by rw [hD2]; simp), hD2]
  have ext3 : Ext H1 H3 := f2.trans e2
  rw [List.drop_eq_getElem_cons hlt] at p2
  have gw := hg OD Fs1 ρ2 (L2.wipe σ vs) H3 x _ _ (fun σ3 H4 => H4 = H3 ∧ ∃ ρ3, Repr K ks OD Fs1 ρ3 σ3 H3 ∧ wt ρ3 (fun b ρ2 => if b = true then wiD1 ρ2 (fun ds1 ρ3 => wScIn wg1 wt1 we vs1 ds1 acc (wipeE ρ3 vs1) fun acc' ρ4 => wScOut wg wt wiD1 wg1 wt1 we vs vs1 (ds.drop (i + 1)) acc' (wipeE ρ4 vs) Fin) (fun _ _ => False) else wScOut wg wt wiD1 wg1 wt1 we vs vs1 (ds.drop (i + 1)) acc (wipeE ρ2 vs) Fin) (fun _ _ => False))
    (R2.ext e2) rx p2 (fun ρ3 σ3 R3 p3 => ⟨rfl, ρ3, R3, p3⟩)
  refine gm _ _ _ _ _ (fun σ3 H4 z => ?_) (go _ _ _ _ gw)
  obtain ⟨ew, rfl, ρ3, R3, p3⟩ := z
  rw [wipe_wipe] at ew
  refine ⟨ew, ht _ Fs1 ρ3 σ3 H4 _ (fun _ _ => False) _ R3 p3 (fun b ρ4 Fs4 H5 u4 f4 R4 p4 => ?_) (fun _ _ _ _ _ _ _ _ _ q => q.elim)⟩
  obtain ⟨rfl, rfl, e4⟩ := u4 rfl
  have hD5 : H5 D = some (SetTO w D acc) := by rw [e4 D (by rw [hD3]; simp), hD3]
  cases b with
  | false =>
    rw [if_neg Bool.false_ne_true] at p4 ⊢
    exact ⟨hlt, _, acc, R4.rewipe ew, ext3.trans e4, hD5, p4⟩
  | true =>
    rw [if_pos rfl] at p4 ⊢
    refine hi1 _ Fs4 ρ4 σ3 H5 _ (fun _ _ => False) _ R4 p4 (fun ds1 ρ5 Fs5 J1 H6 u5 f5 R5 it1 p5 => ?_) (fun _ _ _ _ _ _ _ _ _ q => q.elim)
    obtain ⟨rfl, rfl, e5⟩ := u5 rfl
    have hD6 : H6 D = some (SetTO w D acc) := by rw [e5 D (by rw [hD5]; simp), hD5]
    have ext6 : Ext H1 H6 := (ext3.trans e4).trans e5
    let W1 : Nat → Hp → Prop := fun j H7 => j ≤ ds1.length ∧ ∃ (ρ7 : Env) (acc7 : List Str), Repr K ks OD Fs5 ρ7 (L2.wipe σ3 vs1) H7 ∧ Ext H1 H7 ∧ (∀ a, a ≠ D → H6 a ≠ none → H7 a = H6 a) ∧ H7 D = some (SetTO w D acc7) ∧
      wScIn wg1 wt1 we vs1 (ds1.drop j) acc7 ρ7 fun acc' ρ4 => wScOut wg wt wiD1 wg1 wt1 we vs vs1 (ds.drop (i + 1)) acc' (wipeE ρ4 vs) Fin
    refine ⟨fun j k H7 => k = ds1.length - j ∧ W1 j H7, ⟨ds1.length, rfl, Nat.zero_le _, _, acc, R5.wipe vs1, ext6, fun _ _ _ => rfl, hD6, by rw [List.drop_zero]; exact p5⟩, ?_⟩
    rintro j k H7 ⟨rfl, hle1, ρ7, acc7, R7, ext7, k7, hD7, p7⟩
    have kp1 : Kp false (av OD Fs5) (av OD Fs5) H6 H7 := ⟨fun a z h => k7 a (fun e => by rcases z with z | z; cases z; exact z (.inr (.inl (e ▸ hDB)))) h, fun a z => .inl z, fun a => R7.adom⟩
    obtain ⟨go10, stop1⟩ := it1 j _ H7 kp1
    rcases Nat.lt_or_ge j ds1.length with hlt1 | hge1
    case inr =>
      have e : j = ds1.length := by omega
      subst e
      rw [List.drop_length] at p7
      refine .inl ⟨stop1 (Nat.le_refl _), hlt, _, acc7, ?_, ext7, hD7, p7⟩
      exact R7.rewipe ((wipe_sub hv).trans ew)
    obtain ⟨hgo1, hy1⟩ := go10 ds1[j] (by simp [hlt1])
    refine .inr ⟨hgo1, W1 (j + 1), fun H8 h8 => ⟨ds1.length - (j + 1), by omega, rfl, h8⟩, fun x1 H8 y1 => ?_⟩
    obtain ⟨e8, rx1⟩ := hy1 x1 H8 y1
    have hD8 : H8 D = some (SetTO w D acc7) := by rw [e8 D (by rw [hD7]; simp), hD7]
    rw [List.drop_eq_getElem_cons hlt1] at p7
    have gw1 := hg1 OD Fs5 ρ7 (L2.wipe σ3 vs1) H8 x1 _ _ (fun σ9 H9 => H9 = H8 ∧ ∃ ρ9, Repr K ks OD Fs5 ρ9 σ9 H8 ∧ wt1 ρ9 (fun b ρ2 => if b = true then we ρ2 (fun y ρ3 => strAt y fun x => acc7.length + 1 < scanBound ∧ wScIn wg1 wt1 we vs1 (ds1.drop (j + 1)) (addS acc7 x) (wipeE ρ3 vs1) fun acc' ρ4 => wScOut wg wt wiD1 wg1 wt1 we vs vs1 (ds.drop (i + 1)) acc' (wipeE ρ4 vs) Fin) (fun _ _ => False) else wScIn wg1 wt1 we vs1 (ds1.drop (j + 1)) acc7 (wipeE ρ2 vs1) fun acc' ρ4 => wScOut wg wt wiD1 wg1 wt1 we vs vs1 (ds.drop (i + 1)) acc' (wipeE ρ4 vs) Fin) (fun _ _ => False))
      (R7.ext e8) rx1 p7 (fun ρ9 σ9 R9 p9 => ⟨rfl, ρ9, R9, p9⟩)
    refine gm1 _ _ _ _ _ (fun σ9 H9 z => ?_) (go1 _ _ _ _ gw1)
    obtain ⟨ew9, rfl, ρ9, R9, p9⟩ := z
    rw [wipe_wipe] at ew9
    refine ⟨ew9, ht1 _ Fs5 ρ9 σ9 H9 _ (fun _ _ => False) _ R9 p9 (fun b ρ10 Fs10 H10 u10 f10 R10 p10 => ?_) (fun _ _ _ _ _ _ _ _ _ q => q.elim)⟩
    obtain ⟨rfl, rfl, e10⟩ := u10 rfl
    have hD10 : H10 D = some (SetTO w D acc7) := by rw [e10 D (by rw [hD8]; simp), hD8]
    have kk : ∀ {H11 : Hp}, Ext H10 H11 → ∀ a, a ≠ D → H6 a ≠ none → H11 a = H6 a := fun {H11} ex a na ha => by
      have h7 := k7 a na ha
      have n7 : H7 a ≠ none := by rw [h7]; exact ha
      have := (e8.trans e10).trans ex a n7
      rw [this, h7]
    cases b with
    | false =>
      rw [if_neg Bool.false_ne_true] at p10 ⊢
      exact ⟨hlt1, _, acc7, R10.rewipe ew9, (ext7.trans e8).trans e10, kk (Ext.refl _), hD10, p10⟩
    | true =>
      rw [if_pos rfl] at p10 ⊢
      refine he _ Fs10 ρ10 σ9 H10 _ (fun _ _ => False) _ R10 p10 (fun yd ρ11 Fs11 yv H11 u11 f11 r11 p11 => ?_) (fun _ _ _ _ _ _ _ _ _ q => q.elim)
      obtain ⟨rfl, rfl, e11⟩ := u11 rfl
      cases yd with
      | str xs =>
        have p12 : acc7.length + 1 < scanBound ∧ _ := p11
        have hD11 : H11 D = some (SetTO w D acc7) := by rw [e11 D (by rw [hD10]; simp), hD10]
        have ext11 : Ext H1 H11 := ((ext7.trans e8).trans e10).trans e11
        refine ⟨xs, acc7, (RT.of r11.2).str_inv, hD11, p12.1, hlt1, _, addS acc7 xs, (r11.1.updB hDB).rewipe ew9, fun a h => ?_, fun a na h => ?_, upd_same, p12.2⟩
        · rw [upd_ne (fun e => by rw [e] at h; exact h hD)]
          exact ext11 a h
        · rw [upd_ne na]
          exact kk e11 a na h
      | _ => exact p11.elim
theorem QG.sndG {Y : Cx} (h : QG Y K ks tg g wg) : SndG K ks g wg := h.snd
theorem xSrtS2 (own : List (Str × Nat)) (hc : X.calm = true) (hu : X.A.units + 64 < cLine) (hm : X.mg "sorted" = none) (hN : X.N.Nodup) (hi : PXi X K ks E true pi tg iter wi wiD) (ok : BlkOk X.N X.env.scope scope own) (hv : ∀ i ∈ vs1, i ∈ own.map (·.2))
    (hg : Blk X scope fun Y => QG Y K ks tg g wg) (gm : GMono g) (go : GOnly g (own.map (·.2))) (ht : Blk X scope fun Y => PBs Y K ks EN true ifs tt wt) (hi1 : Blk X scope fun Y => PXi Y K ks EN false true tg1 iter1 wi1 wiD1)
    (hg1 : Blk X scope fun Y => QG Y K ks tg1 g1 wg1) (gm1 : GMono g1) (go1 : GOnly g1 vs1) (ht1 : Blk X scope fun Y => PBs Y K ks EN true ifs1 tt1 wt1) (he : Blk X scope fun Y => PX Y K ks EN true .z elt te we)
    (hgl : Gl X "sorted" := by rfl) (hvb : bootBuiltins "sorted" = some (.builtin "sorted") := by decide +kernel)
    (hs : ∀ x, foldedSetIterable iter X.env x = pure x := by intro _; rfl) (hs1 : ∀ env x, foldedSetIterable iter1 env x = pure x := by intro _ _; rfl)
    (hst : starEach [.SetComp elt (gs2 tg iter ifs tg1 iter1 ifs1) scope pos] X.env = (false, eval (.SetComp elt (gs2 tg iter ifs tg1 iter1 ifs1) scope pos) X.env) :: starEach [] X.env := by rfl) (hpl : (backTo cpos (starEach [] X.env)).any (·.1) = false := by rfl) :
    PX X K ks E pi (.o shL) (.Call (.Name "sorted" p) [.SetComp elt (gs2 tg iter ifs tg1 iter1 ifs1) scope pos] [] cpos) (tCB (rSrtT X.w) (tCons (tSc2 X.w wi g tt wi1 g1 tt1 te (own.map (·.2)) vs1) tNil)) (wSrtS2 wiD wg wt wiD1 wg1 wt1 we (own.map (·.2)) vs1) := by
  cases hi.hK
  obtain ⟨Y1, b1⟩ := hg.get
  obtain ⟨Y2, b2⟩ := ht.get
  obtain ⟨Y3, b3⟩ := hi1.get
  obtain ⟨Y4, b4⟩ := hg1.get
  obtain ⟨Y5, b5⟩ := ht1.get
  obtain ⟨Y6, b6⟩ := he.get
  refine ⟨rfl, pe_callB (cr_srtT hc hu) hgl hm hvb (pa_cons (pe_sc2 hc hN hi.pi ok hv (fun s H C cl fp => (hg s H C cl fp).pg) (fun s H C cl fp => (ht s H C cl fp).pts) (fun s H C cl fp => (hi1 s H C cl fp).pi) (fun s H C cl fp => (hg1 s H C cl fp).pg) (fun s H C cl fp => (ht1 s H C cl fp).pts) (fun s H C cl fp => (he s H C cl fp).pe) hs hs1) pa_nil hst) (by decide) (by decide) hst hpl, ?_⟩
  exact snd_srtS2 hi b1.snd gm go b2.snd b3.snd b4.snd gm1 go1 b5.snd b6.snd hv
end
/-! ### sorted of lists -/
def dSrt (d : D) (Ψ : D → Prop) : Prop := match d with
  | .lst xs => ∃ ys, D.strs xs = some ys ∧ Ψ (.lst ((srtS ys).map D.str))
  | _ => False
theorem dSrt_lst {xs : List D} {Ψ : D → Prop} : dSrt (.lst xs) Ψ = ∃ ys, D.strs xs = some ys ∧ Ψ (.lst ((srtS ys).map D.str)) := rfl
def dSrtLen (d : D) (Ψ : D → Prop) : Prop := match d with
  | .lst xs => ∃ ys, D.strs xs = some ys ∧ (∀ y, y ∈ ys → y.length ≤ sizeLine) ∧ Ψ (.lst ((srtLen ys).map D.str))
  | _ => False
theorem dSrtLen_lst {xs : List D} {Ψ : D → Prop} : dSrtLen (.lst xs) Ψ = ∃ ys, D.strs xs = some ys ∧ (∀ y, y ∈ ys → y.length ≤ sizeLine) ∧ Ψ (.lst ((srtLen ys).map D.str)) := rfl
def tSrtLen (K : PySem.W.Frag) (te : TE) : TE := fun σ H Q => te σ H fun x H1 => ∃ (a : Addr) (xs : List Str), x = .ref a ∧ SqL K H1 a (xs.map V.str) ∧ (∀ y, y ∈ xs → y.length ≤ sizeLine) ∧ ∀ p, H1 p = none → Q (.ref p) (upd H1 p (.lst ((srtLen xs).map V.str)))
section
variable {X : Cx} {K : PySem.W.Frag} {ks : List SK} {E : L2.St → XK} {kd : Kd} {pu : Bool} {e : Expr} {te : TE} {we : WE} {cpos p p2 p3 p4 p5 : Pos} {kk : Nat}
theorem cn_srt : CaN K (rSrtL K) dSrt := fun A H x d Ψ Q hA rx hw hq => by
  unfold dSrt at hw
  split at hw
  · obtain ⟨ys, e, h⟩ := hw
    rw [D.strs_inv e] at rx
    obtain ⟨q, vs, rfl, e1, r2⟩ := rx.lst_inv
    cases r2.strs_inv
    exact ⟨q, ys, rfl, SqL.of e1, fun p hp => hq _ _ p hp (rpl_strs _) h⟩
  · exact hw.elim
theorem pe_srtLen (hu : X.A.units + 64 < cLine) (hm : X.mg "sorted" = none) (hml : X.mg "len" = none) (hg : Gl X "sorted") (hgl : Gl X "len") (ha : PE X e te) (hv : bootBuiltins "sorted" = some (.builtin "sorted")) (hvl : bootBuiltins "len" = some (.builtin "len"))
    (hs : starEach [e] X.env = (false, eval e X.env) :: starEach [] X.env) (he : backTo cpos (starEach [e] X.env) = (false, eval e X.env) :: backTo cpos (starEach [] X.env)) (hplain : (backTo cpos (starEach [e] X.env)).any (·.1) = false) :
    PE X (.Call (.Name "sorted" p) [e] [⟨some "key", .Name "len" p2, p3⟩, ⟨some "reverse", .Constant (.bool true) kk p4, p5⟩] cpos) (tSrtLen X.K te) := by
  refine ⟨fun pins s σ H Q I h => ?_⟩
  refine wpAny_Call_Name_kw (ld_blt I hg hm hv ?_ (by decide) (by decide))
  refine PyProof.Rows.callWith_kw (thn ((pa_cons ha pa_nil hs).run cpos pins s σ H (fun vs H1 => match vs with
    | [x] => ∃ (a : Addr) (xs : List Str), x = .ref a ∧ SqL X.K H1 a (xs.map V.str) ∧ (∀ y, y ∈ xs → y.length ≤ sizeLine) ∧ ∀ p, H1 p = none → Q (.ref p) (upd H1 p (.lst ((srtLen xs).map V.str)))
    | _ => False) I h) fun us s1 ⟨vs, H1, I1, r1, q1⟩ => ?_) he hplain rfl rfl
  dsimp only at q1
  split at q1
  · obtain ⟨a, xs, rfl, hq, hz, q⟩ := q1
    obtain rfl := Vals.ref1 r1
    show wpAny _ _ (evalAll ((do let v ← eval (.Name "len" p2) X.env; standAt cpos; pure v) :: (do let v ← eval (.Constant (.bool true) kk p4) X.env; standAt cpos; pure v) :: (backToKw cpos (keywordEach [] X.env)).map (·.2))) _ _ s1
    refine wpAny_evalAll_cons (wpAny_bind (ld_blt I1 hgl hml hvl (wpAny_bind (wpAny_standAt (wpAny_pure ?_))) (by decide) (by decide)))
    refine wpAny_evalAll_cons (wpAny_bind (Constant_bool (wpAny_bind (wpAny_standAt (wpAny_pure ?_)))))
    exact wpAny_evalAll_nil (call_srtLen hu I1 hq hz q)
  · exact q1.elim
theorem xSrtLen (hu : X.A.units + 64 < cLine) (hm : X.mg "sorted" = none) (hml : X.mg "len" = none) (h : PX X K ks E pu kd e te we) (hk : kd.op := by trivial) (hg : Gl X "sorted" := by rfl) (hgl : Gl X "len" := by rfl)
    (hv : bootBuiltins "sorted" = some (.builtin "sorted") := by decide +kernel) (hvl : bootBuiltins "len" = some (.builtin "len") := by decide +kernel)
    (hs : starEach [e] X.env = (false, eval e X.env) :: starEach [] X.env := by rfl) (he : backTo cpos (starEach [e] X.env) = (false, eval e X.env) :: backTo cpos (starEach [] X.env) := by rfl) (hplain : (backTo cpos (starEach [e] X.env)).any (·.1) = false := by rfl) :
    PX X K ks E pu (.o shL) (.Call (.Name "sorted" p) [e] [⟨some "key", .Name "len" p2, p3⟩, ⟨some "reverse", .Constant (.bool true) kk p4, p5⟩] cpos) (tSrtLen K te) (w1e dSrtLen we) := by
  cases h.hK
  refine ⟨rfl, pe_srtLen hu hm hml hg hgl h.pe hv hvl hs he hplain, fun O Fs ρ σ H Ψ Ξ Q R hw hq hx => ?_⟩
  refine h.snd O Fs ρ σ H _ Ξ _ R hw (fun d ρ1 Fs1 v H1 u1 f1 r1 p1 => ?_) hx
  obtain ⟨R1, y⟩ := r1.rt hk
  unfold dSrtLen at p1
  split at p1
  · obtain ⟨ys, e, hz, hm⟩ := p1
    rw [D.strs_inv e] at y
    obtain ⟨q, vs, rfl, e1, r2⟩ := y.lst_inv
    cases r2.strs_inv
    exact ⟨q, ys, rfl, SqL.of e1, hz, fun p hp => hq _ ρ1 Fs1 _ _ (u1.ext (Ext.upd hp)) (f1.trans (Ext.upd hp).fr) (res_new R1 hp (fun a h => f1.dom a h) (rpl_strs _)) hm⟩
  · exact p1.elim
end
end Fw

/-! Fw27: list comprehensions of two clauses, their parts pure. -/
namespace Fw
open PySem L2 PySem.Spec PyProof.Rows

def wL2In (wg1 : WG) (wt1 : WB) (we : WE) (vs1 : List Nat) : List D → List D → Env → (List D → Env → Prop) → Prop
  | [], acc, ρ, Ψ => Ψ acc ρ
  | d :: ds, acc, ρ, Ψ => wg1 d ρ fun ρ1 => wt1 ρ1 (fun b ρ2 => if b = true then we ρ2 (fun y ρ3 => acc.length < sizeLine ∧ wL2In wg1 wt1 we vs1 ds (acc ++ [y]) (wipeE ρ3 vs1) Ψ) (fun _ _ => False) else wL2In wg1 wt1 we vs1 ds acc (wipeE ρ2 vs1) Ψ) (fun _ _ => False)
def wL2Out (wg : WG) (wt : WB) (wi1 : WA) (wg1 : WG) (wt1 : WB) (we : WE) (vs vs1 : List Nat) : List D → List D → Env → (List D → Env → Prop) → Prop
  | [], acc, ρ, Ψ => Ψ acc ρ
  | d :: ds, acc, ρ, Ψ => wg d ρ fun ρ1 => wt ρ1 (fun b ρ2 => if b = true then wi1 ρ2 (fun ds1 ρ3 => wL2In wg1 wt1 we vs1 ds1 acc (wipeE ρ3 vs1) fun acc' ρ4 => wL2Out wg wt wi1 wg1 wt1 we vs vs1 ds acc' (wipeE ρ4 vs) Ψ) (fun _ _ => False) else wL2Out wg wt wi1 wg1 wt1 we vs vs1 ds acc (wipeE ρ2 vs) Ψ) (fun _ _ => False)
def wL2P (wi : WA) (wg : WG) (wt : WB) (wi1 : WA) (wg1 : WG) (wt1 : WB) (we : WE) (vs vs1 : List Nat) : WE := fun ρ Ψ Ξ => wi ρ (fun ds ρ1 => wL2Out wg wt wi1 wg1 wt1 we vs vs1 ds [] (wipeE ρ1 vs) fun acc _ => Ψ (.lst acc) ρ1) Ξ
theorem wL2P_eq {wi : WA} {wg : WG} {wt : WB} {wi1 : WA} {wg1 : WG} {wt1 : WB} {we : WE} {vs vs1 : List Nat} {ρ : Env} {Ψ : D → Env → Prop} {Ξ : Exc → Env → Prop} :
    wL2P wi wg wt wi1 wg1 wt1 we vs vs1 ρ Ψ Ξ = wi ρ (fun ds ρ1 => wL2Out wg wt wi1 wg1 wt1 we vs vs1 ds [] (wipeE ρ1 vs) fun acc _ => Ψ (.lst acc) ρ1) Ξ := rfl
section
variable {X : Cx} {K : PySem.W.Frag} {ks : List SK} {E : L2.St → XK} {rk kd : Kd} {pu fl pi pt pe : Bool} {tg iter tg1 iter1 elt c e : Expr} {ifs ifs1 : List Expr} {wi wi1 : TI} {wiD wiD1 : WA} {g g1 : TG} {wg wg1 : WG} {tt tt1 : TT} {wt wt1 : WB} {te : TE} {we : WE} {vs vs1 : List Nat} {scope : Scope} {own : List (Str × Nat)} {pos cpos p p2 p3 p4 : Pos}
theorem snd_lc2P (hi : PXi X K ks E true pi tg iter wi wiD) (hg : SndG K ks g wg) (gm : GMono g) (go : GOnly g vs) (ht : SndB K ks EN true tt wt)
    (hi1 : ∀ O Fs ρ σ H Ψ Ξ R, Repr K ks O Fs ρ σ H → wiD1 ρ Ψ Ξ → (∀ ds ρ' Fs' J H', Pu true ρ ρ' Fs Fs' H H' → Fr Fs H Fs' H' → Repr K ks O Fs' ρ' σ H' → ItOk false K (av O Fs') H' J ds → Ψ ds ρ' → R J H') → LkX K ks O Fs σ H Ξ (EN σ) → wi1 σ H R)
    (hg1 : SndG K ks g1 wg1) (gm1 : GMono g1) (go1 : GOnly g1 vs1) (ht1 : SndB K ks EN true tt1 wt1) (he : Snd K ks EN true .z te we) (hv : ∀ i ∈ vs1, i ∈ vs) :
    Snd K ks E pi (.o shL) (tLc2 wi g tt wi1 g1 tt1 te vs vs1) (wL2P wiD wg wt wiD1 wg1 wt1 we vs vs1) := fun O Fs ρ σ H Ψ Ξ Q R hw hq hx => by
  refine hi.snd O Fs ρ σ H _ Ξ _ R hw (fun ds ρ1 Fs1 J H1 u1 f1 R1 it p => ?_) hx
  intro D hD
  let OD := O.add fun a => a = D
  have hDB : OD.B D := .inr rfl
  let Fin : List Fw.D → Env → Prop := fun acc _ => Ψ (.lst acc) ρ1
  let W : Nat → Hp → Prop := fun i H2 => i ≤ ds.length ∧ ∃ (ρ2 : Env) (av2 : List V) (acc : List Fw.D), Repr K ks OD Fs1 ρ2 (L2.wipe σ vs) H2 ∧ Ext H1 H2 ∧ H2 D = some (.lst av2) ∧ RpL K (av OD Fs1) H2 av2 acc ∧ wL2Out wg wt wiD1 wg1 wt1 we vs vs1 (ds.drop i) acc ρ2 Fin
  have e0 : Ext H1 (upd H1 D (.lst [])) := Ext.upd hD
  refine ⟨fun i m H2 => m = ds.length - i ∧ W i H2, ⟨ds.length, rfl, Nat.zero_le _, _, [], [], (R1.add e0 (fun a z => by subst z; exact ⟨hD, by rw [upd_same]; simp⟩)).wipe vs, e0, upd_same, .nil, by rw [List.drop_zero]; exact p⟩, ?_⟩
  rintro i m H2 ⟨rfl, hle, ρ2, av2, acc, R2, f2, hD2, ra, p2⟩
  have kp : Kp true (av O Fs1) (av OD Fs1) H1 H2 := ⟨fun a _ h => f2 a h, fun a z => (av_add_inv z).imp id fun z => by rw [z]; exact hD, fun a => R2.adom⟩
  obtain ⟨go0, stop⟩ := it i _ H2 kp
  rcases Nat.lt_or_ge i ds.length with hlt | hge
  case inr =>
    have e : i = ds.length := by omega
    subst e
    rw [List.drop_length] at p2
    have hn : H D = none := by
      cases q : H D with
      | none => rfl
      | some o => exact absurd hD (f1.dom D (by rw [q]; simp))
    have R3 : Repr K ks OD Fs1 ρ1 σ H2 := R1.add f2 (fun a z => by subst z; exact ⟨hD, by rw [hD2]; simp⟩)
    exact .inl ⟨stop (Nat.le_refl _), hq (.lst acc) ρ1 Fs1 (.ref D) H2 (fun z => let ⟨a, b, c⟩ := u1 z; ⟨a, b, c.trans f2⟩) (f1.trans f2.fr) ⟨fun a => a = D, R3, ⟨D, av2, acc, rfl, rfl, fun _ => Iff.rfl, hD2, ra⟩, fun a z => by
      subst z
      exact ⟨fun q => R.od _ q hn, fun q => R.bd _ q hn, .inr hn⟩⟩ p2⟩
  obtain ⟨hgo, hy⟩ := go0 ds[i] (by simp [hlt])
  refine .inr ⟨hgo, W (i + 1), fun H3 h3 => ⟨ds.length - (i + 1), by omega, rfl, h3⟩, fun x H3 y => ?_⟩
  obtain ⟨e2, rx⟩ := hy x H3 y
  have hD3 : H3 D = some (.lst av2) := by rw [e2 D (by rw [hD2]; simp), hD2]
  have ext3 : Ext H1 H3 := f2.trans e2
  rw [List.drop_eq_getElem_cons hlt] at p2
  have gw := hg OD Fs1 ρ2 (L2.wipe σ vs) H3 x _ _ (fun σ3 H4 => H4 = H3 ∧ ∃ ρ3, Repr K ks OD Fs1 ρ3 σ3 H3 ∧ wt ρ3 (fun b ρ2 => if b = true then wiD1 ρ2 (fun ds1 ρ3 => wL2In wg1 wt1 we vs1 ds1 acc (wipeE ρ3 vs1) fun acc' ρ4 => wL2Out wg wt wiD1 wg1 wt1 we vs vs1 (ds.drop (i + 1)) acc' (wipeE ρ4 vs) Fin) (fun _ _ => False) else wL2Out wg wt wiD1 wg1 wt1 we vs vs1 (ds.drop (i + 1)) acc (wipeE ρ2 vs) Fin) (fun _ _ => False))
    (R2.ext e2) rx p2 (fun ρ3 σ3 R3 p3 => ⟨rfl, ρ3, R3, p3⟩)
  refine gm _ _ _ _ _ (fun σ3 H4 z => ?_) (go _ _ _ _ gw)
  obtain ⟨ew, rfl, ρ3, R3, p3⟩ := z
  rw [wipe_wipe] at ew
  refine ⟨ew, ht _ Fs1 ρ3 σ3 H4 _ (fun _ _ => False) _ R3 p3 (fun b ρ4 Fs4 H5 u4 f4 R4 p4 => ?_) (fun _ _ _ _ _ _ _ _ _ q => q.elim)⟩
  obtain ⟨rfl, rfl, e4⟩ := u4 rfl
  have hD5 : H5 D = some (.lst av2) := by rw [e4 D (by rw [hD3]; simp), hD3]
  cases b with
  | false =>
    rw [if_neg Bool.false_ne_true] at p4 ⊢
    exact ⟨hlt, _, av2, acc, R4.rewipe ew, ext3.trans e4, hD5, (ra.mono e2.mo).mono f4.mo, p4⟩
  | true =>
    rw [if_pos rfl] at p4 ⊢
    refine hi1 _ Fs4 ρ4 σ3 H5 _ (fun _ _ => False) _ R4 p4 (fun ds1 ρ5 Fs5 J1 H6 u5 f5 R5 it1 p5 => ?_) (fun _ _ _ _ _ _ _ _ _ q => q.elim)
    obtain ⟨rfl, rfl, e5⟩ := u5 rfl
    have hD6 : H6 D = some (.lst av2) := by rw [e5 D (by rw [hD5]; simp), hD5]
    have ext6 : Ext H1 H6 := (ext3.trans e4).trans e5
    let W1 : Nat → Hp → Prop := fun j H7 => j ≤ ds1.length ∧ ∃ (ρ7 : Env) (av7 : List V) (acc7 : List Fw.D), Repr K ks OD Fs5 ρ7 (L2.wipe σ3 vs1) H7 ∧ Ext H1 H7 ∧ (∀ a, a ≠ D → H6 a ≠ none → H7 a = H6 a) ∧ H7 D = some (.lst av7) ∧ RpL K (av OD Fs5) H7 av7 acc7 ∧
      wL2In wg1 wt1 we vs1 (ds1.drop j) acc7 ρ7 fun acc' ρ4 => wL2Out wg wt wiD1 wg1 wt1 we vs vs1 (ds.drop (i + 1)) acc' (wipeE ρ4 vs) Fin
    refine ⟨fun j k H7 => k = ds1.length - j ∧ W1 j H7, ⟨ds1.length, rfl, Nat.zero_le _, _, av2, acc, R5.wipe vs1, ext6, fun _ _ _ => rfl, hD6, ((ra.mono e2.mo).mono f4.mo).mono f5.mo, by rw [List.drop_zero]; exact p5⟩, ?_⟩
    rintro j k H7 ⟨rfl, hle1, ρ7, av7, acc7, R7, ext7, k7, hD7, ra7, p7⟩
    have kp1 : Kp false (av OD Fs5) (av OD Fs5) H6 H7 := ⟨fun a z h => k7 a (fun e => by rcases z with z | z; cases z; exact z (.inr (.inl (e ▸ hDB)))) h, fun a z => .inl z, fun a => R7.adom⟩
    obtain ⟨go10, stop1⟩ := it1 j _ H7 kp1
    rcases Nat.lt_or_ge j ds1.length with hlt1 | hge1
    case inr =>
      have e : j = ds1.length := by omega
      subst e
      rw [List.drop_length] at p7
      refine .inl ⟨stop1 (Nat.le_refl _), hlt, _, av7, acc7, ?_, ext7, hD7, ra7, p7⟩
      exact R7.rewipe ((wipe_sub hv).trans ew)
    obtain ⟨hgo1, hy1⟩ := go10 ds1[j] (by simp [hlt1])
    refine .inr ⟨hgo1, W1 (j + 1), fun H8 h8 => ⟨ds1.length - (j + 1), by omega, rfl, h8⟩, fun x1 H8 y1 => ?_⟩
    obtain ⟨e8, rx1⟩ := hy1 x1 H8 y1
    have hD8 : H8 D = some (.lst av7) := by rw [e8 D (by rw [hD7]; simp), hD7]
    rw [List.drop_eq_getElem_cons hlt1] at p7
    have gw1 := hg1 OD Fs5 ρ7 (L2.wipe σ3 vs1) H8 x1 _ _ (fun σ9 H9 => H9 = H8 ∧ ∃ ρ9, Repr K ks OD Fs5 ρ9 σ9 H8 ∧ wt1 ρ9 (fun b ρ2 => if b = true then we ρ2 (fun y ρ3 => acc7.length < sizeLine ∧ wL2In wg1 wt1 we vs1 (ds1.drop (j + 1)) (acc7 ++ [y]) (wipeE ρ3 vs1) fun acc' ρ4 => wL2Out wg wt wiD1 wg1 wt1 we vs vs1 (ds.drop (i + 1)) acc' (wipeE ρ4 vs) Fin) (fun _ _ => False) else wL2In wg1 wt1 we vs1 (ds1.drop (j + 1)) acc7 (wipeE ρ2 vs1) fun acc' ρ4 => wL2Out wg wt wiD1 wg1 wt1 we vs vs1 (ds.drop (i + 1)) acc' (wipeE ρ4 vs) Fin) (fun _ _ => False))
      (R7.ext e8) rx1 p7 (fun ρ9 σ9 R9 p9 => ⟨rfl, ρ9, R9, p9⟩)
    refine gm1 _ _ _ _ _ (fun σ9 H9 z => ?_) (go1 _ _ _ _ gw1)
    obtain ⟨ew9, rfl, ρ9, R9, p9⟩ := z
    rw [wipe_wipe] at ew9
    refine ⟨ew9, ht1 _ Fs5 ρ9 σ9 H9 _ (fun _ _ => False) _ R9 p9 (fun b ρ10 Fs10 H10 u10 f10 R10 p10 => ?_) (fun _ _ _ _ _ _ _ _ _ q => q.elim)⟩
    obtain ⟨rfl, rfl, e10⟩ := u10 rfl
    have hD10 : H10 D = some (.lst av7) := by rw [e10 D (by rw [hD8]; simp), hD8]
    have kk : ∀ {H11 : Hp}, Ext H10 H11 → ∀ a, a ≠ D → H6 a ≠ none → H11 a = H6 a := fun {H11} ex a na ha => by
      have h7 := k7 a na ha
      have n7 : H7 a ≠ none := by rw [h7]; exact ha
      have := (e8.trans e10).trans ex a n7
      rw [this, h7]
    cases b with
    | false =>
      rw [if_neg Bool.false_ne_true] at p10 ⊢
      exact ⟨hlt1, _, av7, acc7, R10.rewipe ew9, (ext7.trans e8).trans e10, kk (Ext.refl _), hD10, (ra7.mono e8.mo).mono f10.mo, p10⟩
    | true =>
      rw [if_pos rfl] at p10 ⊢
      refine he _ Fs10 ρ10 σ9 H10 _ (fun _ _ => False) _ R10 p10 (fun yd ρ11 Fs11 yv H11 u11 f11 r11 p11 => ?_) (fun _ _ _ _ _ _ _ _ _ q => q.elim)
      obtain ⟨rfl, rfl, e11⟩ := u11 rfl
      have hD11 : H11 D = some (.lst av7) := by rw [e11 D (by rw [hD10]; simp), hD10]
      have ext11 : Ext H1 H11 := ((ext7.trans e8).trans e10).trans e11
      have ra11 := ((ra7.mono e8.mo).mono f10.mo).mono f11.mo
      refine ⟨av7, hD11, by rw [ra11.length]; exact p11.1, hlt1, _, av7 ++ [yv], acc7 ++ [yd], (r11.1.updB hDB).rewipe ew9, fun a h => ?_, fun a na h => ?_, upd_same, (ra11.append (.cons r11.2 .nil)).mono (av_upd_mo (.inr (.inl hDB))), p11.2⟩
      · rw [upd_ne (fun e => by rw [e] at h; exact h hD)]
        exact ext11 a h
      · rw [upd_ne na]
        exact kk e11 a na h
theorem xLc2P (own : List (Str × Nat)) (hc : X.calm = true) (hN : X.N.Nodup) (hi : PXi X K ks E true pi tg iter wi wiD) (ok : BlkOk X.N X.env.scope scope own) (hv : ∀ i ∈ vs1, i ∈ own.map (·.2))
    (hg : Blk X scope fun Y => QG Y K ks tg g wg) (gm : GMono g) (go : GOnly g (own.map (·.2))) (ht : Blk X scope fun Y => PBs Y K ks EN true ifs tt wt) (hi1 : Blk X scope fun Y => PXi Y K ks EN false true tg1 iter1 wi1 wiD1)
    (hg1 : Blk X scope fun Y => QG Y K ks tg1 g1 wg1) (gm1 : GMono g1) (go1 : GOnly g1 vs1) (ht1 : Blk X scope fun Y => PBs Y K ks EN true ifs1 tt1 wt1) (he : Blk X scope fun Y => PX Y K ks EN true .z elt te we)
    (hs : ∀ x, foldedSetIterable iter X.env x = pure x := by intro _; rfl) (hs1 : ∀ env x, foldedSetIterable iter1 env x = pure x := by intro _ _; rfl) :
    PX X K ks E pi (.o shL) (.ListComp elt [⟨tg, iter, ifs, 0⟩, ⟨tg1, iter1, ifs1, 0⟩] scope pos) (tLc2 wi g tt wi1 g1 tt1 te (own.map (·.2)) vs1) (wL2P wiD wg wt wiD1 wg1 wt1 we (own.map (·.2)) vs1) := by
  cases hi.hK
  obtain ⟨Y1, b1⟩ := hg.get
  obtain ⟨Y2, b2⟩ := ht.get
  obtain ⟨Y3, b3⟩ := hi1.get
  obtain ⟨Y4, b4⟩ := hg1.get
  obtain ⟨Y5, b5⟩ := ht1.get
  obtain ⟨Y6, b6⟩ := he.get
  exact ⟨rfl, pe_lc2 hc hN hi.pi ok hv (fun s H C cl fp => (hg s H C cl fp).pg) (fun s H C cl fp => (ht s H C cl fp).pts) (fun s H C cl fp => (hi1 s H C cl fp).pi) (fun s H C cl fp => (hg1 s H C cl fp).pg) (fun s H C cl fp => (ht1 s H C cl fp).pts) (fun s H C cl fp => (he s H C cl fp).pe) hs hs1, snd_lc2P hi b1.snd gm go b2.snd b3.snd b4.snd gm1 go1 b5.snd b6.snd hv⟩
end
end Fw

/-! Fw28: clear, pop, get. -/
namespace Fw
open PySem L2 PySem.Spec PyProof.Rows
section
variable {X : Cx} {K : PySem.W.Frag} {ks : List SK} {E : L2.St → XK} {rk kd : Kd} {pu : Bool} {e f o : Expr} {te tf to : TE} {we wf wo : WE} {pos p p2 apos cpos : Pos} {i : Nat} {x : Str}
/-! ### xs.clear() -/
def wClr (i : Nat) : WS := fun De ρ => lstAt ρ[i]? fun _ => De.nx (ρ.set i (some (.lst [])))
theorem wClr_eq {De : DEnds} {ρ : Env} : wClr i De ρ = lstAt ρ[i]? fun _ => De.nx (ρ.set i (some (.lst []))) := rfl
theorem snd_clr (hk : Owns ks i shL) : SndS K ks E rk (tDrop (tBM0 K "list" rClear (tVar i))) (wClr i) := fun O Fs ρ σ H Dd Dh R hw L => by
  unfold wClr at hw
  rw [← lstAt_ex] at hw
  obtain ⟨xs, h1, hw⟩ := hw
  obtain ⟨p, vs, g1, g2, g3, g4⟩ := R.lstAt hk h1
  obtain ⟨R2, f2⟩ := R.putL hk h1 g1 g2 (ys := []) (us := []) .nil
  exact ⟨.ref p, g1, .inl ⟨rfl, vs, SqL.of g3⟩, p, vs, rfl, rfl, g3, L.nx _ Fs σ _ R2 f2 hw⟩
theorem sClr (hk : Owns ks i shL) (hN : X.N[i]? = some x := by rfl) (hv : Vis X.env.scope x := by first | exact Or.inl rfl | exact Or.inr (Or.inl rfl) | exact Or.inr (Or.inr rfl)) (hd : (x == ("__debug__" : Str)) = false := by decide) (hcd : (x == ("__classdict__" : Str)) = false := by decide)
    (hbase : attributeBase (.Name x p) "clear" X.env (eval (.Name x p) X.env) = eval (.Name x p) X.env := by rfl) (hline : (apos.endLine == p2.line) = true := by rfl)
    (hsw : swapsWith (.Call (.Attribute (.Name x p) "clear" apos) [] [] p2) none pos.line X.env = pure false := by rfl) (hK : X.K = K := by rfl) :
    QS X K ks E rk (.Expr (.Call (.Attribute (.Name x p) "clear" apos) [] [] p2) pos) (tDrop (tBM0 K "list" rClear (tVar i))) (wClr i) := by
  cases hK
  exact ⟨rfl, ps_expr (pe_bm0 PySem.F.plainAttrs_list PySem.F.slot_list_clear PySem.F.type_list_clear mt_clear (pe_var hN hv hd hcd) hbase hline) hsw, snd_clr hk⟩
/-! ### xs.pop(k) -/
def wPopAt (i : Nat) (we : WE) : WE := fun ρ Ψ Ξ => lstAt ρ[i]? (fun _ => True) ∧ we ρ (fun kd ρ1 => lstAt ρ1[i]? fun xs => intAt kd fun k => 0 ≤ k ∧ xs.length ≤ sizeLine ∧ ∃ y, xs[k.toNat]? = some y ∧ Ψ y (ρ1.set i (some (.lst (xs.eraseIdx k.toNat))))) Ξ
theorem wPopAt_eq {ρ : Env} {Ψ : D → Env → Prop} {Ξ : Exc → Env → Prop} : wPopAt i we ρ Ψ Ξ = (lstAt ρ[i]? (fun _ => True) ∧ we ρ (fun kd ρ1 => lstAt ρ1[i]? fun xs => intAt kd fun k => 0 ≤ k ∧ xs.length ≤ sizeLine ∧ ∃ y, xs[k.toNat]? = some y ∧ Ψ y (ρ1.set i (some (.lst (xs.eraseIdx k.toNat))))) Ξ) := rfl
theorem RpL.erase {A : AS} {H : Hp} : ∀ {vs : List V} {ds : List D}, RpL K A H vs ds → ∀ k : Nat, RpL K A H (vs.eraseIdx k) (ds.eraseIdx k)
  | _, _, .nil, _ => .nil
  | _, _, .cons _ t, 0 => t
  | _, _, .cons h t, k + 1 => .cons h (RpL.erase t k)
theorem RpL.atN {A : AS} {H : Hp} : ∀ {vs : List V} {ds : List D}, RpL K A H vs ds → ∀ {k : Nat} {d : D}, ds[k]? = some d → ∃ v, vs[k]? = some v ∧ Rp K A H v d
  | _, _, .cons h _, 0, d, e => by cases e; exact ⟨_, rfl, h⟩
  | _, _, .cons _ t, k + 1, d, e => RpL.atN t (k := k) e
theorem snd_popAt (hk : Owns ks i shL) (h : Snd K ks E false .z te we) : Snd K ks E false .z (tBM K "list" rPopAt (tVar i) (tCons te tNil)) (wPopAt i we) := fun O Fs ρ σ H Ψ Ξ Q R hw hq hx => by
  obtain ⟨q0, hw⟩ := hw
  rw [← lstAt_ex] at q0
  obtain ⟨xs0, e0, _⟩ := q0
  obtain ⟨p, vs, g1, g2, g3, g4⟩ := R.lstAt hk e0
  refine ⟨.ref p, g1, .inl ⟨rfl, vs, SqL.of g3⟩, h O Fs ρ σ H _ Ξ _ R hw (fun d ρ1 Fs1 v H1 u f r q => ?_) hx⟩
  rw [← lstAt_ex] at q
  obtain ⟨xs, e1, q⟩ := q
  rw [← intAt_ex] at q
  obtain ⟨k, rfl, h0, hz, y, hy, q⟩ := q
  obtain ⟨p', us, g1', g2', g3', g4'⟩ := r.1.lstAt hk e1
  rw [g1] at g1'
  cases g1'
  obtain ⟨w, hw1, rw1⟩ := g4'.atN hy
  have hlt : k.toNat < xs.length := (List.getElem?_eq_some_iff.mp hy).1
  have hl := g4'.length
  have hsz := sizeLine_eq
  obtain ⟨R2, f2⟩ := r.1.putL hk e1 g1 g2' (g4'.erase k.toNat)
  refine ⟨p, us, k, k.toNat, w, rfl, by cases r.2; rfl, g3', by omega, by omega, ?_, hw1, hq y _ Fs1 w _ (fun z => by cases z) (f.trans f2) ⟨R2, ?_⟩ q⟩
  · unfold seqIndex?
    rw [hl]
    simp only [show ¬ k < 0 by omega, if_false]
    first
      | (rw [if_pos (by omega)])
      | (simp; omega)
  · exact rw1.mono (av_upd_mo (.inr (.inr ⟨i, (g2' p).mpr rfl⟩)))
theorem xPopAt (i : Nat) (hk : Owns ks i shL) (h : PX X K ks E false .z e te we) (hN : X.N[i]? = some x := by rfl) (hv : Vis X.env.scope x := by first | exact Or.inl rfl | exact Or.inr (Or.inl rfl) | exact Or.inr (Or.inr rfl)) (hd : (x == ("__debug__" : Str)) = false := by decide) (hcd : (x == ("__classdict__" : Str)) = false := by decide)
    (hs : starEach [e] X.env = (false, eval e X.env) :: starEach [] X.env := by rfl) (hbase : attributeBase (.Name x p) "pop" X.env (eval (.Name x p) X.env) = eval (.Name x p) X.env := by rfl)
    (hfew : ((backTo cpos (starEach [e] X.env)).all (fun x => !x.1) && (backToKw cpos (keywordEach [] X.env)).all (fun x => x.1.isSome) && decide ([e].length + ([] : List Keyword).length + (if ([] : List Keyword).isEmpty then 0 else 1) < 30)) = true := by rfl)
    (hline : (apos.endLine == cpos.line) = true := by rfl) (hplain : (backTo cpos (starEach [] X.env)).any (·.1) = false := by rfl) :
    PX X K ks E false .z (.Call (.Attribute (.Name x p) "pop" apos) [e] [] cpos) (tBM K "list" rPopAt (tVar i) (tCons te tNil)) (wPopAt i we) := by
  cases h.hK
  exact ⟨rfl, pe_bm PySem.F.plainAttrs_list PySem.F.slot_list_pop PySem.F.type_list_pop mt_popAt (pe_var hN hv hd hcd) (pa_cons h.pe pa_nil hs) hbase hfew hline hs hplain, snd_popAt hk h.snd⟩
/-! ### d.pop(k), as a statement -/
theorem snd_popK (hk : Owns ks i shK) (h : Snd K ks E false .z te we) : SndS K ks E rk (tDrop (tDPop1 (tVar i) te)) (wDelK i we) := fun O Fs ρ σ H Dd Dh R hw L => by
  obtain ⟨q0, hw⟩ := hw
  rw [← dkAt_ex] at q0
  obtain ⟨xs, h1, _⟩ := q0
  obtain ⟨p, vs, g1, g2, g3, g4⟩ := R.dkAt hk h1
  refine ⟨.ref p, g1, p, rfl, .inl ⟨vs, .inl g3⟩, h O Fs ρ σ H _ Dd.xx _ R hw (fun kd ρ2 Fs2 kv H2 u2 f2 r2 q2 => ?_) L.lkx⟩
  rw [← dkAt_ex] at q2
  obtain ⟨ys, q1, q2⟩ := q2
  rw [← keyAt_ex] at q2
  obtain ⟨k, ek, hl, q4⟩ := q2
  obtain ⟨p', us, g1', g2', g3', g4'⟩ := r2.1.dkAt hk q1
  rw [g1] at g1'
  cases g1'
  obtain ⟨v, hv⟩ := Option.isSome_iff_exists.mp (show (valV us k).isSome = true by rw [g4'.some]; exact hl)
  obtain ⟨R2, f3⟩ := r2.1.putKV hk q1 g1 g2' (g4'.drop (k := k))
  exact ⟨us, k, v, g3', (RT.of r2.2).key ek, hv, L.nx _ Fs2 σ _ R2 (f2.trans f3) q4⟩
theorem sPopK (hk : Owns ks i shK) (h : PX X K ks E false .z e te we) (hN : X.N[i]? = some x := by rfl) (hv : Vis X.env.scope x := by first | exact Or.inl rfl | exact Or.inr (Or.inl rfl) | exact Or.inr (Or.inr rfl)) (hd : (x == ("__debug__" : Str)) = false := by decide) (hcd : (x == ("__classdict__" : Str)) = false := by decide)
    (m : M1 X (.Name x p) "pop" apos e cpos := by exact ⟨rfl, rfl, rfl, rfl⟩) (hsw : swapsWith (.Call (.Attribute (.Name x p) "pop" apos) [e] [] cpos) none pos.line X.env = pure false := by rfl) :
    QS X K ks E rk (.Expr (.Call (.Attribute (.Name x p) "pop" apos) [e] [] cpos) pos) (tDrop (tDPop1 (tVar i) te)) (wDelK i we) := by
  cases h.hK
  exact ⟨rfl, ps_expr (pe_dpop1 (pe_var hN hv hd hcd) h.pe m) hsw, snd_popK hk h.snd⟩
/-! ### d.get(k, z) -/
def wGet2 (wo we wf : WE) : WE := fun ρ Ψ Ξ => wo ρ (fun d ρ1 => dkAt (some (some d)) (fun _ => True) ∧ we ρ1 (fun y ρ2 => wf ρ2 (fun z ρ3 => dkAt (some (some d)) fun kvs => keyAt y fun k => Ψ ((valD kvs k).getD z) ρ3) Ξ) Ξ) Ξ
theorem wGet2_eq {wo we wf : WE} {ρ : Env} {Ψ : D → Env → Prop} {Ξ : Exc → Env → Prop} : wGet2 wo we wf ρ Ψ Ξ = wo ρ (fun d ρ1 => dkAt (some (some d)) (fun _ => True) ∧ we ρ1 (fun y ρ2 => wf ρ2 (fun z ρ3 => dkAt (some (some d)) fun kvs => keyAt y fun k => Ψ ((valD kvs k).getD z) ρ3) Ξ) Ξ) Ξ := rfl
theorem snd_get2 (ho : Snd K ks E pu kd to wo) (he : Snd K ks E true .z te we) (hf : Snd K ks E true .z tf wf) (hk : kd.op) : Snd K ks E pu .z (tDGet2 to te tf) (wGet2 wo we wf) := fun O Fs ρ σ H Ψ Ξ Q R hw hq hx => by
  refine ho O Fs ρ σ H _ Ξ _ R hw (fun d ρ1 Fs1 v H1 u1 f1 r1 p1 => ?_) hx
  obtain ⟨R1, y⟩ := r1.rt hk
  obtain ⟨q0, p1⟩ := p1
  rw [← dkAt_ex] at q0
  obtain ⟨kvs, e0, _⟩ := q0
  cases e0
  obtain ⟨p, vs, rfl, e1, rk1⟩ := y.dk_inv
  refine ⟨p, rfl, .inl ⟨vs, e1⟩, he O Fs1 ρ1 σ H1 _ Ξ _ R1 p1 (fun yd ρ2 Fs2 yv H2 u2 f2 r2 p2 => ?_) (hx.step f1)⟩
  refine hf O Fs2 ρ2 σ H2 _ Ξ _ r2.1 p2 (fun zd ρ3 Fs3 zv H3 u3 f3 r3 p3 => ?_) ((hx.step f1).step f2)
  obtain ⟨rfl, rfl, e2⟩ := u2 rfl
  obtain ⟨rfl, rfl, e3⟩ := u3 rfl
  rw [dkAt_some, ← keyAt_ex] at p3
  obtain ⟨k, ek, p3⟩ := p3
  have y3 := y.mono (f2.trans f3).mo fun _ _ _ _ q => (e2.trans e3).hc q
  obtain ⟨p', vs', e', e4, rk4⟩ := y3.dk_inv
  cases e'
  have ey := (RT.of (r2.2.mono f3.mo)).key ek
  subst ey
  have dg : DGet H3 p (L2.kV k) (valV vs' k) := .inl ⟨vs', k, e4, rfl, rfl⟩
  rcases rk4.val (k := k) with ⟨h1, h2⟩ | ⟨d', v', h1, h2, h3⟩
  · rw [h1] at p3
    rw [h2] at dg
    exact ⟨none, dg, hq _ ρ3 Fs3 _ H3 (u1.trans (fun _ => ⟨rfl, rfl, e2.trans e3⟩)) (f1.trans (f2.trans f3)) ⟨r3.1, r3.2⟩ p3⟩
  · rw [h1] at p3
    rw [h2] at dg
    exact ⟨some v', dg, hq _ ρ3 Fs3 _ H3 (u1.trans (fun _ => ⟨rfl, rfl, e2.trans e3⟩)) (f1.trans (f2.trans f3)) ⟨r3.1, h3⟩ p3⟩
theorem xGet2 (hu : X.A.units + 64 < cLine) (ho : PX X K ks E pu kd o to wo) (he : PX X K ks E true .z e te we) (hf : PX X K ks E true .z f tf wf) (hk : kd.op := by trivial) (m : M2 X o "get" apos e f cpos := by exact ⟨rfl, rfl, rfl, rfl⟩) :
    PX X K ks E pu .z (.Call (.Attribute o "get" apos) [e, f] [] cpos) (tDGet2 to te tf) (wGet2 wo we wf) := by
  cases ho.hK
  exact ⟨rfl, pe_dget2 (by omega) ho.pe he.pe hf.pe m, snd_get2 ho.snd he.snd hf.snd hk⟩
end
end Fw

/-! Fw29: a display of lists that stand in slots, compared. -/
namespace Fw
open PySem L2 PySem.Spec PyProof.Rows
inductive RTL (K : PySem.W.Frag) (A : AS) (H : Hp) : List V → List D → Prop
  | nil : RTL K A H [] []
  | cons {v : V} {d : D} {vs : List V} {ds : List D} : RT K A H v d → RTL K A H vs ds → RTL K A H (v :: vs) (d :: ds)
section
variable {K : PySem.W.Frag} {A : AS} {H H' : Hp}
theorem RT.ext (e : Ext H H') {v : V} {d : D} (h : RT K A H v d) : RT K A H' v d := h.mono e.mo fun _ _ _ _ q => e.hc q
theorem RTL.ext (e : Ext H H') : ∀ {vs : List V} {ds : List D}, RTL K A H vs ds → RTL K A H' vs ds
  | _, _, .nil => .nil
  | _, _, .cons h t => .cons (h.ext e) (RTL.ext e t)
theorem RTL.dp : ∀ {vs : List V} {ds : List D}, RTL K A H vs ds → D.okL ds = true → DpAll K H vs (D.pyL ds)
  | _, _, .nil, _ => .nil
  | _, _, .cons h t, e => by
    rw [D.okL, Bool.and_eq_true] at e
    rw [D.pyL]
    exact .cons (h.dp e.1) (RTL.dp t e.2)
theorem RTL.length : ∀ {vs : List V} {ds : List D}, RTL K A H vs ds → vs.length = ds.length
  | _, _, .nil => rfl
  | _, _, .cons _ t => by rw [List.length_cons, List.length_cons, RTL.length t]
end
structure PXts (X : Cx) (K : PySem.W.Frag) (ks : List SK) (E : L2.St → XK) (es : List Expr) (t : TA) (w : WA) : Prop where
  hK : X.K = K
  pa : PA X es t
  snd : ∀ O Fs ρ σ H Ψ Ξ Q, Repr K ks O Fs ρ σ H → w ρ Ψ Ξ → (∀ ds vs H', Ext H H' → Repr K ks O Fs ρ σ H' → RTL K (av O Fs) H' vs ds → Ψ ds ρ → Q vs H') → LkX K ks O Fs σ H Ξ (E σ) → t σ H Q
section
variable {X : Cx} {K : PySem.W.Frag} {ks : List SK} {E : L2.St → XK} {ka kd : Kd} {pu : Bool} {e a : Expr} {es : List Expr} {te ta : TE} {ts : TA} {we wa : WE} {ws : WA} {pos p2 : Pos}
theorem lNil (hK : X.K = K := by rfl) : PXts X K ks E [] tNil wNil := by
  cases hK
  exact ⟨rfl, pa_nil, fun O Fs ρ σ H Ψ Ξ Q R hw hq hx => hq [] [] H (Ext.refl H) R .nil hw⟩
theorem lCons (h : PX X K ks E true kd e te we) (hr : PXts X K ks E es ts ws) (hk : kd.op := by trivial) (hs : starEach (e :: es) X.env = (false, eval e X.env) :: starEach es X.env := by rfl) : PXts X K ks E (e :: es) (tCons te ts) (wCons we ws) := by
  cases h.hK
  refine ⟨rfl, pa_cons h.pe hr.pa hs, fun O Fs ρ σ H Ψ Ξ Q R hw hq hx => ?_⟩
  refine h.snd O Fs ρ σ H _ Ξ _ R hw (fun d ρ1 Fs1 v H1 u1 f1 r1 p1 => ?_) hx
  obtain ⟨R1, y⟩ := r1.rt hk
  obtain ⟨rfl, rfl, e1⟩ := u1 rfl
  refine hr.snd O Fs1 ρ1 σ H1 _ Ξ _ R1 p1 (fun ds vs H2 e2 R2 r2 p2 => ?_) (hx.step f1)
  exact hq (d :: ds) (v :: vs) H2 (e1.trans e2) R2 (.cons (y.ext e2) r2) p2
theorem snd_neL (ha : Snd K ks E pu ka ta wa) (hk : ka.op) (hb : PXts X K ks E es ts ws) : Snd K ks E pu .z (tOp (rNeD K) ta (tLst ts)) (w2e dNe wa (wLst ws)) := fun O Fs ρ σ H Ψ Ξ Q R hw hq hx => by
  refine ha O Fs ρ σ H _ Ξ _ R hw (fun dx ρ1 Fs1 x H1 u1 f1 r1 p1 => ?_) hx
  obtain ⟨R1, yx⟩ := r1.rt hk
  refine hb.snd O Fs1 ρ1 σ H1 _ Ξ _ R1 p1 (fun ds vs H2 e2 R2 r2 p2 => ⟨by rw [r2.length]; exact p2.1, fun p hp => ?_⟩) (hx.step f1)
  have e3 : Ext H2 (upd H2 p (.lst vs)) := Ext.upd hp
  obtain ⟨hz, c1, c2, hΨ⟩ := p2
  unfold D.cm at c1 c2
  rw [Bool.and_eq_true] at c1 c2
  have c3 : D.okL ds = true := by have := c2.1; rwa [D.ok] at this
  refine ⟨_, (D.lst ds).py, ((yx.ext e2).ext e3).dp c1.1, ?_, c1.2, c2.2, hq _ ρ1 Fs1 _ _ (u1.ext (e2.trans e3)) (f1.trans (e2.trans e3).fr) ⟨R2.ext e3, .bl _⟩ hΨ⟩
  rw [D.py]
  exact .lst (SqL.of upd_same) ((r2.ext e3).dp c3)
theorem snd_eqL (ha : Snd K ks E pu ka ta wa) (hk : ka.op) (hb : PXts X K ks E es ts ws) : Snd K ks E pu .z (tOp (rEqD K) ta (tLst ts)) (w2e dEq wa (wLst ws)) := fun O Fs ρ σ H Ψ Ξ Q R hw hq hx => by
  refine ha O Fs ρ σ H _ Ξ _ R hw (fun dx ρ1 Fs1 x H1 u1 f1 r1 p1 => ?_) hx
  obtain ⟨R1, yx⟩ := r1.rt hk
  refine hb.snd O Fs1 ρ1 σ H1 _ Ξ _ R1 p1 (fun ds vs H2 e2 R2 r2 p2 => ⟨by rw [r2.length]; exact p2.1, fun p hp => ?_⟩) (hx.step f1)
  have e3 : Ext H2 (upd H2 p (.lst vs)) := Ext.upd hp
  obtain ⟨hz, c1, c2, hΨ⟩ := p2
  unfold D.cm at c1 c2
  rw [Bool.and_eq_true] at c1 c2
  have c3 : D.okL ds = true := by have := c2.1; rwa [D.ok] at this
  refine ⟨_, (D.lst ds).py, ((yx.ext e2).ext e3).dp c1.1, ?_, c1.2, c2.2, hq _ ρ1 Fs1 _ _ (u1.ext (e2.trans e3)) (f1.trans (e2.trans e3).fr) ⟨R2.ext e3, .bl _⟩ hΨ⟩
  rw [D.py]
  exact .lst (SqL.of upd_same) ((r2.ext e3).dp c3)
theorem xNeL (hu : X.A.units + 64 < cLine) (ha : PX X K ks E pu ka a ta wa) (hb : PXts X K ks E es ts ws) (hm : behindInMarks .NotEq (.List es p2) = false := by first | exact nomark _ | rfl) (hk : ka.op := by trivial) : PX X K ks E pu .z (.Compare a [.NotEq] [.List es p2] pos) (tOp (rNeD K) ta (tLst ts)) (w2e dNe wa (wLst ws)) := by
  cases ha.hK
  exact ⟨rfl, pe_cmpR (op_neD hu) ha.pe (pe_lst hb.pa) hm, snd_neL ha.snd hk hb⟩
theorem bNeL (hu : X.A.units + 64 < cLine) (ha : PX X K ks E pu ka a ta wa) (hb : PXts X K ks E es ts ws) (hm : behindInMarks .NotEq (.List es p2) = false := by first | exact nomark _ | rfl) (hk : ka.op := by trivial) : PB X K ks E pu (.Compare a [.NotEq] [.List es p2] pos) (tTest (tOp (rNeD K) ta (tLst ts))) (wB (w2e dNe wa (wLst ws))) := by
  cases ha.hK
  exact ⟨rfl, pt_cmpR (op_neD hu) ha.pe (pe_lst hb.pa) hm, snd_B (snd_neL ha.snd hk hb) trivial⟩
theorem xEqL (hu : X.A.units + 64 < cLine) (ha : PX X K ks E pu ka a ta wa) (hb : PXts X K ks E es ts ws) (hm : behindInMarks .Eq (.List es p2) = false := by first | exact nomark _ | rfl) (hk : ka.op := by trivial) : PX X K ks E pu .z (.Compare a [.Eq] [.List es p2] pos) (tOp (rEqD K) ta (tLst ts)) (w2e dEq wa (wLst ws)) := by
  cases ha.hK
  exact ⟨rfl, pe_cmpR (op_eqD hu) ha.pe (pe_lst hb.pa) hm, snd_eqL ha.snd hk hb⟩
theorem bEqL (hu : X.A.units + 64 < cLine) (ha : PX X K ks E pu ka a ta wa) (hb : PXts X K ks E es ts ws) (hm : behindInMarks .Eq (.List es p2) = false := by first | exact nomark _ | rfl) (hk : ka.op := by trivial) : PB X K ks E pu (.Compare a [.Eq] [.List es p2] pos) (tTest (tOp (rEqD K) ta (tLst ts))) (wB (w2e dEq wa (wLst ws))) := by
  cases ha.hK
  exact ⟨rfl, pt_cmpR (op_eqD hu) ha.pe (pe_lst hb.pa) hm, snd_B (snd_eqL ha.snd hk hb) trivial⟩
end
end Fw

/-! Fw30: walks of dicts that stand in plain slots. -/
namespace Fw
open PySem L2 PySem.Spec PyProof.Rows
/-! ### a dict locked -/
def noLn : List SK → Bool
  | [] => true
  | .ln _ :: _ => false
  | _ :: ks => noLn ks
theorem noLn_at : ∀ {ks : List SK} {i : Nat} {s : Shp}, noLn ks = true → ks[i]? = some (.ln s) → False
  | [], _, _, _, h => by simp at h
  | k :: ks, 0, s, h, h2 => by
    have : k = .ln s := by simpa using h2
    subst this
    cases h
  | k :: ks, i + 1, s, h, h2 => by
    have h2' : ks[i]? = some (.ln s) := by simpa using h2
    refine noLn_at (ks := ks) ?_ h2'
    cases k <;> first | exact h | cases h
/-- the same but for a lock at d -/
structure Lkd (d : Addr) (H H' : Hp) : Prop where
  hc : ∀ a, hc H' a = hc H a
  ne : ∀ a, a ≠ d → H' a = H a
section
variable {K : PySem.W.Frag} {ks : List SK} {O : Gh} {Fs : Nat → AS} {ρ : Env} {σ : L2.St} {H H' : Hp} {d : Addr} {kvs : List (Key × V)} {od : Obj}
theorem Lkd.lock (h : H d = some (.dK kvs)) : Lkd d H (upd H d (.frz od (.dK kvs))) := by
  refine ⟨fun a => ?_, fun a n => upd_ne n⟩
  by_cases e : a = d
  · subst e
    unfold Fw.hc
    rw [upd_same, h]
    rfl
  · unfold Fw.hc
    rw [upd_ne e]
theorem Lkd.unlock (h : H d = some (.frz od (.dK kvs))) : Lkd d H (upd H d (.dK kvs)) := by
  refine ⟨fun a => ?_, fun a n => upd_ne n⟩
  by_cases e : a = d
  · subst e
    unfold Fw.hc
    rw [upd_same, h]
    rfl
  · unfold Fw.hc
    rw [upd_ne e]
theorem Lkd.none (l : Lkd d H H') {a : Addr} : H' a = Option.none ↔ H a = Option.none := (hc_none (H := H') (a := a)).symm.trans (by rw [l.hc]; exact hc_none)
theorem Lkd.mo (l : Lkd d H H') {A : AS} : Mo A A H H' := ⟨fun a o _ h => by rw [l.hc]; exact h, fun _ z => .inl z⟩
theorem Repr.lkd (R : Repr K ks O Fs ρ σ H) (l : Lkd d H H') (hn : ∀ i, ¬ Fs i d) (hl : noLn ks = true) : Repr K ks O Fs ρ σ H' := by
  have nn : ∀ {a}, H a ≠ none → H' a ≠ none := fun h z => h (l.none.mp z)
  refine ⟨R.lρ, R.lσ, R.dj, fun a z => nn (R.od a z), fun a z => nn (R.bd a z), R.fb, fun i a z => nn (R.fd i a z), fun i k e h1 h2 => ?_⟩
  obtain ⟨v, h3, h4⟩ := R.sl i k e h1 h2
  refine ⟨v, h3, ?_⟩
  have off : ∀ a, Fs i a → a ≠ d := fun a z q => hn i (q ▸ z)
  cases k with
  | z => exact Rp.mono l.mo h4
  | t => exact h4.imp (Rp.mono l.mo) fun ⟨r, p, e1, e2, e3, e4⟩ => ⟨r.monoAt l.mo fun _ _ _ q => by rw [l.hc]; exact q, p, e1, nn e2, e3, e4⟩
  | ln s => exact (noLn_at hl h1).elim
  | ow s => exact ⟨s.mono h4.1 l.mo fun b hb => l.ne b (off b hb), h4.2⟩
  | io s => exact ⟨s.mono h4.1 l.mo fun b hb => l.ne b (off b hb), h4.2⟩
theorem it_keys {A : AS} {ds : List (Key × D)} (hd : H d = some (.frz od (.dK kvs))) (n : ¬ A d) (e : kvs.map (·.1) = ds.map (·.1)) : ItOk false K A H (Itk d od kvs) (ds.map fun kv => keyV kv.1) := fun i A1 H1 k => by
  have h1 : H1 d = some (.frz od (.dK kvs)) := (k.keep d (.inr n) (by rw [hd]; simp)).trans hd
  have hl : kvs.length = ds.length := by have := congrArg List.length e; simpa using this
  refine ⟨fun x hx => ?_, fun hi => ⟨h1, by rw [List.length_map] at hi; omega⟩⟩
  rw [List.getElem?_map] at hx
  obtain ⟨kv, hkv, rfl⟩ := Option.map_eq_some_iff.mp hx
  have hi := (List.getElem?_eq_some_iff.mp hkv).1
  refine ⟨⟨h1, by omega⟩, fun y H2 hy => ?_⟩
  obtain ⟨rfl, k', v', hk', rfl⟩ := hy
  have e2 : (kvs.map (·.1))[i]? = (ds.map (·.1))[i]? := by rw [e]
  rw [List.getElem?_map, List.getElem?_map, hk', hkv] at e2
  have e3 : k' = kv.1 := by simpa using e2
  rw [← e3]
  exact ⟨Ext.refl _, rp_key k'⟩
theorem RpK.keysEq {A : AS} : ∀ {vs : List (Key × V)} {ds : List (Key × D)}, RpK K A H vs ds → vs.map (·.1) = ds.map (·.1)
  | _, _, .nil => rfl
  | _, _, .cons _ t => by rw [List.map_cons, List.map_cons, RpK.keysEq t]
theorem RpK.at2 {A : AS} : ∀ {vs : List (Key × V)} {ds : List (Key × D)}, RpK K A H vs ds → ∀ {i : Nat} {a : Key × V} {b : Key × D}, vs[i]? = Option.some a → ds[i]? = Option.some b → a.1 = b.1 ∧ Rp K A H a.2 b.2
  | _, _, .nil, i, a, b, ha, _ => by simp at ha
  | _, _, .cons h _, 0, a, b, ha, hb => by cases ha; cases hb; exact ⟨rfl, h⟩
  | _, _, .cons _ t, i + 1, a, b, ha, hb => RpK.at2 t (i := i) (by simpa using ha) (by simpa using hb)
theorem it_items {A : AS} {ds : List (Key × D)} (hd : H d = some (.frz od (.dK kvs))) (n : ¬ A d) (r : RpK K A H kvs ds) : ItOk false K A H (Iti d od kvs) (ds.map fun kv => .tup [keyV kv.1, kv.2]) := fun i A1 H1 k => by
  have h1 : H1 d = some (.frz od (.dK kvs)) := (k.keep d (.inr n) (by rw [hd]; simp)).trans hd
  have hl : kvs.length = ds.length := r.length
  have r1 := r.mono k.mo
  refine ⟨fun x hx => ?_, fun hi => ⟨h1, by rw [List.length_map] at hi; omega⟩⟩
  rw [List.getElem?_map] at hx
  obtain ⟨kv, hkv, rfl⟩ := Option.map_eq_some_iff.mp hx
  have hi := (List.getElem?_eq_some_iff.mp hkv).1
  refine ⟨⟨h1, by omega⟩, fun y H2 hy => ?_⟩
  obtain ⟨T, k', v', hk', rfl, hT, rfl⟩ := hy
  obtain ⟨e3, rv⟩ := r1.at2 hk' hkv
  have e3' : k' = kv.1 := e3
  have ex : Ext H1 (upd H1 T (.tup [L2.kV k', v'])) := Ext.upd hT
  rw [← e3']
  exact ⟨ex, .tup (fun z => k.dom T z hT) (hc_tup.mpr upd_same) (.cons (rp_key k') (.cons (rv.mono ex.mo) .nil))⟩
end
/-! ### for over a dict -/
section
variable {X : Cx} {K : PySem.W.Frag} {ks : List SK} {E : L2.St → XK} {rk : Kd} {tg e : Expr} {sts : List Stmt} {g : TG} {wg : WG} {t : TS} {w : WS} {pos p : Pos} {i : Nat} {x : Str}
/-- what a for's reading asks behind its source -/
theorem for_core {O : Gh} {Fs : Nat → AS} {ρ : Env} {σ : L2.St} {H : Hp} {Dd : DEnds} {Dh : Ends} {J : It} {ds : List D} (hg : QG X K ks tg g wg) (hb : SndS K ks E rk t w) (R : Repr K ks O Fs ρ σ H) (it : ItOk false K (av O Fs) H J ds) (p : wLoop wg w ds Dd ρ) (L : Lks K ks O Fs H rk E Dd Dh) :
    ∀ (wi : TI), (∀ Q : It → Hp → Prop, Q J H → wi σ H Q) → tFor wi g t Dh σ H := fun wi hwi => by
  refine hwi _ ?_
  refine ⟨fun i m σ' H' => m = ds.length - i ∧ i ≤ ds.length ∧ ∃ Fs' ρ', Repr K ks O Fs' ρ' σ' H' ∧ Fr Fs H Fs' H' ∧ wLoop wg w (ds.drop i) Dd ρ', ⟨ds.length, rfl, Nat.zero_le _, Fs, ρ, R, Fr.refl _ _, by simpa using p⟩, ?_⟩
  rintro i m σ' H' ⟨rfl, hle, Fs', ρ', R', f', p'⟩
  obtain ⟨go, stop⟩ := it i (av O Fs') H' (f'.kp R')
  by_cases hlt : i < ds.length
  · obtain ⟨hgo, hy⟩ := go ds[i] (by simp [hlt])
    refine .inr ⟨hgo, fun σ2 H2 => i + 1 ≤ ds.length ∧ ∃ Fs2 ρ2, Repr K ks O Fs2 ρ2 σ2 H2 ∧ Fr Fs H Fs2 H2 ∧ wLoop wg w (ds.drop (i + 1)) Dd ρ2, fun σ2 H2 h2 => ⟨ds.length - (i + 1), by omega, rfl, h2⟩, fun x H2 y => ?_⟩
    obtain ⟨e2, rx⟩ := hy x H2 y
    rw [List.drop_eq_getElem_cons hlt] at p'
    refine hg.snd O Fs' ρ' σ' H2 x _ _ _ (R'.ext e2) rx p' fun ρ3 σ3 R3 p3 => ?_
    have f3 : Fr Fs H Fs' H2 := f'.trans e2.fr
    exact hb O Fs' ρ3 σ3 H2 _ _ R3 p3 ⟨fun ρ4 Fs4 σ4 H4 R4 f4 p4 => ⟨hlt, Fs4, ρ4, R4, f3.trans f4, p4⟩, fun ρ4 Fs4 σ4 H4 R4 f4 p4 => L.nx ρ4 Fs4 σ4 H4 R4 (f3.trans f4) p4, fun ρ4 Fs4 σ4 H4 R4 f4 p4 => ⟨hlt, Fs4, ρ4, R4, f3.trans f4, p4⟩, (L.step f3).rt, (L.step f3).xx⟩
  · have e : i = ds.length := by omega
    subst e
    rw [List.drop_length] at p'
    exact .inl ⟨stop (Nat.le_refl _), L.nx ρ' Fs' σ' H' R' f' p'⟩
/-- ends behind a lock -/
theorem Lks.lkd {O : Gh} {Fs : Nat → AS} {H : Hp} {Dd : DEnds} {Dh : Ends} {d : Addr} {kvs : List (Key × V)} {od : Obj} (L : Lks K ks O Fs H rk E Dd Dh) (hd : H d = some (.dK kvs)) (hn : ∀ i, ¬ Fs i d) (hnO : ¬ O.O d ∧ ¬ O.B d) (hl : noLn ks = true) (hrk : rk = .z ∨ ∃ s, rk = .o s) :
    Lks K ks O Fs (upd H d (.frz od (.dK kvs))) rk E { Dd with xx := fun _ _ => False } ⟨fun σ' H' => H' d = some (.frz od (.dK kvs)) ∧ Dh.nx σ' (upd H' d (.dK kvs)), fun v H' => H' d = some (.frz od (.dK kvs)) ∧ Dh.rt v (upd H' d (.dK kvs)), fun σ' H' => H' d = some (.frz od (.dK kvs)) ∧ Dh.bk σ' (upd H' d (.dK kvs)), fun σ' H' => H' d = some (.frz od (.dK kvs)) ∧ Dh.ct σ' (upd H' d (.dK kvs))⟩ := by
  have l := Lkd.lock (od := od) hd
  have hne : upd H d (.frz od (.dK kvs)) d ≠ none := by rw [upd_same]; simp
  have key : ∀ {Fs' : Nat → AS} {H' : Hp}, Fr Fs (upd H d (.frz od (.dK kvs))) Fs' H' → H' d = some (.frz od (.dK kvs)) ∧ (∀ i, ¬ Fs' i d) ∧ Fr Fs H Fs' (upd H' d (.dK kvs)) := fun {Fs' H'} f => by
    have h1 : H' d = some (.frz od (.dK kvs)) := (f.keep d hn hne).trans upd_same
    refine ⟨h1, fun i z => (f.fp i d z).elim (fun ⟨j, q⟩ => hn j q) hne, fun a ha h => ?_, fun a h => ?_, fun i a z => (f.fp i a z).imp id l.none.mp⟩
    · by_cases e : a = d
      · rw [e, upd_same, hd]
      · rw [upd_ne e, f.keep a ha (fun z => h (l.none.mp z)), upd_ne e]
    · by_cases e : a = d
      · rw [e, upd_same]; simp
      · rw [upd_ne e]; exact f.dom a (fun z => h (l.none.mp z))
  refine ⟨fun ρ' Fs' σ' H' R f p => ?_, fun ρ' Fs' σ' H' R f p => ?_, fun ρ' Fs' σ' H' R f p => ?_, fun dd ρ' Fs' σ' v H' f r p => ?_, fun σ' y ρ' Fs' cls od' H' R f xr z => z.elim⟩
  · obtain ⟨h1, h2, h3⟩ := key f
    exact ⟨h1, L.nx ρ' Fs' σ' _ (R.lkd (Lkd.unlock h1) h2 hl) h3 p⟩
  · obtain ⟨h1, h2, h3⟩ := key f
    exact ⟨h1, L.bk ρ' Fs' σ' _ (R.lkd (Lkd.unlock h1) h2 hl) h3 p⟩
  · obtain ⟨h1, h2, h3⟩ := key f
    exact ⟨h1, L.ct ρ' Fs' σ' _ (R.lkd (Lkd.unlock h1) h2 hl) h3 p⟩
  · obtain ⟨h1, h2, h3⟩ := key f
    have l' := Lkd.unlock h1
    refine ⟨h1, L.rt dd ρ' Fs' σ' v _ h3 ?_ p⟩
    rcases hrk with rfl | ⟨s, rfl⟩
    · exact ⟨r.1.lkd l' h2 hl, r.2.mono l'.mo⟩
    · obtain ⟨Fv, R', q, n⟩ := r
      have off : ∀ a, Fv a → a ≠ d := fun a z e => by
        subst e
        rcases (n a z).2.2 with ⟨j, y⟩ | y
        · exact hn j y
        · exact hne y
      exact ⟨Fv, R'.lkd l' h2 hl, s.mono q l'.mo fun a z => l'.ne a (off a z), fun a z => ⟨(n a z).1, (n a z).2.1, (n a z).2.2.imp id l.none.mp⟩⟩
def wForD (i : Nat) (wg : WG) (wb : WS) : WS := fun De ρ => dkAt ρ[i]? fun kvs => wLoop wg wb (kvs.map fun kv => keyV kv.1) { De with xx := fun _ _ => False } ρ
theorem wForD_eq {wb : WS} {De : DEnds} {ρ : Env} : wForD i wg wb De ρ = dkAt ρ[i]? fun kvs => wLoop wg wb (kvs.map fun kv => keyV kv.1) { De with xx := fun _ _ => False } ρ := rfl
def wForI (i : Nat) (wg : WG) (wb : WS) : WS := fun De ρ => dkAt ρ[i]? fun kvs => wLoop wg wb (kvs.map fun kv => .tup [keyV kv.1, kv.2]) { De with xx := fun _ _ => False } ρ
theorem wForI_eq {wb : WS} {De : DEnds} {ρ : Env} : wForI i wg wb De ρ = dkAt ρ[i]? fun kvs => wLoop wg wb (kvs.map fun kv => .tup [keyV kv.1, kv.2]) { De with xx := fun _ _ => False } ρ := rfl
def tOrLock (t : TS) : TS := fun D σ H => t D σ H ∨ tLock t D σ H
theorem ps_orLock {st : Stmt} (h : PS X st t) : PS X st (tOrLock t) := ⟨fun pins s σ H D I hw => hw.elim (h.run pins s σ H D I) ((ps_lock h).run pins s σ H D I)⟩
theorem Lks.noX {O : Gh} {Fs : Nat → AS} {H : Hp} {Dd : DEnds} {Dh : Ends} (L : Lks K ks O Fs H rk E Dd Dh) : Lks K ks O Fs H rk E { Dd with xx := fun _ _ => False } Dh := ⟨L.nx, L.bk, L.ct, L.rt, fun _ _ _ _ _ _ _ _ _ _ z => z.elim⟩
theorem snd_forD (hk : ks[i]? = some .z) (hl : noLn ks = true) (hrk : rk = .z ∨ ∃ s, rk = .o s) (hg : QG X K ks tg g wg) (hb : SndS K ks E rk t w) : SndS K ks E rk (tOrLock (tFor (iKeys (tVar i)) g t)) (wForD i wg w) := fun O Fs ρ σ H Dd Dh R hw L => by
  unfold wForD at hw
  rw [← dkAt_ex] at hw
  obtain ⟨kvs, h1, hw⟩ := hw
  obtain ⟨v, h3, h4⟩ := R.sl i _ _ hk h1
  cases h4 with
  | dk n e r =>
    rename_i q vs
    rcases hc_dk.mp e with e1 | ⟨o, e1⟩
    · refine .inr ⟨q, .dK vs, e1, trivial, fun od => ?_⟩
      have hn : ∀ j, ¬ Fs j q := fun j z => n (.inr (.inr ⟨j, z⟩))
      have l := Lkd.lock (od := od) e1
      refine for_core hg hb (R.lkd l hn hl) (it_keys (ds := kvs) upd_same n r.keysEq) hw (L.lkd e1 hn ⟨fun z => n (.inl z), fun z => n (.inr (.inl z))⟩ hl hrk) _ fun Q hQ => ⟨.ref q, h3, q, od, rfl, .inl ⟨vs, upd_same, hQ⟩⟩
    · exact .inl (for_core hg hb R (it_keys (ds := kvs) e1 n r.keysEq) hw L.noX _ fun Q hQ => ⟨.ref q, h3, q, o, rfl, .inl ⟨vs, e1, hQ⟩⟩)
theorem snd_forI (hk : ks[i]? = some .z) (hl : noLn ks = true) (hrk : rk = .z ∨ ∃ s, rk = .o s) (hg : QG X K ks tg g wg) (hb : SndS K ks E rk t w) : SndS K ks E rk (tOrLock (tFor (iItems (tVar i)) g t)) (wForI i wg w) := fun O Fs ρ σ H Dd Dh R hw L => by
  unfold wForI at hw
  rw [← dkAt_ex] at hw
  obtain ⟨kvs, h1, hw⟩ := hw
  obtain ⟨v, h3, h4⟩ := R.sl i _ _ hk h1
  cases h4 with
  | dk n e r =>
    rename_i q vs
    rcases hc_dk.mp e with e1 | ⟨o, e1⟩
    · refine .inr ⟨q, .dK vs, e1, trivial, fun od => ?_⟩
      have hn : ∀ j, ¬ Fs j q := fun j z => n (.inr (.inr ⟨j, z⟩))
      have l := Lkd.lock (od := od) e1
      refine for_core hg hb (R.lkd l hn hl) (it_items (ds := kvs) upd_same n (r.mono l.mo)) hw (L.lkd e1 hn ⟨fun z => n (.inl z), fun z => n (.inr (.inl z))⟩ hl hrk) _ fun Q hQ => ⟨.ref q, h3, q, od, vs, rfl, upd_same, hQ⟩
    · exact .inl (for_core hg hb R (it_items (ds := kvs) e1 n r) hw L.noX _ fun Q hQ => ⟨.ref q, h3, q, o, vs, rfl, e1, hQ⟩)
theorem sForD (i : Nat) (hp : PassesOwn (model X.prog X.w) X.A X.env X.xe) (hc : X.calm = true) (hg : QG X K ks tg g wg) (hb : QSs X K ks E rk sts t w) (hk : ks[i]? = some .z := by rfl) (hl : noLn ks = true := by rfl) (hrk : rk = .z ∨ ∃ s, rk = .o s := by first | exact .inl rfl | exact .inr ⟨_, rfl⟩)
    (hN : X.N[i]? = some x := by rfl) (hv : Vis X.env.scope x := by first | exact Or.inl rfl | exact Or.inr (Or.inl rfl) | exact Or.inr (Or.inr rfl)) (hd : (x == ("__debug__" : Str)) = false := by decide) (hcd : (x == ("__classdict__" : Str)) = false := by decide)
    (hs : ∀ y, foldedSetIterable (.Name x p) X.env y = pure y := by intro _; rfl) : QS X K ks E rk (.For tg (.Name x p) sts [] pos) (tOrLock (tFor (iKeys (tVar i)) g t)) (wForD i wg w) := by
  cases hb.hK
  exact ⟨rfl, ps_orLock (ps_for hp hc (pi_keys (pe_var hN hv hd hcd)) hg.pg hb.ps hs), snd_forD hk hl hrk hg hb.snd⟩
variable {apos cpos : Pos}
theorem sForI (i : Nat) {elts : List Expr} {kk : Nat} {tpos : Pos} (hp : PassesOwn (model X.prog X.w) X.A X.env X.xe) (hc : X.calm = true) (hg : QG X K ks (.Tuple elts kk tpos) g wg) (hb : QSs X K ks E rk sts t w) (hk : ks[i]? = some .z := by rfl) (hl : noLn ks = true := by rfl) (hrk : rk = .z ∨ ∃ s, rk = .o s := by first | exact .inl rfl | exact .inr ⟨_, rfl⟩)
    (hN : X.N[i]? = some x := by rfl) (hv : Vis X.env.scope x := by first | exact Or.inl rfl | exact Or.inr (Or.inl rfl) | exact Or.inr (Or.inr rfl)) (hd : (x == ("__debug__" : Str)) = false := by decide) (hcd : (x == ("__classdict__" : Str)) = false := by decide)
    (hbase : attributeBase (.Name x p) "items" X.env (eval (.Name x p) X.env) = eval (.Name x p) X.env := by rfl) (hline : (apos.endLine == cpos.line) = true := by rfl)
    (hs : ∀ y, foldedSetIterable (.Call (.Attribute (.Name x p) "items" apos) [] [] cpos) X.env y = pure y := by intro _; rfl) : QS X K ks E rk (.For (.Tuple elts kk tpos) (.Call (.Attribute (.Name x p) "items" apos) [] [] cpos) sts [] pos) (tOrLock (tFor (iItems (tVar i)) g t)) (wForI i wg w) := by
  cases hb.hK
  exact ⟨rfl, ps_orLock (ps_for hp hc (pi_items (pe_var hN hv hd hcd) hbase hline) hg.pg hb.ps hs), snd_forI hk hl hrk hg hb.snd⟩
end
end Fw

/-! Fw31: dict(pairs). -/
namespace Fw
open PySem L2 PySem.Spec PyProof.Rows
def pairK : D → Option (Key × D)
  | .tup [k, v] => k.key.map fun q => (q, v)
  | _ => none
def pairsK : List D → Option (List (Key × D))
  | [] => some []
  | d :: ds => match pairK d, pairsK ds with
    | some p, some ps => some (p :: ps)
    | _, _ => none
def mergeD (kvs more : List (Key × D)) : List (Key × D) := more.foldl (fun acc kv => putD acc kv.1 kv.2) kvs
section
variable {K : PySem.W.Frag} {A : AS} {H : Hp}
theorem RpK.merge : ∀ {more : List (Key × V)} {dm : List (Key × D)} {vs : List (Key × V)} {ds : List (Key × D)}, RpK K A H more dm → RpK K A H vs ds → RpK K A H (mergeK vs more) (mergeD ds dm)
  | _, _, _, _, .nil, q => q
  | _, _, _, _, .cons (k := k) h t, q => by
    have z := RpK.merge t (q.put (k := k) h)
    exact z
theorem pairs_rep : ∀ {us : List V} {ds : List D} {kvs : List (Key × D)}, RpL K A H us ds → pairsK ds = some kvs → ∃ (ps : List Addr) (vs : List (Key × V)), us = ps.map V.ref ∧ Paired (fun p kv => SqT K H p [L2.kV kv.1, kv.2]) ps vs ∧ RpK K A H vs kvs
  | _, _, _, .nil, e => by cases e; exact ⟨[], [], rfl, .nil, .nil⟩
  | _, _, _, .cons (d := d) (ds := ds) h t, e => by
    unfold pairsK at e
    split at e
    · rename_i p ps e1 e2
      cases e
      obtain ⟨qs, vs, rfl, pr, rr⟩ := pairs_rep t e2
      unfold pairK at e1
      split at e1
      · rename_i k v
        obtain ⟨q, hk, rfl⟩ := Option.map_eq_some_iff.mp e1
        obtain ⟨a, ws, rfl, s, rl⟩ := (RT.of h).tup_inv
        cases rl with
        | cons r1 rl =>
          cases rl with
          | cons r2 rl =>
            cases rl
            have ek := (RT.of r1).key hk
            subst ek
            exact ⟨a :: qs, (q, _) :: vs, rfl, .cons s pr, .cons r2 rr⟩
      · cases e1
    · cases e
end
def dDictP (d : D) (Ψ : D → Prop) : Prop := match d with
  | .lst xs => ∃ kvs, pairsK xs = some kvs ∧ Ψ (.dk (mergeD [] kvs))
  | _ => False
theorem dDictP_lst {xs : List D} {Ψ : D → Prop} : dDictP (.lst xs) Ψ = ∃ kvs, pairsK xs = some kvs ∧ Ψ (.dk (mergeD [] kvs)) := rfl
abbrev rdDictP (K : PySem.W.Frag) : List V → Hp → VK → Prop := fun xs H Q => ∃ (a : Addr) (ps : List Addr) (kvs : List (Key × V)), xs = [.ref a] ∧ SqL K H a (ps.map V.ref) ∧ Paired (fun p kv => SqT K H p [L2.kV kv.1, kv.2]) ps kvs ∧ ∀ p, H p = none → Q (.ref p) (upd H p (.dK (mergeK [] kvs)))
section
variable {X : Cx} {K : PySem.W.Frag} {ks : List SK} {E : L2.St → XK} {kd : Kd} {pu : Bool} {e : Expr} {t : TE} {w : WE} {pos p : Pos}
theorem xDictP (hc : X.calm = true) (hm : X.mg "dict" = none) (h : PX X K ks E pu kd e t w) (hk : kd.op := by trivial) (hg : Gl X "dict" := by rfl) (hv : bootBuiltins "dict" = some (.type "dict") := by decide +kernel)
    (hs : starEach [e] X.env = (false, eval e X.env) :: starEach [] X.env := by rfl) (hpl : (backTo pos (starEach [] X.env)).any (·.1) = false := by rfl) :
    PX X K ks E pu (.o shK) (.Call (.Name "dict" p) [e] [] pos) (tCB (rdDictP K) (tCons t tNil)) (w1e dDictP w) := by
  cases h.hK
  refine ⟨rfl, pe_callTy (call_dictP hc) hg hm hv (pa_cons h.pe pa_nil hs) (by decide) (by decide) hs hpl, fun O Fs ρ σ H Ψ Ξ Q R hw hq hx => ?_⟩
  refine h.snd O Fs ρ σ H _ Ξ _ R hw (fun d ρ1 Fs1 v H1 u1 f1 r1 p1 => ?_) hx
  obtain ⟨R1, y⟩ := r1.rt hk
  unfold dDictP at p1
  split at p1
  · obtain ⟨kvs, e1, hΨ⟩ := p1
    obtain ⟨q, us, rfl, e2, rl⟩ := y.lst_inv
    obtain ⟨ps, vs, rfl, pr, rk⟩ := pairs_rep rl e1
    refine ⟨q, ps, vs, rfl, SqL.of e2, pr, fun a ha => ?_⟩
    exact hq _ ρ1 Fs1 _ _ (u1.ext (Ext.upd ha)) (f1.trans (Ext.upd ha).fr) (res_newK R1 ha (fun b h => f1.dom b h) (RpK.merge rk .nil)) hΨ
  · exact p1.elim
end
end Fw

/-! Fw32: list(zip(xs, ys)). -/
namespace FwZip
open PySem PySem.Spec PyProof.Rows PySem.W
/-- the zip z behind k turns: what it gave out last is held still -/
structure ZSt (h : Heap) (z TI TO i1 i2 l1 l2 S : Addr) (k : Nat) : Prop where
  pair : IsPair h TI (.ref i1) (.ref i2)
  it1 : h.IsListIter i1 l1 k
  it2 : h.IsListIter i2 l2 k
  own : (IsZip h z TI TO .none ∧ ∃ a b, IsPair h TO a b) ∨ ∃ T f oT, IsZipHeld h z TI TO T f ∧ h.get? T = some oT ∧ T ≠ z ∧ T ≠ i1 ∧ T ≠ i2 ∧ T ≠ S
theorem ZSt.keep {h h' : Heap} {z TI TO i1 i2 l1 l2 S : Addr} {k : Nat} (x : ZSt h z TI TO i1 i2 l1 l2 S k) (hk : ∀ b o, b ≠ S → h.get? b = some o → h'.get? b = some o) (a1 : z ≠ S) (a2 : TI ≠ S) (a3 : TO ≠ S) (a4 : i1 ≠ S) (a5 : i2 ≠ S) : ZSt h' z TI TO i1 i2 l1 l2 S k := by
  refine ⟨hk _ _ a2 x.pair, x.it1.at fun o q => hk _ _ a4 q, x.it2.at fun o q => hk _ _ a5 q, ?_⟩
  rcases x.own with ⟨h1, a, b, h2⟩ | ⟨T, f, oT, h1, h2, h3, h4, h5, h6⟩
  · exact .inl ⟨hk _ _ a1 h1, a, b, hk _ _ a3 h2⟩
  · exact .inr ⟨T, f, oT, hk _ _ a1 h1, hk _ _ h6 h2, h3, h4, h5, h6⟩
section
variable {prog : Program} {w : World} {A : Around} {E : Value → Shared → Prop} {s : Shared}
theorem zdx_item {z TI TO i1 i2 l1 l2 S : Addr} {k : Nat} {xs ys : Array Value} {x y : Value} {Q : Option Value → Shared → Prop} (D : ZipApart z TI TO i1 i2 l1 l2) (st : ZSt s.heap z TI TO i1 i2 l1 l2 S k) (hS : S < s.heap.objs.size)
    (hl1 : s.heap.IsList l1 xs) (hl2 : s.heap.IsList l2 ys) (hx : xs[k]? = some x) (hy : ys[k]? = some y)
    (hQ : ∀ h', ZSt h' z TI TO i1 i2 l1 l2 S (k + 1) → IsPair h' s.heap.objs.size x y → h'.objs.size = s.heap.objs.size + 1 →
      (∀ c o, c ≠ z → c ≠ TO → c ≠ i1 → c ≠ i2 → s.heap.get? c = some o → h'.get? c = some o) → Q (some (.ref s.heap.objs.size)) { s with heap := h' }) :
    wpAny (model prog w) A (pyNext (.ref z)) Q E s := by
  have zl : z < s.heap.objs.size := by
    rcases st.own with ⟨h1, _⟩ | ⟨_, _, _, h1, _⟩ <;> exact Heap.lt_size h1
  have l1' : i1 < s.heap.objs.size := by obtain ⟨o, q, _⟩ := st.it1; exact Heap.lt_size q
  have l2' : i2 < s.heap.objs.size := by obtain ⟨o, q, _⟩ := st.it2; exact Heap.lt_size q
  rcases st.own with ⟨hz, a, b, hTO⟩ | ⟨T, f, oT, hz, hT, t1, t2, t3, t4⟩
  · refine wpAny_pyNext_zip_item D hz st.pair hTO st.it1 st.it2 hl1 hl2 hx hy fun h' z' TO' i1' i2' hp hsz hk => ?_
    refine hQ h' ⟨hk _ _ D.TIz D.TITO D.TIi1 D.TIi2 st.pair, i1', i2', .inr ⟨_, false, _, z', hp, Nat.ne_of_gt zl, Nat.ne_of_gt l1', Nat.ne_of_gt l2', Nat.ne_of_gt hS⟩⟩ hp hsz hk
  · refine wpAny_pyNext_zip_item_held D hz hT st.pair st.it1 st.it2 hl1 hl2 hx hy fun h' z' i1' i2' hp hsz hk => ?_
    exact hQ h' ⟨hk _ _ D.TIz D.TIi1 D.TIi2 st.pair, i1', i2', .inr ⟨T, true, oT, z', hk _ _ t1 t2 t3 hT, t1, t2, t3, t4⟩⟩ hp hsz fun c o c1 _ c3 c4 q => hk c o c1 c3 c4 q
theorem zdx_done {z TI TO i1 i2 l1 l2 S : Addr} {k : Nat} {xs ys : Array Value} {Q : Option Value → Shared → Prop} (hh : A.handled = none) (D : ZipApart z TI TO i1 i2 l1 l2) (st : ZSt s.heap z TI TO i1 i2 l1 l2 S k)
    (hl1 : s.heap.IsList l1 xs) (hl2 : s.heap.IsList l2 ys) (hend : xs[k]? = none ∨ ys[k]? = none)
    (hQ : ∀ h', (∀ c o, c ≠ z → c ≠ TO → c ≠ i1 → c ≠ i2 → s.heap.get? c = some o → h'.get? c = some o) → Q none { s with heap := h' }) :
    wpAny (model prog w) A (pyNext (.ref z)) Q E s := by
  rcases st.own with ⟨hz, a, b, hTO⟩ | ⟨T, f, oT, hz, hT, t1, t2, t3, t4⟩
  · exact wpAny_pyNext_zip_end hh D hz st.pair hTO st.it1 st.it2 hl1 hl2 hend fun h' hk => hQ h' fun c o c1 c2 c3 c4 q => hk c o c1 c2 c3 c4 q
  · exact wpAny_pyNext_zip_end_held hh D hz hT st.pair st.it1 st.it2 hl1 hl2 hend fun h' hk => hQ h' fun c o c1 _ c3 c4 q => hk c o c1 c3 c4 q
end
structure ZG (xs ys : Array Value) (lo : Addr) (h : Heap) (as : List Addr) : Prop where
  rise : as.Pairwise (· < ·)
  above : ∀ a ∈ as, lo < a
  pairs : ∀ (j : Nat) (a : Addr), as[j]? = some a → ∃ x y, xs[j]? = some x ∧ ys[j]? = some y ∧ IsPair h a x y
section
variable {prog : Program} {w : World} {A : Around} {s : Shared} {R : Result → Shared → Prop}
theorem zdx_loop {z TI TO i1 i2 l1 l2 S : Addr} {xs ys : Array Value} {n : Nat} (hh : A.handled = none) (D : ZipApart z TI TO i1 i2 l1 l2) (a1 : z < S) (a2 : TI < S) (a3 : TO < S) (a4 : i1 < S) (a5 : i2 < S) (a6 : l1 < S) (a7 : l2 < S)
    (hn : n ≤ sizeLine) (n1 : n ≤ xs.size) (n2 : n ≤ ys.size) (hend : xs[n]? = none ∨ ys[n]? = none) (res : Value) {h₁ : Heap}
    (hR : ∀ h' tk acc c as, (∀ b o, b ≠ S → b ≠ z → b ≠ TO → b ≠ i1 → b ≠ i2 → h₁.get? b = some o → h'.get? b = some o) → h'.get? S = some { cls := .type "list", dict := none, data := .seq acc c, slots := #[] } → as.length = n → ZG xs ys S h' as →
      acc.toList = as.map Value.ref → R (.ok (.ret res)) { s with heap := h', toks := tk }) :
    ∀ (k i : Nat) (h : Heap) (tk c : Nat) (acc : Array Value) (as : List Addr), n - i = k → i ≤ n → ZSt h z TI TO i1 i2 l1 l2 S i → h.IsList l1 xs → h.IsList l2 ys → (∀ b o, b ≠ S → b ≠ z → b ≠ TO → b ≠ i1 → b ≠ i2 → h₁.get? b = some o → h.get? b = some o) →
      h.get? S = some { cls := .type "list", dict := none, data := .seq acc c, slots := #[] } → acc.toList = as.map Value.ref → as.length = i → ZG xs ys S h as →
      codeAny (model prog w) A (.builtin "list.extend.loop" ⟨[.ref S, .ref z, res], []⟩) R { s with heap := h, toks := tk } := by
  intro k
  induction k with
  | zero =>
    intro i h tk c acc as hk hi hst p1 p2 hkeep hS hacc hal hG
    have hin : i = n := by omega
    subst hin
    refine codeAny_builtin PySem.F.entry_extend_loop ?_
    rw [Around.under_plainId PySem.F.plain_extend_loop _]
    show wpAny _ A.in1 (pyNext (.ref z) >>= _) _ _ _
    refine wpAny_bind (zdx_done (s := { s with heap := h, toks := tk }) (A := A.in1) hh D hst p1 p2 hend fun h' he => ?_)
    refine wpAny_pure (hR h' tk acc c as (fun b o h0 h2 h3 h4 h5 e => he b o h2 h3 h4 h5 (hkeep b o h0 h2 h3 h4 h5 e)) (he S _ (Nat.ne_of_gt a1) (Nat.ne_of_gt a3) (Nat.ne_of_gt a4) (Nat.ne_of_gt a5) hS) hal ⟨hG.rise, hG.above, fun j a hj => ?_⟩ hacc)
    obtain ⟨x, y, e1, e2, e3⟩ := hG.pairs j a hj
    have ab := hG.above a (List.mem_of_getElem? hj)
    exact ⟨x, y, e1, e2, he a _ (Nat.ne_of_gt (Nat.lt_trans a1 ab)) (Nat.ne_of_gt (Nat.lt_trans a3 ab)) (Nat.ne_of_gt (Nat.lt_trans a4 ab)) (Nat.ne_of_gt (Nat.lt_trans a5 ab)) e3⟩
  | succ k ih =>
    intro i h tk c acc as hk hi hst p1 p2 hkeep hS hacc hal hG
    have hlt : i < n := by omega
    obtain ⟨x, hx⟩ : ∃ p, xs[i]? = some p := ⟨xs[i], Array.getElem?_eq_getElem (by omega)⟩
    obtain ⟨y, hy⟩ : ∃ p, ys[i]? = some p := ⟨ys[i], Array.getElem?_eq_getElem (by omega)⟩
    have hsz : acc.size = i := by rw [← Array.length_toList, hacc, List.length_map, hal]
    have hSl : S < h.objs.size := Heap.lt_size hS
    refine codeAny_builtin PySem.F.entry_extend_loop ?_
    rw [Around.under_plainId PySem.F.plain_extend_loop _]
    show wpAny _ A.in1 (pyNext (.ref z) >>= _) _ _ _
    refine wpAny_bind (zdx_item (s := { s with heap := h, toks := tk }) D hst hSl p1 p2 hx hy fun h' hst' ht hz hkp => ?_)
    dsimp only at ht hz hkp ⊢
    have hS' := hkp S _ (Nat.ne_of_gt a1) (Nat.ne_of_gt a3) (Nat.ne_of_gt a4) (Nat.ne_of_gt a5) hS
    have up : ∀ b o, b ≠ S → h'.get? b = some o → (h'.update S (Obj.mapSeq (·.push (Value.ref h.objs.size)))).get? b = some o := fun b o hb e => (Heap.get?_update_other _ _ (Ne.symm hb)).trans e
    show wpAny _ A.in1 (updateSeq S (·.push (Value.ref h.objs.size)) >>= _) _ _ _
    refine wpAny_bind ?_
    refine wpAny_updateSeq hS' rfl (wpAny_pure ⟨plainId_quiet PySem.F.plain_extend_loop _, ih (i + 1) _ tk _ (acc.push (Value.ref h.objs.size)) (as ++ [h.objs.size]) (by omega) hlt (hst'.keep up (Nat.ne_of_lt a1) (Nat.ne_of_lt a2) (Nat.ne_of_lt a3) (Nat.ne_of_lt a4) (Nat.ne_of_lt a5))
      (p1.at fun o e => up l1 o (Nat.ne_of_lt a6) (hkp l1 o D.l1z D.l1TO D.l1i1 D.l1i2 e)) (p2.at fun o e => up l2 o (Nat.ne_of_lt a7) (hkp l2 o D.l2z D.l2TO D.l2i1 D.l2i2 e))
      (fun b o h0 h2 h3 h4 h5 e => up b o h0 (hkp b o h2 h3 h4 h5 (hkeep b o h0 h2 h3 h4 h5 e))) (Heap.get?_update_self _ hS' rfl) (by rw [Array.toList_push, hacc, List.map_append]; rfl) (by rw [List.length_append, hal]; rfl) ⟨?_, ?_, ?_⟩⟩) (by rw [hsz]; omega) (by show (acc.push (Value.ref h.objs.size)).size ≤ sizeLine + 1; rw [Array.size_push, hsz]; omega)
    · refine List.pairwise_append.mpr ⟨hG.rise, List.pairwise_singleton _ _, fun a ha b hb => ?_⟩
      rw [List.mem_singleton.mp hb]
      obtain ⟨j, hj⟩ := List.mem_iff_getElem?.mp ha
      obtain ⟨_, _, _, _, e⟩ := hG.pairs j a hj
      exact Heap.lt_size e
    · intro a ha
      rcases List.mem_append.mp ha with ha | ha
      · exact hG.above a ha
      · rw [List.mem_singleton.mp ha]; exact hSl
    · intro j b hj
      rcases Nat.lt_trichotomy j as.length with q1 | q1 | q1
      · rw [List.getElem?_append_left q1] at hj
        obtain ⟨x', y', e1, e2, e3⟩ := hG.pairs j b hj
        have hb := hG.above b (List.mem_of_getElem? hj)
        exact ⟨x', y', e1, e2, up b _ (Nat.ne_of_gt hb) (hkp b _ (Nat.ne_of_gt (Nat.lt_trans a1 hb)) (Nat.ne_of_gt (Nat.lt_trans a3 hb)) (Nat.ne_of_gt (Nat.lt_trans a4 hb)) (Nat.ne_of_gt (Nat.lt_trans a5 hb)) e3)⟩
      · subst q1
        have hb : h.objs.size = b := by simpa using hj
        subst hb
        exact ⟨x, y, by rw [hal]; exact hx, by rw [hal]; exact hy, up _ _ (Nat.ne_of_gt hSl) ht⟩
      · have hnone : (as ++ [h.objs.size])[j]? = none := List.getElem?_eq_none (by rw [List.length_append, List.length_singleton]; omega)
        rw [hnone] at hj; cases hj
end
theorem zip_no_len : typeLookup (.type "zip") "__len__" = pure none := by rw [typeLookup_type, builtinLookup_eq_fast]; kernel_rfl
theorem zip_no_hint : typeLookup (.type "zip") "__length_hint__" = pure none := by rw [typeLookup_type, builtinLookup_eq_fast]; kernel_rfl
section
variable {prog : Program} {w : World} {A : Around} {E : Value → Shared → Prop} {s : Shared} {z TI TO i1 i2 l1 l2 : Addr} {xs ys : Array Value} {n : Nat}
theorem zdx_call {Q : Value → Shared → Prop} (hh : A.handled = none) (D : ZipApart z TI TO i1 i2 l1 l2) (hz : IsZip s.heap z TI TO .none) (hTI : IsPair s.heap TI (.ref i1) (.ref i2)) (hTO : ∃ a b, IsPair s.heap TO a b) (h1 : s.heap.IsListIter i1 l1 0) (h2 : s.heap.IsListIter i2 l2 0)
    (p1 : s.heap.IsList l1 xs) (p2 : s.heap.IsList l2 ys) (hn : n ≤ sizeLine) (n1 : n ≤ xs.size) (n2 : n ≤ ys.size) (hend : xs[n]? = none ∨ ys[n]? = none)
    (hQ : ∀ h' tk acc c as, (∀ b o, b ≠ z → b ≠ TO → b ≠ i1 → b ≠ i2 → s.heap.get? b = some o → h'.get? b = some o) → h'.get? s.heap.objs.size = some { cls := .type "list", dict := none, data := .seq acc c, slots := #[] } → as.length = n → ZG xs ys s.heap.objs.size h' as →
      acc.toList = as.map Value.ref → Q (.ref s.heap.objs.size) { s with heap := h', toks := tk }) :
    wpAny (model prog w) A (call (.type "list") [.ref z]) Q E s := by
  refine callType_codes (Q₁ := fun obj s₁ => obj = .ref s.heap.objs.size ∧ s₁ = { s with heap := s.heap.push { cls := .type "list", data := .seq #[] } }) PySem.F.called_list (PySem.F.typeCall_list_1 _) PySem.F.entry_list_init
    (code_list_new _ ⟨rfl, rfl⟩) fun obj s₁ h₁ => ?_
  obtain ⟨rfl, rfl⟩ := h₁
  have hS : (s.heap.push { cls := .type "list", data := .seq #[] }).get? s.heap.objs.size = some { cls := .type "list", data := .seq #[] } := Heap.get?_push_size _ rfl
  have g1 : z < s.heap.objs.size := Heap.lt_size hz
  have g2 : TI < s.heap.objs.size := Heap.lt_size hTI
  have g3 : TO < s.heap.objs.size := by obtain ⟨_, _, q⟩ := hTO; exact Heap.lt_size q
  have g4 : i1 < s.heap.objs.size := by obtain ⟨_, q, _⟩ := h1; exact Heap.lt_size q
  have g5 : i2 < s.heap.objs.size := by obtain ⟨_, q, _⟩ := h2; exact Heap.lt_size q
  have g6 : l1 < s.heap.objs.size := by obtain ⟨_, q, _⟩ := p1; exact Heap.lt_size q
  have g7 : l2 < s.heap.objs.size := by obtain ⟨_, q, _⟩ := p2; exact Heap.lt_size q
  refine ⟨⟨_, hS, rfl⟩, PySem.F.args_list_init_2 _ _, ?_⟩
  generalize hH : s.heap.push { cls := .type "list", data := .seq #[] } = hp at hS ⊢
  have pk : ∀ b o, s.heap.get? b = some o → hp.get? b = some o := fun b o e => by rw [← hH]; exact Heap.get?_push_of_some _ e
  show wpAny _ _ (do let old ← Builtin.List.listItems (.ref s.heap.objs.size); Builtin.List.listUpdate (.ref s.heap.objs.size) (fun _ => #[]); letGo old.toList.reverse; Builtin.List.listExtendWith (.ref s.heap.objs.size) (.ref z) .none) _ _ { s with heap := hp }
  refine wpAny_bind ?_
  unfold Builtin.List.listItems
  refine wpAny_bind (wpAny_seqItems hS rfl (wpAny_pure ?_))
  show wpAny _ _ (updateSeq s.heap.objs.size (fun _ => #[]) >>= fun _ => letGo (#[] : Array Value).toList.reverse >>= fun _ => Builtin.List.listExtendWith (.ref s.heap.objs.size) (.ref z) .none) _ _ { s with heap := hp }
  refine wpAny_bind (wpAny_updateSeq hS rfl ?_)
  have hS₂ := Heap.get?_update_self (Obj.mapSeq (fun _ => (#[] : Array Value))) hS rfl
  have oth : ∀ b o, b ≠ s.heap.objs.size → s.heap.get? b = some o → (hp.update s.heap.objs.size (Obj.mapSeq (fun _ => (#[] : Array Value)))).get? b = some o :=
    fun b o hb e => (Heap.get?_update_other _ _ (Ne.symm hb)).trans (pk b o e)
  refine wpAny_bind (wpAny_letGo ?_)
  unfold Builtin.List.listExtendWith
  have hzT : ∀ {g d t o}, Shared.TypeIs ⟨hp.update s.heap.objs.size (Obj.mapSeq (fun _ => (#[] : Array Value))), g, d, t, o⟩ (.ref z) "zip" := fun {_ _ _ _} => ⟨_, oth _ _ (Nat.ne_of_lt g1) hz, rfl⟩
  refine wpAny_bind (wpAny_typeOf (T := "zip") hzT ?_)
  have e1 : Builtin.List.listSameRef (.ref s.heap.objs.size) (.ref z) = false := by simp [Builtin.List.listSameRef, Nat.ne_of_gt g1]
  have e2 : (Value.type "zip" == Value.type "list") = false := by decide
  have e3 : (Value.type "zip" == Value.type "tuple") = false := by decide
  simp only [e1, e2, e3, Bool.or_false, Bool.false_eq_true, if_false]
  refine wpAny_bind (wpAny_pyIter_zip (oth _ _ (Nat.ne_of_lt g1) hz) ?_)
  refine wpAny_bind (wpAny_holding ?_)
  unfold Builtin.List.listLengthHint
  refine wpAny_bind (wpAny_specialOf hzT zip_no_len ?_)
  show wpAny _ _ (specialOf (Value.ref z) (Str.ofString "__length_hint__") >>= _) _ _ _
  refine wpAny_bind (wpAny_specialOf hzT zip_no_hint ?_)
  refine wpAny_pure ?_
  show wpAny _ _ (rule "list.extend.makes-room" >>= fun _ => Builtin.List.listTouch (.ref s.heap.objs.size) >>= fun _ =>
    again (.builtin "list.extend.loop" ⟨[.ref s.heap.objs.size, .ref z, .none], []⟩)) _ _ _
  refine wpAny_bind (wpAny_rule ?_)
  refine wpAny_bind ?_
  show wpAny _ _ (updateSeq s.heap.objs.size (·.push .none) >>= fun _ => updateSeq s.heap.objs.size (·.pop)) _ _ _
  refine wpAny_bind (wpAny_updateSeq hS₂ rfl ?_)
  have hS₃ := Heap.get?_update_self (Obj.mapSeq (·.push Value.none)) hS₂ rfl
  refine wpAny_updateSeq (hz := by seq_fits) hS₃ rfl ?_
  have hS₄ := Heap.get?_update_self (Obj.mapSeq (·.pop)) hS₃ rfl
  have oth2 : ∀ b o, b ≠ s.heap.objs.size → s.heap.get? b = some o → (((hp.update s.heap.objs.size (Obj.mapSeq (fun _ => (#[] : Array Value)))).update s.heap.objs.size (Obj.mapSeq (·.push Value.none))).update s.heap.objs.size (Obj.mapSeq (·.pop))).get? b = some o :=
    fun b o hb e => (Heap.get?_update_other _ _ (Ne.symm hb)).trans ((Heap.get?_update_other _ _ (Ne.symm hb)).trans (oth b o hb e))
  refine wpAny_pure ⟨plainId_quiet PySem.F.plain_extend_loop _, ?_⟩
  obtain ⟨ta, tb, hTO⟩ := hTO
  refine zdx_loop (s := s) (h₁ := s.heap) (A := A.in1) hh D g1 g2 g3 g4 g5 g6 g7 hn n1 n2 hend .none (fun h' tk acc c as hk hS' hl hG hacc => ?_) n 0 _ _ _ _ [] (Nat.sub_zero _) (Nat.zero_le _)
    ⟨oth2 _ _ (Nat.ne_of_lt g2) hTI, h1.at fun o q => oth2 _ _ (Nat.ne_of_lt g4) q, h2.at fun o q => oth2 _ _ (Nat.ne_of_lt g5) q, .inl ⟨oth2 _ _ (Nat.ne_of_lt g1) hz, ta, tb, oth2 _ _ (Nat.ne_of_lt g3) hTO⟩⟩
    (p1.at fun o e => oth2 _ _ (Nat.ne_of_lt g6) e) (p2.at fun o e => oth2 _ _ (Nat.ne_of_lt g7) e) (fun b o hb _ _ _ _ e => oth2 b o hb e) hS₄ rfl rfl ⟨List.Pairwise.nil, (fun _ ha => nomatch ha), (fun j a hj => by simp at hj)⟩
  exact ⟨rfl, hQ h' tk acc c as (fun b o q1 q2 q3 q4 e => hk b o (Nat.ne_of_lt (Heap.lt_size e)) q1 q2 q3 q4 e) hS' hl hG hacc⟩
end
open L2
/-- the tuples tracked at their addresses -/
def putZ : Hp → List Addr → List (V × V) → Hp
  | H, a :: as, p :: ps => putZ (upd H a (.tup [p.1, p.2])) as ps
  | H, _, _ => H
theorem putZ_off {b : Addr} : ∀ (as : List Addr) (ps : List (V × V)) (H : Hp), b ∉ as → putZ H as ps b = H b
  | [], _, _, _ => rfl
  | _ :: _, [], _, _ => rfl
  | a :: as, p :: ps, H, h => by
    show putZ (upd H a (.tup [p.1, p.2])) as ps b = H b
    rw [putZ_off as ps _ (fun z => h (List.mem_cons_of_mem _ z)), upd_ne (fun z => h (by rw [z]; exact List.mem_cons_self))]
theorem putZ_at : ∀ (as : List Addr) (ps : List (V × V)) (H : Hp), as.length = ps.length → as.Nodup → Paired (fun (t : Addr) (p : V × V) => putZ H as ps t = some (.tup [p.1, p.2])) as ps
  | [], [], _, _, _ => .nil
  | [], _ :: _, _, h, _ => by cases h
  | _ :: _, [], _, h, _ => by cases h
  | a :: as, p :: ps, H, h, hn => by
    have hn' := List.nodup_cons.mp hn
    have ih := putZ_at as ps (upd H a (.tup [p.1, p.2])) (Nat.succ.inj h) hn'.2
    refine .cons ?_ ih
    show putZ (upd H a (.tup [p.1, p.2])) as ps a = some (.tup [p.1, p.2])
    rw [putZ_off as ps _ hn'.1, upd_same]
theorem vals_at : ∀ {xs : List V} {us : List Value}, Vals xs us → ∀ {j : Nat} {u : Value}, us[j]? = some u → ∃ x, xs[j]? = some x ∧ RelV x u
  | _, _, .nil, j, u, h => by simp at h
  | _, _, .cons (a := v) r t, 0, u, h => by
    have e := Option.some.inj h
    subst e
    exact ⟨v, rfl, r⟩
  | _, _, .cons r t, j + 1, u, h => vals_at t h
abbrev rdLZ (K : PySem.W.Frag) : List V → Hp → VK → Prop := fun us H Q => ∃ (a b : Addr) (xs ys : List V), us = [.ref a, .ref b] ∧ SqL K H a xs ∧ SqL K H b ys ∧
  ∀ (H1 : Hp) (ts : List Addr) (p : Addr), Fw.Ext H H1 → (∀ t ∈ ts, H t = none) → Paired (fun (t : Addr) (q : V × V) => H1 t = some (.tup [q.1, q.2])) ts (xs.zip ys) → H1 p = none → Q (.ref p) (upd H1 p (.lst (ts.map V.ref)))
section
variable {X : Cx} {pins : List (Addr × Obj)} {σ : L2.St} {H : Hp} {s : Shared}
theorem zip_laid {h' : Heap} {tk : Nat} {ps : List (V × V)} {xs ys : List V} {us vs : List Value} {acc : Array Value} {c : Nat} {as : List Addr} (I : Inv X pins σ H s) (hps : ps = xs.zip ys) (rx : Vals xs us) (ry : Vals ys vs)
    (hk : ∀ b o, s.heap.get? b = some o → h'.get? b = some o) {S : Addr} (hs : s.heap.objs.size ≤ S) (hS : h'.get? S = some { cls := .type "list", dict := none, data := .seq acc c, slots := #[] }) (hl : as.length = ps.length) (hz : as.length ≤ sizeLine) (hG : ZG us.toArray vs.toArray S h' as) (hacc : acc.toList = as.map Value.ref) :
    Inv X pins σ (upd (putZ H as ps) S (.lst (as.map V.ref))) { s with heap := h', toks := tk } ∧ Fw.Ext H (putZ H as ps) ∧ (∀ t ∈ as, H t = none) ∧ Paired (fun (t : Addr) (q : V × V) => putZ H as ps t = some (.tup [q.1, q.2])) as ps ∧ putZ H as ps S = none := by
  have hSn : S ∉ as := fun z => Nat.lt_irrefl _ (hG.above _ z)
  have nd : as.Nodup := List.Pairwise.imp (fun {a b} (h : a < b) => Nat.ne_of_lt h) hG.rise
  have new : ∀ t ∈ as, H t = none := fun t ht => I.hok.fresh (Nat.le_trans hs (Nat.le_of_lt (hG.above t ht)))
  have newS : H S = none := I.hok.fresh hs
  have atP := putZ_at as ps H hl nd
  have offS : putZ H as ps S = none := by rw [putZ_off as ps _ hSn]; exact newS
  have ext : Fw.Ext H (putZ H as ps) := fun a ha => putZ_off as ps _ fun z => ha (new a z)
  have off : ∀ b, b ∉ as → b ≠ S → upd (putZ H as ps) S (.lst (as.map V.ref)) b = H b := fun b h1 h2 => by rw [upd_ne h2, putZ_off as ps _ h1]
  have low : ∀ b o, s.heap.get? b = some o → b ∉ as ∧ b ≠ S := fun b o e => ⟨fun z => absurd (Heap.lt_size e) (Nat.not_lt.mpr (Nat.le_trans hs (Nat.le_of_lt (hG.above b z)))), Nat.ne_of_lt (Nat.lt_of_lt_of_le (Heap.lt_size e) hs)⟩
  have kp : ∀ b u, H b = some u → (upd (putZ H as ps) S (.lst (as.map V.ref))) b = some u := fun b u e => by
    rw [off b (fun z => by rw [new b z] at e; cases e) (fun z => by rw [z, newS] at e; cases e)]
    exact e
  refine ⟨?_, ext, new, atP, offS⟩
  refine I.call' (ch := []) rfl ⟨fun b o q _ _ _ => hk b o q, fun b o q _ _ _ => ⟨o.slots, hk b o q⟩, fun b o q n _ => ?_, fun b o q _ => ⟨o, hk b o q⟩, fun b xs q => kp b _ q, fun b o u q => kp b _ q, fun b ps q => ⟨#[], by rw [kp b _ q]; simp⟩⟩ (fun b u q => ?_) I.bare fun b z => by simp at z
  · obtain ⟨z1, z2⟩ := low b o q
    rw [off b z1 z2]
    exact n
  · by_cases hb2 : b = S
    · rw [hb2] at q ⊢
      rw [upd_same] at q
      cases q
      refine ⟨by rw [List.length_map]; exact hz, acc.toList, c, by rw [hacc]; exact LiI.vals_refs as, ?_⟩
      rw [Array.toArray_toList]
      exact hS
    · by_cases hb : b ∈ as
      · obtain ⟨j, pk, e1, e2, e3⟩ := LiI.paired_ix atP hb
        rw [upd_ne hb2, e3] at q
        cases q
        obtain ⟨x, y, f1, f2, f3⟩ := hG.pairs j b e1
        obtain ⟨x', g1, g2⟩ := vals_at rx (by simpa using f1)
        obtain ⟨y', g3, g4⟩ := vals_at ry (by simpa using f2)
        rw [hps] at e2
        have e2' := List.getElem?_zip_eq_some.mp e2
        rw [g1, g3] at e2'
        obtain ⟨h1, h2⟩ := e2'
        cases h1
        cases h2
        exact ⟨by show 2 ≤ sizeLine; decide, [x, y], .cons g2 (.cons g4 .nil), ⟨_, f3, rfl, _, rfl⟩⟩
      · rw [off b hb hb2] at q
        exact (I.hok b u q).stay (fun d v _ y => hk d v y) (fun d y => kp d _ y) fun d xs y => kp d _ y
theorem pe_listZip {e e2 : Expr} {ta : TA} {p p2 pos pos2 : Pos} (hc : X.calm = true) (hg : Gl X "list") (hm : X.mg "list" = none) (hg2 : Gl X "zip") (hm2 : X.mg "zip" = none) (ha : PA X [e, e2] ta)
    (hs : starEach [e, e2] X.env = (false, eval e X.env) :: starEach [e2] X.env := by rfl) (hpl : (backTo pos2 (starEach [e2] X.env)).any (·.1) = false := by rfl)
    (na : starEach [.Call (.Name "zip" p2) [e, e2] [] pos2] X.env = (false, eval (.Call (.Name "zip" p2) [e, e2] [] pos2) X.env) :: starEach [] X.env := by rfl) :
    PE X (.Call (.Name "list" p) [.Call (.Name "zip" p2) [e, e2] [] pos2] [] pos) (tCB (rdLZ X.K) ta) := by
  refine ⟨fun pins s σ H Q I h => ?_⟩
  refine Call_ (ld_blt I hg hm boot_list (PyProof.Rows.callWith_type1 (args_cons ?_ na) na))
  refine Call_ (ld_blt I hg2 hm2 PyProof.Rows.boot_zip (PyProof.Rows.callWith_type1 (thn (ha.run pos2 pins s σ H _ I h) fun us s1 ⟨vs, H1, I1, r1, q1⟩ => ?_) hs hpl))
  obtain ⟨a, b, xs, ys, ex, hqx, hqy, q⟩ := q1
  subst ex
  cases r1 with
  | cons r rr =>
    cases rr with
    | cons r' rr =>
      cases rr
      cases r
      cases r'
      obtain ⟨its, rv, p1, z1⟩ := I1.list hqx
      obtain ⟨its2, rv2, p2, z2⟩ := I1.list hqy
      have l1 := rv.length
      have l2 := rv2.length
      refine call_zip_2 p1.isList p2.isList fun h' hz hTI hTO h1 h2 hsz hk => ?_
      have I2 : Inv X pins σ H1 { s1 with heap := h' } := I1.kept (t' := s1.toks) hk
      refine args_nil ?_
      have sz5 : ({ s1 with heap := h' } : Shared).heap.objs.size = s1.heap.objs.size + 5 := hsz
      refine zdx_call (s := { s1 with heap := h' }) (n := min its.length its2.length) (I1.ok.hd hc) (PySem.W.ktu_apart s1.heap.objs.size a b p1.lt p2.lt) hz hTI ⟨_, _, hTO⟩ h1 h2 (p1.isList.at fun o e => hk _ _ e) (p2.isList.at fun o e => hk _ _ e)
        (by omega) (by simp; omega) (by simp; omega) (by rcases Nat.le_total its.length its2.length with z | z <;> simp <;> omega) fun h2 tk acc c as hk2 hS hl hG hacc => ?_
      have hk3 : ∀ b o, s1.heap.get? b = some o → h2.get? b = some o := fun b o e => by
        have lt := Heap.lt_size e
        exact hk2 b o (Nat.ne_of_lt (Nat.lt_add_right 4 lt)) (Nat.ne_of_lt (Nat.lt_add_right 3 lt)) (Nat.ne_of_lt lt) (Nat.ne_of_lt (Nat.lt_add_right 1 lt)) (hk b o e)
      have lz : as.length = (xs.zip ys).length := by rw [hl, List.length_zip]; omega
      obtain ⟨J, k1, k2, k3, k4⟩ := zip_laid (tk := tk) (s := s1) I1 rfl rv rv2 hk3 (by rw [sz5]; omega) hS lz (by omega) hG hacc
      exact ⟨.ref _, _, J, rfl, q _ _ _ k1 k2 k3 k4⟩
end
end FwZip
namespace Fw
open PySem L2 PySem.Spec PyProof.Rows FwZip
def dListZip (x y : D) (Ψ : D → Prop) : Prop := match x, y with
  | .lst xs, .lst ys => Ψ (.lst ((xs.zip ys).map fun p => .tup [p.1, p.2]))
  | _, _ => False
theorem dListZip_lst {xs ys : List D} {Ψ : D → Prop} : dListZip (.lst xs) (.lst ys) Ψ = Ψ (.lst ((xs.zip ys).map fun p => .tup [p.1, p.2])) := rfl
theorem zip_rep {K : PySem.W.Frag} {A : AS} {H H1 : Hp} (hA : ∀ a, A a → H a ≠ none) (e : Ext H H1) : ∀ {xs ys : List V} {ds es : List D} {ts : List Addr}, RpL K A H xs ds → RpL K A H ys es → (∀ t ∈ ts, H t = none) → Paired (fun (t : Addr) (q : V × V) => H1 t = some (.tup [q.1, q.2])) ts (xs.zip ys) →
    RpL K A H1 (ts.map V.ref) ((ds.zip es).map fun p => .tup [p.1, p.2])
  | _, _, _, _, _, .nil, _, _, p => by cases p; exact .nil
  | _, _, _, _, _, .cons _ _, .nil, _, p => by cases p; exact .nil
  | _, _, _, _, _, .cons h t, .cons h' t', n, p => by
    cases p with
    | cons q r =>
      refine .cons (.tup (fun z => hA _ z (n _ List.mem_cons_self)) (hc_tup.mpr q) (.cons (h.mono e.mo) (.cons (h'.mono e.mo) .nil))) (zip_rep hA e t t' (fun a ha => n a (List.mem_cons_of_mem _ ha)) r)
section
variable {X : Cx} {K : PySem.W.Frag} {ks : List SK} {E : L2.St → XK} {ka kb : Kd} {pu : Bool} {a b : Expr} {ta tb : TE} {wa wb : WE} {pos p pos2 p2 : Pos}
theorem xListZip (hc : X.calm = true) (hm : X.mg "list" = none) (hm2 : X.mg "zip" = none) (ha : PX X K ks E pu ka a ta wa) (hb : PX X K ks E pu kb b tb wb) (hk : ka.st pu := by first | exact .inl rfl | exact .inr (.inl rfl) | exact .inr (.inr ⟨rfl, rfl⟩)) (hk2 : kb.op := by trivial) (hg : Gl X "list" := by rfl) (hg2 : Gl X "zip" := by rfl)
    (hs : starEach [a, b] X.env = (false, eval a X.env) :: starEach [b] X.env := by rfl) (hs2 : starEach [b] X.env = (false, eval b X.env) :: starEach [] X.env := by rfl) (hpl : (backTo pos2 (starEach [b] X.env)).any (·.1) = false := by rfl)
    (na : starEach [.Call (.Name "zip" p2) [a, b] [] pos2] X.env = (false, eval (.Call (.Name "zip" p2) [a, b] [] pos2) X.env) :: starEach [] X.env := by rfl) :
    PX X K ks E pu (.o shL) (.Call (.Name "list" p) [.Call (.Name "zip" p2) [a, b] [] pos2] [] pos) (tCB (rdLZ K) (tCons ta (tCons tb tNil))) (w2e dListZip wa wb) := by
  cases ha.hK
  refine ⟨rfl, pe_listZip hc hg hm hg2 hm2 (pa_cons ha.pe (pa_cons hb.pe pa_nil hs2) hs) hs hpl na, fun O Fs ρ σ H Ψ Ξ Q R hw hq hx => ?_⟩
  refine ha.snd O Fs ρ σ H _ Ξ _ R hw (fun dx ρ1 Fs1 x H1 u1 f1 r1 q1 => ?_) hx
  have R1 := (r1.rt hk.op).1
  refine hb.snd O Fs1 ρ1 σ H1 _ Ξ _ R1 q1 (fun dy ρ2 Fs2 y H2 u2 f2 r2 q2 => ?_) (hx.step f1)
  obtain ⟨R2, y2⟩ := r2.rt hk2
  have y1 := r1.stay hk u2 f2
  unfold dListZip at q2
  split at q2
  · obtain ⟨q, us, rfl, e2, rl⟩ := y1.lst_inv
    obtain ⟨q', us', rfl, e2', rl'⟩ := y2.lst_inv
    refine ⟨q, q', us, us', rfl, SqL.of e2, SqL.of e2', fun H3 ts pp ex nn pr hp => ?_⟩
    have rz := zip_rep (fun a => R2.adom) ex rl rl' nn pr
    refine hq _ ρ2 Fs2 _ _ (((u1.trans u2).ext ex).ext (Ext.upd hp)) (f1.trans (f2.trans (ex.fr.trans (Ext.upd hp).fr))) ?_ q2
    exact res_new (R2.ext ex) hp (fun a h => ex.dom (f2.dom a (f1.dom a h))) rz
  · exact q2.elim
end
end Fw

/-! Fw33: x, y = a, b where y is owned. -/
namespace Fw
open PySem L2 PySem.Spec PyProof.Rows
section
variable {X : Cx} {K : PySem.W.Frag} {ks : List SK} {E : L2.St → XK} {rk kd : Kd} {pu : Bool} {e a b c : Expr} {te ta tb tc : TE} {we wa wb wc : WE} {pos : Pos} {i j l : Nat} {x y z : Str}
theorem sParZO {s2 : Shp} {px py pt : Pos} {kt k2 pt2} (hc : X.calm = true) (hN : X.N.Nodup) (h1 : PX X K ks E false .z a ta wa) (h2 : PX X K ks E false (.o s2) b tb wb) (hij : i ≠ j) (hk : ks[i]? = some .z := by rfl) (hk2 : ks[j]? = some (.ow s2) := by rfl) (hi : X.N[i]? = some x := by rfl) (hj : X.N[j]? = some y := by rfl)
    (hx : X.env.scope.names.lookup x = some .local := by rfl) (hy : X.env.scope.names.lookup y = some .local := by rfl)
    (hs1 : starEach [a, b] X.env = (false, eval a X.env) :: starEach [b] X.env := by rfl) (hs2 : starEach [b] X.env = (false, eval b X.env) :: starEach [] X.env := by rfl)
    (hw : swappedStores [.Tuple [.Name x px, .Name y py] kt pt] (.Tuple [a, b] k2 pt2) X.env = pure (some [x, y]) := by rfl)
    (hs : swapsWithSole [.Tuple [.Name x px, .Name y py] kt pt] (.Tuple [a, b] k2 pt2) pos.line X.env = pure false := by rfl) :
    QS X K ks E rk (.Assign [.Tuple [.Name x px, .Name y py] kt pt] (.Tuple [a, b] k2 pt2) pos) (tPar i j (tCons ta (tCons tb tNil))) (wPar i j (wCons wa (wCons wb wNil))) := by
  cases h1.hK
  refine ⟨rfl, ps_par hc hN hi hj hij hx hy (pa_cons h1.pe (pa_cons h2.pe pa_nil hs2) hs1) hw hs, fun O Fs ρ σ H Dd Dh R hw L => ?_⟩
  refine h1.snd O Fs ρ σ H _ Dd.xx _ R hw (fun d1 ρ1 Fs1 v1 H1 u1 f1 r1 p1 => ?_) L.lkx
  refine h2.snd O Fs1 ρ1 σ H1 _ Dd.xx _ r1.1 p1 (fun d2 ρ2 Fs2 v2 H2 u2 f2 r2 p2 => ?_) (L.lkx.step f1)
  obtain ⟨Fv2, R2, q2, n2⟩ := r2
  have m1 : Mo (av O Fs1) (av (O.add Fv2) Fs2) H1 H2 := ⟨f2.mo.keep, fun a z => (av_add_inv z).elim (f2.mo.av a) fun q => (n2 a q).2.2.elim (fun ⟨j', y⟩ => .inl (.inr (.inr ⟨j', y⟩))) .inr⟩
  have q1' : Rp X.K (av (O.add Fv2) Fs2) H2 v1 d1 := r1.2.mono m1
  have R3 := R2.setO hk2 q2 fun a ha => ⟨(n2 a ha).1, (n2 a ha).2.1⟩
  have q3 : Rp X.K (av O (putFs Fs2 j Fv2)) H2 v1 d1 := q1'.mono (.less fun a z => by
    rcases z with z | z | ⟨q, z⟩
    · exact .inl z
    · exact .inr (.inl (.inl z))
    · by_cases hq : q = j
      · subst hq; rw [putFs_self] at z; exact .inr (.inl (.inr z))
      · rw [putFs_ne hq] at z; exact .inr (.inr ⟨q, z⟩))
  have R4 := R3.set hk q3
  rw [List.set_comm _ _ (fun z => hij z.symm), List.set_comm (l := σ) _ _ (fun z => hij z.symm)] at R4
  refine ⟨v1, v2, rfl, L.nx _ _ _ H2 R4 (Fr.putO (f1.trans f2) fun a ha => (n2 a ha).2.2.elim (fun ⟨q, y⟩ => f1.fp q a y) fun y => .inr (by
    cases hh : H a with
    | none => rfl
    | some o => exact absurd y (f1.dom a (by rw [hh]; simp)))) p2⟩
/-- .. where the names may be captured: by a tuple -/
theorem sParT {s2 : Shp} {px py pt : Pos} {kt k2 pt2} (hc : X.calm = true) (hN : X.N.Nodup) (h1 : PX X K ks E false .z a ta wa) (h2 : PX X K ks E false (.o s2) b tb wb) (hij : i ≠ j) (hk : ks[i]? = some .z := by rfl) (hk2 : ks[j]? = some (.ow s2) := by rfl) (hi : X.N[i]? = some x := by rfl) (hj : X.N[j]? = some y := by rfl)
    (hx : Loc X.env.scope x := by first | exact .inl rfl | exact .inr rfl) (hy : Loc X.env.scope y := by first | exact .inl rfl | exact .inr rfl)
    (hfx : X.fn x = true ∨ X.env.scope.names.lookup x = some .local := by first | exact .inl rfl | exact .inr rfl | assumption) (hfy : X.fn y = true ∨ X.env.scope.names.lookup y = some .local := by first | exact .inl rfl | exact .inr rfl | assumption)
    (hs1 : starEach [a, b] X.env = (false, eval a X.env) :: starEach [b] X.env := by rfl) (hs2 : starEach [b] X.env = (false, eval b X.env) :: starEach [] X.env := by rfl)
    (hw : swappedStores [.Tuple [.Name x px, .Name y py] kt pt] (.Tuple [a, b] k2 pt2) X.env = pure none := by rfl)
    (hs : swapsWithSole [.Tuple [.Name x px, .Name y py] kt pt] (.Tuple [a, b] k2 pt2) pos.line X.env = pure false := by rfl)
    (ha : (assignEach [.Tuple [.Name x px, .Name y py] kt pt] X.env).map (·.2) = [assign (.Tuple [.Name x px, .Name y py] kt pt) X.env] := by rfl)
    (hn : (assignEach [.Name x px, .Name y py] X.env).length = 2 := by rfl) (hst : (assignEach [.Name x px, .Name y py] X.env).findIdx? (·.1) = none := by rfl) :
    QS X K ks E rk (.Assign [.Tuple [.Name x px, .Name y py] kt pt] (.Tuple [a, b] k2 pt2) pos) (tAsg (tTup (tCons ta (tCons tb tNil))) (gTup K 2 (gCons (gName i) (gCons (gName j) gNil)))) (wPar i j (wCons wa (wCons wb wNil))) := by
  cases h1.hK
  refine ⟨rfl, ps_asg (pe_tup (pa_cons h1.pe (pa_cons h2.pe pa_nil hs2) hs1)) (pg_tup hc (pgs_cons (pg_name hN hi hx hfx) (pgs_cons (pg_name hN hj hy hfy) pgs_nil)) hn hst) hs hw ha, fun O Fs ρ σ H Dd Dh R hw L => ?_⟩
  refine h1.snd O Fs ρ σ H _ Dd.xx _ R hw (fun d1 ρ1 Fs1 v1 H1 u1 f1 r1 p1 => ?_) L.lkx
  refine h2.snd O Fs1 ρ1 σ H1 _ Dd.xx _ r1.1 p1 (fun d2 ρ2 Fs2 v2 H2 u2 f2 r2 p2 => ?_) (L.lkx.step f1)
  obtain ⟨Fv2, R2, q2, n2⟩ := r2
  have m1 : Mo (av O Fs1) (av (O.add Fv2) Fs2) H1 H2 := ⟨f2.mo.keep, fun a z => (av_add_inv z).elim (f2.mo.av a) fun q => (n2 a q).2.2.elim (fun ⟨j', y⟩ => .inl (.inr (.inr ⟨j', y⟩))) .inr⟩
  have q1' : Rp X.K (av (O.add Fv2) Fs2) H2 v1 d1 := r1.2.mono m1
  have R3 := R2.setO hk2 q2 fun a ha => ⟨(n2 a ha).1, (n2 a ha).2.1⟩
  have q3 : Rp X.K (av O (putFs Fs2 j Fv2)) H2 v1 d1 := q1'.mono (.less fun a z => by
    rcases z with z | z | ⟨q, z⟩
    · exact .inl z
    · exact .inr (.inl (.inl z))
    · by_cases hq : q = j
      · subst hq; rw [putFs_self] at z; exact .inr (.inl (.inr z))
      · rw [putFs_ne hq] at z; exact .inr (.inr ⟨q, z⟩))
  have R4 := R3.set hk q3
  rw [List.set_comm _ _ (fun z => hij z.symm), List.set_comm (l := σ) _ _ (fun z => hij z.symm)] at R4
  refine ⟨by show 2 ≤ sizeLine; decide, fun p hp => ⟨p, [v1, v2], rfl, .inl (.inl upd_same), rfl, v1, [v2], rfl, v2, [], rfl, rfl, ?_⟩⟩
  refine L.nx _ _ _ _ (R4.ext (Ext.upd hp)) ((Fr.putO (f1.trans f2) fun a ha => (n2 a ha).2.2.elim (fun ⟨q, y⟩ => f1.fp q a y) fun y => .inr (by
    cases hh : H a with
    | none => rfl
    | some o => exact absurd y (f1.dom a (by rw [hh]; simp)))).trans (Ext.upd hp).fr) p2
end
/-! ### sorted(d), d a dict of texts -/
theorem cr_srtD {X : Cx} (hcalm : X.calm = true) (hu : X.A.units + 64 < cLine) : CallR X (.builtin "sorted") rSrtD := by
  intro pins s σ H xs us Q I r q
  obtain ⟨a, kvs, ks, ex, hd, hks, q⟩ := q
  subst ex
  rw [Vals.ref1 r]
  obtain ⟨z, lo, vs, rel, dd⟩ := dk_rd I.hok hd
  obtain ⟨ep, hat⟩ := dd.dictAt
  have hkeys : vs.map (·.1) = ks.map Sum.inr := rel.keys.symm.trans hks
  have hl : vs.length = ks.length := by
    have e := congrArg List.length hkeys
    rw [List.length_map, List.length_map] at e
    exact e
  have h16 : vs.length ≤ sizeLine := by
    have e := congrArg List.length rel.keys
    rw [List.length_map, List.length_map] at e
    omega
  refine Calls.call_function_entry PyProof.Rows.kind_sorted PyProof.Rows.plain_sorted PyProof.Rows.entry_sorted (PyProof.Rows.args_sorted1 _) ?_
  unfold Builtin.«sorted»
  refine wpAny_bind (m := checkCount "sorted" 1 1 _) (wpAny_pure ?_)
  refine wpAny_bind (PySem.W.kdu_collect (A := X.A.in1) (PySem.W.kdl_dict (knd := mixKind X.prog X.w) (kvs := vs) (ep := ep) lo) (I.ok.hd hcalm) hat h16 fun h' tk acc hk hacc => ?_)
  have hal : acc.toList.length = ks.length := by rw [Array.length_toList, hacc.1, hl]
  have hS : StrsAre acc.toList ks := strs_at hal fun j v e => by
    obtain ⟨k, x, e1, e2⟩ := hacc.2 j v (by rw [← Array.getElem?_toList]; exact e)
    have e3 : (vs.map (·.1))[j]? = some k := by rw [List.getElem?_map, e1]; all_goals rfl
    rw [hkeys, List.getElem?_map] at e3
    cases e4 : ks[j]? with
    | none => rw [e4] at e3; cases e3
    | some y =>
      rw [e4] at e3
      have e5 : Sum.inr y = k := Option.some.inj e3
      subst e5
      obtain ⟨t, ev⟩ := Value.isStrOf_shape (x := y) (v := v) e2
      exact ⟨y, t, rfl, ev⟩
  have I1 : Inv X pins σ H { s with heap := h', toks := tk } := I.kept hk
  refine wpAny_bind (wpAny_newList ?_ (by rw [hal]; omega))
  have hoL : (h'.push (seqObj "list" acc.toList.toArray 0)).get? h'.objs.size = some (seqObj "list" acc.toList.toArray 0) := Heap.get?_push_size _ rfl
  show wpAny _ _ _ _ _ { s with heap := h'.push (seqObj "list" acc.toList.toArray 0), toks := tk }
  refine wpAny_bind (wpAny_holding (PySem.W.list_sort_data (s := { s with heap := h'.push (seqObj "list" acc.toList.toArray 0), toks := tk }) (enc := fun b : Str => PyData.str b) hoL (each_of hS) (each_reads (P := fun as => h'.objs.size ∉ as) (by simp) hS) (alike_strs _) (sortable_strs _) (by rw [← hl]; exact h16)
    (fun b _ => by rw [depth_str]; show X.A.in1.units + 1 + 0 < cLine; have : X.A.in1.units = X.A.units + 1 := rfl; omega) fun out2 ho2 eo => ?_))
  rw [dataLe_strs] at eo
  obtain ⟨c, hc'⟩ := sortedHeap_at (vs := acc.toList) (out := List.toArray out2) hoL
  obtain ⟨I', hpn⟩ := laid_strs (tk := tk) I1 (h' := sortedHeap (h'.push (seqObj "list" acc.toList.toArray 0)) h'.objs.size acc.toList (List.toArray out2)) (fun b u e => by
    have hlt := Heap.lt_size e
    rw [sortedHeap_old (Nat.ne_of_lt hlt) (by rw [size_push']; exact Nat.lt_succ_of_lt hlt)]
    exact Heap.get?_push_of_some _ e) (Nat.le_refl _) hc' (of_each eo) (by show (srtS ks).length ≤ _; rw [(srtS_perm ks).length_eq]; omega)
  exact wpAny_pure ⟨_, rfl, .ref _, _, I', rfl, q _ hpn⟩
def dSrtD (d : D) (Ψ : D → Prop) : Prop := match d with
  | .dk kvs => ∃ ys : List Str, kvs.map (·.1) = ys.map Sum.inr ∧ Ψ (.lst ((srtS ys).map .str))
  | _ => False
theorem dSrtD_dk {kvs : List (Key × D)} {Ψ : D → Prop} : dSrtD (.dk kvs) Ψ = ∃ ys : List Str, kvs.map (·.1) = ys.map Sum.inr ∧ Ψ (.lst ((srtS ys).map .str)) := rfl
theorem cn_srtD {K : PySem.W.Frag} : CaN K rSrtD dSrtD := fun A H x d Ψ Q hA rx hw hq => by
  unfold dSrtD at hw
  split at hw
  · obtain ⟨ys, e, h⟩ := hw
    obtain ⟨p, vs, rfl, e1, r1⟩ := rx.dk_inv
    refine ⟨p, vs, ys, rfl, e1, ?_, fun q hq' => hq _ _ q hq' (rpl_strs _) h⟩
    rw [← e]
    exact r1.keysEq
  · exact hw.elim
end Fw

/-! Fw34: list(d.items()); isinstance(x, C), C an own class. -/
namespace Fw
open PySem L2 PySem.Spec PyProof.Rows
theorem res_newE {K : PySem.W.Frag} {ks : List SK} {O : Gh} {Fs Fs' : Nat → AS} {ρ : Env} {σ : L2.St} {H H' H1 : Hp} {vs : List V} {ds : List D} {p : Addr} (R : Repr K ks O Fs' ρ σ H) (e : Ext H H1) (hp : H p = none) (h1 : H1 p = some (.lst vs)) (h0 : ∀ a, (H' a ≠ none → H a ≠ none)) (r : RpL K (fun a => av O Fs' a ∨ a = p) H1 vs ds) : Res K ks O Fs H' (.o shL) ρ Fs' σ (.ref p) (.lst ds) H1 := by
  have hn : H' p = none := by
    cases q : H' p with
    | none => rfl
    | some o => exact absurd hp (h0 p (by rw [q]; simp))
  refine ⟨fun a => a = p, R.add e (fun a z => by subst z; exact ⟨hp, by rw [h1]; simp⟩), ⟨p, vs, ds, rfl, rfl, fun _ => Iff.rfl, h1, ?_⟩, fun a z => ?_⟩
  · exact r.mono (.less fun a z => av_add_inv z)
  · subst z
    exact ⟨fun q => R.od _ q hp, fun q => R.bd _ q hp, .inr hn⟩
/-! ### list(d.items()) -/
def rItemsR : V → Hp → VK → Prop := fun x H Q => ∃ (d : Addr) (kvs : List (Key × V)), x = .ref d ∧ Rd H d (.dK kvs) ∧
  ∀ (H' : Hp) (p : Addr) (ts : List Addr), (∀ b o, H b = some o → H' b = some o) → H p = none → (∀ t ∈ ts, H t = none) → p ∉ ts → H' p = some (.lst (ts.map V.ref)) → Paired (fun (t : Addr) (q : Key × V) => H' t = some (.tup [L2.kV q.1, q.2])) ts kvs → Q (.ref p) H'
def tListItemsR (te : TE) : TE := fun σ H Q => te σ H fun x H1 => rItemsR x H1 Q
section
variable {X : Cx} {e : Expr} {te : TE} {p apos cpos pos : Pos}
theorem pe_listItemsR (hc : X.calm = true) (he : PE X e te) (hg : Gl X "list") (hm : X.mg "list" = none) (hv : bootBuiltins "list" = some (.type "list")) (hbase : attributeBase e "items" X.env (eval e X.env) = eval e X.env := by rfl) (hline : (apos.endLine == cpos.line) = true := by rfl)
    (hs : starEach [.Call (.Attribute e "items" apos) [] [] cpos] X.env = (false, eval (.Call (.Attribute e "items" apos) [] [] cpos) X.env) :: starEach [] X.env := by rfl) :
    PE X (.Call (.Name "list" p) [.Call (.Attribute e "items" apos) [] [] cpos] [] pos) (tListItemsR te) := by
  refine ⟨fun pins s σ H Q I hq => ?_⟩
  refine wpAny_Call_Name_kw (ld_blt I hg hm hv ?_)
  refine PyProof.Rows.callWith_type1 ?_ hs rfl
  rw [hs]
  show wpAny _ _ (spliced ((false, eval (.Call (.Attribute e "items" apos) [] [] cpos) X.env) :: backTo pos (starEach [] X.env))) _ _ s
  refine Calls.spliced_cons ?_
  refine wpAny_Call_method (T := "dict") (id := "dict.items") hbase rfl hline F.plainAttrs_dict F.slot_dict_items F.type_dict_items (thn (he.run pins s σ H _ I hq) fun u s1 ⟨x, H1, I1, rx, d, kvs, ex, hd, q⟩ => ?_)
  subst ex
  obtain rfl : u = Value.ref d := rx
  obtain ⟨hz, hs0, vs, kv, hdo⟩ := dk_rd I1.hok hd
  obtain ⟨ep, hat⟩ := hdo.dictAt
  have lk : kvs.length = vs.length := Paired.length kv
  have I2 : Inv X pins σ H1 { s1 with heap := s1.heap.push { cls := .type "dict_items", data := .fields #[.ref d] } } := I1.kept (t' := s1.toks) fun b ob q => Heap.get?_push_of_some _ q
  refine ⟨hdo.typeIs, hdo.mapOf.noDict, ?_⟩
  show wpAny _ _ (callWith cpos (.builtin "dict.items") [.ref d] [] []) _ X.xe s1
  refine method_meetsIn F.slot_dict_items F.entry_dict_items rfl (PySem.evalArgs_none ⟨rfl, hdo.typeIs, F.args_dict_items_1 _, _, meets_dict_items (mixKind X.prog X.w) d hs0, ⟨vs, hdo⟩, ?_⟩)
  refine Calls.spliced_nil ?_
  refine PySem.W.kdx_call (knd := mixKind X.prog X.w) (kvs := vs) (ep := ep) (I1.ok.hd hc) ⟨_, Heap.get?_push_size _ rfl, rfl, rfl⟩ (hat.push _) (by omega) fun h' tk acc c as hk hS hl hG hacc => ?_
  obtain ⟨H', k1, k2, k3, k4, k5, k6, J⟩ := LiI.items_laid (tk := tk) I2 hz kv hk hS hl hG hacc
  exact ⟨.ref _, H', J, rfl, q H' _ as k1 k2 k3 k4 k5 k6⟩
end
def dItemsL (d : D) (Ψ : D → Prop) : Prop := match d with
  | .dk kvs => Ψ (.lst (kvs.map fun kv => .tup [keyV kv.1, kv.2]))
  | _ => False
theorem dItemsL_dk {kvs : List (Key × D)} {Ψ : D → Prop} : dItemsL (.dk kvs) Ψ = Ψ (.lst (kvs.map fun kv => .tup [keyV kv.1, kv.2])) := rfl
theorem kV_rep {K : PySem.W.Frag} {A : AS} {H : Hp} (k : Key) : Rp K A H (L2.kV k) (keyV k) := by
  cases k with
  | inl i => exact .int i
  | inr x => exact .str x
theorem items_rep {K : PySem.W.Frag} {A : AS} {H : Hp} : ∀ {vs : List (Key × V)} {ds : List (Key × D)} {ts : List Addr}, RpK K A H vs ds → (∀ t ∈ ts, ¬ A t) → Paired (fun (t : Addr) (q : Key × V) => H t = some (.tup [L2.kV q.1, q.2])) ts vs → RpL K A H (ts.map V.ref) (ds.map fun kv => .tup [keyV kv.1, kv.2])
  | _, _, _, .nil, _, p => by cases p; exact .nil
  | _, _, _, .cons h t, n, p => by
    cases p with
    | cons q r => exact .cons (.tup (n _ List.mem_cons_self) (hc_tup.mpr q) (.cons (kV_rep _) (.cons h .nil))) (items_rep t (fun a ha => n a (List.mem_cons_of_mem _ ha)) r)
section
variable {X : Cx} {K : PySem.W.Frag} {ks : List SK} {E : L2.St → XK} {kd ka : Kd} {pu : Bool} {e a : Expr} {te ta : TE} {we wa : WE} {p apos cpos pos p2 : Pos} {C : Addr} {x : Str}
theorem xListItems (hc : X.calm = true) (hm : X.mg "list" = none) (h : PX X K ks E pu kd e te we) (hk : kd.op := by trivial) (hg : Gl X "list" := by rfl) (hv : bootBuiltins "list" = some (.type "list") := by decide +kernel)
    (hbase : attributeBase e "items" X.env (eval e X.env) = eval e X.env := by rfl) (hline : (apos.endLine == cpos.line) = true := by rfl)
    (hs : starEach [.Call (.Attribute e "items" apos) [] [] cpos] X.env = (false, eval (.Call (.Attribute e "items" apos) [] [] cpos) X.env) :: starEach [] X.env := by rfl) :
    PX X K ks E pu (.o shL) (.Call (.Name "list" p) [.Call (.Attribute e "items" apos) [] [] cpos] [] pos) (tListItemsR te) (w1e dItemsL we) := by
  cases h.hK
  refine ⟨rfl, pe_listItemsR hc h.pe hg hm hv hbase hline hs, fun O Fs ρ σ H Ψ Ξ Q R hw hq hx => ?_⟩
  refine h.snd O Fs ρ σ H _ Ξ _ R hw (fun d ρ1 Fs1 v H1 u1 f1 r1 p1 => ?_) hx
  obtain ⟨R1, y⟩ := r1.rt hk
  unfold dItemsL at p1
  split at p1
  · rename_i kvs
    obtain ⟨q, vs, rfl, e1, rk⟩ := y.dk_inv
    refine ⟨q, vs, rfl, e1, fun H2 pp ts k1 k2 k3 k4 k5 k6 => ?_⟩
    have ex : Ext H1 H2 := fun a ha => by
      cases hh : H1 a with
      | none => exact absurd hh ha
      | some o => exact k1 a o hh
    have nt : ∀ t ∈ ts, ¬ (av O Fs1 t ∨ t = pp) := fun t ht z => z.elim (fun y => R1.adom y (k3 t ht)) fun y => k4 (by rw [← y]; exact ht)
    have m : Mo (av O Fs1) (fun a => av O Fs1 a ∨ a = pp) H1 H2 := ⟨fun a o _ q => ex.hc q, fun a z => z.elim .inl fun q => .inr (by rw [q]; exact k2)⟩
    exact hq _ ρ1 Fs1 _ _ (u1.ext ex) (f1.trans ex.fr) (res_newE R1 ex k2 k5 (fun b h => f1.dom b h) (items_rep (rk.mono m) nt k6)) p1
  · exact p1.elim
theorem RT.ins_inv {A : AS} {H : Hp} {v : V} {C' : Addr} {fs : List (Str × D)} (h : RT K A H v (.ins C' fs)) : ∃ p dx vs, v = .ref p ∧ hc H p = some (.ins C' dx vs) ∧ RpF K A H vs fs := by
  cases h with
  | of h => cases h with
    | ins n e r => exact ⟨_, _, _, rfl, e, r⟩
/-! ### isinstance(x, C) -/
abbrev rdIsC (C : Addr) : List V → Hp → VK → Prop := fun xs H Q => ∃ a dx fs, xs = [.ref a, .ref C] ∧ H a = some (.ins C dx fs) ∧ Q (.bl true) H
def dIsC (C : Addr) (d : D) (Ψ : D → Prop) : Prop := insD d fun C' _ => C' = C ∧ Ψ (.bl true)
theorem dIsC_ins {C C' : Addr} {fs : List (Str × D)} {Ψ : D → Prop} : dIsC C (.ins C' fs) Ψ = (C' = C ∧ Ψ (.bl true)) := rfl
theorem xIsC (ic : C8.InsC K C) (hcl : X.mg x = some (.ref C)) (hm : X.mg "isinstance" = none) (ha : PX X K ks E pu ka a ta wa) (hk : ka.op := by trivial) (hg : Gl X "isinstance" := by rfl) (hgx : Gl X x := by rfl) (hdx : (x == ("__debug__" : Str)) = false := by decide)
    (hs : starEach [a, .Name x p2] X.env = (false, eval a X.env) :: starEach [.Name x p2] X.env := by rfl) (hs2 : starEach [.Name x p2] X.env = (false, eval (.Name x p2) X.env) :: starEach [] X.env := by rfl)
    (hpl : (backTo pos (starEach [.Name x p2] X.env)).any (·.1) = false := by rfl) (hv : bootBuiltins "isinstance" = some (.builtin "isinstance") := by decide +kernel) :
    PX X K ks E pu .z (.Call (.Name "isinstance" p) [a, .Name x p2] [] pos) (tCB (rdIsC C) (tCons ta (tCons (tC (.ref C)) tNil))) (w1e (dIsC C) wa) := by
  cases ha.hK
  refine ⟨rfl, pe_callB (C8.call_isC ic) hg hm hv (pa_cons ha.pe (pa_cons (pe_glob hgx hcl rfl hdx) pa_nil hs2) hs) (by decide) (by decide) hs hpl, fun O Fs ρ σ H Ψ Ξ Q R hw hq hx => ?_⟩
  refine ha.snd O Fs ρ σ H _ Ξ _ R hw (fun d ρ1 Fs1 v H1 u1 f1 r1 p1 => ?_) hx
  obtain ⟨R1, y⟩ := r1.rt hk
  unfold dIsC insD at p1
  split at p1
  · obtain ⟨rfl, p1⟩ := p1
    obtain ⟨q, dx, vs, rfl, e1, rf⟩ := y.ins_inv
    exact ⟨q, dx, vs, rfl, hc_ins.mp e1, hq _ ρ1 Fs1 _ _ u1 f1 ⟨R1, .bl true⟩ p1⟩
  · exact p1.elim
end
end Fw

/-! Fw35: comprehensions over a dict. -/
namespace Fw
open PySem L2 PySem.Spec PyProof.Rows
section
variable {X : Cx} {K : PySem.W.Frag} {ks : List SK} {E : L2.St → XK} {pi : Bool} {tg iter elt : Expr} {ifs : List Expr} {g : TG} {wg : WG} {tt : TT} {wt : WB} {te : TE} {we : WE} {vs : List Nat}
theorem lcP_core (hg : ∀ O Fs ρ σ H v d Ψ Q, Repr K ks O Fs ρ σ H → Rp K (av O Fs) H v d → wg d ρ Ψ → (∀ ρ' σ', Repr K ks O Fs ρ' σ' H → Ψ ρ' → Q σ' H) → g v σ H Q) (gm : GMono g) (go : GOnly g vs)
    (ht : SndB K ks EN true tt wt) (he : Snd K ks EN true .z te we) {O : Gh} {Fs : Nat → AS} {ρ : Env} {σ : L2.St} {H : Hp} {J : It} {ds : List D} {Ψ : D → Env → Prop} {Q : VK} (R : Repr K ks O Fs ρ σ H) (it : ItOk true K (av O Fs) H J ds) (p : wLcL wg wt we vs ds [] (wipeE ρ vs) (fun acc _ => Ψ (.lst acc) ρ))
    (hq : ∀ (acc : List D) (D : Addr) (av2 : List V) (H2 : Hp), Ext H H2 → H D = none → H2 D = some (.lst av2) → Repr K ks (O.add fun a => a = D) Fs ρ σ H2 → RpL K (av (O.add fun a => a = D) Fs) H2 av2 acc → Ψ (.lst acc) ρ → Q (.ref D) H2) :
    ∀ (wi : TI), (∀ Q' : It → Hp → Prop, Q' J H → wi σ H Q') → tLc wi g tt te vs σ H Q := fun wi hwi => by
  refine hwi _ ?_
  intro D hD
  have e0 : Ext H (upd H D (.lst [])) := Ext.upd hD
  have hDB : (O.add fun a => a = D).B D := .inr rfl
  let W : Nat → Hp → Prop := fun i H2 => i ≤ ds.length ∧ ∃ (ρ2 : Env) (av2 : List V) (acc : List Fw.D), Repr K ks (O.add fun a => a = D) Fs ρ2 (wipe σ vs) H2 ∧ Ext H H2 ∧ H2 D = some (.lst av2) ∧
      RpL K (av (O.add fun a => a = D) Fs) H2 av2 acc ∧ wLcL wg wt we vs (ds.drop i) acc ρ2 (fun acc _ => Ψ (.lst acc) ρ)
  refine ⟨fun i m H2 => m = ds.length - i ∧ W i H2, ⟨ds.length, rfl, Nat.zero_le _, _, [], [], (R.add e0 (fun a z => by subst z; exact ⟨hD, by rw [upd_same]; simp⟩)).wipe vs, e0, upd_same, .nil, by simpa using p⟩, ?_⟩
  rintro i m H2 ⟨rfl, hle, ρ2, av2, acc, R2, f2, hD2, ra, p2⟩
  have kp : Kp true (av O Fs) (av (O.add fun a => a = D) Fs) H H2 := ⟨fun a _ h => f2 a h, fun a z => (av_add_inv z).imp id fun z => by rw [z]; exact hD, fun a => R2.adom⟩
  obtain ⟨go1, stop⟩ := it i _ H2 kp
  by_cases hlt : i < ds.length
  · obtain ⟨hgo, hy⟩ := go1 ds[i] (by simp [hlt])
    refine .inr ⟨hgo, W (i + 1), fun H3 h3 => ⟨ds.length - (i + 1), by omega, rfl, h3⟩, fun x H3 y => ?_⟩
    obtain ⟨e2, rx⟩ := hy x H3 y
    have hD3 : H3 D = some (.lst av2) := by rw [e2 D (by rw [hD2]; simp), hD2]
    have ra3 := ra.mono e2.mo
    rw [List.drop_eq_getElem_cons hlt] at p2
    have gw := hg (O.add fun a => a = D) Fs ρ2 (wipe σ vs) H3 x _ _ (fun σ3 H4 => H4 = H3 ∧ ∃ ρ3, Repr K ks (O.add fun a => a = D) Fs ρ3 σ3 H3 ∧ wt ρ3 (fun b ρ2 => if b = true then we ρ2 (fun y ρ3 => acc.length < sizeLine ∧ wLcL wg wt we vs (ds.drop (i + 1)) (acc ++ [y]) (wipeE ρ3 vs) fun acc _ => Ψ (.lst acc) ρ) (fun _ _ => False) else wLcL wg wt we vs (ds.drop (i + 1)) acc (wipeE ρ2 vs) fun acc _ => Ψ (.lst acc) ρ) (fun _ _ => False))
      (R2.ext e2) rx p2 (fun ρ3 σ3 R3 p3 => ⟨rfl, ρ3, R3, p3⟩)
    refine gm _ _ _ _ _ (fun σ3 H4 z => ?_) (go _ _ _ _ gw)
    obtain ⟨ew, rfl, ρ3, R3, p3⟩ := z
    rw [wipe_wipe] at ew
    refine ⟨ew, ?_⟩
    refine ht _ Fs ρ3 σ3 H4 _ (fun _ _ => False) _ R3 p3 (fun b ρ4 Fs4 H5 u4 f4 R4 p4 => ?_) (fun _ _ _ _ _ _ _ _ _ q => q.elim)
    obtain ⟨rfl, rfl, e4⟩ := u4 rfl
    have hD5 : H5 D = some (.lst av2) := by rw [e4 D (by rw [hD3]; simp), hD3]
    cases b with
    | false =>
      rw [if_neg Bool.false_ne_true] at p4 ⊢
      exact ⟨hlt, _, av2, acc, R4.rewipe ew, f2.trans (e2.trans e4), hD5, ra3.mono f4.mo, p4⟩
    | true =>
      rw [if_pos rfl] at p4 ⊢
      refine he _ Fs4 ρ4 σ3 H5 _ (fun _ _ => False) _ R4 p4 (fun yd ρ5 Fs5 yv H6 u5 f5 r5 p5 => ?_) (fun _ _ _ _ _ _ _ _ _ q => q.elim)
      obtain ⟨rfl, rfl, e5⟩ := u5 rfl
      obtain ⟨R5, ry⟩ := r5
      have ra5 := (ra3.mono f4.mo).mono f5.mo
      have hD6 : H6 D = some (.lst av2) := by rw [e5 D (by rw [hD5]; simp), hD5]
      refine ⟨av2, hD6, by rw [ra5.length]; exact p5.1, hlt, _, av2 ++ [yv], acc ++ [yd], (R5.updB hDB).rewipe ew, ?_, upd_same, (ra5.append (.cons ry .nil)).mono (av_upd_mo (.inr (.inl hDB))), p5.2⟩
      intro a h
      rw [upd_ne (fun e => by rw [e] at h; exact h hD)]
      exact (f2.trans (e2.trans (e4.trans e5))) a h
  · have e : i = ds.length := by omega
    subst e
    rw [List.drop_length] at p2
    refine .inl ⟨stop (Nat.le_refl _), ?_⟩
    have R3 : Repr K ks (O.add fun a => a = D) Fs ρ σ H2 := R.add f2 (fun a z => by subst z; exact ⟨hD, by rw [hD2]; simp⟩)
    exact hq acc D av2 H2 f2 hD hD2 R3 ra p2
end
/-! ### [e for x in d if c], d a dict -/
def tOrLockE (t : TE) : TE := fun σ H Q => t σ H Q ∨ tLockE t σ H Q
theorem pe_orLockE {X : Cx} {e : Expr} {t : TE} (h : PE X e t) : PE X e (tOrLockE t) := ⟨fun pins s σ H Q I hw => hw.elim (h.run pins s σ H Q I) ((pe_lock h).run pins s σ H Q I)⟩
def wLcD (i : Nat) (wg : WG) (wt : WB) (we : WE) (vs : List Nat) : WE := fun ρ Ψ _ => dkAt ρ[i]? fun kvs => wLcL wg wt we vs (kvs.map fun kv => keyV kv.1) [] (wipeE ρ vs) fun acc _ => Ψ (.lst acc) ρ
theorem wLcD_eq {i : Nat} {wg : WG} {wt : WB} {we : WE} {vs : List Nat} {ρ : Env} {Ψ : D → Env → Prop} {Ξ : Exc → Env → Prop} : wLcD i wg wt we vs ρ Ψ Ξ = dkAt ρ[i]? fun kvs => wLcL wg wt we vs (kvs.map fun kv => keyV kv.1) [] (wipeE ρ vs) fun acc _ => Ψ (.lst acc) ρ := rfl
section
variable {X : Cx} {K : PySem.W.Frag} {ks : List SK} {E : L2.St → XK} {pi : Bool} {tg iter elt : Expr} {ifs : List Expr} {g : TG} {wg : WG} {tt : TT} {wt : WB} {te : TE} {we : WE} {vs : List Nat} {scope : Scope} {x : Str} {p pos : Pos}
theorem snd_lcD {i : Nat} (hk : ks[i]? = some .z) (hl : noLn ks = true) (hg : ∀ O Fs ρ σ H v d Ψ Q, Repr K ks O Fs ρ σ H → Rp K (av O Fs) H v d → wg d ρ Ψ → (∀ ρ' σ', Repr K ks O Fs ρ' σ' H → Ψ ρ' → Q σ' H) → g v σ H Q) (gm : GMono g) (go : GOnly g vs)
    (ht : SndB K ks EN true tt wt) (he : Snd K ks EN true .z te we) : Snd K ks E pi (.o shL) (tOrLockE (tLc (iKeys (tVar i)) g tt te vs)) (wLcD i wg wt we vs) := fun O Fs ρ σ H Ψ Ξ Q R hw hq hx => by
  unfold wLcD at hw
  rw [← dkAt_ex] at hw
  obtain ⟨kvs, h1, hw⟩ := hw
  obtain ⟨v, h3, h4⟩ := R.sl i _ _ hk h1
  have done : ∀ {acc : List D} {D : Addr} {av2 : List V} {H2 : Hp}, Ext H H2 → H D = none → H2 D = some (.lst av2) → Repr K ks (O.add fun a => a = D) Fs ρ σ H2 → RpL K (av (O.add fun a => a = D) Fs) H2 av2 acc → Ψ (.lst acc) ρ → Q (.ref D) H2 := fun {acc D av2 H2} f2 hD hD2 R3 ra p2 =>
    hq (.lst acc) ρ Fs (.ref D) H2 (fun _ => ⟨rfl, rfl, f2⟩) f2.fr ⟨fun a => a = D, R3, ⟨D, av2, acc, rfl, rfl, fun _ => Iff.rfl, hD2, ra⟩, fun a z => by
      subst z
      exact ⟨fun q => R.od _ q hD, fun q => R.bd _ q hD, .inr hD⟩⟩ p2
  cases h4 with
  | dk n e r =>
    rename_i q us
    rcases hc_dk.mp e with e1 | ⟨o, e1⟩
    · refine .inr ⟨q, .dK us, e1, trivial, fun od => ?_⟩
      have hn : ∀ j, ¬ Fs j q := fun j z => n (.inr (.inr ⟨j, z⟩))
      have l := Lkd.lock (od := od) e1
      refine lcP_core hg gm go ht he (R.lkd l hn hl) (ItOk.any (it_keys (ds := kvs) upd_same n r.keysEq)) hw (fun acc D av2 H2 f2 hD hD2 R3 ra p2 => ?_) _ fun Q hQ => ⟨.ref q, h3, q, od, rfl, .inl ⟨us, upd_same, hQ⟩⟩
      have hne : upd H q (.frz od (.dK us)) q ≠ none := by rw [upd_same]; simp
      have h2 : H2 q = some (.frz od (.dK us)) := (f2 q hne).trans upd_same
      have l' := Lkd.unlock h2
      have hDq : D ≠ q := fun z => by rw [z] at hD; exact hne hD
      refine ⟨h2, done (fun a ha => ?_) ?_ ?_ (R3.lkd l' hn hl) (ra.mono l'.mo) p2⟩
      · by_cases ea : a = q
        · rw [ea, upd_same, e1]
        · rw [upd_ne ea, f2 a (by rw [upd_ne ea]; exact ha), upd_ne ea]
      · rw [upd_ne hDq] at hD; exact hD
      · rw [upd_ne hDq]; exact hD2
    · exact .inl (lcP_core hg gm go ht he R (ItOk.any (it_keys (ds := kvs) e1 n r.keysEq)) hw (fun acc D av2 H2 f2 hD hD2 R3 ra p2 => done f2 hD hD2 R3 ra p2) _ fun Q hQ => ⟨.ref q, h3, q, o, rfl, .inl ⟨us, e1, hQ⟩⟩)
theorem xLcD (i : Nat) (own : List (Str × Nat)) (hc : X.calm = true) (hN : X.N.Nodup) (ok : BlkOk X.N X.env.scope scope own) (hg : Blk X scope fun Y => QG Y K ks tg g wg) (gm : GMono g) (go : GOnly g (own.map (·.2))) (ht : Blk X scope fun Y => PBs Y K ks EN true ifs tt wt) (he : Blk X scope fun Y => PX Y K ks EN true .z elt te we)
    (hk : ks[i]? = some .z := by rfl) (hl : noLn ks = true := by rfl) (hNi : X.N[i]? = some x := by rfl) (hv : Vis X.env.scope x := by first | exact Or.inl rfl | exact Or.inr (Or.inl rfl) | exact Or.inr (Or.inr rfl)) (hd : (x == ("__debug__" : Str)) = false := by decide) (hcd : (x == ("__classdict__" : Str)) = false := by decide)
    (hs : ∀ y, foldedSetIterable (.Name x p) X.env y = pure y := by intro _; rfl) (hK : X.K = K := by rfl) : PX X K ks E pi (.o shL) (.ListComp elt [⟨tg, .Name x p, ifs, 0⟩] scope pos) (tOrLockE (tLc (iKeys (tVar i)) g tt te (own.map (·.2)))) (wLcD i wg wt we (own.map (·.2))) := by
  cases hK
  obtain ⟨Y1, h1⟩ := hg.get
  obtain ⟨Y2, h2⟩ := ht.get
  obtain ⟨Y3, h3⟩ := he.get
  exact ⟨rfl, pe_orLockE (pe_lc hc hN (pi_keys (pe_var hNi hv hd hcd)) ok (fun s H C cl fp => (hg s H C cl fp).pg) (fun s H C cl fp => (ht s H C cl fp).pts) (fun s H C cl fp => (he s H C cl fp).pe) hs), snd_lcD hk hl h1.snd gm go h2.snd h3.snd⟩
def wLcI (i : Nat) (wg : WG) (wt : WB) (we : WE) (vs : List Nat) : WE := fun ρ Ψ _ => dkAt ρ[i]? fun kvs => wLcL wg wt we vs (kvs.map fun kv => .tup [keyV kv.1, kv.2]) [] (wipeE ρ vs) fun acc _ => Ψ (.lst acc) ρ
theorem wLcI_eq {i : Nat} {wg : WG} {wt : WB} {we : WE} {vs : List Nat} {ρ : Env} {Ψ : D → Env → Prop} {Ξ : Exc → Env → Prop} : wLcI i wg wt we vs ρ Ψ Ξ = dkAt ρ[i]? fun kvs => wLcL wg wt we vs (kvs.map fun kv => .tup [keyV kv.1, kv.2]) [] (wipeE ρ vs) fun acc _ => Ψ (.lst acc) ρ := rfl
theorem snd_lcI {i : Nat} (hk : ks[i]? = some .z) (hl : noLn ks = true) (hg : ∀ O Fs ρ σ H v d Ψ Q, Repr K ks O Fs ρ σ H → Rp K (av O Fs) H v d → wg d ρ Ψ → (∀ ρ' σ', Repr K ks O Fs ρ' σ' H → Ψ ρ' → Q σ' H) → g v σ H Q) (gm : GMono g) (go : GOnly g vs)
    (ht : SndB K ks EN true tt wt) (he : Snd K ks EN true .z te we) : Snd K ks E pi (.o shL) (tOrLockE (tLc (iItems (tVar i)) g tt te vs)) (wLcI i wg wt we vs) := fun O Fs ρ σ H Ψ Ξ Q R hw hq hx => by
  unfold wLcI at hw
  rw [← dkAt_ex] at hw
  obtain ⟨kvs, h1, hw⟩ := hw
  obtain ⟨v, h3, h4⟩ := R.sl i _ _ hk h1
  have done : ∀ {acc : List D} {D : Addr} {av2 : List V} {H2 : Hp}, Ext H H2 → H D = none → H2 D = some (.lst av2) → Repr K ks (O.add fun a => a = D) Fs ρ σ H2 → RpL K (av (O.add fun a => a = D) Fs) H2 av2 acc → Ψ (.lst acc) ρ → Q (.ref D) H2 := fun {acc D av2 H2} f2 hD hD2 R3 ra p2 =>
    hq (.lst acc) ρ Fs (.ref D) H2 (fun _ => ⟨rfl, rfl, f2⟩) f2.fr ⟨fun a => a = D, R3, ⟨D, av2, acc, rfl, rfl, fun _ => Iff.rfl, hD2, ra⟩, fun a z => by
      subst z
      exact ⟨fun q => R.od _ q hD, fun q => R.bd _ q hD, .inr hD⟩⟩ p2
  cases h4 with
  | dk n e r =>
    rename_i q us
    rcases hc_dk.mp e with e1 | ⟨o, e1⟩
    · refine .inr ⟨q, .dK us, e1, trivial, fun od => ?_⟩
      have hn : ∀ j, ¬ Fs j q := fun j z => n (.inr (.inr ⟨j, z⟩))
      have l := Lkd.lock (od := od) e1
      refine lcP_core hg gm go ht he (R.lkd l hn hl) (ItOk.any (it_items (ds := kvs) upd_same n (r.mono l.mo))) hw (fun acc D av2 H2 f2 hD hD2 R3 ra p2 => ?_) _ fun Q hQ => ⟨.ref q, h3, q, od, us, rfl, upd_same, hQ⟩
      have hne : upd H q (.frz od (.dK us)) q ≠ none := by rw [upd_same]; simp
      have h2 : H2 q = some (.frz od (.dK us)) := (f2 q hne).trans upd_same
      have l' := Lkd.unlock h2
      have hDq : D ≠ q := fun z => by rw [z] at hD; exact hne hD
      refine ⟨h2, done (fun a ha => ?_) ?_ ?_ (R3.lkd l' hn hl) (ra.mono l'.mo) p2⟩
      · by_cases ea : a = q
        · rw [ea, upd_same, e1]
        · rw [upd_ne ea, f2 a (by rw [upd_ne ea]; exact ha), upd_ne ea]
      · rw [upd_ne hDq] at hD; exact hD
      · rw [upd_ne hDq]; exact hD2
    · exact .inl (lcP_core hg gm go ht he R (ItOk.any (it_items (ds := kvs) e1 n r)) hw (fun acc D av2 H2 f2 hD hD2 R3 ra p2 => done f2 hD hD2 R3 ra p2) _ fun Q hQ => ⟨.ref q, h3, q, o, us, rfl, e1, hQ⟩)
variable {apos cpos : Pos} {elts : List Expr} {kk : Nat} {tpos : Pos}
theorem xLcI (i : Nat) (own : List (Str × Nat)) (hc : X.calm = true) (hN : X.N.Nodup) (ok : BlkOk X.N X.env.scope scope own) (hg : Blk X scope fun Y => QG Y K ks (.Tuple elts kk tpos) g wg) (gm : GMono g) (go : GOnly g (own.map (·.2))) (ht : Blk X scope fun Y => PBs Y K ks EN true ifs tt wt) (he : Blk X scope fun Y => PX Y K ks EN true .z elt te we)
    (hk : ks[i]? = some .z := by rfl) (hl : noLn ks = true := by rfl) (hNi : X.N[i]? = some x := by rfl) (hv : Vis X.env.scope x := by first | exact Or.inl rfl | exact Or.inr (Or.inl rfl) | exact Or.inr (Or.inr rfl)) (hd : (x == ("__debug__" : Str)) = false := by decide) (hcd : (x == ("__classdict__" : Str)) = false := by decide)
    (hbase : attributeBase (.Name x p) "items" X.env (eval (.Name x p) X.env) = eval (.Name x p) X.env := by rfl) (hline : (apos.endLine == cpos.line) = true := by rfl)
    (hs : ∀ y, foldedSetIterable (.Call (.Attribute (.Name x p) "items" apos) [] [] cpos) X.env y = pure y := by intro _; rfl) (hK : X.K = K := by rfl) : PX X K ks E pi (.o shL) (.ListComp elt [⟨.Tuple elts kk tpos, .Call (.Attribute (.Name x p) "items" apos) [] [] cpos, ifs, 0⟩] scope pos) (tOrLockE (tLc (iItems (tVar i)) g tt te (own.map (·.2)))) (wLcI i wg wt we (own.map (·.2))) := by
  cases hK
  obtain ⟨Y1, h1⟩ := hg.get
  obtain ⟨Y2, h2⟩ := ht.get
  obtain ⟨Y3, h3⟩ := he.get
  exact ⟨rfl, pe_orLockE (pe_lc hc hN (pi_items (pe_var hNi hv hd hcd) hbase hline) ok (fun s H C cl fp => (hg s H C cl fp).pg) (fun s H C cl fp => (ht s H C cl fp).pts) (fun s H C cl fp => (he s H C cl fp).pe) hs), snd_lcI hk hl h1.snd gm go h2.snd h3.snd⟩
end
/-! ### xs.extend(ys) -/
def wExt (i : Nat) (we : WE) : WS := fun De ρ => lstAt ρ[i]? (fun _ => True) ∧ we ρ (fun d ρ1 => lstAt ρ1[i]? fun xs => lstAt (some (some d)) fun ys => xs.length + ys.length ≤ sizeLine ∧ De.nx (ρ1.set i (some (.lst (xs ++ ys))))) De.xx
theorem wExt_eq {i : Nat} {we : WE} {De : DEnds} {ρ : Env} : wExt i we De ρ = (lstAt ρ[i]? (fun _ => True) ∧ we ρ (fun d ρ1 => lstAt ρ1[i]? fun xs => lstAt (some (some d)) fun ys => xs.length + ys.length ≤ sizeLine ∧ De.nx (ρ1.set i (some (.lst (xs ++ ys))))) De.xx) := rfl
section
variable {X : Cx} {K : PySem.W.Frag} {ks : List SK} {E : L2.St → XK} {rk : Kd} {pu : Bool} {e : Expr} {te : TE} {we : WE} {x : Str} {p pos p2 apos : Pos} {i : Nat}
theorem snd_ext (hk : Owns ks i shL) (h : Snd K ks E pu .z te we) : SndS K ks E rk (tDrop (tBM K "list" rExtend (tVar i) (tCons te tNil))) (wExt i we) := fun O Fs ρ σ H Dd Dh R hw L => by
  obtain ⟨q0, hw⟩ := hw
  rw [← lstAt_ex] at q0
  obtain ⟨xs, h1, _⟩ := q0
  obtain ⟨p, vs, g1, g2, g3, g4⟩ := R.lstAt hk h1
  refine ⟨.ref p, g1, .inl ⟨rfl, vs, SqL.of g3⟩, h O Fs ρ σ H _ Dd.xx _ R hw (fun d ρ1 Fs1 v H1 u f r q => ?_) L.lkx⟩
  rw [← lstAt_ex] at q
  obtain ⟨ys, q1, q⟩ := q
  rw [← lstAt_ex] at q
  obtain ⟨zs, q2, q3, q4⟩ := q
  cases q2
  obtain ⟨p', us, g1', g2', g3', g4'⟩ := r.1.lstAt hk q1
  rw [g1] at g1'
  cases g1'
  have r2 := r.2
  cases r2 with
  | lst n e rl =>
    refine ⟨p, _, us, _, rfl, rfl, g3', hc_lst.mp e, by rw [g4'.length, rl.length]; exact q3, ?_⟩
    obtain ⟨R2, f2⟩ := r.1.putL hk q1 g1 g2' (g4'.append rl)
    exact L.nx _ Fs1 σ _ R2 (f.trans f2) q4
theorem sExt (hk : Owns ks i shL) (h : PX X K ks E false .z e te we) (hN : X.N[i]? = some x := by rfl) (hv : Vis X.env.scope x := by first | exact Or.inl rfl | exact Or.inr (Or.inl rfl) | exact Or.inr (Or.inr rfl)) (hd : (x == ("__debug__" : Str)) = false := by decide) (hcd : (x == ("__classdict__" : Str)) = false := by decide)
    (hbase : attributeBase (.Name x p) "extend" X.env (eval (.Name x p) X.env) = eval (.Name x p) X.env := by rfl)
    (hfew : ((backTo p2 (starEach [e] X.env)).all (fun x => !x.1) && (backToKw p2 (keywordEach [] X.env)).all (fun x => x.1.isSome) && decide ([e].length + ([] : List Keyword).length + (if ([] : List Keyword).isEmpty then 0 else 1) < 30)) = true := by rfl)
    (hline : (apos.endLine == p2.line) = true := by rfl) (hs : starEach [e] X.env = (false, eval e X.env) :: starEach [] X.env := by rfl) (hplain : (backTo p2 (starEach [] X.env)).any (·.1) = false := by rfl)
    (hsw : swapsWith (.Call (.Attribute (.Name x p) "extend" apos) [e] [] p2) none pos.line X.env = pure false := by rfl) : QS X K ks E rk (.Expr (.Call (.Attribute (.Name x p) "extend" apos) [e] [] p2) pos) (tDrop (tBM K "list" rExtend (tVar i) (tCons te tNil))) (wExt i we) := by
  cases h.hK
  exact ⟨rfl, ps_expr (pe_bm PySem.F.plainAttrs_list PySem.F.slot_list_extend PySem.F.type_list_extend mt_extend (pe_var hN hv hd hcd) (pa_cons h.pe pa_nil hs) hbase hfew hline hs hplain) hsw, snd_ext hk h.snd⟩
end
end Fw

/-! Fw36: a call without arguments. -/
namespace Fw
open PySem L2 PySem.Spec PyProof.Rows
section
variable {X : Cx} {K : PySem.W.Frag} {ks : List SK} {E : XK} {pu : Bool} {x : Str} {p pos : Pos} {CX : CXT} {k : Nat} {f : Addr} {fd : FuncData} {ps : List Str} {rk : Kd} {sp : SpD}
theorem xCall0 (F : FnOk X.prog X.w K X.mg X.base CX k f fd ps (spOf K [] rk sp)) (hr : Room k X.A) (hm : X.mg x = some (.ref f)) (hk : PySem.W.keepIn K (.ref f) = true) (hb : Binds K fd ps []) (hx : Passes CX X E) (hrk : rk.rt := by trivial) (hg : Gl X x := by rfl)
    (hdb : (x == ("__debug__" : Str)) = false := by decide) (hK : X.K = K := by rfl) :
    PX X K ks (fun _ => E) pu rk (.Call (.Name x p) [] [] pos) (tCall (spOf K [] rk sp) [] E tNil) (wCall [] [] sp wNil) := by
  cases hK
  exact ⟨rfl, pe_call0 F hr hg hm hk hb .nil hx hdb, snd_call kNil (.nil) .nil (.inl fun i h => nomatch h) hrk fun _ => rfl⟩
end
end Fw

/-! Fw37: len(x), x of an own class with __len__. -/
namespace Fw
open PySem L2 PySem.Spec PyProof.Rows
section
variable {X : Cx} {K : PySem.W.Frag} {ks : List SK} {E : XK} {pu : Bool} {x : Str} {p pos : Pos} {CX : CXT} {n : Nat} {C g : Addr} {fd : FuncData} {ps : List Str} {sp : Sp} {spd : SpD} {o : Expr} {to : TE} {wo : WE}
def tLenO (C : Addr) (sp : Sp) (E : XK) (to : TE) : TE := fun σ H Q => tMeth C "__len__" sp [] E to tNil σ H fun v H' => ∃ m : Nat, v = .int m ∧ m < 2 ^ 62 ∧ Q v H'
theorem pe_lenO (hm : X.mg "len" = none) (me : Meth X.K C "__len__" g) (F : FnOk X.prog X.w X.K X.mg X.base CX n g fd ps sp) (hr : Room (n + 1) X.A) (hb : Binds X.K fd ps []) (hxx : Passes CX X E) (ho : PE X o to) (hg : Gl X "len" := by rfl)
    (hs : starEach [o] X.env = (false, eval o X.env) :: starEach [] X.env := by rfl) (hpl : (backTo pos (starEach [] X.env)).any (·.1) = false := by rfl) :
    PE X (.Call (.Name "len" p) [o] [] pos) (tLenO C sp E to) := by
  refine ⟨fun pins s σ H Q I h => ?_⟩
  refine wpAny_Call_Name_kw (ld_blt I hg hm boot_len ?_ (by decide) (by decide))
  refine PyProof.Rows.callWith_builtin1 (PyProof.Rows.args_cons (thn (ho.run pins s σ H _ I h) fun v s1 ⟨z, H1, I1, rz, q1⟩ => PyProof.Rows.args_nil ?_) hs) hs hpl
  obtain ⟨a, dx, fs, rfl, ha, _, q⟩ := q1
  cases rz
  obtain ⟨mA, J, _⟩ := ins_get I1.hok ha
  obtain ⟨od, J, _⟩ := J.look
  refine Calls.call_function_entry kind_len plain_len entry_len (args_len1 _) ?_
  unfold Builtin.«len»
  refine wpAny_bind (m := oneArg "len" _) (wpAny_pure ?_)
  refine wpAny_bind (m := callSpecial? (.ref a) (Str.ofString "__len__")) (PySem.W.special_fn I1.kIn J me.at_ (beq_iff_eq.mp me.fn) ?_)
  have hl := F.len _ _ _ _ q
  have e0 : Env0 X.prog X.w X.K X.mg X.base X.A.in1 X.stack s1 H1 := by
    have e := I1.env0
    exact ⟨e.frames, e.mod, e.bs, e.bsz, e.funs, e.frf, e.hok, e.bare⟩
  have r2 : Vals [V.ref a] [Value.ref a] := .cons rfl .nil
  refine wpAny_call (codeAny_mono (F.run X.A.in1 X.stack s1 H1 ⟨[.ref a], []⟩ [.ref a] [.ref a] _ E hr.in1 e0 (by
    have := hb s1 [.ref a] I1.kIn (by simpa using hl)
    simpa using this) r2 q) fun r s' hq => ?_)
  cases r with
  | error e => exact hxx pins σ H1 s1 e s' I1 hq
  | ok fl =>
    cases fl with
    | ret u =>
      obtain ⟨z, H', I', rz, m, rfl, hm2, q2⟩ := I1.after hq
      obtain ⟨t, rfl⟩ := rz
      refine wpAny_bind (wpAny_holding (wpAny_pure ?_))
      refine wpAny_bind (wpAny_letGo ?_)
      show wpAny _ _ (if ((m : Nat) : Int) < 0 then _ else _) _ _ _
      rw [if_neg (by omega)]
      show wpAny _ _ (if ((m : Nat) : Int) ≥ 2 ^ 63 then _ else _) _ _ _
      rw [if_neg (by omega)]
      exact wpAny_bind (wpAny_mkInt (wpAny_pure ⟨_, rfl, .int m, H', I'.tok _, ⟨_, rfl⟩, q2⟩))
    | next => exact False.elim hq
    | brk => exact False.elim hq
    | cont => exact False.elim hq
def wLenO (C : Addr) (sp : SpD) (wo : WE) : WE := fun ρ Ψ Ξ => wMethZ C "__len__" [.z] [] sp wo wNil ρ (fun d ρ' => ∃ m : Nat, d = .int m ∧ m < 2 ^ 62 ∧ Ψ (.int m) ρ') Ξ
theorem wLenO_eq {ρ : Env} {Ψ : D → Env → Prop} {Ξ : Exc → Env → Prop} : wLenO C spd wo ρ Ψ Ξ = wMethZ C "__len__" [.z] [] spd wo wNil ρ (fun d ρ' => ∃ m : Nat, d = .int m ∧ m < 2 ^ 62 ∧ Ψ (.int m) ρ') Ξ := rfl
theorem xLenO (hm : X.mg "len" = none) (me : Meth K C "__len__" g) (F : FnOk X.prog X.w K X.mg X.base CX n g fd ps (spOf K [.z] .z spd)) (hr : Room (n + 1) X.A) (hb : Binds K fd ps []) (hxx : Passes CX X E) (ho : PX X K ks (fun _ => E) pu .z o to wo) (hg : Gl X "len" := by rfl)
    (hs : starEach [o] X.env = (false, eval o X.env) :: starEach [] X.env := by rfl) (hpl : (backTo pos (starEach [] X.env)).any (·.1) = false := by rfl) :
    PX X K ks (fun _ => E) pu .z (.Call (.Name "len" p) [o] [] pos) (tLenO C (spOf K [.z] .z spd) E to) (wLenO C spd wo) := by
  cases ho.hK
  refine ⟨rfl, pe_lenO hm me F hr hb hxx ho.pe hg hs hpl, fun O Fs ρ σ H Ψ Ξ Q R hw hq hx => ?_⟩
  refine snd_methZ (m := "__len__") (rk := .z) (kp := [.z]) (sh := []) ho.snd kNil (.cons (.z) .nil) (by first | decide | simp [muts]) hom0 trivial (fun _ => rfl) O Fs ρ σ H _ Ξ _ R hw (fun d ρ' Fs' v H' u f r q => ?_) hx
  obtain ⟨m, rfl, h2, q2⟩ := q
  have r2 := r.2
  cases r2
  exact ⟨m, rfl, h2, hq _ ρ' Fs' _ H' u f ⟨r.1, .int _⟩ q2⟩
end
end Fw

/-! Fw38: a == b by an own __eq__. -/
namespace Fw
open PySem L2 PySem.Spec PyProof.Rows
section
variable {X : Cx} {K : PySem.W.Frag} {ks : List SK} {E : XK} {pu : Bool} {pos : Pos} {CX : CXT} {n : Nat} {C g : Addr} {fd : FuncData} {ps : List Str} {sp : Sp} {spd : SpD} {a b : Expr} {ta tb : TE} {wa wb : WE}
def rEqO (C : Addr) (sp : Sp) (E : XK) : R2 := fun x y H Q => ∃ a dx fs b dy gs, x = .ref a ∧ y = .ref b ∧ H a = some (.ins C dx fs) ∧ H b = some (.ins C dy gs) ∧ sp [.ref a, .ref b] H (fun v H' => ∃ k, v = .bl k ∧ Q (.bl k) H') E
theorem op_eqO (me : Meth X.K C "__eq__" g) (F : FnOk X.prog X.w X.K X.mg X.base CX n g fd ps sp) (hr : Room n X.A) (hb : Binds X.K fd ps []) (hxx : Passes CX X E) : OpR X (compareOp .Eq) (rEqO C sp E) := by
  intro pins s σ H x y v u Q I rx ry h
  obtain ⟨a, dx, fs, b, dy, gs, rfl, rfl, ha, hb', q⟩ := h
  cases rx
  cases ry
  show wpAny (model X.prog X.w) X.A (richCompare .Eq (.ref a) (.ref b)) (EP X pins σ Q) X.xe s
  obtain ⟨mA, J, _⟩ := ins_get I.hok ha
  obtain ⟨mB, J', _⟩ := ins_get I.hok hb'
  obtain ⟨od, J, _⟩ := J.look
  obtain ⟨od', J', _⟩ := J'.look
  obtain ⟨m, hF⟩ := I.fr
  refine PySem.W.cmp_K (op := .Eq) (tb := .ref C) hr.units0 hF I.ok.mod.kin J J'.type (by simp [PySem.W.notFirst]) me.at_ me.fn ?_
  have hl := F.len _ _ _ _ q
  have r2 : Vals [V.ref a, V.ref b] [Value.ref a, Value.ref b] := .cons rfl (.cons rfl .nil)
  refine wpAny_call (codeAny_mono (F.run X.A X.stack s H ⟨[.ref a, .ref b], []⟩ [.ref a, .ref b] [.ref a, .ref b] _ E hr I.env0 (by
    have := hb s [.ref a, .ref b] I.kIn (by simpa using hl)
    simpa using this) r2 q) fun r s' hq => ?_)
  cases r with
  | error e => exact hxx pins σ H s e s' I hq
  | ok fl =>
    cases fl with
    | ret w =>
      obtain ⟨z, H', I', rz, k, ez, q2⟩ := I.after hq
      subst ez
      cases rz
      exact ⟨.bl k, H', I', rfl, q2⟩
    | next => exact False.elim hq
    | brk => exact False.elim hq
    | cont => exact False.elim hq
def wEqO (C : Addr) (sp : SpD) (wa wb : WE) : WE := fun ρ Ψ Ξ => wa ρ (fun d0 ρ0 => wb ρ0 (fun d1 ρ1 => (insD d0 fun C' _ => C' = C) ∧ (insD d1 fun C' _ => C' = C) ∧ sp [d0, d1] (fun d os => ∃ k, d = .bl k ∧ Ψ (.bl k) ρ1) (fun x os => Ξ x ρ1)) Ξ) Ξ
theorem wEqO_eq {ρ : Env} {Ψ : D → Env → Prop} {Ξ : Exc → Env → Prop} : wEqO C spd wa wb ρ Ψ Ξ = wa ρ (fun d0 ρ0 => wb ρ0 (fun d1 ρ1 => (insD d0 fun C' _ => C' = C) ∧ (insD d1 fun C' _ => C' = C) ∧ spd [d0, d1] (fun d os => ∃ k, d = .bl k ∧ Ψ (.bl k) ρ1) (fun x os => Ξ x ρ1)) Ξ) Ξ := rfl
theorem snd_eqO (ha : Snd K ks (fun _ => E) pu .z ta wa) (hb : Snd K ks (fun _ => E) pu .z tb wb) : Snd K ks (fun _ => E) pu .z (tOp (rEqO C (spOf K [.z, .z] .z spd) E) ta tb) (wEqO C spd wa wb) := fun O Fs ρ σ H Ψ Ξ Q R hw hq hx => by
  refine ha O Fs ρ σ H _ Ξ _ R hw (fun d0 ρ0 Fs0 v0 H0 u0 f0 r0 p0 => ?_) hx
  refine hb O Fs0 ρ0 σ H0 _ Ξ _ r0.1 p0 (fun d1 ρ1 Fs1 v1 H1 u1 f1 r1 p1 => ?_) (hx.step f0)
  obtain ⟨i0, i1, p2⟩ := p1
  have y0 := r0.2.mono f1.mo
  have y1 := r1.2
  unfold insD at i0 i1
  split at i0
  · split at i1
    · subst i0
      subst i1
      obtain ⟨q0, dx, vs, rfl, e0, _⟩ := RT.ins_inv (.of y0)
      obtain ⟨q1, dy, us, rfl, e1, _⟩ := RT.ins_inv (.of y1)
      refine ⟨q0, dx, vs, q1, dy, us, rfl, rfl, hc_ins.mp e0, hc_ins.mp e1, ?_⟩
      refine call_sp (rk := .z) (sh := [none, none]) (ds := [_, _]) (pu := pu) r1.1 (.cons .z (.cons .z .nil)) (by first | decide | simp [muts]) hom0 trivial (.v y0 (.v y1 .nil)) (fun i h => by simp at h) (Ψ := fun d ρ' => ∃ k, d = .bl k ∧ Ψ (.bl k) ρ') (Ξ := Ξ) p2 (fun _ => rfl) (fun d ρ' Fs' v H' u2 f2 r2 p3 => ?_) ((hx.step f0).step f1)
      obtain ⟨k, rfl, p4⟩ := p3
      have r3 := r2.2
      cases r3
      exact ⟨k, rfl, hq _ ρ' Fs' _ H' (u0.trans (u1.trans u2)) (f0.trans (f1.trans f2)) ⟨r2.1, .bl k⟩ p4⟩
    · exact i1.elim
  · exact i0.elim
theorem xEqO (me : Meth K C "__eq__" g) (F : FnOk X.prog X.w K X.mg X.base CX n g fd ps (spOf K [.z, .z] .z spd)) (hr : Room n X.A) (hb : Binds K fd ps []) (hxx : Passes CX X E) (h1 : PX X K ks (fun _ => E) pu .z a ta wa) (h2 : PX X K ks (fun _ => E) pu .z b tb wb) (hm : behindInMarks .Eq b = false := by first | exact nomark _ | rfl) :
    PX X K ks (fun _ => E) pu .z (.Compare a [.Eq] [b] pos) (tOp (rEqO C (spOf K [.z, .z] .z spd) E) ta tb) (wEqO C spd wa wb) := by
  cases h1.hK
  exact ⟨rfl, pe_cmpR (op_eqO me F hr hb hxx) h1.pe h2.pe hm, snd_eqO h1.snd h2.snd⟩
theorem bEqO (me : Meth K C "__eq__" g) (F : FnOk X.prog X.w K X.mg X.base CX n g fd ps (spOf K [.z, .z] .z spd)) (hr : Room n X.A) (hb : Binds K fd ps []) (hxx : Passes CX X E) (h1 : PX X K ks (fun _ => E) pu .z a ta wa) (h2 : PX X K ks (fun _ => E) pu .z b tb wb) (hm : behindInMarks .Eq b = false := by first | exact nomark _ | rfl) :
    PB X K ks (fun _ => E) pu (.Compare a [.Eq] [b] pos) (tTest (tOp (rEqO C (spOf K [.z, .z] .z spd) E) ta tb)) (wB (wEqO C spd wa wb)) := by
  cases h1.hK
  exact ⟨rfl, pt_cmpR (op_eqO me F hr hb hxx) h1.pe h2.pe hm, snd_B (snd_eqO h1.snd h2.snd) trivial⟩
end
end Fw

/-! Fw39: defs that may raise; raise of own classes. -/
namespace Fw
open PySem L2 PySem.Spec PyProof.Rows

section
variable {P : Program} {w : World} {K : PySem.W.Frag} {mg : Str → Option Value} {base : Heap}
/-- a def that may raise, by its body -/
theorem okX {x qual : Str} {st : Stmt} {f : Addr} {fd : FuncData} {N ps : List Str} {k : Nat} {kp kl : List SK} {rk : Kd} {S : SpD} (F : Fun K x qual st f fd) (sc : FnScope N ps (defScope st)) (hp : kp.length = ps.length) (hN : N.length = kp.length + kl.length)
    (hbody : ∀ (cdv : Value) (A : Around) (outer : List PySem.Env) (s : Shared) (H : Hp) (E : XK), Room k (A.deeper (PyProof.Rows.envOfC qual (defScope st) s.heap.objs.size f cdv)) →
      ∃ t wd, QSs (cxOf (L2.CX P w) P w K mg base N qual (defScope st) f cdv A outer s H E) K (kp ++ kl) (fun _ => E) rk (defBody st) t wd ∧
        ∀ ds Ψ Ξ, ds.length = kp.length → S ds Ψ Ξ → (rk = .z ∧ wd (dEnds kp Ψ Ξ) (ds.map some ++ List.replicate kl.length none)) ∨ wd { dEnds kp Ψ Ξ with nx := fun _ => False } (ds.map some ++ List.replicate kl.length none)) :
    FnOk P w K mg base (L2.CX P w) (k + 1) f fd ps (spOf K kp rk S) := by
  refine F.okX sc (fun vs H Q E h => (spOf_len h).trans hp) (fun cdv A outer s H vs Q E hr h => ?_)
  obtain ⟨t, wd, q, hw⟩ := hbody cdv A outer s H E hr
  exact ⟨t, q.ps, body_ok hN h q.snd fun ds Ψ Ξ hl hs => hw ds Ψ Ξ hl hs⟩
end

/-! ### what an exception's __init__ stores -/
/-- by name: a text of its own, or an argument -/
abbrev FSp := List (Str × (Str ⊕ Nat))
def fvV (p : FSp) (us : List V) : List (Str × V) := p.map fun q => (q.1, match q.2 with | .inl c => .str c | .inr i => us.getD i .non)
def fvD (p : FSp) (us : List D) : List (Str × D) := p.map fun q => (q.1, match q.2 with | .inl c => .str c | .inr i => us.getD i .non)
theorem rp_getD {K : PySem.W.Frag} {A : AS} {H : Hp} : ∀ {us : List V} {ds : List D}, RpL K A H us ds → ∀ i, Rp K A H (us.getD i .non) (ds.getD i .non)
  | _, _, .nil, i => by simpa using Rp.non
  | _, _, .cons h _, 0 => by simpa using h
  | _, _, .cons _ t, i + 1 => by simpa using rp_getD t i
theorem rp_fv {K : PySem.W.Frag} {A : AS} {H : Hp} {us : List V} {ds : List D} (r : RpL K A H us ds) : ∀ p : FSp, RpF K A H (fvV p us) (fvD p ds)
  | [] => .nil
  | (f, .inl c) :: p => .cons (.str c) (rp_fv r p)
  | (f, .inr i) :: p => .cons (rp_getD r i) (rp_fv r p)
/-- the promise of such an __init__ -/
def spIni (C : Addr) (n : Nat) (p : FSp) : Sp := fun vs H Q _ => ∃ (a : Addr) (us : List V), vs = .ref a :: us ∧ us.length = n ∧ H a = some (exo a C none) ∧
  ∀ (dx : Addr) (H' : Hp), H dx = none → dx ≠ a → H' a = some (exo a C (some dx)) → H' dx = some (exd dx (fvV p us)) → (∀ b, b ≠ a → b ≠ dx → H' b = H b) → Q .non H'

section
variable {X : Cx} {K : PySem.W.Frag} {ks : List SK} {E : L2.St → XK} {rk : Kd} {e : Expr} {es : List Expr} {ta : TA} {wa : WA} {p pos pos' : Pos} {x : Str} {C fI : Addr} {n k : Nat} {fd : FuncData} {ps : List Str} {CX : CXT} {fp : FSp}
/-- C(), its own __init__ keeping sp -/
theorem pmk_ini0 {sp : Sp} (T : OexC X.K C) (iC : PySem.W.findIn X.K (.ref C) "__init__" = some (some (.ref fI))) (tI : PySem.W.typeIn X.K (.ref fI) = some (.type "function"))
    (F1 : FnOk X.prog X.w X.K X.mg X.base CX k fI fd ps sp) (hr : Room (k + 1) X.A) (hb : Binds X.K fd ps []) (hx : Passes CX X (fun _ _ _ => False)) (hg : Gl X x) (hm : X.mg x = some (.ref C)) (hdb : (x == ("__debug__" : Str)) = false := by decide) :
    PMk X (.Call (.Name x p) [] [] pos) (tMkO C sp [] tNil) := by
  intro pins s σ H Q I h
  obtain ⟨nm, q, N, bs, bm, sn, sub, ab, col, dd, k0, k1, k2, k3, k5, hC, hbm⟩ := T.cls
  refine wpAny_Call_Name_kw (ld_glob I hg hm ?_ hdb)
  refine PySem.W.callWith_K0 I.kIn T.kC ?_
  obtain ⟨hp, g, dr, tk, os⟩ := s
  obtain ⟨_, q1⟩ := (show ([] : List V).length ≤ 1000 ∧ _ from h)
  have old : hp.objs.size ≤ hp.objs.size + 1 := Nat.le_succ _
  have fresh : H (hp.objs.size + 1) = none := I.hok.fresh old
  have hq := q1 (hp.objs.size + 1) fresh
  have up : ∀ b o, hp.get? b = some o → ((hp.push (PySem.W.kdv_tup [])).push (PySem.HandSPX.excO C hp.objs.size)).get? b = some o := fun b o z => Heap.get?_push_of_some _ (Heap.get?_push_of_some _ z)
  have me : ((hp.push (PySem.W.kdv_tup [])).push (PySem.HandSPX.excO C hp.objs.size)).get? (hp.objs.size + 1) = some (PySem.HandSPX.excO C hp.objs.size) := by heap_get
  have J : Inv X pins σ (upd H (hp.objs.size + 1) (exo (hp.objs.size + 1) C none)) ⟨(hp.push (PySem.W.kdv_tup [])).push (PySem.HandSPX.excO C hp.objs.size), g, dr, tk, os⟩ :=
    I.laid (t' := tk) (a := hp.objs.size + 1) (o := exo (hp.objs.size + 1) C none) up old (exo_ok me)
  have one : Vals [V.ref (hp.objs.size + 1)] [Value.ref (hp.objs.size + 1)] := .cons rfl .nil
  have hl : [Value.ref (hp.objs.size + 1)].length = ps.length := F1.len _ _ _ _ hq
  have b2 := hb _ [Value.ref (hp.objs.size + 1)] J.kIn hl
  rw [List.append_nil] at b2
  have run := F1.run _ X.stack _ _ ⟨[Value.ref (hp.objs.size + 1)], []⟩ [Value.ref (hp.objs.size + 1)] _ _ (fun _ _ _ => False) (hr.make C [] []) (J.env0.make C [] []) b2 one hq
  refine wpAny_call (PySem.HandSPX.call_own F.excBase_ValueError (fun Y => PySem.HandSPX.refsVE_contains Y bm hbm) (I.kIn _ _ hC) (PySem.W.looks_findIn I.kIn iC) (fun self => PySem.W.bind_fn I.kIn self tI) (by rw [sizeLine_eq]; decide) (codeAny_mono run fun r s' z => ?_))
  cases r with
  | error er => exact hx pins σ _ _ er s' J z
  | ok fl =>
    cases fl with
    | ret u =>
      obtain ⟨v, H2, os2, bare2, un2, hok2, rv, ev, d, fs, ea, ed, hd1, q2⟩ := z
      subst ev
      obtain ⟨h2, g2, d2, t2, os'⟩ := s'
      exact ⟨rv, mk_end (raises_own T.exC T.tyC) I old up un2 hok2 os2 bare2 ea ed hd1 q2⟩
    | next => exact False.elim z
    | brk => exact False.elim z
    | cont => exact False.elim z
/-- raise C(..) -/
def wRaise (C : Addr) (n : Nat) (fp : FSp) (wa : WA) : WS := fun De ρ => wa ρ (fun ds ρ' => ds.length = n ∧ De.xx ⟨C, fvD fp ds⟩ ρ') De.xx
theorem snd_raise (hn : n ≤ 1000) (h : SndA K ks E false ta wa) : SndS K ks E rk (fun _ σ H => tMkO C (spIni C n fp) [] ta σ H fun cls d H' => E σ cls d H') (wRaise C n fp wa) := fun O Fs ρ σ H Dd Dh R hw L => by
  refine h O Fs ρ σ H _ Dd.xx _ R hw (fun ds ρ1 Fs1 vs H1 u1 f1 R1 r1 p1 => ?_) L.lkx
  obtain ⟨hl, p1⟩ := p1
  have hv : vs.length = n := by rw [r1.length]; exact hl
  refine ⟨by omega, fun a na => ⟨a, vs, by rw [List.append_nil], hv, upd_same, fun dx H' nd ne e1 e2 e3 => ⟨rfl, dx, _, e1, e2, ?_, ?_⟩⟩⟩
  · rw [upd_ne ne] at nd
    exact nd
  · have nd' : H1 dx = none := by
      rw [upd_ne ne] at nd
      exact nd
    have ex : Ext H1 (upd (del H' a) dx (.xd (fvV fp vs))) := fun b hb => by
      have nb : b ≠ dx := fun z => hb (by rw [z]; exact nd')
      have nba : b ≠ a := fun z => hb (by rw [z]; exact na)
      rw [upd_ne nb, del_ne nba, e3 b nba nb, upd_ne nba]
    have R2 := R1.ext ex
    exact L.xx σ _ ρ1 Fs1 (.ref C) (some dx) _ R2 (f1.trans ex.fr) ⟨rfl, dx, _, rfl, upd_same, (rp_fv r1 fp).mono ex.mo, fun z => R1.adom z nd'⟩ p1
theorem sRaise0 (tk : Takes X fun cls d σ H => E σ cls d H) (T : OexC X.K C) (iC : PySem.W.findIn X.K (.ref C) "__init__" = some (some (.ref fI))) (tI : PySem.W.typeIn X.K (.ref fI) = some (.type "function"))
    (F1 : FnOk X.prog X.w X.K X.mg X.base CX k fI fd ps (spIni C 0 fp)) (hr : Room (k + 1) X.A) (hm : X.mg x = some (.ref C)) (hb : Binds X.K fd ps []) (hx : Passes CX X (fun _ _ _ => False)) (hc : X.calm = true := by rfl) (hg : Gl X x := by rfl) (hdb : (x == ("__debug__" : Str)) = false := by decide) (hK : X.K = K := by rfl) :
    QS X K ks E rk (.Raise (some (.Call (.Name x p) [] [] pos)) none pos') (fun _ σ H => tMkO C (spIni C 0 fp) [] tNil σ H fun cls d H' => E σ cls d H') (wRaise C 0 fp wNil) := by
  cases hK
  exact ⟨rfl, ps_raise hc tk (pmk_ini0 T iC tI F1 hr hb hx hg hm hdb), snd_raise (by decide) (aNil (X := X)).snd⟩
theorem sRaise (tk : Takes X fun cls d σ H => E σ cls d H) (T : OexC X.K C) (iC : PySem.W.findIn X.K (.ref C) "__init__" = some (some (.ref fI))) (tI : PySem.W.typeIn X.K (.ref fI) = some (.type "function"))
    (F1 : FnOk X.prog X.w X.K X.mg X.base CX k fI fd ps (spIni C n fp)) (hr : Room (k + 1) X.A) (hm : X.mg x = some (.ref C)) (hb : Binds X.K fd ps []) (hx : Passes CX X (fun _ _ _ => False)) (h : PXs X K ks E false (e :: es) ta wa) (hn : n ≤ 1000 := by decide) (hc : X.calm = true := by rfl) (hg : Gl X x := by rfl) (hdb : (x == ("__debug__" : Str)) = false := by decide)
    (he : starEach (e :: es) X.env = (false, eval e X.env) :: starEach es X.env := by rfl) (hpl : (backTo pos (starEach es X.env)).any (·.1) = false := by rfl) :
    QS X K ks E rk (.Raise (some (.Call (.Name x p) (e :: es) [] pos)) none pos') (fun _ σ H => tMkO C (spIni C n fp) [] ta σ H fun cls d H' => E σ cls d H') (wRaise C n fp wa) := by
  cases h.hK
  exact ⟨rfl, ps_raise hc tk (pmk_oex T iC tI F1 hr hb .nil hx hg hm h.pa hdb he hpl), snd_raise hn h.snd⟩
end
end Fw

/-! Fw40: the __init__ of own exceptions: texts and arguments stored. -/
namespace Fw
open PySem L2 PySem.Spec PyProof.Rows
section
variable {P : Program} {w : World} {K : PySem.W.Frag} {mg : Str → Option Value} {base : Heap} {qual : Str} {st : Stmt} {f C : Addr} {fd : FuncData}
theorem FnScope.vis {N ps : List Str} {sc : Scope} (S : FnScope N ps sc) {x : Str} (h : x ∈ ps) : Vis sc x := (S.par x h).elim .inl fun z => .inr (.inl z)
theorem ini1 {g c : Str} {j : Nat} {p p' p2 pos : Pos} (F : Fun K "__init__" qual st f fd) (sc : FnScope ["self"] ["self"] (defScope st)) (hb : defBody st = [.Assign [.Attribute (.Name "self" p) g p'] (.Constant (.str c) j p2) pos]) (T : OexC K C) (n : PySem.W.findIn K (.ref C) g = some none) :
    FnOk P w K mg base CX0 1 f fd ["self"] (spIni C 0 [(g, .inl c)]) := by
  refine F.ok (k := 0) sc (fun vs H Q E h => ?_) (fun cdv A outer s H vs Q E hr h => ?_)
  · obtain ⟨a, us, rfl, hl, _⟩ := h
    simp [hl]
  · obtain ⟨a, us, rfl, hl, ha, q⟩ := h
    have hu : us = [] := List.length_eq_zero_iff.mp hl
    subst hu
    rw [hb]
    refine ⟨_, pss_one (ps_ost (pe_var (i := 0) rfl (FnScope.vis sc (by simp))) pe_str (by rfl)), ?_⟩
    refine ⟨.ref a, rfl, a, C, rfl, T, n, .inl ⟨ha, fun dx nd ne => ?_⟩⟩
    exact q dx _ nd ne upd_same (by rw [upd_ne ne, upd_same]; rfl) fun b h1 h2 => by rw [upd_ne h1, upd_ne h2]
theorem ini2 {g c g2 a2 : Str} {j : Nat} {p p' p2 pos q1 q2 q3 q4 : Pos} (F : Fun K "__init__" qual st f fd) (sc : FnScope ["self", a2] ["self", a2] (defScope st))
    (hb : defBody st = [.Assign [.Attribute (.Name "self" p) g p'] (.Constant (.str c) j p2) pos, .Assign [.Attribute (.Name "self" q1) g2 q2] (.Name a2 q3) q4]) (T : OexC K C) (n : PySem.W.findIn K (.ref C) g = some none) (n2 : PySem.W.findIn K (.ref C) g2 = some none)
    (hd : (a2 == ("__debug__" : Str)) = false := by decide) (hcd : (a2 == ("__classdict__" : Str)) = false := by decide) :
    FnOk P w K mg base CX0 1 f fd ["self", a2] (spIni C 1 [(g2, .inr 0), (g, .inl c)]) := by
  refine F.ok (k := 0) sc (fun vs H Q E h => ?_) (fun cdv A outer s H vs Q E hr h => ?_)
  · obtain ⟨a, us, rfl, hl, _⟩ := h
    simp [hl]
  · obtain ⟨a, us, rfl, hl, ha, q⟩ := h
    obtain ⟨y, rfl⟩ := List.length_eq_one_iff.mp hl
    rw [hb]
    refine ⟨_, pss_cons (ps_ost (pe_var (i := 0) rfl (FnScope.vis sc (by simp))) pe_str (by rfl)) (pss_one (ps_ost (pe_var (i := 0) rfl (FnScope.vis sc (by simp))) (pe_var (i := 1) rfl (FnScope.vis sc (by simp)) hd hcd) (by rfl))), ?_⟩
    refine ⟨.ref a, rfl, a, C, rfl, T, n, .inl ⟨ha, fun dx nd ne => ?_⟩⟩
    refine ⟨y, rfl, .ref a, rfl, a, C, rfl, T, n2, .inr ⟨dx, _, upd_same, by rw [upd_ne ne, upd_same], by simp, ?_⟩⟩
    exact q dx _ nd ne (by rw [upd_ne (fun z => ne z.symm), upd_same]) (by rw [upd_same]; rfl) fun b h1 h2 => by rw [upd_ne h2, upd_ne h1, upd_ne h2]
end
end Fw

/-! Fw41: try with any clauses: a class or two of them, with a name or without. -/
namespace Fw
open PySem L2 PySem.Spec PyProof.Rows

/-- a clause: its classes, the slot of its name, what its suite asks -/
structure Clz where
  cs : List Value
  slot : Option Nat
  ts : Addr → Value → Option Addr → TS
/-- the ways out of a suite whose name goes -/
def goneD (o : Option Nat) (D : Ends) : Ends := match o with
  | none => D
  | some i => { nx := fun σ' H' => D.nx (σ'.set i none) H', rt := D.rt, bk := fun σ' H' => D.bk (σ'.set i none) H', ct := fun σ' H' => D.ct (σ'.set i none) H' }
def setO (o : Option Nat) (σ : L2.St) (a : Addr) : L2.St := match o with
  | none => σ
  | some i => σ.set i (some (.ref a))
/-- what the clauses wish of the body's exception, one behind the other -/
def wClz (K : PySem.W.Frag) (Wout : WX) (D : Ends) : List Clz → WX
  | [] => Wout
  | c :: r => fun cls d σ H => ∃ b, PySem.W.exmAny K cls c.cs = some b ∧ (b = true → ∀ a, H a = none → c.ts a cls d (goneD c.slot D) (setO c.slot σ a) H) ∧ (b = false → wClz K Wout D r cls d σ H)
/-- the test of a clause -/
inductive TstOk (X : Cx) : Expr → List Value → Prop
  | one {x : Str} {c : Value} {p : Pos} (h : Names X x c) : TstOk X (.Name x p) [c]
  | two {x y : Str} {c d : Value} {k : Nat} {p p1 p2 : Pos} (h : Names X x c) (g : Names X y d) (hs : starEach [.Name x p1, .Name y p2] X.env = (false, eval (.Name x p1) X.env) :: starEach [.Name y p2] X.env)
      (hs2 : starEach [.Name y p2] X.env = (false, eval (.Name y p2) X.env) :: starEach [] X.env) : TstOk X (.Tuple [.Name x p1, .Name y p2] k p) [c, d]
/-- its name -/
inductive NamOk (X : Cx) : Option Str → Option Nat → Prop
  | none : NamOk X none none
  | some {n : Str} {i : Nat} (hi : X.N[i]? = some n) (hl : X.env.kindOf n = some .local) : NamOk X (some n) (some i)
inductive ClzOk (X : Cx) : List ExceptHandler → List Clz → Prop
  | nil : ClzOk X [] []
  | cons {e : Expr} {n : Option Str} {cs : List Value} {o : Option Nat} {ts : Addr → Value → Option Addr → TS} {b₀ : Stmt} {suite : List Stmt} {pos : Pos} {hds : List ExceptHandler} {l : List Clz} (ht : TstOk X e cs) (hn : NamOk X n o)
      (hsu : ∀ (a : Addr) (oe : Obj) (cls : Value) (d : Option Addr) (pn : List (Addr × Obj)), Zc cls d oe → (∃ vs, oe.data = .fields vs) → PSs (X.suite a ((a, oe) :: pn)) (b₀ :: suite) (ts a cls d)) (r : ClzOk X hds l) :
      ClzOk X (.ExceptHandler (some e) n (b₀ :: suite) pos :: hds) (⟨cs, o, ts⟩ :: l)
theorem exmAny_one {K : PySem.W.Frag} {cls c : Value} {b : Bool} (h : PySem.W.exmAny K cls [c] = some b) : PySem.W.exmOne K cls c = some b := by
  obtain ⟨b1, d1, h1, h2, rfl⟩ := PySem.W.exmAny_cons h
  have z : some false = some d1 := h2
  cases z
  rw [Bool.or_false]
  exact h1
theorem flying_push {B : Heap} {l : List PySem.Env} {a : Addr} {Z : Obj → Prop} {h : Heap} (o : Obj) (f : PySem.HandSPX.FlyingZ B l a Z h) : PySem.HandSPX.FlyingZ B l a Z (h.push o) := by
  obtain ⟨f1, f2, f3, oe, vs, T, oT, ts, he, hz, hd, h1, hn, hne, hT, hdT, h3⟩ := f
  have k : ∀ b u, h.get? b = some u → (h.push o).get? b = some u := fun b u e => Heap.get?_push_of_some _ e
  exact ⟨fun b u e => k b u (f1 b u e), f2, f3.of_keeps fun b u e _ => ⟨u, k b u e, rfl⟩, oe, vs, T, oT, ts, k _ _ he, hz, hd, h1, hn, hne, k _ _ hT, hdT, h3⟩
/-- the test is looked up, then asked -/
theorem tst_ok {X : Cx} {e : Expr} {cs : List Value} {a : Addr} {oe : Obj} {pn : List (Addr × Obj)} {cls : Value} {d : Option Addr} {σ : L2.St} {H : Hp} {s : Shared} {b : Bool} {B : Heap} {l : List PySem.Env} {Q : Bool → Shared → Prop} {E : Value → Shared → Prop} (ht : TstOk X e cs) (I : Inv (X.suite a ((a, oe) :: pn)) [] σ H s)
    (he : s.heap.get? a = some oe) (hz : Zc cls d oe) (hx : PySem.W.exmAny X.K cls cs = some b) (fl : PySem.HandSPX.FlyingZ B l a (Zc cls d) s.heap)
    (h : ∀ h', PySem.HandSPX.FlyingZ B l a (Zc cls d) h' → s.heap.UpToSlots h' → Q b { s with heap := h' }) : wpAny (model X.prog X.w) (X.A.mark (some (.ref a))) (eval e X.env) (fun c s1 => wpAny (model X.prog X.w) (X.A.mark (some (.ref a))) (excMatches (.ref a) c) Q E s1) E s := by
  have name : ∀ {x : Str} {c : Value} {p : Pos} {Q : Value → Shared → Prop}, Names X x c → Q c s → wpAny (model X.prog X.w) (X.A.mark (some (.ref a))) (eval (.Name x p) X.env) Q E s := fun {x c p Q} hc q => by
    obtain ⟨hg, hdbg, hm | ⟨hm, hv, hnn⟩⟩ := hc
    · exact ld_glob (X := X.suite a ((a, oe) :: pn)) I hg hm q hdbg
    · exact ld_blt (X := X.suite a ((a, oe) :: pn)) I hg hm hv q hnn hdbg
  have LT : ∀ {h : Heap}, h.get? a = some oe → PySem.W.Looks (model X.prog X.w) h (typeOf (.ref a)) cls := fun {h} e A Q E s k q => wpAny_typeOf_ref (k _ _ e) (by rw [hz.1]; exact q)
  cases ht with
  | one hc => exact name hc ((PySem.W.exm_one (M := model X.prog X.w) I.kIn (LT he) (exmAny_one hx)).here (h _ fl (Heap.UpToSlots.refl _)))
  | @two x y c1 c2 k p p1 p2 hc hd hs hs2 =>
    refine wpAny_Tuple_spliced ?_
    rw [hs, hs2]
    refine Calls.spliced_cons (name hc ?_)
    rw [List.map_cons]
    refine Calls.spliced_cons ?_
    refine name hd ?_
    have e0 : starEach [] X.env = [] := by rfl
    rw [e0, List.map_nil]
    refine Calls.spliced_nil ⟨by show 2 ≤ sizeLine; rw [sizeLine_eq]; decide, ?_⟩
    have hp : (s.heap.push { cls := .type "tuple", data := .seq [c1, c2].toArray }).get? s.heap.objs.size = some _ := Heap.get?_push_size _ rfl
    have he2 := Heap.get?_push_of_some { cls := .type "tuple", data := .seq [c1, c2].toArray } he
    have k : ∀ b u, s.heap.get? b = some u → (s.heap.push { cls := .type "tuple", data := .seq [c1, c2].toArray }).get? b = some u := fun b u e => Heap.get?_push_of_some _ e
    exact (PySem.W.exm_tup2 (M := model X.prog X.w) (I.kIn.keeps k) (LT he2) hp hx).here (h _ (flying_push _ fl) (Heap.UpToSlots.of_keeps k))
section
variable {X : Cx} {body : List Stmt} {h₀ : ExceptHandler} {hds : List ExceptHandler} {l : List Clz} {pos : Pos} {tb : WX → TS} {Wout : WX}
theorem ps_tryG (hs : X.stack = X.env :: X.outer) (hf : X.env.frame = some X.env.locals) (hN : X.N.Nodup) (tk : Takes X Wout)
    (hb : ∀ (W : WX) (pn : List (Addr × Obj)) (xe : Value → Shared → Prop), Takes (X.tr pn xe) W → PassesOwn (model X.prog X.w) X.A X.env xe → PSs (X.tr pn xe) body (tb W))
    (hh : ClzOk X (h₀ :: hds) l) : PS X (.Try body (h₀ :: hds) [] [] pos) (fun D σ H => tb (wClz X.K Wout D l) D σ H) := by
  constructor
  intro pins s σ H D I w0
  have good := I.ok
  have frames : X.A.frames = some (X.env :: X.outer) := good.frames.trans (congrArg some hs)
  apply wpAny_Try_except
  have catcher : ∀ (u : Value) (s' : Shared), XE (X.tr (X.pn ++ pins) (fun e z1 => wpAny (model X.prog X.w) X.A (noteFrame e X.env) (fun _ z2 => wpAny (model X.prog X.w) X.A (setFlight e none) (fun _ z3 => wpAny (model X.prog X.w) X.A (handleBy e X.env (h₀ :: hds)) (SP X pins D) X.xe z3) X.xe z2) X.xe z1)) (wClz X.K Wout D l) u s' →
      wpAny (model X.prog X.w) X.A (noteFrame u X.env) (fun _ z2 => wpAny (model X.prog X.w) X.A (setFlight u none) (fun _ z3 => wpAny (model X.prog X.w) X.A (handleBy u X.env (h₀ :: hds)) (SP X pins D) X.xe z3) X.xe z2) X.xe s' := by
    rintro u s' ⟨a, B, sI, pins', σ', H', cls, d, rfl, J', nb, up, sky, na, os, ag, w⟩
    have J : Inv X pins σ' H' sI := J'.ofTry good
    have sky' : Sky B (X.env :: X.outer) a (Zc cls d) X.env.locals s'.heap := hs ▸ sky
    refine Sky.land Zc.steady frames hf sky' fun h3 fl3 up3 => ?_
    obtain ⟨oe3, vs3, he3, hz3, hd3⟩ := fl3.there
    have apart : ∀ {h : Heap} {o : Obj} {vs : Array Value}, h.FunFrames B (X.env :: X.outer) → h.get? a = some o → o.data = .fields vs → a ∉ frs (X.env :: X.outer) := fun {h o vs} ff e dd hm => by
      obtain ⟨_, o', e', hnf⟩ := ff.mem hm
      exact hnf vs ((Option.some.inj (e.symm.trans e')) ▸ dd)
    have nfr := apart fl3.2.2.1 he3 hd3
    have nL : a ≠ X.env.locals := fun z => nfr (List.mem_filterMap.mpr ⟨X.env, List.mem_cons_self, by rw [hf, z]⟩)
    have nF : a ∉ X.fs := fun hm => by
      obtain ⟨e, he, q⟩ := List.mem_filterMap.mp hm
      exact nfr (List.mem_filterMap.mpr ⟨e, List.mem_cons_of_mem _ he, q⟩)
    have go : ∀ {hds' : List ExceptHandler} {l' : List Clz}, ClzOk X hds' l' → ∀ h, PySem.HandSPX.FlyingZ B (X.env :: X.outer) a (Zc cls d) h → sI.heap.UpToSlots h → wClz X.K Wout D l' cls d σ' H' →
        wpAny (model X.prog X.w) X.A (handleBy (.ref a) X.env hds') (SP X pins D) X.xe { s' with heap := h } := by
      intro hds' l' hk
      induction hk with
      | nil =>
        intro h fl up4 w
        refine wpAny_handleBy_nil ?_
        obtain ⟨k1, k2, k3, oe, vs, T, oT, ts', he, hz, hd, h1, hr⟩ := id fl
        unfold PySem.passOn
        refine wpAny_bind (wpAny_field he hd h1 ?_)
        rw [if_neg (show ¬ ((Value.ref T == Value.none) = true) from by simp)]
        have out : wpAny (model X.prog X.w) X.A (setFlight (.ref a) X.env.frame) (fun _ z => wpAny (model X.prog X.w) X.A (throw (.ref a) : Sem Flow) (SP X pins D) X.xe z) X.xe { s' with heap := h } := by
          rw [hf]
          refine HandSPX.setFlight_upZ fl fun h4 hh4 up5 => wpAny_throw (tk _ _ ?_)
          exact ⟨a, B, sI, pins, σ', H', cls, d, rfl, J, nb, up4.trans up5, .inr (.inr (hs.symm ▸ hh4)), na, os, ag, w⟩
        first
          | exact wpAny_bind (wpAny_pure (wpAny_bind out))
          | exact wpAny_bind out
      | cons ht hn hsu r ih =>
        intro h fl up4 w
        obtain ⟨b, hb1, hyes, hno⟩ := w
        obtain ⟨oe, vs, he, hz, hd⟩ := fl.there
        have J3 : Inv X pins σ' H' { s' with heap := h } := J.landed nb fl.1 up4 os ag
        have S3 := J3.suite he hd na nL nF
        refine wpAny_handleBy_cons (codeAny_handlers_test ?_) (by intro q; cases q)
        refine tst_ok ht S3 he hz hb1 fl fun h5 fl5 up5 => ?_
        cases b with
        | false => exact ih h5 fl5 (up4.trans up5) (hno rfl)
        | true =>
          have good2 : ∀ h6, PySem.HandSPX.FlyingZ B (X.env :: X.outer) a (Zc cls d) h6 → sI.heap.UpToSlots h6 → ∃ oe, Zc cls d oe ∧ (∃ vs, oe.data = .fields vs) ∧ Inv (X.suite a ((a, oe) :: (X.pn ++ pins))) [] σ' H' { s' with heap := h6 } := fun h6 fl6 up6 => by
            obtain ⟨oe, vs, he, hz, hd⟩ := fl6.there
            have J6 : Inv X pins σ' H' { s' with heap := h6 } := J.landed nb fl6.1 up6 os ag
            exact ⟨oe, hz, ⟨vs, hd⟩, J6.suite he hd na nL nF⟩
          cases hn with
          | none =>
            refine codeAny_handlers_suite ?_
            refine HandSPX.lands_againZ fl5 fun h6 fl6 up6 => ?_
            obtain ⟨oe6, hz6, hd6, S6⟩ := good2 h6 fl6 ((up4.trans up5).trans up6)
            refine wpAny_mono ((hsu a oe6 cls d (X.pn ++ pins) hz6 hd6).run [] _ _ H' _ S6 (hyes rfl a na)) (fun f s7 z => ?_) (fun _ _ z => False.elim z)
            cases f with
            | next =>
              obtain ⟨σ7, H7, S7, q7⟩ := z
              exact ⟨_, _, S7.unsuite good, q7⟩
            | brk =>
              obtain ⟨σ7, H7, S7, q7⟩ := z
              exact ⟨_, _, S7.unsuite good, q7⟩
            | cont =>
              obtain ⟨σ7, H7, S7, q7⟩ := z
              exact ⟨_, _, S7.unsuite good, q7⟩
            | ret u =>
              obtain ⟨v7, σ7, H7, S7, r7, q7⟩ := z
              exact ⟨_, _, _, S7.unsuite good, r7, q7⟩
          | some hi hl =>
            refine codeAny_handlers_suite_as ?_
            refine HandSPX.lands_againZ fl5 fun h6 fl6 up6 => ?_
            obtain ⟨oe6, hz6, hd6, S6⟩ := good2 h6 fl6 ((up4.trans up5).trans up6)
            refine store_ok (X := X.suite a ((a, oe6) :: (X.pn ++ pins))) (v := .ref a) S6 hN hi (.inl hl) rfl (fun s7 S7 => ?_) (.inr hl)
            refine wpAny_mono ((hsu a oe6 cls d (X.pn ++ pins) hz6 hd6).run [] s7 _ H' _ S7 (hyes rfl a na)) (fun f s8 z => ?_) (fun _ _ z => False.elim z)
            cases f with
            | next =>
              obtain ⟨σ8, H8, S8, q8⟩ := z
              exact gone_ok (S8.unsuite good) hN hi hl fun s9 J9 => ⟨_, _, J9, q8⟩
            | brk =>
              obtain ⟨σ8, H8, S8, q8⟩ := z
              exact gone_ok (S8.unsuite good) hN hi hl fun s9 J9 => ⟨_, _, J9, q8⟩
            | cont =>
              obtain ⟨σ8, H8, S8, q8⟩ := z
              exact gone_ok (S8.unsuite good) hN hi hl fun s9 J9 => ⟨_, _, J9, q8⟩
            | ret u =>
              obtain ⟨v8, σ8, H8, S8, r8, q8⟩ := z
              exact gone_ok (S8.unsuite good) hN hi hl fun s9 J9 => ⟨_, _, _, J9, r8, q8⟩
    exact go hh h3 fl3 (up.trans up3) w
  refine wpAny_mono ((hb (wClz X.K Wout D l) (X.pn ++ pins) _ (fun u s' xx => catcher u s' xx) PassesOwn.looking).run [] s σ H D (I.toTry _) w0) (fun f s1 hsp => ?_) (fun e s1 he => he)
  cases f with
  | next =>
    obtain ⟨σ', H', J', q⟩ := hsp
    exact wpAny_execs_nil ⟨σ', H', J'.ofTry good, q⟩
  | brk =>
    obtain ⟨σ', H', J', q⟩ := hsp
    exact ⟨σ', H', J'.ofTry good, q⟩
  | cont =>
    obtain ⟨σ', H', J', q⟩ := hsp
    exact ⟨σ', H', J'.ofTry good, q⟩
  | ret u =>
    obtain ⟨v, σ', H', J', r, q⟩ := hsp
    exact ⟨v, σ', H', J'.ofTry good, r, q⟩
end
end Fw

/-! Fw42: a lambda without parameters handed to a def: over the heap. -/
namespace Fw
open PySem L2 PySem.Spec PyProof.Rows LamX

/-- the table of code objects at P, all of them of the name q; F: the table's and the codes' places -/
def TabF (H : Hp) (P : Addr) (q : Str) (F : AS) : Prop := F P ∧ (∀ b, F b → b = P ∨ H b = some (CodeO b q)) ∧ ∃ ps : Array Value, H P = some (.tbl ps) ∧ TriplesOk ps.toList ∧ ∀ pos cv, codeAmong pos ps.toList = some cv → ∃ c, cv = .ref c ∧ c ≠ P ∧ F c
/-- what the making of a lambda does: c its code object -/
structure LamMo (H H1 : Hp) (P : Addr) (q : Str) (F : AS) (c : Addr) : Prop where
  tab : TabF H1 P q fun b => F b ∨ b = c
  at_ : H1 c = some (CodeO c q)
  keep : ∀ b, b ≠ P → H b ≠ none → H1 b = H b
  dom : H1 P ≠ none
  new : F c ∨ H c = none
section
variable {X : Cx} {pins : List (Addr × Obj)} {σ : L2.St} {H : Hp} {s : Shared}
theorem lam_new {c P : Addr} {params : Arguments} {body : Expr} {scope : Scope} {pos : Pos} {F : AS} {E Q : Value → Shared → Prop} (I : Inv X pins σ H s) (TB : TabB X.base X.mg c P) (hcode : X.env.code = .ref c)
    (hT : TabF H P (X.env.qual ++ "<lambda>") F) (hdef : defaultsOf params X.env = ([], [])) (hfree : ∀ y ∈ scope.names, y.2 = .free → ∃ c, X.env.cells.lookup y.1 = some c)
    (h : ∀ (f c' : Addr) (pm ctv : Value) (H1 : Hp) (z : Shared), LamMo H H1 P (X.env.qual ++ "<lambda>") F c' → Inv X pins σ H1 z →
      z.heap.get? f = some (PySem.W.kla_obj "<lambda>" (X.env.qual ++ "<lambda>") params body scope (cloFrom X.env.cells scope.names []) pm c' ctv) → H1 f = none → f ∉ frs X.stack → Q (.ref f) z) :
    wpAny (model X.prog X.w) X.A (eval (.Lambda params body scope pos) X.env) Q E s := by
  obtain ⟨fP, fC, ps, hP, tri, among⟩ := hT
  apply PySem.W.kla_eval hdef
  have built : s.heap.BuiltinsAt X.mg P := TB.bm.keeps I.bk
  have tabAt : s.heap.get? P = some { cls := .none, data := .fields ps } := I.hok P _ hP
  have noFrame : ∀ f, s.heap.objs.size ≤ f → f ∉ frs X.stack := fun f hf hm => (List.mem_cons.mp (I.stkSub _ hm)).elim
    (fun e => Nat.lt_irrefl _ (Nat.lt_of_lt_of_le (show f < s.heap.objs.size by rw [e]; exact I.lt) hf)) fun e => I.nofs hf e
  cases hit : codeAmong pos ps.toList with
  | some cv =>
    obtain ⟨c', rfl, cP, cF⟩ := among pos cv hit
    refine PySem.W.kla_makeFunctionHit (mg := X.mg) (c := c) (P := P) (ps := ps) (closure_ok hfree) I.ok.glob (I.mod.glob.keeps I.bk) hcode (TB.code.keeps I.bk) tabAt tri hit built fun ctv h' tk up old => ?_
    have J : Inv X pins σ H { s with heap := h'.push (PySem.W.kla_obj "<lambda>" (X.env.qual ++ "<lambda>") params body scope (cloFrom X.env.cells scope.names []) ((X.mg "__name__").getD .none) c' ctv), toks := tk } :=
      I.kept fun b o e => Heap.get?_push_of_some _ (up b o e)
    have one : (fun b => F b ∨ b = c') = F := by
      funext b
      exact propext ⟨fun z => z.elim id fun e => e ▸ cF, .inl⟩
    refine h _ c' _ ctv H _ ⟨by rw [one]; exact ⟨fP, fC, ps, hP, tri, among⟩, (fC c' cF).resolve_left cP, fun _ _ _ => rfl, by rw [hP]; simp, .inl cF⟩ J (Heap.get?_push_size _ rfl) (I.hok.fresh old) (noFrame _ old)
  | none =>
    refine PySem.W.kla_makeFunction (mg := X.mg) (c := c) (P := P) (ps := ps) (closure_ok hfree) I.ok.glob (I.mod.glob.keeps I.bk) hcode (TB.code.keeps I.bk) tabAt tri hit TB.gP built fun c' ctv h' tk up ge lt rec tab => ?_
    obtain ⟨c2, oc, vs, t, e2, oAt, hd, hv⟩ := rec
    cases e2
    have size : s.heap.objs.size ≤ h'.objs.size := Nat.le_trans ge (Nat.le_of_lt lt)
    have nC : H c' = none := I.hok.fresh ge
    have nPC : P ≠ c' := ne_of_none hP nC
    have J := inv_table (t' := tk) (more := #[rawInt pos.line, rawInt pos.col, .ref c']) (h' := h'.push (PySem.W.kla_obj "<lambda>" (X.env.qual ++ "<lambda>") params body scope (cloFrom X.env.cells scope.names []) ((X.mg "__name__").getD .none) c' ctv)) I hP
      (fun b o hb e => Heap.get?_push_of_some _ (up b o hb e)) (Heap.get?_push_of_some _ tab) ge ⟨oc, vs, t, Heap.get?_push_of_some _ oAt, hd, hv⟩
    have eL : (ps ++ #[rawInt pos.line, rawInt pos.col, .ref c']).toList = ps.toList ++ [rawInt pos.line, rawInt pos.col, .ref c'] := by simp
    have stay : ∀ b, b ≠ P → H b ≠ none → upd (upd H P (.tbl (ps ++ #[rawInt pos.line, rawInt pos.col, .ref c']))) c' (CodeO c' (X.env.qual ++ "<lambda>")) b = H b := fun b hb hn => by
      rw [upd_ne (fun z => hn (by rw [z]; exact nC)), upd_ne hb]
    have atP : upd (upd H P (.tbl (ps ++ #[rawInt pos.line, rawInt pos.col, .ref c']))) c' (CodeO c' (X.env.qual ++ "<lambda>")) P = some (.tbl (ps ++ #[rawInt pos.line, rawInt pos.col, .ref c'])) := by rw [upd_ne nPC, upd_same]
    refine h h'.objs.size c' _ ctv _ _ ⟨⟨.inl fP, fun b hb => ?_, _, atP, by rw [eL]; exact PySem.TriplesOk_snoc _ _ _ _ tri, fun p' cv hcv => ?_⟩, upd_same, stay, by rw [atP]; simp, .inr nC⟩ J (Heap.get?_push_size _ rfl) ?_ (noFrame _ size)
    · rcases hb with hb | hb
      · rcases fC b hb with e | e
        · exact .inl e
        · by_cases hbP : b = P
          · exact .inl hbP
          · exact .inr ((stay b hbP (by rw [e]; simp)).trans e)
      · exact .inr (by rw [hb, upd_same])
    · rw [eL] at hcv
      rcases among_app _ tri hcv with z | z
      · obtain ⟨c0, e1, e2, e3⟩ := among p' cv z
        exact ⟨c0, e1, e2, .inl e3⟩
      · exact ⟨c', z, nPC.symm, .inr rfl⟩
    · have n1 : h'.objs.size ≠ c' := Nat.ne_of_gt lt
      have n2 : h'.objs.size ≠ P := Nat.ne_of_gt (Nat.lt_of_lt_of_le (Heap.lt_size tabAt) size)
      rw [upd_ne n1, upd_ne n2]
      exact I.hok.fresh size
end
end Fw

/-! Fw43: the lambda called by the def that got it; what is raised is wished for at that def's slots. -/
namespace Fw
open PySem L2 PySem.Spec PyProof.Rows LamX
section
variable {X : Cx} {pins : List (Addr × Obj)} {σ : L2.St} {H : Hp} {s : Shared}
theorem lam_act {Eg : XK} {Ng : List Str} {qg : Str} {sg : Scope} {g f c' : Addr} {cdg pm ctv : Value} {params : Arguments} {body : Expr} {scope : Scope} {k i : Nat} {a : Str} {pn : List (Addr × Obj)} {xe : Value → Shared → Prop} {W : WX} {tb : XK → TE} {p1 p2 : Pos} {CXg : CXT}
    (I : Inv X pins σ H s) (L : LamS X.env.scope scope) (hf : s.heap.get? f = some (PySem.W.kla_obj "<lambda>" (X.env.qual ++ "<lambda>") params body scope (cloFrom X.env.cells scope.names []) pm c' ctv)) (hfn : H f = none) (hfr : f ∉ frs X.stack)
    (hbind : bindArgs (PySem.W.kla_fn "<lambda>" (X.env.qual ++ "<lambda>") params body scope (cloFrom X.env.cells scope.names []) pm (.ref c') ctv) ⟨[], []⟩ = pure [])
    (tk : Takes ((cxOf CXg X.prog X.w X.K X.mg X.base Ng qg sg g cdg X.A X.stack s H Eg).tr pn xe) W) (hr : Room (k + 1) (X.A.deeper (envOfC qg sg s.heap.objs.size g cdg)))
    (hbody : ∀ (A : Around) (outer : List PySem.Env) (s : Shared) (H : Hp) (E : XK), Room k (A.deeper (lamEnv X scope s.heap.objs.size f c')) → PE (lamCx X A outer s H E scope f c') body (tb E))
    (hN : Ng[i]? = some a) (hv : Vis sg a) (hd : (a == ("__debug__" : Str)) = false := by decide) (hcd : (a == ("__classdict__" : Str)) = false := by decide) :
    PE ((cxOf CXg X.prog X.w X.K X.mg X.base Ng qg sg g cdg X.A X.stack s H Eg).tr pn xe) (.Call (.Name a p1) [] [] p2)
      (fun σZ HZ Q => σZ[i]? = some (some (.ref f)) ∧ HZ c' = some (CodeO c' (X.env.qual ++ "<lambda>")) ∧ tb (L2.WE W σZ) σ HZ Q) := by
  constructor
  rintro pz sZ σZ HZ Q IZ ⟨hs, hc, ht⟩
  refine wpAny_Call_Name_kw (thn ((pe_var (pos := p1) (i := i) hN hv hd hcd).run pz sZ σZ HZ (fun v H1 => v = .ref f ∧ H1 = HZ) IZ ⟨.ref f, hs, rfl, rfl⟩) fun u s1 got => ?_)
  obtain ⟨v, H1, I1, r1, rfl, rfl⟩ := got
  obtain rfl : u = Value.ref f := r1
  have fAt := I1.base.keep f _ hf hfn hfr (fun z => nomatch (show f ∈ ([] : List Addr) from z))
  have un : Un (frs X.stack) [] H H1 s.heap s1.heap := I1.base
  obtain ⟨⟨oc, vs, t, ho, hdat, h1⟩, _, _⟩ := I1.hok c' _ hc
  apply PySem.W.callWith_F0 ⟨_, _, _, _, fAt⟩
  have ran : codeAny (model X.prog X.w) (X.A.deeper (envOfC qg sg s.heap.objs.size g cdg)) (.call (.ref f) ⟨[], []⟩) (CR (L2.CX X.prog X.w) (envOfC qg sg s.heap.objs.size g cdg :: X.stack) X.prog X.w H1 s1 Q (L2.WE W σZ)) s1 := by
    refine PySem.W.kla_callFunE hr.depth fAt rfl L.co L.gen rfl ⟨c', oc, vs, t, rfl, ho, hdat, h1⟩ ?_
    rw [hbind]
    refine wpAny_pure (wpAny_newFunctionEnv (fun y hy => (L.own y hy).2) (fun y hy => absurd hy (by simp)) (fun h₁ hns hsb => ⟨I1.nolimit.fresh _ hsb, ?_⟩) L.kind)
    have up : ∀ b o, s1.heap.get? b = some o → h₁.get? b = some o := fun b o e => hsb.extBut b o (Nat.ne_of_lt (Heap.lt_size e)) (Heap.get?_push_of_some _ e)
    have J := lam_start2 (E := L2.WE W σZ) (tk := s1.toks + ([] : List (Str × Value)).length) I L I1.env0 hr.hd un hns up (f := f) (c' := c')
    have b := (hbody (X.A.deeper (envOfC qg sg s.heap.objs.size g cdg)) (envOfC qg sg s.heap.objs.size g cdg :: X.stack) s1 H1 (L2.WE W σZ) (hr.deeper _)).run [] _ _ H1 Q J ht
    refine PySem.W.kla_codeExpr (wpAny_mono b (fun v z hq => ?_) fun e z hq => hq)
    obtain ⟨w', H', J', rv, q⟩ := hq
    exact ⟨w', H', J'.os, J'.bare, J'.base, J'.hok, rv, q⟩
  refine wpAny_call (codeAny_mono ran fun r z hq => ?_)
  cases r with
  | error e => exact tk e z (XE.of_call I1 (fun _ _ _ h => h) hq)
  | ok fl =>
    cases fl with
    | ret u => exact I1.after hq
    | next => exact False.elim hq
    | brk => exact False.elim hq
    | cont => exact False.elim hq
end
end Fw

/-! Fw44: g(lambda: body), g a def that tries: its promise over data. -/
namespace Fw
open PySem L2 PySem.Spec PyProof.Rows LamX

/-! ### shapes: the table of a def's code objects; a caught exception -/
def shTab (P : Addr) (q : Str) : Shp where
  rep := fun _ _ H v d F => v = .non ∧ d = .non ∧ TabF H P q F
  mono := by
    rintro K A A' H H' v d F ⟨rfl, rfl, fP, fC, ps, hP, tri, am⟩ m k
    exact ⟨rfl, rfl, fP, fun b hb => (fC b hb).imp id fun e => (k b hb).trans e, ps, (k P fP).trans hP, tri, am⟩
  dom := by
    rintro K A H v d F ⟨rfl, rfl, fP, fC, ps, hP, tri, am⟩ a ha z
    rcases fC a ha with e | e
    · rw [e, hP] at z; cases z
    · rw [e] at z; cases z
  frz := by
    rintro K A A' H v d F ⟨rfl, rfl, _⟩ h1 h2
    exact .non
/-- at a: an exception; its class cls, its dict at d; x: what it is -/
def shX (a : Addr) (cls : Value) (d : Option Addr) (x : Exc) : Shp where
  rep := fun K A H v D F => v = .ref a ∧ D = .ref a ∧ cls = .ref x.C ∧ ∃ dd vs, d = some dd ∧ (∀ b, F b ↔ b = dd) ∧ H dd = some (.xd vs) ∧ RpF K A H vs x.fs
  mono := by
    rintro K A A' H H' v D F ⟨rfl, rfl, hc, dd, vs, hd, hF, e, r⟩ m k
    exact ⟨rfl, rfl, hc, dd, vs, hd, hF, (k dd ((hF dd).mpr rfl)).trans e, r.mono m⟩
  dom := by
    rintro K A H v D F ⟨rfl, rfl, hc, dd, vs, hd, hF, e, r⟩ a ha z
    rw [(hF a).mp ha, e] at z
    cases z
  frz := by
    rintro K A A' H v D F ⟨rfl, rfl, _⟩ h1 h2
    exact .ref _

/-! ### e.f in a suite -/
def tXfA (K : PySem.W.Frag) (a : Addr) (cls : Value) (d : Option Addr) (f : Str) (te : TE) : TE := fun σ H Q => ∃ C, cls = .ref C ∧ XfC K C ∧ PySem.W.findIn K (.ref C) f = some none ∧ tXf a cls d C f te σ H Q
def wXf (K : PySem.W.Frag) (i : Nat) (x : Exc) (f : Str) : WE := fun ρ Ψ _ => (∃ d, ρ[i]? = some (some d)) ∧ XfC K x.C ∧ PySem.W.findIn K (.ref x.C) f = some none ∧ ∃ d, x.fs.lookup f = some d ∧ Ψ d ρ
section
variable {X : Cx} {K : PySem.W.Frag} {ks : List SK} {E : L2.St → XK} {pu : Bool} {pos p : Pos} {n f : Str} {i : Nat}
theorem xXf (i : Nat) {a : Addr} {oe : Obj} {cls : Value} {d : Option Addr} {pn : List (Addr × Obj)} {x : Exc} (hz : Zc cls d oe) (hf : ∃ vs, oe.data = .fields vs) (hk : ks[i]? = some (.ln (shX a cls d x)) := by rfl) (hN : X.N[i]? = some n := by rfl)
    (hv : Vis X.env.scope n := by first | exact Or.inl rfl | exact Or.inr (Or.inl rfl) | exact Or.inr (Or.inr rfl)) (hd : (n == ("__debug__" : Str)) = false := by decide) (hcd : (n == ("__classdict__" : Str)) = false := by decide)
    (hb : attributeBase (.Name n p) f X.env (eval (.Name n p) X.env) = eval (.Name n p) X.env := by rfl) (hK : X.K = K := by rfl) :
    PX (X.suite a ((a, oe) :: pn)) K ks E pu .z (.Attribute (.Name n p) f pos) (tXfA K a cls d f (tVar i)) (wXf K i x f) := by
  cases hK
  refine ⟨rfl, ⟨fun pins s σ H Q I h => ?_⟩, fun O Fs ρ σ H Ψ Ξ Q R hw hq hx => ?_⟩
  · obtain ⟨C, e1, T, nf, h⟩ := h
    exact (pe_xf T nf hz hf (pe_var hN hv hd hcd) hb).run pins s σ H Q I h
  · obtain ⟨⟨D, hD⟩, T, nf, y, hy, hw⟩ := hw
    obtain ⟨v, h3, F, rr, nF⟩ := R.sl i _ D hk hD
    obtain ⟨rfl, rfl, hc, dd, vs, hdd, hF, e, r⟩ := rr
    obtain ⟨u, l1, l2⟩ := r.look hy
    exact ⟨x.C, hc, T, nf, .ref a, h3, rfl, hc, dd, vs, u, hdd, e, l1, hq y ρ Fs u H (fun _ => ⟨rfl, rfl, Ext.refl H⟩) (Fr.refl _ _) ⟨R, l2⟩ hw⟩
theorem wXf_eq {x : Exc} {ρ : Env} {Ψ : D → Env → Prop} {Ξ : Exc → Env → Prop} : wXf K i x f ρ Ψ Ξ = ((∃ d, ρ[i]? = some (some d)) ∧ XfC K x.C ∧ PySem.W.findIn K (.ref x.C) f = some none ∧ ∃ d, x.fs.lookup f = some d ∧ Ψ d ρ) := rfl
end

/-! ### the maker's state behind the making -/
section
variable {K : PySem.W.Frag} {ks : List SK} {O : Gh} {Fs : Nat → AS} {ρ : Env} {σ : L2.St} {H H1 : Hp} {P c : Addr} {q : Str} {it : Nat}
def lamFs (Fs : Nat → AS) (it : Nat) (c : Addr) : Nat → AS := putFs Fs it fun b => Fs it b ∨ b = c
theorem lamFs_at {i : Nat} {a : Addr} (h : lamFs Fs it c i a) : Fs i a ∨ (i = it ∧ a = c) := by
  unfold lamFs at h
  by_cases hi : i = it
  · subst hi
    rw [putFs_self] at h
    exact h.imp id fun e => ⟨rfl, e⟩
  · rw [putFs_ne hi] at h
    exact .inl h
theorem lam_fr (m : LamMo H H1 P q (Fs it) c) (fP : Fs it P) : Fr Fs H (lamFs Fs it c) H1 where
  keep := fun a n h => m.keep a (fun e => n it (e ▸ fP)) h
  dom := fun a h => by
    by_cases e : a = P
    · rw [e]; exact m.dom
    · rw [m.keep a e h]; exact h
  fp := fun i a h => by
    rcases lamFs_at h with h | ⟨_, rfl⟩
    · exact .inl ⟨i, h⟩
    · exact m.new.imp (fun z => ⟨it, z⟩) id
theorem lam_repr (R : Repr K ks O Fs ρ σ H) (hk : ks[it]? = some (.ow (shTab P q))) (m : LamMo H H1 P q (Fs it) c) (fP : Fs it P) : Repr K ks O (lamFs Fs it c) ρ σ H1 := by
  have fr := lam_fr m fP
  have mo : Mo (av O Fs) (av O (lamFs Fs it c)) H H1 := fr.mo
  have old : ∀ {i a}, lamFs Fs it c i a → H a ≠ none → Fs i a := fun {i a} h ha => by
    rcases lamFs_at h with h | ⟨rfl, rfl⟩
    · exact h
    · exact m.new.resolve_right ha
  have kp : ∀ {i a}, i ≠ it → Fs i a → H1 a = H a := fun {i a} hi h => m.keep a (fun e => hi (R.dj i it a h (e ▸ fP))) (R.fd i a h)
  refine ⟨R.lρ, R.lσ, fun i j a h1 h2 => ?_, fun a h => fr.dom a (R.od a h), fun a h => fr.dom a (R.bd a h), fun i a h z => R.fb i a (old h (R.bd a z)) z, fun i a h => ?_, fun i k d h1 h2 => ?_⟩
  · by_cases ha : H a = none
    · rcases lamFs_at h1 with z | ⟨e, _⟩
      · exact absurd ha (R.fd i a z)
      · rcases lamFs_at h2 with y | ⟨e2, _⟩
        · exact absurd ha (R.fd j a y)
        · rw [e, e2]
    · exact R.dj i j a (old h1 ha) (old h2 ha)
  · rcases lamFs_at h with z | ⟨_, rfl⟩
    · exact fr.dom a (R.fd i a z)
    · rw [m.at_]; simp
  · obtain ⟨v, h3, h4⟩ := R.sl i k d h1 h2
    refine ⟨v, h3, ?_⟩
    cases k with
    | z => exact Rp.mono mo h4
    | t =>
      refine h4.imp (Rp.mono mo) fun ⟨r, p, e1, e2, e3, e4⟩ => ⟨r.monoAt mo fun p' ep o z => ?_, p, e1, fr.dom p e2, e3, fun j z => e4 j (old z e2)⟩
      rw [e1] at ep
      cases ep
      unfold hc at z ⊢
      rw [m.keep p (fun e => e4 it (e ▸ fP)) e2]
      exact z
    | ln s =>
      obtain ⟨F, r, n⟩ := h4
      exact ⟨F, s.mono r mo fun b hb => m.keep b (fun e => (n b hb).2 it (e ▸ fP)) (s.dom r b hb), fun b hb => ⟨(n b hb).1, fun j z => (n b hb).2 j (old z (s.dom r b hb))⟩⟩
    | ow s =>
      by_cases hi : i = it
      · subst hi
        rw [hk] at h1
        cases h1
        obtain ⟨⟨rfl, rfl, _⟩, nO⟩ := h4
        refine ⟨⟨rfl, rfl, ?_⟩, fun a ha z => ?_⟩
        · show TabF H1 P q (putFs Fs i (fun b => Fs i b ∨ b = c) i)
          rw [putFs_self]
          exact m.tab
        · exact nO a (old ha (R.od a z)) z
      · show s.rep K _ H1 v d (putFs Fs it (fun b => Fs it b ∨ b = c) i) ∧ ∀ a, putFs Fs it (fun b => Fs it b ∨ b = c) i a → ¬ O.O a
        rw [putFs_ne hi]
        exact ⟨s.mono h4.1 mo fun b hb => kp hi hb, h4.2⟩
    | io s =>
      have hi : i ≠ it := fun e => by
        rw [e, hk] at h1
        cases h1
      show s.rep K _ H1 v d (putFs Fs it (fun b => Fs it b ∨ b = c) i) ∧ O.io i v
      rw [putFs_ne hi]
      exact ⟨s.mono h4.1 mo fun b hb => kp hi hb, h4.2⟩
end
end Fw

/-! Fw45: the call g(lambda: body) as data. -/
namespace Fw
open PySem L2 PySem.Spec PyProof.Rows LamX

/-- a clause of g: its classes, its suite's reading and what that is worth -/
structure Cl2 where
  cs : List Value
  ts : Addr → Value → Option Addr → TS
  ws : Exc → WS
def Cl2.z (c : Cl2) : Clz := ⟨c.cs, some 1, c.ts⟩
abbrev cxT (P : Program) (w : World) (K : PySem.W.Frag) (mg : Str → Option Value) (base : Heap) (Ng : List Str) (x : Str) (sg : Scope) (g : Addr) (cdg : Value) (A : Around) (outer : List PySem.Env) (s : Shared) (H : Hp) : Cx := (cxOf CX0 P w K mg base Ng x sg g cdg A outer s H E0).nox
/-- the clauses, in whatever state g is called -/
inductive TdOk (K : PySem.W.Frag) (mg : Str → Option Value) (Ng : List Str) (x : Str) (sg : Scope) (g : Addr) : List ExceptHandler → List Cl2 → Prop
  | nil : TdOk K mg Ng x sg g [] []
  | cons {e : Expr} {n : Str} {b₀ : Stmt} {suite : List Stmt} {pos : Pos} {hds : List ExceptHandler} {c : Cl2} {l : List Cl2}
      (ht : ∀ (P : Program) (w : World) (base : Heap) (cdg : Value) (A : Around) (outer : List PySem.Env) (s : Shared) (H : Hp), TstOk (cxT P w K mg base Ng x sg g cdg A outer s H) e c.cs)
      (hn : Ng[1]? = some n) (hl : sg.names.lookup n = some .local)
      (hsu : ∀ (P : Program) (w : World) (base : Heap) (cdg : Value) (A : Around) (outer : List PySem.Env) (s : Shared) (H : Hp) (a : Addr) (oe : Obj) (cls : Value) (d : Option Addr) (pn : List (Addr × Obj)) (y : Exc), Zc cls d oe → (∃ vs, oe.data = .fields vs) →
        QSs ((cxT P w K mg base Ng x sg g cdg A outer s H).suite a ((a, oe) :: pn)) K [.z, .ln (shX a cls d y)] EN .z (b₀ :: suite) (c.ts a cls d) (c.ws y)) (r : TdOk K mg Ng x sg g hds l) :
      TdOk K mg Ng x sg g (.ExceptHandler (some e) (some n) (b₀ :: suite) pos :: hds) (c :: l)
theorem TdOk.clz {K : PySem.W.Frag} {mg : Str → Option Value} {Ng : List Str} {x : Str} {sg : Scope} {g : Addr} {hds : List ExceptHandler} {l : List Cl2} (h : TdOk K mg Ng x sg g hds l) (P : Program) (w : World) (base : Heap) (cdg : Value) (A : Around) (outer : List PySem.Env) (s : Shared) (H : Hp) :
    ClzOk (cxT P w K mg base Ng x sg g cdg A outer s H) hds (l.map Cl2.z) := by
  induction h with
  | nil => exact .nil
  | cons ht hn hl hsu r ih =>
    refine .cons (ht P w base cdg A outer s H) (.some hn hl) (fun a oe cls d pn hz hf => (hsu P w base cdg A outer s H a oe cls d pn ⟨0, []⟩ hz hf).ps) ih
/-- the way out by a clause -/
def wTold (K : PySem.W.Frag) : List Cl2 → Exc → (D → Prop) → Prop
  | [], _, _ => False
  | c :: r, x, Ψ => ∃ b, PySem.W.exmAny K (.ref x.C) c.cs = some b ∧ (b = true → ∀ f a : Addr, c.ws x ⟨fun _ => False, fun d _ => Ψ d, fun _ => False, fun _ => False, fun _ _ => False⟩ [some (.ref f), some (.ref a)]) ∧ (b = false → wTold K r x Ψ)
theorem told_cons {K : PySem.W.Frag} {c : Cl2} {r : List Cl2} {x : Exc} {Ψ : D → Prop} : wTold K (c :: r) x Ψ = ∃ b, PySem.W.exmAny K (.ref x.C) c.cs = some b ∧ (b = true → ∀ f a : Addr, c.ws x ⟨fun _ => False, fun d _ => Ψ d, fun _ => False, fun _ => False, fun _ _ => False⟩ [some (.ref f), some (.ref a)]) ∧ (b = false → wTold K r x Ψ) := rfl
/-- the clauses' wishes hold -/
theorem told_wish {K : PySem.W.Frag} {mg : Str → Option Value} {Ng : List Str} {x : Str} {sg : Scope} {g : Addr} {hds : List ExceptHandler} {l : List Cl2} (h : TdOk K mg Ng x sg g hds l) (P : Program) (w : World) (base : Heap) (cdg : Value) (A : Around) (outer : List PySem.Env) (s : Shared) (Hs : Hp)
    {H : Hp} {AA : AS} {y : Exc} {cls : Value} {od : Option Addr} {Dh : Ends} {f : Addr} {Ψ : D → Prop} (hA : ∀ a, AA a → H a ≠ none) (xr : XRep K AA H y cls od) (hw : wTold K l y Ψ)
    (hz : ∀ a : Addr, ∃ oe, Zc cls od oe ∧ ∃ vs, oe.data = .fields vs)
    (hq : ∀ d v H', Ext H H' → Rp K AA H' v d → Ψ d → Dh.rt v H') : wClz K (fun _ _ _ _ => False) Dh (l.map Cl2.z) cls od [some (.ref f), none] H := by
  obtain ⟨rfl, dd, vs, rfl, hd, rf, nA⟩ := xr
  induction h with
  | nil => exact hw.elim
  | @cons e n b₀ suite pos hds c l ht hn hl hsu r ih =>
    obtain ⟨b, h1, h2, h3⟩ := hw
    refine ⟨b, h1, fun hb a na => ?_, fun hb => ih (h3 hb)⟩
    obtain ⟨oe, z1, z2⟩ := hz a
    have q := (hsu P w base cdg A outer s Hs a oe _ _ [] y z1 z2).snd
    have avE : ∀ b, av ⟨AA, fun _ => False, fun _ _ => False⟩ (fun _ _ => False) b → AA b := fun b z => by
      rcases z with z | z | ⟨_, z⟩
      · exact z
      · exact z.elim
      · exact z.elim
    have R : Repr K [.z, .ln (shX a (.ref y.C) (some dd) y)] ⟨AA, fun _ => False, fun _ _ => False⟩ (fun _ _ => False) [some (.ref f), some (.ref a)] [some (.ref f), some (.ref a)] H := by
      refine ⟨rfl, rfl, fun i j a h => h.elim, hA, fun a h => h.elim, fun i a h => h.elim, fun i a h => h.elim, fun i k d h1 h2 => ?_⟩
      match i, h1, h2 with
      | 0, h1, h2 =>
        cases h1
        cases h2
        exact ⟨_, rfl, .ref f⟩
      | 1, h1, h2 =>
        cases h1
        cases h2
        exact ⟨_, rfl, fun b => b = dd, ⟨rfl, rfl, rfl, dd, vs, rfl, fun _ => Iff.rfl, hd, rf.mono (.less avE)⟩, fun b _ => ⟨fun z => z, fun _ z => z⟩⟩
      | i + 2, h1, h2 => cases h1
    refine q _ _ _ _ H ⟨fun _ => False, fun d _ => Ψ d, fun _ => False, fun _ => False, fun _ _ => False⟩ _ R (h2 hb f a) ⟨fun _ _ _ _ _ _ z => z.elim, fun _ _ _ _ _ _ z => z.elim, fun _ _ _ _ _ _ z => z.elim, fun d ρ' Fs' σ' v H' fr rs p => ?_, fun _ _ _ _ _ _ _ _ _ _ z => z.elim⟩
    have ex : Ext H H' := fun b hb => fr.keep b (fun _ z => z) hb
    exact hq d v H' ex (rs.2.mono (.less fun b z => .inl z)) p
/-- the reading of the call -/
def endsOf (Q : VK) : Ends := { nx := fun _ H' => Q .non H', rt := Q }
def tLamG (K : PySem.W.Frag) (P : Addr) (q : Str) (told : Str) (l : List Cl2) (tb : XK → TE) : TE := fun σ H Q => ∃ F, TabF H P q F ∧ ∀ (c' : Addr) (H1 : Hp) (f : Addr), LamMo H H1 P q F c' → H1 f = none →
  tb (L2.WE (wClz K (fun _ _ _ _ => False) (endsOf Q) (l.map Cl2.z)) [some (.ref f), none]) σ H1 fun v H2 => [V.str told, v].length ≤ sizeLine ∧ ∀ p, H2 p = none → Q (.ref p) (upd H2 p (.tup [.str told, v]))
section
variable {X : Cx} {K : PySem.W.Frag}
theorem pe_lamG {told x a e : Str} {st : Stmt} {g c P : Addr} {k : Nat} {fd : FuncData} {hds : List ExceptHandler} {l : List Cl2} {params : Arguments} {body : Expr} {scope : Scope} {tb : XK → TE} {p lpos pos q1 q2 q3 q4 q5 q6 : Pos} {j kk : Nat} {b₀ : ExceptHandler}
    (hg : Gl X x) (hm : X.mg x = some (.ref g)) (F : Fun X.K x x st g fd) (hb : L2.Binds X.K fd [a] []) (Sg : FnScope [a, e] [a] (defScope st)) (hst : defBody st = [.Try [.Return (some (.Tuple [.Constant (.str told) j q1, .Call (.Name a q2) [] [] q3] kk q4)) q5] (b₀ :: hds) [] [] q6])
    (td : TdOk X.K X.mg [a, e] x (defScope st) g (b₀ :: hds) l)
    (TB : TabB X.base X.mg c P) (hcode : X.env.code = .ref c) (hr : Room (k + 2) X.A) (L : LamS X.env.scope scope) (hdef : defaultsOf params X.env = ([], []))
    (hbind : ∀ (q : Str) (cl : List (Str × Addr)) (pm cv ctv : Value), bindArgs (PySem.W.kla_fn "<lambda>" q params body scope cl pm cv ctv) ⟨[], []⟩ = pure [])
    (hbody : ∀ (A : Around) (outer : List PySem.Env) (s : Shared) (H : Hp) (E : XK) (f c' : Addr), Room k (A.deeper (lamEnv X scope s.heap.objs.size f c')) → PE (lamCx X A outer s H E scope f c') body (tb E))
    (hdb : (x == ("__debug__" : Str)) = false := by decide) (hd : (a == ("__debug__" : Str)) = false := by decide) (hcd : (a == ("__classdict__" : Str)) = false := by decide) :
    PE X (.Call (.Name x p) [.Lambda params body scope lpos] [] pos) (tLamG X.K P (X.env.qual ++ "<lambda>") told l tb) := by
  obtain ⟨oc, od, kV, doc, pm, an, cdv, ct, osl, rfl, lk, hcg⟩ := F.ex
  constructor
  rintro pins s σ H Q I ⟨FF, hT, h⟩
  apply wpAny_Call_Name_kw
  refine ld_glob I hg hm ?_ hdb
  refine PySem.W.callWith_K (h₀ := X.base) I.ok.mod.kin F.kp ?_ (by rfl) (by rfl)
  show wpAny _ _ (spliced ((false, eval (.Lambda params body scope lpos) X.env) :: backTo pos (starEach [] X.env))) _ _ s
  refine Calls.spliced_cons (lam_new I TB hcode hT hdef (L.has I.ok) fun f c' pm' ctv H1 z mo I1 hf hfn hfr => ?_)
  refine Calls.spliced_nil ⟨I1.kIn, ?_⟩
  have ran : codeAny (model X.prog X.w) X.A (.call (.ref g) ⟨[.ref f], []⟩) (CR CX0 X.stack X.prog X.w H1 z Q E0) z := by
    refine run_ofS (N := [a, e]) (ps := [a]) (us := [.ref f]) (vs := [.ref f]) lk hcg Sg hr I1.env0 (hb z [.ref f] I1.kIn rfl) (.cons rfl .nil) rfl fun hr' => ?_
    have tr := ps_tryG (X := cxT X.prog X.w X.K X.mg X.base [a, e] x (defScope st) g cdv X.A X.stack z H1) (pos := q6) rfl rfl Sg.nd LamX.takes0 (body := [.Return (some (.Tuple [.Constant (.str told) j q1, .Call (.Name a q2) [] [] q3] kk q4)) q5])
      (fun W pn xe tk _ => pss_one (ps_ret (pe_tup (pa_cons pe_str (pa_cons (lam_act (i := 0) (Eg := E0) (CXg := CX0) (W := W) I1 L hf hfn hfr (hbind _ _ _ _ _) tk hr' (fun A outer s H E hr2 => hbody A outer s H E f c' hr2) rfl (FnScope.vis Sg (by simp)) hd hcd) pa_nil (by rfl)) (by rfl)))))
      (td.clz X.prog X.w X.base cdv X.A X.stack z H1)
    refine ⟨_, by rw [hst]; exact (pss_one tr).nox, ?_⟩
    exact ⟨rfl, mo.at_, h c' H1 f mo hfn⟩
  refine wpAny_call (codeAny_mono ran fun r s2 hq => ?_)
  cases r with
  | error e => exact (show False from hq).elim
  | ok fl =>
    cases fl with
    | ret u => exact I1.after hq
    | next => exact False.elim hq
    | brk => exact False.elim hq
    | cont => exact False.elim hq
/-- g(lambda: body): told and the body's answer, or what the clause of its exception tells -/
def wLam (K : PySem.W.Frag) (it : Nat) (told : Str) (l : List Cl2) (wb : WE) : WE := fun ρ Ψ Ξ => (∃ d, ρ[it]? = some (some d)) ∧ wb ρ (fun d ρ' => Ψ (.tup [.str told, d]) ρ') (fun x ρ' => wTold K l x fun d => Ψ d ρ')
theorem wLam_eq {it : Nat} {told : Str} {l : List Cl2} {wb : WE} {ρ : Env} {Ψ : D → Env → Prop} {Ξ : Exc → Env → Prop} : wLam K it told l wb ρ Ψ Ξ = ((∃ d, ρ[it]? = some (some d)) ∧ wb ρ (fun d ρ' => Ψ (.tup [.str told, d]) ρ') (fun x ρ' => wTold K l x fun d => Ψ d ρ')) := rfl
theorem xLam {told x a e : Str} {st : Stmt} {g c P : Addr} {k : Nat} {fd : FuncData} {hds : List ExceptHandler} {l : List Cl2} {params : Arguments} {body : Expr} {scope : Scope} {tb : XK → TE} {wb : WE} {p lpos pos q1 q2 q3 q4 q5 q6 : Pos} {j kk : Nat} {b₀ : ExceptHandler} {ks : List SK} {E : L2.St → XK} (it : Nat)
    (hm : X.mg x = some (.ref g)) (F : Fun K x x st g fd) (hb : L2.Binds K fd [a] []) (Sg : FnScope [a, e] [a] (defScope st)) (hst : defBody st = [.Try [.Return (some (.Tuple [.Constant (.str told) j q1, .Call (.Name a q2) [] [] q3] kk q4)) q5] (b₀ :: hds) [] [] q6])
    (td : TdOk K X.mg [a, e] x (defScope st) g (b₀ :: hds) l)
    (TB : TabB X.base X.mg c P) (hcode : X.env.code = .ref c) (hk : ks[it]? = some (.ow (shTab P (X.env.qual ++ "<lambda>")))) (hr : Room (k + 2) X.A) (L : LamS X.env.scope scope)
    (hbind : ∀ (q : Str) (cl : List (Str × Addr)) (pm cv ctv : Value), bindArgs (PySem.W.kla_fn "<lambda>" q params body scope cl pm cv ctv) ⟨[], []⟩ = pure [])
    (hbody : ∀ (A : Around) (outer : List PySem.Env) (s : Shared) (H : Hp) (E : XK) (f c' : Addr), Room k (A.deeper (lamEnv X scope s.heap.objs.size f c')) → PX (lamCx X A outer s H E scope f c') K ks (fun _ => E) false .z body (tb E) wb)
    (hdef : defaultsOf params X.env = ([], []) := by rfl) (hg : Gl X x := by rfl) (hdb : (x == ("__debug__" : Str)) = false := by decide) (hd : (a == ("__debug__" : Str)) = false := by decide) (hcd : (a == ("__classdict__" : Str)) = false := by decide) (hK : X.K = K := by rfl) :
    PX X K ks E false .z (.Call (.Name x p) [.Lambda params body scope lpos] [] pos) (tLamG K P (X.env.qual ++ "<lambda>") told l tb) (wLam K it told l wb) := by
  cases hK
  refine ⟨rfl, pe_lamG hg hm F hb Sg hst td TB hcode hr L hdef hbind (fun A outer s H E f c' hr2 => (hbody A outer s H E f c' hr2).pe) hdb hd hcd, fun O Fs ρ σ H Ψ Ξ Q R hw hq hx => ?_⟩
  obtain ⟨⟨d0, hd0⟩, hw⟩ := hw
  obtain ⟨v0, _, ⟨rfl, rfl, hT⟩, _⟩ := R.sl it _ d0 hk hd0
  refine ⟨Fs it, hT, fun c' H1 f mo nf => ?_⟩
  have R1 := lam_repr R hk mo hT.1
  have f1 := lam_fr mo hT.1
  obtain ⟨A, outer, s, H0, E0', ff, cc, hr0⟩ : ∃ (A : Around) (outer : List PySem.Env) (s : Shared) (H0 : Hp) (E0' : XK) (ff cc : Addr), Room k (A.deeper (lamEnv X scope s.heap.objs.size ff cc)) := ⟨X.A.deeper X.env, [], X.s_0, X.H_0, fun _ _ _ => False, 0, 0, (hr.deeper X.env).deeper _⟩
  have sn := (hbody A outer s H0 (L2.WE (wClz X.K (fun _ _ _ _ => False) (endsOf Q) (l.map Cl2.z)) [some (.ref f), none]) ff cc hr0).snd
  refine sn O (lamFs Fs it c') ρ σ H1 _ _ _ R1 hw (fun d ρ' Fs' v H2 u2 f2 r2 p2 => ⟨by show 2 ≤ sizeLine; rw [sizeLine_eq]; decide, fun q nq => ?_⟩) (fun y ρ' Fs' cls od H2 R2 f2 xr p2 => ?_)
  · have ex : Ext H2 (upd H2 q (.tup [.str told, v])) := Ext.upd nq
    refine hq (.tup [.str told, d]) ρ' Fs' _ _ (fun z => by cases z) (f1.trans (f2.trans ex.fr)) ⟨r2.1.ext ex, .tup (fun z => r2.1.adom z nq) (hc_tup.mpr upd_same) ((RpL.cons (.str told) (.cons r2.2 .nil)).mono ex.mo)⟩ p2
  · refine told_wish td X.prog X.w X.base .none X.A X.stack X.s_0 X.H_0 (fun a => R2.adom) xr p2 (fun a => ⟨{ cls := cls, dict := od, data := .fields #[] }, ⟨rfl, rfl⟩, _, rfl⟩) fun d v H3 ex r3 p3 => ?_
    exact hq d ρ' Fs' v H3 (fun z => by cases z) (f1.trans (f2.trans ex.fr)) ⟨R2.ext ex, r3⟩ p3
end
end Fw

/-! Fw46: a law that makes lambdas: its promise, its body with the table's slot, its end. -/
namespace Fw
open PySem L2 PySem.Spec PyProof.Rows LamX

section
variable {X : Cx} {sts : List Stmt} {t : TS}
/-- a slot of a name that is nowhere seen may hold anything -/
theorem Inv.ghost {pins : List (Addr × Obj)} {σ : L2.St} {H : Hp} {s : Shared} {i : Nat} {v : V} (I : Inv X pins σ H s) (hv : ∀ x, X.N[i]? = some x → ¬ Vis X.env.scope x) : Inv X pins (σ.set i (some v)) H s := by
  refine ⟨I.ok, I.os, I.bare, I.base, ?_, I.cell, I.free, I.freeC, I.pin, I.hok, by rw [List.length_set]; exact I.len⟩
  obtain ⟨m, h1, h2⟩ := I.loc
  refine ⟨m, h1, fun j x u e1 e2 e3 => ?_⟩
  by_cases hj : i = j
  · subst hj
    exact absurd e3 (hv x e1)
  · rw [List.getElem?_set_ne hj] at e2
    exact h2 j x u e1 e2 e3
theorem pss_ghost (i : Nat) (v : V) (h : PSs X sts t) (hv : ∀ x, X.N[i]? = some x → ¬ Vis X.env.scope x) : PSs X sts fun D σ H => t D (σ.set i (some v)) H :=
  ⟨fun pins s σ H D I z => h.run pins s _ H D (Inv.ghost I hv) z⟩
end
/-- the law's promise -/
def spLawT (K : PySem.W.Frag) (PT : Addr) : Sp := fun vs H Q _ => ∃ (a : Addr) (ns : List Int), vs = [.ref a] ∧ SqL K H a (ns.map V.int) ∧ H PT = some (.tbl #[]) ∧ ∀ v H', v = .bl true → Q v H'
/-- the script as data -/
def ScrD (d : D) : Prop := ∃ ns : List Int, d = .scr ns ∨ d = .lst (ns.map D.int)
def lawEnds : DEnds := ⟨fun _ => False, fun d _ => d = .bl true, fun _ => False, fun _ => False, fun _ _ => False⟩
section
variable {P : Program} {w : World} {K : PySem.W.Frag} {mg : Str → Option Value} {base : Heap}
theorem okLaw {st : Stmt} {f c PT : Addr} {N : List Str} {kl : List SK} {k : Nat} {pg : Arguments} {dV kV doc pm ct oc : Value} {an od : Option Addr} {osl : Array (Option Value)}
    (lk : K.lookup f = some ⟨oc, od, .func (PySem.W.fnOf "law" "law" pg (defBody st) (defScope st) dV kV doc pm an (.ref c) ct), osl⟩) (hcd : PySem.W.codeIn K (.ref c) "law" = true) (sc : FnScope N ["script"] (defScope st)) (hN : N.length = kl.length + 2)
    (hv : ∀ x, N[kl.length + 1]? = some x → ¬ Vis (defScope st) x)
    (hbody : ∀ (A : Around) (outer : List PySem.Env) (s : Shared) (H : Hp) (E : XK), Room k (A.deeper (PyProof.Rows.envOfC "law" (defScope st) s.heap.objs.size f (.ref c))) →
      ∃ t wd, QSs (cxOf CX0 P w K mg base N "law" (defScope st) f (.ref c) A outer s H E).nox K (.z :: (kl ++ [.ow (shTab PT ((("law" : Str) ++ ".<locals>.") ++ "<lambda>"))])) (fun _ => E0) .z (defBody st) t wd ∧
        ∀ d, ScrD d → wd lawEnds (some d :: (List.replicate kl.length none ++ [some .non]))) :
    FnOk P w K mg base CX0 (k + 1) f (PySem.W.fnOf "law" "law" pg (defBody st) (defScope st) dV kV doc pm an (.ref c) ct) ["script"] (spLawT K PT) := by
  refine fn_of lk hcd sc (fun vs H Q E h => by obtain ⟨a, ns, rfl, _⟩ := h; rfl) fun A outer s H vs Q E hr h => ?_
  obtain ⟨a, ns, rfl, hS, hT, hq⟩ := h
  obtain ⟨t, wd, q, hw⟩ := hbody A outer s H E hr
  refine ⟨_, pss_ghost (kl.length + 1) .non q.ps hv |>.nox, ?_⟩
  have est : (L2.start N [V.ref a]).set (kl.length + 1) (some .non) = some (V.ref a) :: (List.replicate kl.length none ++ [some .non]) := by
    unfold L2.start
    have e : N.length - [V.ref a].length = kl.length + 1 := by rw [hN]; simp
    rw [e]
    show (some (V.ref a) :: List.replicate (kl.length + 1) none).set (kl.length + 1) (some V.non) = _
    rw [List.set_cons_succ, List.replicate_succ', List.set_append]
    simp
  show t _ ((L2.start N [V.ref a]).set (kl.length + 1) (some .non)) H
  rw [est]
  obtain ⟨n, hn⟩ : ∃ n, n = kl.length := ⟨_, rfl⟩
  rw [← hn] at hw ⊢
  have hav : ∀ b, av ⟨fun _ => False, fun _ => False, fun _ _ => False⟩ (fun i b => i = n + 1 ∧ b = PT) b → b = PT := fun b z => by
    rcases z with z | z | ⟨_, _, z⟩
    · exact z.elim
    · exact z.elim
    · exact z
  have nP : ∀ {o : HO}, H a = some o → (∀ ps, o ≠ .tbl ps) → ¬ av ⟨fun _ => False, fun _ => False, fun _ _ => False⟩ (fun i b => i = n + 1 ∧ b = PT) a := fun {o} e h z => by
    rw [hav a z, hT] at e
    exact h _ (Option.some.inj e).symm
  obtain ⟨d, hd, hr⟩ : ∃ d, ScrD d ∧ Rp K (av ⟨fun _ => False, fun _ => False, fun _ _ => False⟩ (fun i b => i = n + 1 ∧ b = PT)) H (.ref a) d := by
    rcases hS with (z | ⟨o, z⟩) | z
    · exact ⟨_, ⟨ns, .inr rfl⟩, .lst (nP z fun ps q => by cases q) (hc_lst.mpr z) RpL.ints⟩
    · exact ⟨_, ⟨ns, .inl rfl⟩, .scr (nP z fun ps q => by cases q) (hc_frz.mpr z)⟩
    · exact ⟨_, ⟨ns, .inl rfl⟩, .scrK fun _ => .inr z⟩
  refine q.snd ⟨fun _ => False, fun _ => False, fun _ _ => False⟩ (fun i b => i = n + 1 ∧ b = PT) _ _ H lawEnds _ ⟨?_, ?_, fun i j b h1 h2 => h1.1.trans h2.1.symm, fun b z => z.elim, fun b z => z.elim, fun i b _ z => z, fun i b z => by rw [z.2, hT]; simp, fun i k e h1 h2 => ?_⟩ (hw d hd)
    ⟨fun _ _ _ _ _ _ z => z.elim, fun _ _ _ _ _ _ z => z.elim, fun _ _ _ _ _ _ z => z.elim, fun e ρ' Fs' σ' v H' fr r z => ?_, fun _ _ _ _ _ _ _ _ _ _ z => z.elim⟩
  · simp [hn]
  · simp [hn]
  · match i, h1, h2 with
    | 0, h1, h2 =>
      cases h1
      cases h2
      exact ⟨_, rfl, hr⟩
    | i + 1, h1, h2 =>
      rw [List.getElem?_cons_succ] at h1 h2
      by_cases hi : i < n
      · rw [List.getElem?_append_left (by simpa using hi), List.getElem?_replicate, if_pos hi] at h2
        cases h2
      · rw [List.getElem?_append_right (by simpa using Nat.le_of_not_lt hi)] at h2
        rw [List.getElem?_append_right (by rw [← hn]; omega), ← hn] at h1
        have e0 : i = n := by
          by_cases z : i - n = 0
          · omega
          · rw [List.getElem?_eq_none (by simp; omega)] at h1
            cases h1
        subst e0
        rw [Nat.sub_self] at h1
        rw [List.length_replicate, Nat.sub_self] at h2
        cases h1
        cases h2
        refine ⟨.non, by rw [List.getElem?_cons_succ, List.getElem?_append_right (by simp), List.length_replicate, Nat.sub_self]; rfl, ⟨rfl, rfl, ⟨rfl, rfl⟩, fun b z => .inl z.2, #[], hT, True.intro, fun pos cv z => ?_⟩, fun b z q => q⟩
        have z' : codeAmong pos [] = some cv := z
        simp [codeAmong] at z'
  · have z' : e = .bl true := z
    subst z'
    have r2 : Rp K _ H' v (.bl true) := r.2
    cases r2
    exact hq _ H' rfl
theorem lawT_at {l : PySem.W.OpenLaw} {k : Nat} {fa f c PT : Addr} {h : Heap} {pg : Arguments} {bg : List Stmt} {sg : Scope} {dV kV doc pm ct oc : Value} {an od : Option Addr} {osl : Array (Option Value)} (KX : K.In h) (hfa : mg "law" = some (.ref fa)) (G : h.Ns mainGlobals mg)
    (own : OwnTab K fa h) {eL : Value} {ddL : Option Addr} {vsL : Array Value} {slL : Array (Option Value)} (lc : K.lookup c = some ⟨eL, ddL, .fields vsL, slL⟩) (h11 : vsL[11]? = some (.ref PT)) (hd : PySem.W.codeHdIn K c PT = true) (nP : K.lookup PT = none) (a0 : PySem.W.nsIn K mainGlobals "law" = some (some (.ref f)))
    (lk : K.lookup f = some ⟨oc, od, .func (PySem.W.fnOf "law" "law" pg bg sg dV kV doc pm an (.ref c) ct), osl⟩) (hb : ∀ (s : Shared) (u : Value), BindsTo s (PySem.W.fnOf "law" "law" pg bg sg dV kV doc pm an (.ref c) ct) ⟨[u], []⟩ [("script", u)])
    (hF : ∀ base : Heap, K.In base → base.Ns mainGlobals mg → TabB base mg c PT → FnOk l.prog w K mg base CX0 k fa (PySem.W.fnOf "law" "law" pg bg sg dV kV doc pm an (.ref c) ct) ["script"] (spLawT K PT)) : LawAtS l w K CX0 k 63 "script" mg fa h := by
  have e := hfa.symm.trans (PySem.W.mg_of KX G a0)
  cases e
  have hP : h.get? PT = some { cls := .none, data := .fields #[] } := own c PT _ _ _ _ _ _ lk rfl rfl lc h11
  refine ⟨_, [(c, PT)], spLawT K PT, fun p hp => ?_, fun p hp => ?_, fun p hp => ?_, hb, fun H a ns _ _ hH hS => ⟨a, ns, rfl, hS, hH (c, PT) (by simp), fun v H' z => z⟩, fun base h1 h2 h3 => hF base h1 h2 (h3 (c, PT) (by simp))⟩
  · rw [List.mem_singleton.mp hp]
    exact hP
  · rw [List.mem_singleton.mp hp]
    exact nP
  · rw [List.mem_singleton.mp hp]
    exact PySem.W.codeHd_of_K KX hd
end
end Fw

/-! Fw47: facts of exception classes; told defs; passing. -/
namespace Fw
open PySem L2 PySem.Spec PyProof.Rows LamX

theorem wRaise_eq {C : Addr} {n : Nat} {fp : FSp} {wa : WA} {De : DEnds} {ρ : Env} : wRaise C n fp wa De ρ = wa ρ (fun ds ρ' => ds.length = n ∧ De.xx ⟨C, fvD fp ds⟩ ρ') De.xx := rfl
/-- a class that an except clause names -/
structure XH (K : PySem.W.Frag) (mg : Str → Option Value) (x : Str) (C : Addr) : Prop where
  mg : mg x = some (.ref C)
  eb : PySem.W.subIn K (.ref C) (.type "BaseException") = some true
  hd : PySem.W.hasDictIn K C = true
  ty : PySem.W.typeIn K (.ref C) = some (.type "type")
theorem XH.exm {K : PySem.W.Frag} {mg : Str → Option Value} {x : Str} {C : Addr} {cls : Value} {b : Bool} (h : XH K mg x C) (s : PySem.W.subIn K cls (.ref C) = some b) : PySem.W.exmOne K cls (.ref C) = some b := PySem.W.exm_ref h.eb h.hd h.ty s
/-- a class that is raised, its __init__ at f -/
structure XR (K : PySem.W.Frag) (mg : Str → Option Value) (x : Str) (C f : Addr) : Prop where
  mg : mg x = some (.ref C)
  ox : OexC K C
  xf : XfC K C
  ini : PySem.W.findIn K (.ref C) "__init__" = some (some (.ref f))
  ity : PySem.W.typeIn K (.ref f) = some (.type "function")
theorem exm1 {K : PySem.W.Frag} {cls c : Value} {b : Bool} (h : PySem.W.exmOne K cls c = some b) : PySem.W.exmAny K cls [c] = some b := by
  show (match PySem.W.exmOne K cls c, PySem.W.exmAny K cls [] with
    | some b, some d => some (b || d)
    | _, _ => none) = _
  rw [h]
  show some (b || false) = some b
  rw [Bool.or_false]
theorem exm2 {K : PySem.W.Frag} {cls c d : Value} {b e : Bool} (h : PySem.W.exmOne K cls c = some b) (h2 : PySem.W.exmOne K cls d = some e) : PySem.W.exmAny K cls [c, d] = some (b || e) := by
  show (match PySem.W.exmOne K cls c, PySem.W.exmAny K cls [d] with
    | some b, some d => some (b || d)
    | _, _ => none) = _
  rw [h, exm1 h2]
section
variable {P : Program} {w : World} {K : PySem.W.Frag} {mg : Str → Option Value} {base : Heap} {N : List Str} {qual : Str} {scope : Scope} {f : Addr} {cd : Value} {A : Around} {outer : List PySem.Env} {s : Shared} {H : Hp} {E : XK}
/-- what a def that may raise takes -/
theorem takeX : Takes (cxOf (L2.CX P w) P w K mg base N qual scope f cd A outer s H E) (fun cls d _ H => E cls d H) := takes_of rfl rfl rfl rfl
theorem passX : Passes (L2.CX P w) (cxOf (L2.CX P w) P w K mg base N qual scope f cd A outer s H E) E := passes_call takeX fun _ _ _ _ h => h
theorem passLam {X : Cx} {scope' : Scope} {c' : Addr} : Passes (L2.CX X.prog X.w) (lamCx X A outer s H E scope' f c') E := passes_call (W := fun cls d _ H => E cls d H) (takes_of rfl rfl rfl rfl) fun _ _ _ _ h => h
theorem ownX : PassesOwn (model P w) (A.deeper (envOfC qual scope s.heap.objs.size f cd)) (envOfC qual scope s.heap.objs.size f cd) (cxOf (L2.CX P w) P w K mg base N qual scope f cd A outer s H E).xe := passes_of (K := fun e s'' => L2.CX P w outer H s E e s'') rfl
end
theorem qual_nox {CX : CXT} {P : Program} {w : World} {K : PySem.W.Frag} {mg : Str → Option Value} {base : Heap} {N : List Str} {qual : Str} {scope : Scope} {f : Addr} {cd : Value} {A : Around} {outer : List PySem.Env} {s : Shared} {H : Hp} {E : XK} : (cxOf CX P w K mg base N qual scope f cd A outer s H E).nox.env.qual = qual ++ ".<locals>." := rfl
/-- a def that tries what it got and tells -/
structure ToldAt (K : PySem.W.Frag) (mg : Str → Option Value) (x : Str) (st : Stmt) (a e : Str) (g : Addr) (told : Str) (l : List Cl2) : Prop where
  ex : ∃ (q1 q2 q3 q4 q5 q6 : Pos) (j kk : Nat) (b₀ : ExceptHandler) (hds : List ExceptHandler), defBody st = [.Try [.Return (some (.Tuple [.Constant (.str told) j q1, .Call (.Name a q2) [] [] q3] kk q4)) q5] (b₀ :: hds) [] [] q6] ∧ TdOk K mg [a, e] x (defScope st) g (b₀ :: hds) l
theorem xLamT {X : Cx} {K : PySem.W.Frag} {x a e : Str} {st : Stmt} {g c P : Addr} {fd : FuncData} {told : Str} {l : List Cl2} {params : Arguments} {body : Expr} {scope : Scope} {tb : XK → TE} {wb : WE} {p lpos pos : Pos} {ks : List SK} {E : L2.St → XK} {q : Str} (it k : Nat)
    (hm : X.mg x = some (.ref g)) (F : Fun K x x st g fd) (hb : L2.Binds K fd [a] []) (Sg : FnScope [a, e] [a] (defScope st)) (td : ToldAt K X.mg x st a e g told l)
    (TB : TabB X.base X.mg c P) (hr : Room (k + 2) X.A) (hq : X.env.qual = q) (hcode : X.env.code = .ref c) (hk : ks[it]? = some (.ow (shTab P (q ++ "<lambda>")))) (L : LamS X.env.scope scope)
    (hbind : ∀ (q : Str) (cl : List (Str × Addr)) (pm cv ctv : Value), bindArgs (PySem.W.kla_fn "<lambda>" q params body scope cl pm cv ctv) ⟨[], []⟩ = pure [])
    (hbody : ∀ (A : Around) (outer : List PySem.Env) (s : Shared) (H : Hp) (E : XK) (f c' : Addr), Room k (A.deeper (lamEnv X scope s.heap.objs.size f c')) → PX (lamCx X A outer s H E scope f c') K ks (fun _ => E) false .z body (tb E) wb)
    (hdef : defaultsOf params X.env = ([], []) := by rfl) (hg : Gl X x := by rfl) (hdb : (x == ("__debug__" : Str)) = false := by decide) (hd : (a == ("__debug__" : Str)) = false := by decide) (hcd : (a == ("__classdict__" : Str)) = false := by decide) (hK : X.K = K := by rfl) :
    PX X K ks E false .z (.Call (.Name x p) [.Lambda params body scope lpos] [] pos) (tLamG K P (X.env.qual ++ "<lambda>") told l tb) (wLam K it told l wb) := by
  obtain ⟨q1, q2, q3, q4, q5, q6, j, kk, b₀, hds, hst, h⟩ := td.ex
  exact xLam it hm F hb Sg hst h TB hcode (by rw [hq]; exact hk) hr L hbind hbody hdef hg hdb hd hcd hK
end Fw
namespace Fw
open PySem L2 PySem.Spec PyProof.Rows LamX
theorem told_mk {K : PySem.W.Frag} {mg : Str → Option Value} {x : Str} {st : Stmt} {a e : Str} {g : Addr} {told : Str} {l : List Cl2} {b₀ : ExceptHandler} {hds : List ExceptHandler} {Td : Exc → (D → Prop) → Prop}
    (hst : ∃ (q1 q2 q3 q4 q5 q6 : Pos) (j kk : Nat), defBody st = [.Try [.Return (some (.Tuple [.Constant (.str told) j q1, .Call (.Name a q2) [] [] q3] kk q4)) q5] (b₀ :: hds) [] [] q6]) (td : TdOk K mg [a, e] x (defScope st) g (b₀ :: hds) l) (tw : ∀ y Ψ, Td y Ψ → wTold K l y Ψ) :
    ∃ l, ToldAt K mg x st a e g told l ∧ ∀ y Ψ, Td y Ψ → wTold K l y Ψ := by
  obtain ⟨q1, q2, q3, q4, q5, q6, j, kk, h⟩ := hst
  exact ⟨l, ⟨q1, q2, q3, q4, q5, q6, j, kk, b₀, hds, h, td⟩, tw⟩
end Fw
namespace Fw
open PySem L2 PySem.Spec PyProof.Rows LamX
theorem td_cons {K : PySem.W.Frag} {mg : Str → Option Value} {Ng : List Str} {x : Str} {sg : Scope} {g : Addr} {e : Expr} {n : Str} {b₀ : Stmt} {suite : List Stmt} {pos : Pos} {hds : List ExceptHandler} {cs : List Value} {ts : Addr → Value → Option Addr → TS} {ws : Exc → WS} {l : List Cl2} (hn : Ng[1]? = some n) (hl : sg.names.lookup n = some .local)
    (ht : ∀ (P : Program) (w : World) (base : Heap) (cdg : Value) (A : Around) (outer : List PySem.Env) (s : Shared) (H : Hp), TstOk (cxT P w K mg base Ng x sg g cdg A outer s H) e cs)
    (hsu : ∀ (P : Program) (w : World) (base : Heap) (cdg : Value) (A : Around) (outer : List PySem.Env) (s : Shared) (H : Hp) (a : Addr) (oe : Obj) (cls : Value) (d : Option Addr) (pn : List (Addr × Obj)) (y : Exc), Zc cls d oe → (∃ vs, oe.data = .fields vs) →
      QSs ((cxT P w K mg base Ng x sg g cdg A outer s H).suite a ((a, oe) :: pn)) K [.z, .ln (shX a cls d y)] EN .z (b₀ :: suite) (ts a cls d) (ws y)) (r : TdOk K mg Ng x sg g hds l) :
    TdOk K mg Ng x sg g (.ExceptHandler (some e) (some n) (b₀ :: suite) pos :: hds) (⟨cs, ts, ws⟩ :: l) := .cons ht hn hl hsu r
end Fw

/-! Fw48: sorted(x), x a list or a tuple of texts. -/
namespace Fw
open PySem L2 PySem.Spec PyProof.Rows
abbrev rSrtA (K : PySem.W.Frag) : List V → Hp → VK → Prop := fun vs H Q => ∃ (a : Addr) (xs : List Str), vs = [V.ref a] ∧ (SqL K H a (xs.map V.str) ∨ SqT K H a (xs.map V.str)) ∧ ∀ p, H p = none → Q (.ref p) (upd H p (.lst ((srtS xs).map V.str)))
theorem cr_srtA {X : Cx} (hu : X.A.units + 64 < cLine) : CallR X (.builtin "sorted") (rSrtA X.K) := by
  intro pins s σ H zs us Q I r q
  obtain ⟨a, xs, ez, hs | hs, q⟩ := q
  · exact cr_srtL hu pins s σ H zs us Q I r ⟨a, xs, ez, hs, q⟩
  subst ez
  rw [Vals.ref1 r]
  obtain ⟨its, rv, ⟨o, ho, hc, n, hd⟩, hz⟩ := I.tuple hs
  have hS := rv.strs
  have hl : its.length = xs.length := by
    have e := rv.length
    rw [List.length_map] at e
    exact e.symm
  have hzl : xs.length ≤ sizeLine := by rw [List.length_map] at hz; exact hz
  refine Calls.call_function_entry PyProof.Rows.kind_sorted PyProof.Rows.plain_sorted PyProof.Rows.entry_sorted (PyProof.Rows.args_sorted1 _) ?_
  unfold Builtin.«sorted»
  refine wpAny_bind (m := checkCount "sorted" 1 1 _) (wpAny_pure ?_)
  refine wpAny_bind (wpAny_collect_seq a (.inr rfl) ho hc hd (fun h' hk => ?_) (by rw [List.size_toArray, hl]; exact hzl))
  rw [List.toList_toArray]
  have I1 : Inv X pins σ H { s with heap := h', toks := s.toks } := I.kept hk
  refine wpAny_bind (wpAny_newList ?_ (by rw [hl]; exact hzl))
  have hoL : (h'.push (seqObj "list" its.toArray 0)).get? h'.objs.size = some (seqObj "list" its.toArray 0) := Heap.get?_push_size _ rfl
  show wpAny _ _ _ _ _ { s with heap := h'.push (seqObj "list" its.toArray 0), toks := s.toks }
  refine wpAny_bind (wpAny_holding (PySem.W.list_sort_data (s := { s with heap := h'.push (seqObj "list" its.toArray 0), toks := s.toks }) (enc := fun b : Str => PyData.str b) hoL (each_of hS) (each_reads (P := fun as => h'.objs.size ∉ as) (by simp) hS) (alike_strs _) (sortable_strs _) hzl
    (fun b _ => by rw [depth_str]; show X.A.in1.units + 1 + 0 < cLine; have : X.A.in1.units = X.A.units + 1 := rfl; omega) fun out2 ho2 eo => ?_))
  rw [dataLe_strs] at eo
  obtain ⟨c, hc'⟩ := sortedHeap_at (vs := its) (out := List.toArray out2) hoL
  obtain ⟨I', hpn⟩ := laid_strs (tk := s.toks) I1 (h' := sortedHeap (h'.push (seqObj "list" its.toArray 0)) h'.objs.size its (List.toArray out2)) (fun b u e => by
    have hlt := Heap.lt_size e
    rw [sortedHeap_old (Nat.ne_of_lt hlt) (by rw [size_push']; exact Nat.lt_succ_of_lt hlt)]
    exact Heap.get?_push_of_some _ e) (Nat.le_refl _) hc' (of_each eo) (by show (srtS xs).length ≤ _; rw [(srtS_perm xs).length_eq]; exact hzl)
  exact wpAny_pure ⟨_, rfl, .ref _, _, I', rfl, q _ hpn⟩
def dSrtA (d : D) (Ψ : D → Prop) : Prop := ∃ xs ys, (d = .lst xs ∨ d = .tup xs) ∧ D.strs xs = some ys ∧ Ψ (.lst ((srtS ys).map D.str))
theorem cn_srtA {K : PySem.W.Frag} : CaN K (rSrtA K) dSrtA := fun A H x d Ψ Q hA rx hw hq => by
  obtain ⟨xs, ys, hd, e, hw⟩ := hw
  rw [D.strs_inv e] at hd
  rcases hd with rfl | rfl
  · obtain ⟨p, vs, rfl, e1, r1⟩ := rx.lst_inv
    cases r1.strs_inv
    exact ⟨p, ys, rfl, .inl (SqL.of e1), fun q hq' => hq _ _ q hq' (rpl_strs _) hw⟩
  · obtain ⟨p, vs, rfl, e1, r1⟩ := rx.tup_inv
    cases r1.strs_inv
    exact ⟨p, ys, rfl, .inr e1, fun q hq' => hq _ _ q hq' (rpl_strs _) hw⟩
end Fw

/-! Fw49: a name that holds plain data for one statement, an owned object from the next one on. -/
namespace Fw
open PySem L2 PySem.Spec PyProof.Rows
section
variable {X : Cx} {K : PySem.W.Frag} {ks ks' : List SK} {O : Gh} {Fs : Nat → AS} {ρ : Env} {σ : L2.St} {H : Hp} {E : L2.St → XK} {rk : Kd} {i : Nat}
theorem Repr.kinds (R : Repr K ks' O Fs ρ σ H) (hl : ks.length = ks'.length) (h : ∀ j, j ≠ i → ks[j]? = ks'[j]?) : Repr K ks O Fs (ρ.set i none) σ H := by
  refine ⟨by rw [List.length_set, hl]; exact R.lρ, by rw [hl]; exact R.lσ, R.dj, R.od, R.bd, R.fb, R.fd, fun j k e h1 h2 => ?_⟩
  by_cases hj : i = j
  · subst hj
    by_cases hi : i < ρ.length
    · rw [List.getElem?_set_self hi] at h2; cases h2
    · rw [List.getElem?_eq_none (by rw [List.length_set]; omega)] at h2; cases h2
  · rw [List.getElem?_set_ne hj] at h2
    rw [h j (fun z => hj z.symm)] at h1
    exact R.sl j k e h1 h2
def wRe (i : Nat) (w1 : WS) (we : WE) (w : WS) : WS := fun De ρ => w1 ⟨fun ρ1 => we ρ1 (fun d ρ2 => w De (ρ2.set i (some d))) fun x ρ2 => De.xx x (ρ2.set i none), fun _ _ => False, fun _ => False, fun _ => False, fun x ρ2 => De.xx x (ρ2.set i none)⟩ (ρ.set i none)
theorem wRe_eq {w1 : WS} {we : WE} {w : WS} {De : DEnds} : wRe i w1 we w De ρ = w1 ⟨fun ρ1 => we ρ1 (fun d ρ2 => w De (ρ2.set i (some d))) fun x ρ2 => De.xx x (ρ2.set i none), fun _ _ => False, fun _ => False, fun _ => False, fun x ρ2 => De.xx x (ρ2.set i none)⟩ (ρ.set i none) := rfl
theorem ssRe {st1 : Stmt} {rest : List Stmt} {t1 t : TS} {w1 w : WS} {e : Expr} {te : TE} {we : WE} {s : Shp} {x : Str} {pos pos' : Pos} (i : Nat) (hN : X.N.Nodup) (h1 : QS X K (ks.set i .z) E rk st1 t1 w1) (h2 : PX X K (ks.set i .z) E false (.o s) e te we) (h3 : QSs X K ks E rk rest t w)
    (hk : ks[i]? = some (.ow s) := by rfl) (hi : X.N[i]? = some x := by rfl) (hx : Loc X.env.scope x := by first | exact .inl rfl | exact .inr rfl) (hs : swapsWith e (some (.Name x pos')) pos.line X.env = pure false := by rfl)
    (hf : X.fn x = true ∨ X.env.scope.names.lookup x = some .local := by first | exact .inl rfl | exact .inr rfl | assumption) : QSs X K ks E rk (st1 :: .Assign [.Name x pos'] e pos :: rest) (tSeq t1 (tSeq (tAsg te (gName i)) t)) (wRe i w1 we w) := by
  cases h1.hK
  have L : ∀ {j}, j ≠ i → (ks.set i .z)[j]? = ks[j]? := fun {j} hj => List.getElem?_set_ne (fun z => hj z.symm)
  refine ⟨rfl, pss_cons h1.ps (pss_cons (ps_set hN hi hx h2.pe hs hf) h3.ps), fun O Fs ρ σ H Dd Dh R hw Lk => ?_⟩
  have R0 : Repr X.K (ks.set i .z) O Fs (ρ.set i none) σ H := R.kinds (by rw [List.length_set]) fun j hj => L hj
  have back : ∀ {ρ1 Fs1 σ1 H1}, Repr X.K (ks.set i .z) O Fs1 ρ1 σ1 H1 → Repr X.K ks O Fs1 (ρ1.set i none) σ1 H1 := fun R1 => R1.kinds (by rw [List.length_set]) fun j hj => (L hj).symm
  refine h1.snd O Fs _ σ H _ _ R0 hw ⟨fun ρ1 Fs1 σ1 H1 R1 f1 p1 => ?_, fun _ _ _ _ _ _ z => z.elim, fun _ _ _ _ _ _ z => z.elim, fun _ _ _ _ _ _ _ _ z => z.elim, fun σ1 x1 ρ1 Fs1 cls od H1 R1 f1 xr p1 => Lk.xx σ1 x1 _ Fs1 cls od H1 (back R1) f1 xr p1⟩
  refine h2.snd O Fs1 ρ1 σ1 H1 _ _ _ R1 p1 (fun d ρ2 Fs2 v H2 u f2 r p2 => ?_) (fun x1 ρ2 Fs2 cls od H2 R2 f2 xr p2 => Lk.xx σ1 x1 _ Fs2 cls od H2 (back R2) (f1.trans f2) xr p2)
  obtain ⟨Fv, R', q, n⟩ := r
  have R3 : Repr X.K ks (O.add Fv) Fs2 (ρ2.set i none) σ1 H2 := R'.kinds (by rw [List.length_set]) fun j hj => (L hj).symm
  have R4 := R3.setO hk q fun a ha => ⟨(n a ha).1, (n a ha).2.1⟩
  rw [List.set_set] at R4
  have f3 : Fr Fs H (putFs Fs2 i Fv) H2 := (f1.trans f2).putO fun a ha => (n a ha).2.2.elim (fun ⟨j, z⟩ => f1.fp j a z) fun z => .inr (by
    cases hh : H a with
    | none => rfl
    | some o => exact absurd z (f1.dom a (by rw [hh]; simp)))
  exact h3.snd O _ _ _ H2 Dd Dh R4 p2 (Lk.step f3)
end
end Fw

/-! FwZ: the word simp! only []: what readings are worth, unfolded along the path. -/
namespace Fw
open PySem L2
end Fw

open Fw PySem L2
local macro_rules
  | `(tactic| simp! only [$ls,*]) => `(tactic| try simp only [wVar_eq, wC_eq, w2e_eq, wB_eq, wTr_eq, wAnd_eq, wOr_eq, wNot_eq, wAndV_eq, wOrV_eq, wNotV_eq, wIf_eq, wChain_eq, wNil_eq, wCons_eq, wTup_eq, wLst_eq, w1e_eq, wLe_eq, wNoPart_eq, wPart_eq, wSl_eq, wNext_eq, wSeq_eq, wBrk_eq, wCnt_eq, wNever_eq, wExp_eq, wRet_eq, wRetN_eq, wIfS_eq, wSet_eq, wgName_eq, wgNil_eq, wgCons_eq, wgTup_eq, wAsg_eq, wAug_eq, wiSeq_eq, wiRng1_eq, wiRng2_eq, wiEnum_eq, wiZip_eq, wiRev_eq, wFor_eq, wLc_eq, wLcP_eq, wYes_eq, wSlot_eq, wCall_eq, wM1_eq, wIsi_eq, wPar_eq, wApp_eq, wPut_eq, spN, wFld_eq, wFldZ_eq, wPutF_eq, wAugF_eq, wMeth_eq, wMethZ_eq, wMake_eq, wPutS_eq, wMove_eq, wForD_eq, wForI_eq, dDictP_lst, dListZip_lst, dSrtD_dk, dItemsL_dk, dIsC_ins, wLcD_eq, wLcI_eq, wExt_eq, wLenO_eq, wEqO_eq, wRaise_eq, wRe_eq, wLam_eq, wXf_eq, wClr_eq, wPopAt_eq, wGet2_eq, wSrtS2_eq, wL2P_eq, dSrt_lst, dSrtLen_lst, wDcP_eq, wPutK_eq, wDelK_eq, wDelK2_eq, wIndex_eq, dkAt_some, keyAt_int, keyAt_str, dMaxLen_lst, dListA_lst, dListA_dk, dLen_dk, dIx_dk, dInW_dk, dNeg_int, dRevL_lst, insAt_ins, insD_ins, List.headD_cons, List.headD_nil,
    Sp_nx, Sp_rt, iosL, fill, outs, filled_nil, filled_none, filled_some, lstAt_some, intAt_int, blAt_bl, strAt_str, tupAt_tup, natAt_some, ixN_lit, cut_fromL, cut_toL, cut_all, List.drop_succ_cons, List.drop_zero, List.take_succ_cons, List.take_zero,
    isNon_non, isNon_bl, isNon_int, isNon_str, isNon_tup, isNon_lst, dTru_non, dTru_bl, dTru_int, dTru_lst, dTru_tup, dTru_tx, dList_lst, dList_tup, dList_scr, dTuple_lst, dTuple_tup, dInt_int, dInt_bl, dAbs_int, dMax2_int, dMin2_int, dRev_lst, dRev_tup,
    dAdd_tx, dAdd_int, dAdd_lst, dAdd_tup, dCat_lst, dI_int, dI0_int, dMul_int, dMul_tx, dMul_lst, dOrd_int, dOrd_tx, sLt_tx, dEq_tx, dNe_tx, dEq_int, dNe_int, dEq_bl, dNe_bl, dIsN_non, dNotN_non, dIsB_bl, dIsNotB_bl, dLen_tx, dLen_lst, dLen_tup, dLen_scr, dIx_lst, dIx_tup, dIx_tx, dSl_tx, dSl_lst, dSl_tup, dSl_scr, dSlL_lst, dItems_lst, dItems_tup, dItems_tx, atI_lit, tx_cps, tx_one,
    isi_non_list, isi_non_tuple, isi_non_dict, isi_non_int, isi_non_str, isi_non_bool, isi_non_lt, isi_bl_list, isi_bl_tuple, isi_bl_dict, isi_bl_int, isi_bl_str, isi_bl_bool, isi_bl_lt, isi_int_list, isi_int_tuple, isi_int_dict, isi_int_int, isi_int_str, isi_int_bool, isi_int_lt, isi_str_list, isi_str_tuple, isi_str_dict, isi_str_int, isi_str_str, isi_str_bool, isi_str_lt, isi_tup_list, isi_tup_tuple, isi_tup_dict, isi_tup_int, isi_tup_str, isi_tup_bool, isi_tup_lt, isi_lst_list, isi_lst_tuple, isi_lst_dict, isi_lst_int, isi_lst_str, isi_lst_bool, isi_lst_lt,
    List.map_cons, List.map_nil, List.replicate, List.cons_append, List.nil_append, List.getElem?_cons_zero, List.getElem?_cons_succ, Option.some.injEq, exists_eq_left', exists_eq, exists_eq', List.set, List.length_cons, List.length_nil, wipeE, id_eq, Option.join, Option.getD, Option.map, Option.bind, true_and, and_true, decide_eq_true_eq, Bool.not_eq_true', decide_eq_false_iff_not, Bool.false_eq_true, reduceCtorEq, if_true, if_false, Bool.not_true, Bool.not_false, szL_eq, Nat.reduceLeDiff, Nat.reduceLT, Nat.reduceAdd, Nat.reduceMul, Nat.zero_le, Nat.add_zero, Nat.zero_add, $ls,*])

/-! Fp1: what the law's own draws promise; points and their signs. -/
namespace Fw
open PySem L2

/-! ### the bag of draws -/
def isBag (n : Nat) (d : D) : Prop := ∃ (cells : List Int) (i b s c : Int), d = .lst [.lst (cells.map .int), .int i, .int b, .int s, .int c] ∧ 0 ≤ i ∧ 0 ≤ b ∧ 0 ≤ s ∧ s < 2147483648 ∧ 0 ≤ c ∧ c ≤ n
theorem isBag.mono {n m : Nat} {d : D} (h : isBag n d) (hm : n ≤ m) : isBag m d := by
  obtain ⟨cells, i, b, s, c, h1, h2, h3, h4, h5, h6, h7⟩ := h
  exact ⟨cells, i, b, s, c, h1, h2, h3, h4, h5, h6, by omega⟩
theorem isBag.lst {n : Nat} {d : D} (h : isBag n d) : ∃ xs, d = .lst xs := by
  obtain ⟨cells, i, b, s, c, h1, _⟩ := h
  exact ⟨_, h1⟩
def Sp__law_bag : SpN := fun ds Ψ => ∃ ns, ds = [.scr ns] ∧ ∀ d, isBag 0 d → Ψ d []
def Sp__law_pull : SpN := fun ds Ψ => ∃ n d sides, ds = [d, .int sides] ∧ isBag n d ∧ n < 2 ^ 60 ∧ 0 < sides ∧ sides < 10 ^ 1000 ∧ ∀ r d', 0 ≤ r → r < sides → isBag (n + 1) d' → Ψ (.int r) [d']
def Sp__law_of : SpN := fun ds Ψ => ∃ n d xs, ds = [d, .lst xs] ∧ isBag n d ∧ n < 2 ^ 60 ∧ 0 < xs.length ∧ xs.length < 1000000 ∧ ∀ x d', x ∈ xs → isBag (n + 1) d' → Ψ x [d']
theorem cdivK {i j : Int} (h0 : 0 < j) (h : j < 10 ^ 1000) : CDivW i j := by
  refine ⟨h0, ?_⟩
  have h1 : j.natAbs.log2 < 4000 := (Nat.log2_lt (by omega)).mpr (by
    have : (10 : Int) ^ 1000 < 2 ^ 4000 := by decide +kernel
    have h3 : (j.natAbs : Int) < ((2 ^ 4000 : Nat) : Int) := by
      rw [Int.natCast_pow]
      omega
    exact Int.ofNat_lt.mp h3)
  omega

/-! ### words -/
def isW (w : List Nat) : Prop := ∀ c ∈ w, c = 76 ∨ c = 82
theorem isW.cp {w : List Nat} (h : isW w) : cpOk w = true := cpOk_iff.mpr fun c hc => by rcases h c hc with e | e <;> omega
theorem isW.append {v w : List Nat} (h : isW v) (g : isW w) : isW (v ++ w) := fun c hc => (List.mem_append.mp hc).elim (h c) (g c)
theorem isW.take {w : List Nat} (h : isW w) (n : Nat) : isW (w.take n) := fun c hc => h c (List.mem_of_mem_take hc)
theorem isW.drop {w : List Nat} (h : isW w) (n : Nat) : isW (w.drop n) := fun c hc => h c (List.mem_of_mem_drop hc)
theorem isW.nil : isW [] := fun c hc => nomatch hc

/-! ### points -/
abbrev Bl := List (List Nat × Int)
def blD (bl : Bl) : List D := bl.map fun b => .tup [.str (tx b.1), .int b.2]
def bD (l : Bool) (bl : Bl) : D := if l = true then .lst (blD bl) else .tup (blD bl)
theorem dItems_bD {l : Bool} {bl : Bl} {Ψ : List D → Prop} : dItems (bD l bl) Ψ = Ψ (blD bl) := by cases l <;> rfl
def ptD (l : Bool) (bl : Bl) (ring : List Nat) : D := .tup [bD l bl, .str (tx ring)]
def strD (bl : Bl) (ring : List Nat) : List D := (bl.map fun b => .tup [.str (tx b.1), .int (b.1.length * b.2)]) ++ [.tup [.str (tx ring), .non]]
/-- the sign at a place -/
def signF : Bl → List Nat → Int → Nat
  | [], ring, p => ring.getD (p % ring.length).toNat 0
  | (w, n) :: r, ring, p => if p < w.length * n then w.getD (p % w.length).toNat 0 else signF r ring (p - w.length * n)
def firstF (bl : Bl) (ring : List Nat) (n : Nat) : List Nat := (List.range n).map fun i : Nat => signF bl ring (i : Int)
/-- a word of small signs, not empty -/
def okW (w : List Nat) : Prop := w ≠ [] ∧ w.length ≤ 1000 ∧ cpOk w = true
def okB (bl : Bl) : Prop := ∀ b ∈ bl, okW b.1 ∧ 0 ≤ b.2 ∧ b.2.natAbs < 2 ^ 1000
def okP (bl : Bl) (ring : List Nat) : Prop := bl.length < 1000 ∧ okB bl ∧ okW ring
def Sp_stretches : SpN := fun ds Ψ => ∃ bl ring l, ds = [ptD l bl ring] ∧ okP bl ring ∧ Ψ (.lst (strD bl ring)) []
def Sp_sign_at : SpN := fun ds Ψ => ∃ bl ring l p, ds = [ptD l bl ring, .int p] ∧ okP bl ring ∧ 0 ≤ p ∧ Ψ (.str (tx [signF bl ring p])) []
def Sp_first_signs : SpN := fun ds Ψ => ∃ bl ring l n, ds = [ptD l bl ring, .int (n : Nat)] ∧ okP bl ring ∧ n < 1000000 ∧ Ψ (.str (tx (firstF bl ring n))) []
def Sp_lies_in : SpN := fun ds Ψ => ∃ bl ring l room, ds = [ptD l bl ring, .str (tx room)] ∧ okP bl ring ∧ room.length < 1000000 ∧ cpOk room = true ∧ Ψ (.bl (decide (firstF bl ring room.length = room))) []
theorem getD_atI {w : List Nat} (h : w ≠ []) (p : Int) : atI w (p % w.length) = some (w.getD (p % w.length).toNat 0) := by
  have hl : 0 < w.length := List.length_pos_iff.mpr h
  have h0 : 0 ≤ p % (w.length : Int) := Int.emod_nonneg _ (by omega)
  have h1 : p % (w.length : Int) < w.length := Int.emod_lt_of_pos _ (by omega)
  rw [atI_pos h0, List.getD_eq_getElem?_getD, List.getElem?_eq_getElem (by omega)]
  rfl
theorem cp_getD {w : List Nat} (h : cpOk w = true) (i : Nat) : w.getD i 0 < 1114112 := by
  rw [List.getD_eq_getElem?_getD]
  cases e : w[i]? with
  | none => simp
  | some c => exact cpOk_iff.mp h c (List.mem_of_getElem? e)
theorem signF_cp {ring : List Nat} (hr : cpOk ring = true) : ∀ {bl : Bl} {p : Int}, okB bl → signF bl ring p < 1114112
  | [], p, _ => cp_getD hr _
  | (w, n) :: r, p, h => by
    unfold signF
    split
    · exact cp_getD (h _ (List.mem_cons_self ..)).1.2.2 _
    · exact signF_cp hr fun b hb => h b (List.mem_cons_of_mem _ hb)
theorem firstF_cp {bl : Bl} {ring : List Nat} {n : Nat} (h : okP bl ring) : cpOk (firstF bl ring n) = true := cpOk_iff.mpr fun c hc => by
  unfold firstF at hc
  rw [List.mem_map] at hc
  obtain ⟨i, _, rfl⟩ := hc
  exact signF_cp h.2.2.2.2 h.2.1
theorem firstF_len {bl : Bl} {ring : List Nat} {n : Nat} : (firstF bl ring n).length = n := by unfold firstF; simp
theorem flat_one (l : List Nat) : (l.map fun i => [i]).flatten = l := by
  induction l with
  | nil => rfl
  | cons a l ih => rw [List.map_cons, List.flatten_cons, ih]; rfl
theorem okP.first {bl : Bl} {ring : List Nat} (n : Nat) : firstF bl ring n = ((List.range n).map fun i : Nat => [signF bl ring (i : Int)]).flatten := by
  unfold firstF
  rw [← flat_one ((List.range n).map _), List.map_map]
  rfl
end Fw
namespace Fw
open PySem L2
/-! ### drawn words, drawn points -/
def Sp__law_word : SpN := fun ds Ψ => ∃ n d, ∃ low most : Nat, ds = [d, .int low, .int most] ∧ isBag n d ∧ n < 2 ^ 59 ∧ low ≤ most ∧ most < 100000 ∧ ∀ w d', isW w → low ≤ w.length → w.length ≤ most → isBag (n + 1 + most) d' → Ψ (.str (tx w)) [d']
/-- a drawn point: few blocks of few signs -/
def drP (g : Int) (bl : Bl) (ring : List Nat) : Prop := bl.length ≤ 3 ∧ (∀ b ∈ bl, isW b.1 ∧ 1 ≤ b.1.length ∧ b.1.length ≤ 4 ∧ 1 ≤ b.2 ∧ b.2 ≤ g + 5) ∧ isW ring ∧ 1 ≤ ring.length ∧ ring.length ≤ 4
def Sp__law_point : SpN := fun ds Ψ => ∃ n d g, ds = [d, .int g] ∧ isBag n d ∧ n < 2 ^ 58 ∧ 0 < g ∧ g < 10 ^ 200 ∧ ∀ bl ring d', drP g bl ring → isBag (n + 40) d' → Ψ (ptD false bl ring) [d']
theorem okW.of {w : List Nat} (h : isW w) (h1 : 1 ≤ w.length) (h2 : w.length ≤ 1000) : okW w := ⟨List.length_pos_iff.mp h1, h2, h.cp⟩
theorem drP.ok {g : Int} {bl : Bl} {ring : List Nat} (h : drP g bl ring) (hg : g < 10 ^ 200) : okP bl ring := by
  obtain ⟨h1, h2, h3, h4, h5⟩ := h
  refine ⟨by omega, fun b hb => ?_, okW.of h3 h4 (by omega)⟩
  obtain ⟨a1, a2, a3, a4, a5⟩ := h2 b hb
  refine ⟨okW.of a1 a2 (by omega), by omega, ?_⟩
  have e : (10 : Int) ^ 200 + 5 < 2 ^ 1000 := by decide +kernel
  have h6 : (b.2.natAbs : Int) < ((2 ^ 1000 : Nat) : Int) := by
    rw [Int.natCast_pow]
    omega
  exact Int.ofNat_lt.mp h6
/-! ### the first signs, by the law -/
def Sp__law_begin : SpN := fun ds Ψ => ∃ bl ring l, ∃ n : Nat, ds = [ptD l bl ring, .int n] ∧ okP bl ring ∧ n ≤ 100000 ∧ Ψ (.str (tx (firstF bl ring n))) []
theorem rep_get {w : List Nat} (hw : 0 < w.length) : ∀ (m i : Nat), i < w.length * m → (List.replicate m w).flatten[i]? = some (w.getD (i % w.length) 0)
  | 0, i, h => by omega
  | m + 1, i, h => by
    rw [List.replicate_succ, List.flatten_cons]
    by_cases hi : i < w.length
    · rw [List.getElem?_append_left hi, Nat.mod_eq_of_lt hi, List.getD_eq_getElem?_getD, List.getElem?_eq_getElem hi]
      rfl
    · rw [Nat.mul_succ] at h
      rw [List.getElem?_append_right (by omega), rep_get hw m (i - w.length) (by omega)]
      congr 2
      rw [← Nat.mod_eq_sub_mod (by omega)]
theorem rep_len {w : List Nat} : ∀ m : Nat, (List.replicate m w).flatten.length = w.length * m
  | 0 => by simp
  | m + 1 => by rw [List.replicate_succ, List.flatten_cons, List.length_append, rep_len m, Nat.mul_succ]; omega
theorem signF_in {w : List Nat} {n : Int} {r : Bl} {ring : List Nat} {i : Nat} (h : (i : Int) < w.length * n) : signF ((w, n) :: r) ring i = w.getD (i % w.length) 0 := by
  show (if (i : Int) < w.length * n then w.getD ((i : Int) % w.length).toNat 0 else _) = _
  rw [if_pos h, ← Int.natCast_emod, Int.toNat_natCast]
theorem signF_off {w : List Nat} {n : Int} {r : Bl} {ring : List Nat} {p : Int} (h : 0 ≤ p) : signF ((w, n) :: r) ring (p + w.length * n) = signF r ring p := by
  show (if p + w.length * n < w.length * n then _ else signF r ring (p + w.length * n - w.length * n)) = _
  rw [if_neg (by omega), Int.add_sub_cancel]
theorem signF_ring {ring : List Nat} (i : Nat) : signF [] ring i = ring.getD (i % ring.length) 0 := by
  show ring.getD ((i : Int) % ring.length).toNat 0 = _
  rw [← Int.natCast_emod, Int.toNat_natCast]
/-- the text so far: the signs of the point; what is behind it, while it is too short -/
def begI (bl : Bl) (ring : List Nat) (size : Nat) (r : Bl) (text : List Nat) : Prop :=
  (∀ i, i < text.length → text[i]? = some (signF bl ring i)) ∧ (text.length < size → ∀ p : Int, 0 ≤ p → signF r ring p = signF bl ring (p + text.length)) ∧ text.length ≤ size + 1000
theorem begI.step {bl : Bl} {ring : List Nat} {size : Nat} {w : List Nat} {n : Int} {r : Bl} {text : List Nat} (h : begI bl ring size ((w, n) :: r) text) (hn : 0 ≤ n) (hw : okW w) (hs : text.length < size) {m : Int} (hm : m = if ((size : Int) - text.length) / w.length + 1 < n then ((size : Int) - text.length) / w.length + 1 else n) :
    begI bl ring size r (text ++ (List.replicate m.toNat w).flatten) := by
  obtain ⟨h1, h2, h3⟩ := h
  have h2 := h2 hs
  have hl : 0 < w.length := List.length_pos_iff.mpr hw.1
  have hlI : (0 : Int) < w.length := by omega
  have hm0 : 0 ≤ m := by
    rw [hm]
    split
    · have := Int.ediv_nonneg (a := (size : Int) - text.length) (b := w.length) (by omega) (by omega)
      omega
    · exact hn
  have hmn : m ≤ n := by rw [hm]; split <;> omega
  have hml : (w.length : Int) * (m.toNat : Int) ≤ w.length * n := by
    rw [Int.toNat_of_nonneg hm0]
    exact Int.mul_le_mul_of_nonneg_left hmn (by omega)
  refine ⟨fun i hi => ?_, fun hl2 p hp => ?_, ?_⟩
  · rw [List.length_append, rep_len] at hi
    by_cases hi1 : i < text.length
    · rw [List.getElem?_append_left hi1, h1 i hi1]
    · rw [List.getElem?_append_right (by omega), rep_get hl _ _ (by omega)]
      have h4 := h2 ((i - text.length : Nat) : Int) (by omega)
      rw [signF_in (by have : ((i - text.length : Nat) : Int) < ((w.length * m.toNat : Nat) : Int) := by omega
                       rw [Int.natCast_mul] at this; omega)] at h4
      rw [h4]
      congr 2
      omega
  · rw [List.length_append, rep_len] at hl2
    have hmE : m = n := by
      rw [hm]
      split
      · rename_i hq
        exfalso
        rw [hm, if_pos hq] at hl2
        have e1 := Int.mul_ediv_add_emod ((size : Int) - text.length) w.length
        have e2 := Int.emod_lt_of_pos ((size : Int) - text.length) hlI
        have e3 : ((w.length * (((size : Int) - text.length) / w.length + 1).toNat : Nat) : Int) = w.length * (((size : Int) - text.length) / w.length) + w.length := by
          rw [Int.natCast_mul, Int.toNat_of_nonneg (by
            have := Int.ediv_nonneg (a := (size : Int) - text.length) (b := w.length) (by omega) (by omega)
            omega), Int.mul_add, Int.mul_one]
        omega
      · rfl
    rw [List.length_append, rep_len, Int.natCast_add, Int.natCast_mul, Int.toNat_of_nonneg hm0, hmE]
    have h4 := h2 (p + w.length * n) (by have := Int.mul_nonneg (a := (w.length : Int)) (b := n) (by omega) hn; omega)
    rw [signF_off hp] at h4
    rw [h4]
    congr 1
    omega
  · rw [List.length_append, rep_len]
    have e1 := Int.mul_ediv_add_emod ((size : Int) - text.length) w.length
    have e2 := Int.emod_nonneg ((size : Int) - text.length) (by omega : (w.length : Int) ≠ 0)
    have e3 : ((w.length * m.toNat : Nat) : Int) ≤ w.length * (((size : Int) - text.length) / w.length + 1) := by
      rw [Int.natCast_mul, Int.toNat_of_nonneg hm0]
      refine Int.mul_le_mul_of_nonneg_left ?_ (by omega)
      rw [hm]
      split <;> omega
    rw [Int.mul_add, Int.mul_one] at e3
    have := hw.2.1
    omega
theorem firstF_take {bl : Bl} {ring : List Nat} {size : Nat} {text : List Nat} (h1 : ∀ i, i < text.length → text[i]? = some (signF bl ring i)) (h2 : size ≤ text.length) : text.take size = firstF bl ring size := by
  apply List.ext_getElem?
  intro i
  unfold firstF
  rw [List.getElem?_take, List.getElem?_map]
  by_cases hi : i < size
  · rw [if_pos hi, h1 i (by omega), List.getElem?_range hi]
    rfl
  · rw [if_neg hi, List.getElem?_eq_none (by rw [List.length_range]; omega)]
    rfl
theorem begI.last {bl : Bl} {ring : List Nat} {size : Nat} {text : List Nat} (h : begI bl ring size [] text) (hr : okW ring) (hs : text.length < size) {m : Int} (hm : m = ((size : Int) - text.length) / ring.length + 1) :
    (∀ i, i < (text ++ (List.replicate m.toNat ring).flatten).length → (text ++ (List.replicate m.toNat ring).flatten)[i]? = some (signF bl ring i)) ∧ size ≤ (text ++ (List.replicate m.toNat ring).flatten).length ∧ (text ++ (List.replicate m.toNat ring).flatten).length ≤ size + 1000 := by
  obtain ⟨h1, h2, h3⟩ := h
  have h2 := h2 hs
  have hl : 0 < ring.length := List.length_pos_iff.mpr hr.1
  have hlI : (0 : Int) < ring.length := by omega
  have h0 := Int.ediv_nonneg (a := (size : Int) - text.length) (b := ring.length) (by omega) (by omega)
  have e1 := Int.mul_ediv_add_emod ((size : Int) - text.length) ring.length
  have e2 := Int.emod_lt_of_pos ((size : Int) - text.length) hlI
  have e4 := Int.emod_nonneg ((size : Int) - text.length) (by omega : (ring.length : Int) ≠ 0)
  have e3 : ((ring.length * m.toNat : Nat) : Int) = ring.length * (((size : Int) - text.length) / ring.length) + ring.length := by
    rw [Int.natCast_mul, hm, Int.toNat_of_nonneg (by omega), Int.mul_add, Int.mul_one]
  refine ⟨fun i hi => ?_, ?_, ?_⟩
  · rw [List.length_append, rep_len] at hi
    by_cases hi1 : i < text.length
    · rw [List.getElem?_append_left hi1, h1 i hi1]
    · rw [List.getElem?_append_right (by omega), rep_get hl _ _ (by omega)]
      have h4 := h2 ((i - text.length : Nat) : Int) (by omega)
      rw [signF_ring] at h4
      rw [h4]
      congr 2
      omega
  · rw [List.length_append, rep_len]; omega
  · rw [List.length_append, rep_len]; have := hr.2.1; omega

/-! ### what is told is what is due -/
def sameLeaf : D → Bool
  | .non => true
  | .bl _ => true
  | .int _ => true
  | .str x => D.cm (.str x)
  | _ => false
/-- depth at most n -/
def sameOk : Nat → D → Bool
  | 0, _ => false
  | n + 1, .lst xs => decide (xs.length ≤ 16777216) && xs.all (sameOk n)
  | n + 1, .tup xs => decide (xs.length ≤ 16777216) && xs.all (sameOk n)
  | _ + 1, d => sameLeaf d
def Sp__law_same (n : Nat) : SpN := match n with
  | 0 => fun _ _ => False
  | n + 1 => fun ds Ψ => ∃ d, ds = [d, d] ∧ sameOk (n + 1) d = true ∧ Ψ (.bl true) []
end Fw
namespace Fw
def Sp_law : SpN := fun ds Ψ => ∃ ns, ds = [.scr ns] ∧ Ψ (.bl true) []
end Fw
namespace Fw
theorem cpOk_app {a b : List Nat} : cpOk (a ++ b) = (cpOk a && cpOk b) := by unfold cpOk; rw [List.all_append]
theorem cpOk_one {c : Nat} : cpOk [c] = decide (c < 1114112) := by unfold cpOk; simp
theorem cpOk_take {a : List Nat} (n : Nat) (h : cpOk a = true) : cpOk (a.take n) = true := cpOk_iff.mpr fun c hc => cpOk_iff.mp h c (List.mem_of_mem_take hc)
theorem cpOk_drop {a : List Nat} (n : Nat) (h : cpOk a = true) : cpOk (a.drop n) = true := cpOk_iff.mpr fun c hc => cpOk_iff.mp h c (List.mem_of_mem_drop hc)
theorem put_len {a : List Nat} {n c : Nat} (h : n < a.length) : (a.take n ++ [c] ++ a.drop (n + 1)).length = a.length := by
  simp only [List.length_append, List.length_take, List.length_drop, List.length_cons, List.length_nil]
  omega
theorem put_cp {a : List Nat} {n c : Nat} (h : cpOk a = true) (hc : c < 1114112) : cpOk (a.take n ++ [c] ++ a.drop (n + 1)) = true := by
  rw [cpOk_app, cpOk_app, cpOk_take n h, cpOk_drop _ h, cpOk_one, decide_eq_true hc]
  rfl
end Fw
namespace Fw
open PySem L2
/-- the law's promise at its call -/
theorem law_sp {K : PySem.W.Frag} {H : Hp} {a : Addr} {ns : List Int} (hO : Only H) (hS : SqL K H a (ns.map V.int)) : spOf K [.z] .z (spN Sp_law) [.ref a] H (fun v _ => v = .bl true) fun _ _ _ => False := by
  have e : ∀ (j : Nat) (b : Addr), ¬ (fun (_ : Nat) (_ : Addr) => False) j b := fun _ _ h => h
  have hr : Rp K (av ⟨fun _ => False, fun _ => False, fun j v => ([V.ref a] : List V)[j]? = some v⟩ fun _ _ => False) H (.ref a) (.scr ns) := by
    rcases hS with h | h
    · rcases hO a with z | ⟨o, xs, z⟩
      · rcases h with h | ⟨o, h⟩ <;> rw [z] at h <;> cases h
      · rcases h with h | ⟨o', h⟩
        · rw [z] at h; cases h
        · exact .scr (fun q => q.elim id fun q => q.elim id fun ⟨_, q⟩ => q) (hc_frz.mpr h)
    · exact .scrK fun _ => .inr h
  refine ⟨fun _ => False, fun _ => False, fun _ _ => False, [.scr ns], fun d _ => d = .bl true, fun _ _ => False, ⟨rfl, rfl, fun _ _ _ h => h.elim, fun _ h => h.elim, fun _ h => h.elim, fun _ _ h => h.elim, fun _ _ h => h.elim, ?_⟩, ⟨ns, rfl, rfl⟩, ?_, ?_⟩
  · intro i k d h1 h2
    cases i with
    | zero =>
      have h1' : SK.z = k := by simpa using h1
      have h2' : D.scr ns = d := by simpa using h2
      subst h1' h2'
      exact ⟨.ref a, rfl, hr⟩
    | succ i => simp at h1
  · intro d ρ' Fs' v H' os f r ho p
    subst p
    have r2 : Rp K _ H' v (.bl true) := r.2
    cases r2
    rfl
  · intro x ρ' Fs' cls od H' os _ _ _ _ z
    exact z
end Fw

/-! Fp2: data that may be compared; a point behind some signs. -/
namespace Fw
open PySem L2

/-! ### data that may be compared, by depth -/
def cmL : D → Bool
  | .non => true
  | .bl _ => true
  | .int _ => true
  | .str x => D.cm (.str x)
  | _ => false
def cmN : Nat → D → Bool
  | 0, d => cmL d
  | n + 1, .lst xs => xs.all (cmN n)
  | n + 1, .tup xs => xs.all (cmN n)
  | _ + 1, d => cmL d
theorem cmN_ok : ∀ {n : Nat} {d : D}, cmN n d = true → d.ok = true ∧ PyData.canLay0 d.py = true ∧ PyData.depth d.py ≤ n := by
  have leaf : ∀ {d : D}, cmL d = true → d.ok = true ∧ PyData.canLay0 d.py = true ∧ PyData.depth d.py ≤ 0 := by
    intro d h
    cases d with
    | non => exact ⟨rfl, rfl, by simp [D.py, PyData.depth]⟩
    | bl _ => exact ⟨rfl, rfl, by simp [D.py, PyData.depth]⟩
    | int _ => exact ⟨rfl, rfl, by simp [D.py, PyData.depth]⟩
    | str x =>
      have h' : (D.ok (.str x) && SeqAt.shaped (D.py (.str x))) = true := h
      rw [Bool.and_eq_true] at h'
      have h2 : (PyData.canLay0 (D.py (.str x)) && decide (PyData.depth (D.py (.str x)) ≤ 64)) = true := h'.2
      rw [Bool.and_eq_true] at h2
      exact ⟨rfl, h2.1, by simp [D.py, PyData.depth]⟩
    | _ => cases h
  have all : ∀ {n : Nat} (ih : ∀ {d : D}, cmN n d = true → d.ok = true ∧ PyData.canLay0 d.py = true ∧ PyData.depth d.py ≤ n) (xs : List D), xs.all (cmN n) = true → D.okL xs = true ∧ PyData.canLayAll0 (D.pyL xs) = true ∧ PyData.depthAll (D.pyL xs) ≤ n := by
    intro n ih xs
    induction xs with
    | nil => intro _; exact ⟨rfl, by simp [D.pyL, PyData.canLayAll0], by simp [D.pyL, PyData.depthAll]⟩
    | cons x xs ih2 =>
      intro h
      rw [List.all_cons, Bool.and_eq_true] at h
      obtain ⟨a1, a2, a3⟩ := ih h.1
      obtain ⟨b1, b2, b3⟩ := ih2 h.2
      refine ⟨by rw [D.okL, a1, b1]; rfl, by rw [D.pyL, PyData.canLayAll0, a2, b2]; rfl, ?_⟩
      rw [D.pyL, PyData.depthAll]
      omega
  intro n
  induction n with
  | zero =>
    intro d h
    exact leaf h
  | succ n ih =>
    intro d h
    cases d with
    | lst xs =>
      obtain ⟨a1, a2, a3⟩ := all ih xs h
      refine ⟨by rw [D.ok]; exact a1, by rw [D.py, PyData.canLay0]; exact a2, ?_⟩
      rw [D.py, PyData.depth]
      omega
    | tup xs =>
      obtain ⟨a1, a2, a3⟩ := all ih xs h
      refine ⟨by rw [D.ok]; exact a1, by rw [D.py, PyData.canLay0]; exact a2, ?_⟩
      rw [D.py, PyData.depth]
      omega
    | _ =>
      obtain ⟨a1, a2, a3⟩ := leaf h
      exact ⟨a1, a2, by omega⟩
theorem cm_of {n : Nat} {d : D} (hn : n ≤ 64) (h : cmN n d = true) : d.cm = true := by
  obtain ⟨a1, a2, a3⟩ := cmN_ok h
  show (d.ok && (PyData.canLay0 d.py && decide (PyData.depth d.py ≤ 64))) = true
  rw [a1, a2, decide_eq_true (by omega)]
  rfl
theorem cmN_tx {a : List Nat} (n : Nat) (h : cpOk a = true) : cmN n (.str (tx a)) = true := by
  cases n <;> (show D.cm (.str (tx a)) = true; rw [cm_tx]; exact h)
theorem cmN_int (n : Nat) (i : Int) : cmN n (.int i) = true := by cases n <;> rfl
theorem cmN_bl (n : Nat) (i : Bool) : cmN n (.bl i) = true := by cases n <;> rfl
theorem cmN_non (n : Nat) : cmN n .non = true := by cases n <;> rfl
theorem cmN_lst {n : Nat} {xs : List D} (h : ∀ x ∈ xs, cmN n x = true) : cmN (n + 1) (.lst xs) = true := List.all_eq_true.mpr h
theorem cmN_tup {n : Nat} {xs : List D} (h : ∀ x ∈ xs, cmN n x = true) : cmN (n + 1) (.tup xs) = true := List.all_eq_true.mpr h
theorem deq_lst_nil {xs : List D} : deq (.lst xs) (.lst []) = xs.isEmpty := by
  cases xs with
  | nil => simp [deq, D.py, D.pyL, PyData.eqv, PyData.eqvAll]
  | cons x xs => simp [deq, D.py, D.pyL, PyData.eqv, PyData.eqvAll]
theorem deq_tup_nil {xs : List D} : deq (.tup xs) (.tup []) = xs.isEmpty := by
  cases xs with
  | nil => simp [deq, D.py, D.pyL, PyData.eqv, PyData.eqvAll]
  | cons x xs => simp [deq, D.py, D.pyL, PyData.eqv, PyData.eqvAll]
theorem cm_lst_nil : D.cm (.lst []) = true := cm_of (n := 1) (by decide) rfl
theorem cm_tup_nil : D.cm (.tup []) = true := cm_of (n := 1) (by decide) rfl
theorem cmN_bl_ {bl : Bl} (h : okB bl) : ∀ x ∈ blD bl, cmN 1 x = true := fun x hx => by
  unfold blD at hx
  rw [List.mem_map] at hx
  obtain ⟨b, hb, rfl⟩ := hx
  refine cmN_tup fun x hx => ?_
  simp only [List.mem_cons, List.not_mem_nil, or_false] at hx
  rcases hx with rfl | rfl
  · exact cmN_tx _ (h b hb).1.2.2
  · exact cmN_int _ _
theorem cm_blL {bl : Bl} (h : okB bl) : D.cm (.lst (blD bl)) = true := cm_of (n := 2) (by decide) (cmN_lst (cmN_bl_ h))
theorem cm_blT {bl : Bl} (h : okB bl) : D.cm (.tup (blD bl)) = true := cm_of (n := 2) (by decide) (cmN_tup (cmN_bl_ h))
theorem dNe_blL {bl : Bl} {Ψ : D → Prop} (h : okB bl) : dNe (.lst (blD bl)) (.lst []) Ψ = Ψ (.bl (!bl.isEmpty)) := by
  unfold dNe
  rw [cm_blL h, cm_lst_nil, deq_lst_nil]
  simp [blD]
theorem dNe_blT {bl : Bl} {Ψ : D → Prop} (h : okB bl) : dNe (.tup (blD bl)) (.tup []) Ψ = Ψ (.bl (!bl.isEmpty)) := by
  unfold dNe
  rw [cm_blT h, cm_tup_nil, deq_tup_nil]
  simp [blD]

/-! ### a point behind some signs -/
/-- each block once at least -/
def onB (bl : Bl) : Prop := ∀ b ∈ bl, 1 ≤ b.2
theorem signF_cons {w : List Nat} {n : Int} {r : Bl} {ring : List Nat} {p : Int} : signF ((w, n) :: r) ring p = if p < w.length * n then w.getD (p % w.length).toNat 0 else signF r ring (p - w.length * n) := rfl
theorem signF_zero {w : List Nat} {r : Bl} {ring : List Nat} {p : Int} (h : 0 ≤ p) : signF ((w, 0) :: r) ring p = signF r ring p := by
  rw [signF_cons, if_neg (by omega), Int.mul_zero, Int.sub_zero]
/-- whole words off -/
theorem signF_rows {w : List Nat} {n m : Int} {r : Bl} {ring : List Nat} {p : Int} (h : 0 ≤ p) (hw : 0 < w.length) (hm : 0 ≤ m) : signF ((w, n) :: r) ring (p + w.length * m) = signF ((w, n - m) :: r) ring p := by
  rw [signF_cons, signF_cons, Int.add_mul_emod_self_left, Int.mul_sub]
  by_cases h1 : p < w.length * n - w.length * m
  · rw [if_pos h1, if_pos (by omega)]
  · rw [if_neg h1, if_neg (by omega)]
    congr 1
    omega
/-- a part of a word off -/
theorem signF_part {w : List Nat} {n : Int} {r : Bl} {ring : List Nat} {p : Int} {off : Nat} (h : 0 ≤ p) (h1 : off < w.length) (hn : 1 ≤ n) : signF ((w, n) :: r) ring (p + off) = signF ((w.drop off, 1) :: (w, n - 1) :: r) ring p := by
  have hl : (w.drop off).length = w.length - off := List.length_drop
  rw [signF_cons (w := w.drop off), hl, Int.mul_one]
  by_cases h2 : p < ((w.length - off : Nat) : Int)
  · rw [if_pos h2, signF_cons]
    have h3 : (w.length : Int) * 1 ≤ w.length * n := Int.mul_le_mul_of_nonneg_left hn (by omega)
    rw [if_pos (by omega), Int.emod_eq_of_lt (by omega) (by omega), Int.emod_eq_of_lt h (by omega)]
    rw [List.getD_eq_getElem?_getD, List.getD_eq_getElem?_getD, List.getElem?_drop]
    congr 2
    omega
  · rw [if_neg h2]
    have h4 := @signF_rows w n 1 r ring (p - ((w.length - off : Nat) : Int)) (by omega) (by omega) (by omega)
    rw [← h4]
    congr 1
    omega
theorem signF_turn {ring : List Nat} {size : Int} {q : Int} (hr : 0 < ring.length) (h0 : 0 ≤ q) : signF [] (ring.drop (size % ring.length).toNat ++ ring.take (size % ring.length).toNat) q = signF [] ring (q + size) := by
  have e0 := Int.emod_nonneg size (by omega : (ring.length : Int) ≠ 0)
  have e1 := Int.emod_lt_of_pos size (by omega : (0 : Int) < ring.length)
  generalize ht : (size % ring.length).toNat = t
  have ht2 : size % ring.length = (t : Int) := by omega
  have hl : (ring.drop t ++ ring.take t).length = ring.length := by
    rw [List.length_append, List.length_drop, List.length_take]
    omega
  show (ring.drop t ++ ring.take t).getD (q % (ring.drop t ++ ring.take t).length).toNat 0 = ring.getD ((q + size) % ring.length).toNat 0
  rw [hl, Int.add_emod, ht2]
  have f0 := Int.emod_nonneg q (by omega : (ring.length : Int) ≠ 0)
  have f1 := Int.emod_lt_of_pos q (by omega : (0 : Int) < ring.length)
  generalize q % ring.length = u at *
  rw [List.getD_eq_getElem?_getD, List.getD_eq_getElem?_getD]
  congr 1
  by_cases h : u.toNat < ring.length - t
  · rw [List.getElem?_append_left (by rw [List.length_drop]; exact h), List.getElem?_drop, Int.emod_eq_of_lt (by omega) (by omega)]
    congr 1
    omega
  · rw [List.getElem?_append_right (by rw [List.length_drop]; omega), List.length_drop, List.getElem?_take, if_pos (by omega)]
    have : (u + t) % (ring.length : Int) = u + t - ring.length := by
      rw [show u + t = (u + t - ring.length) + ring.length by omega, Int.add_emod_right, Int.emod_eq_of_lt (by omega) (by omega)]
      omega
    rw [this]
    congr 1
    omega
def lessP (bl : Bl) (ring : List Nat) (size : Int) (bl' : Bl) (ring' : List Nat) : Prop := okB bl' ∧ onB bl' ∧ bl'.length ≤ bl.length + 1 ∧ okW ring' ∧ ring'.length = ring.length ∧ (isW ring → isW ring') ∧ ∀ q : Int, 0 ≤ q → signF bl' ring' q = signF bl ring (q + size)
def Sp__law_less : SpN := fun ds Ψ => ∃ bl ring l, ∃ size : Int, ds = [ptD l bl ring, .int size] ∧ okP bl ring ∧ onB bl ∧ 0 ≤ size ∧ ∀ bl' ring', lessP bl ring size bl' ring' → Ψ (ptD false bl' ring') []
end Fw
namespace Fw
open PySem L2
theorem dList_bD {l : Bool} {bl : Bl} {Ψ : D → Prop} : dList (bD l bl) Ψ = Ψ (.lst (blD bl)) := by cases l <;> rfl
end Fw
namespace Fw
open PySem L2
theorem blD_cons {w : List Nat} {n : Int} {r : Bl} : blD ((w, n) :: r) = .tup [.str (tx w), .int n] :: blD r := rfl
theorem blD_nil : blD [] = [] := rfl
theorem blD_len {bl : Bl} : (blD bl).length = bl.length := by unfold blD; rw [List.length_map]
theorem signF_zero2 {v w : List Nat} {n : Int} {r : Bl} {ring : List Nat} {p : Int} : signF ((v, n) :: (w, 0) :: r) ring p = signF ((v, n) :: r) ring p := by
  rw [signF_cons, @signF_cons v n r]
  split
  · rfl
  · exact signF_zero (by omega)
/-- the block in which size ends, and what is behind it -/
theorem less_cut {w : List Nat} {n size : Int} {r : Bl} {ring : List Nat} (hw : okW w) (hn : 1 ≤ n) (hn2 : n.natAbs < 2 ^ 1000) (h0 : 0 ≤ size) (h1 : size < w.length * n) :
    0 ≤ size / w.length ∧ size / w.length < n ∧ 0 ≤ size % w.length ∧ size % w.length < w.length ∧
    (¬ 0 < size % w.length → ∀ q : Int, 0 ≤ q → signF ((w, n - size / w.length) :: r) ring q = signF ((w, n) :: r) ring (q + size)) ∧
    (0 < size % w.length → 1 < n - size / w.length → ∀ q : Int, 0 ≤ q → signF ((w.drop (size % w.length).toNat, 1) :: (w, n - size / w.length - 1) :: r) ring q = signF ((w, n) :: r) ring (q + size)) ∧
    (0 < size % w.length → ¬ 1 < n - size / w.length → ∀ q : Int, 0 ≤ q → signF ((w.drop (size % w.length).toNat, 1) :: r) ring q = signF ((w, n) :: r) ring (q + size)) := by
  have hl : 0 < w.length := List.length_pos_iff.mpr hw.1
  have hlI : (0 : Int) < w.length := by omega
  have e0 := Int.ediv_nonneg h0 (Int.le_of_lt hlI)
  have e1 := Int.emod_nonneg size (by omega : (w.length : Int) ≠ 0)
  have e2 := Int.emod_lt_of_pos size hlI
  have e3 := Int.mul_ediv_add_emod size w.length
  have e4 : size / w.length < n := Int.ediv_lt_of_lt_mul hlI (by rw [Int.mul_comm]; exact h1)
  have key : ∀ q : Int, 0 ≤ q → signF ((w, n) :: r) ring (q + size) = signF ((w, n - size / w.length) :: r) ring (q + size % w.length) := fun q hq => by
    rw [← signF_rows (by omega) hl e0]
    congr 1
    omega
  refine ⟨e0, e4, e1, e2, fun h q hq => ?_, fun h h2 q hq => ?_, fun h h2 q hq => ?_⟩
  · rw [key q hq, show size % w.length = 0 by omega, Int.add_zero]
  · have := @signF_part w (n - size / w.length) r ring q (size % w.length).toNat hq (by omega) (by omega)
    rw [key q hq, ← this]
    congr 1
    omega
  · have := @signF_part w (n - size / w.length) r ring q (size % w.length).toNat hq (by omega) (by omega)
    rw [show n - size / w.length - 1 = 0 by omega, signF_zero2] at this
    rw [key q hq, ← this]
    congr 1
    omega
theorem okW_drop {w : List Nat} {k : Nat} (h : okW w) (hk : k < w.length) : okW (w.drop k) := ⟨fun e => by
  have := congrArg List.length e
  rw [List.length_drop] at this
  simp at this
  omega, by rw [List.length_drop]; have := h.2.1; omega, cpOk_drop _ h.2.2⟩
theorem okB_cons {w : List Nat} {n : Int} {r : Bl} (h1 : okW w) (h2 : 0 ≤ n) (h3 : n.natAbs < 2 ^ 1000) (h : okB r) : okB ((w, n) :: r) := fun b hb => by
  cases hb with
  | head => exact ⟨h1, h2, h3⟩
  | tail _ hb => exact h b hb
theorem onB_cons {w : List Nat} {n : Int} {r : Bl} (h1 : 1 ≤ n) (h : onB r) : onB ((w, n) :: r) := fun b hb => by
  cases hb with
  | head => exact h1
  | tail _ hb => exact h b hb
end Fw
namespace Fw
open PySem L2
theorem less_end {bl bl' : Bl} {ring : List Nat} {size size' : Int} (hr : okW ring) (hs0 : 0 ≤ size') (hB : okB bl') (hOn : onB bl') (hlen : bl'.length ≤ bl.length + 1)
    (hsg : ∀ q : Int, 0 ≤ q → signF bl' ring (q + size') = signF bl ring (q + size)) (hend : bl' = [] ∨ size' = 0) : lessP bl ring size bl' (ring.drop (size' % ring.length).toNat ++ ring.take (size' % ring.length).toNat) := by
  have hl : 0 < ring.length := List.length_pos_iff.mpr hr.1
  have e0 := Int.emod_nonneg size' (by omega : (ring.length : Int) ≠ 0)
  have e1 := Int.emod_lt_of_pos size' (by omega : (0 : Int) < ring.length)
  have hlen2 : (ring.drop (size' % ring.length).toNat ++ ring.take (size' % ring.length).toNat).length = ring.length := by
    rw [List.length_append, List.length_drop, List.length_take]
    omega
  refine ⟨hB, hOn, hlen, ⟨fun e => ?_, by rw [hlen2]; exact hr.2.1, ?_⟩, hlen2, fun h => (h.drop _).append (h.take _), fun q hq => ?_⟩
  · rw [e] at hlen2
    simp at hlen2
    omega
  · rw [cpOk_app, cpOk_drop _ hr.2.2, cpOk_take _ hr.2.2]
    rfl
  · rcases hend with e | e
    · subst e
      rw [signF_turn hl hq, hsg q hq]
    · subst e
      rw [Int.zero_emod, show Int.toNat 0 = 0 from rfl, List.drop_zero, List.take_zero, List.append_nil]
      have := hsg q hq
      rw [Int.add_zero] at this
      exact this
end Fw
namespace Fw
open PySem L2
theorem signF_zero_ring {ring : List Nat} (h : 0 < ring.length) : ring[0]? = some (signF [] ring 0) := by
  show ring[0]? = some (ring.getD ((0 : Int) % ring.length).toNat 0)
  rw [Int.zero_emod, show Int.toNat 0 = 0 from rfl, List.getD_eq_getElem?_getD, List.getElem?_eq_getElem h]
  rfl
theorem signF_zero_word {w : List Nat} {n : Int} {r : Bl} {ring : List Nat} (h : 0 < w.length) (hn : 1 ≤ n) : w[0]? = some (signF ((w, n) :: r) ring 0) := by
  have h3 : (w.length : Int) * 1 ≤ w.length * n := Int.mul_le_mul_of_nonneg_left hn (by omega)
  rw [signF_cons, if_pos (by omega), Int.zero_emod, show Int.toNat 0 = 0 from rfl, List.getD_eq_getElem?_getD, List.getElem?_eq_getElem h]
  rfl
theorem drP.on {g : Int} {bl : Bl} {ring : List Nat} (h : drP g bl ring) : onB bl := fun b hb => (h.2.1 b hb).2.2.2.1
theorem same_tx {n : Nat} {w : List Nat} (h : cpOk w = true) : sameOk (n + 1) (.str (tx w)) = true := by
  show D.cm (.str (tx w)) = true
  rw [cm_tx]
  exact h
end Fw

/-! Fp3: readers of points; the first unlike signs. -/
namespace Fw
open PySem L2

/-! ### Reader: attributes -/
def F_Reader (x0 x1 x2 : D) : List (Str × D) := [(("rows" : Str), x0), (("at" : Str), x1), (("off" : Str), x2)]
section
variable {x0 x1 x2 d : D} {g : Str}
theorem F_Reader_rows : (F_Reader x0 x1 x2).lookup ("rows" : Str) = some x0 := by
  unfold F_Reader
  rw [look_cons, if_pos rfl]
theorem F_Reader_put_rows : dputF ("rows" : Str) d (F_Reader x0 x1 x2) = F_Reader d x1 x2 := by
  unfold F_Reader
  rw [dput_cons, if_pos rfl]
  try rfl
theorem F_Reader_ini_rows : dputF ("rows" : Str) d [] = [(("rows" : Str), d)] := by
  rw [dput_nil]
  try rfl
theorem F_Reader_at : (F_Reader x0 x1 x2).lookup ("at" : Str) = some x1 := by
  unfold F_Reader
  rw [look_cons, if_neg (by decide +kernel : ¬ ("at" : Str) = ("rows" : Str))]
  rw [look_cons, if_pos rfl]
theorem F_Reader_put_at : dputF ("at" : Str) d (F_Reader x0 x1 x2) = F_Reader x0 d x2 := by
  unfold F_Reader
  rw [dput_cons, if_neg (by decide +kernel : ¬ ("rows" : Str) = ("at" : Str))]
  rw [dput_cons, if_pos rfl]
  try rfl
theorem F_Reader_ini_at : dputF ("at" : Str) d [(("rows" : Str), x0)] = [(("rows" : Str), x0), (("at" : Str), d)] := by
  rw [dput_cons, if_neg (by decide +kernel : ¬ ("rows" : Str) = ("at" : Str))]
  rw [dput_nil]
  try rfl
theorem F_Reader_off : (F_Reader x0 x1 x2).lookup ("off" : Str) = some x2 := by
  unfold F_Reader
  rw [look_cons, if_neg (by decide +kernel : ¬ ("off" : Str) = ("rows" : Str))]
  rw [look_cons, if_neg (by decide +kernel : ¬ ("off" : Str) = ("at" : Str))]
  rw [look_cons, if_pos rfl]
theorem F_Reader_put_off : dputF ("off" : Str) d (F_Reader x0 x1 x2) = F_Reader x0 x1 d := by
  unfold F_Reader
  rw [dput_cons, if_neg (by decide +kernel : ¬ ("rows" : Str) = ("off" : Str))]
  rw [dput_cons, if_neg (by decide +kernel : ¬ ("at" : Str) = ("off" : Str))]
  rw [dput_cons, if_pos rfl]
  try rfl
theorem F_Reader_ini_off : dputF ("off" : Str) d [(("rows" : Str), x0), (("at" : Str), x1)] = F_Reader x0 x1 d := by
  rw [dput_cons, if_neg (by decide +kernel : ¬ ("rows" : Str) = ("off" : Str))]
  rw [dput_cons, if_neg (by decide +kernel : ¬ ("at" : Str) = ("off" : Str))]
  rw [dput_nil]
  try rfl
theorem F_Reader_m_shown : (F_Reader x0 x1 x2).lookup ("shown" : Str) = none := by
  unfold F_Reader
  rw [look_cons, if_neg (by decide +kernel : ¬ ("shown" : Str) = ("rows" : Str))]
  rw [look_cons, if_neg (by decide +kernel : ¬ ("shown" : Str) = ("at" : Str))]
  rw [look_cons, if_neg (by decide +kernel : ¬ ("shown" : Str) = ("off" : Str))]
  rfl
theorem F_Reader_m_left : (F_Reader x0 x1 x2).lookup ("left" : Str) = none := by
  unfold F_Reader
  rw [look_cons, if_neg (by decide +kernel : ¬ ("left" : Str) = ("rows" : Str))]
  rw [look_cons, if_neg (by decide +kernel : ¬ ("left" : Str) = ("at" : Str))]
  rw [look_cons, if_neg (by decide +kernel : ¬ ("left" : Str) = ("off" : Str))]
  rfl
theorem F_Reader_m_sign : (F_Reader x0 x1 x2).lookup ("sign" : Str) = none := by
  unfold F_Reader
  rw [look_cons, if_neg (by decide +kernel : ¬ ("sign" : Str) = ("rows" : Str))]
  rw [look_cons, if_neg (by decide +kernel : ¬ ("sign" : Str) = ("at" : Str))]
  rw [look_cons, if_neg (by decide +kernel : ¬ ("sign" : Str) = ("off" : Str))]
  rfl
theorem F_Reader_m_go : (F_Reader x0 x1 x2).lookup ("go" : Str) = none := by
  unfold F_Reader
  rw [look_cons, if_neg (by decide +kernel : ¬ ("go" : Str) = ("rows" : Str))]
  rw [look_cons, if_neg (by decide +kernel : ¬ ("go" : Str) = ("at" : Str))]
  rw [look_cons, if_neg (by decide +kernel : ¬ ("go" : Str) = ("off" : Str))]
  rfl
theorem F_Reader_len : (F_Reader x0 x1 x2).length = 3 := rfl
end
def rdD (C : Addr) (bl : Bl) (ring : List Nat) (a : Nat) (x : Int) : D := .ins C (F_Reader (.lst (strD bl ring)) (.int a) (.int x))
def curW (bl : Bl) (ring : List Nat) (a : Nat) : List Nat := match bl[a]? with
  | some b => b.1
  | none => ring
/-- what is left of the run, none: the ring -/
def curL (bl : Bl) (a : Nat) (x : Int) : Option Int := match bl[a]? with
  | some b => some (b.1.length * b.2 - x)
  | none => none
def optD : Option Int → D
  | some i => .int i
  | none => .non
def rdOk (bl : Bl) (ring : List Nat) (a : Nat) (x : Int) : Prop := okP bl ring ∧ a ≤ bl.length ∧ 0 ≤ x ∧ ∀ b, bl[a]? = some b → x ≤ b.1.length * b.2
def Sp_Reader___init__ (C : Addr) : SpN := fun ds Ψ => ∃ bl ring l, ds = [.ins C [], ptD l bl ring] ∧ okP bl ring ∧ Ψ .non [rdD C bl ring 0 0]
def Sp_Reader_shown (C : Addr) : SpN := fun ds Ψ => ∃ bl ring a x, ds = [rdD C bl ring a x] ∧ rdOk bl ring a x ∧ Ψ (.str (tx (curW bl ring a))) []
def Sp_Reader_left (C : Addr) : SpN := fun ds Ψ => ∃ bl ring a x, ds = [rdD C bl ring a x] ∧ rdOk bl ring a x ∧ Ψ (optD (curL bl a x)) []
def Sp_Reader_sign (C : Addr) : SpN := fun ds Ψ => ∃ bl ring a x, ∃ k : Int, ds = [rdD C bl ring a x, .int k] ∧ rdOk bl ring a x ∧ 0 ≤ k ∧ Ψ (.str (tx [(curW bl ring a).getD ((x + k) % (curW bl ring a).length).toNat 0])) []
def goA (bl : Bl) (a : Nat) (x k : Int) : Nat := if curL bl a (x + k) = some 0 then a + 1 else a
def goX (bl : Bl) (a : Nat) (x k : Int) : Int := if curL bl a (x + k) = some 0 then 0 else x + k
def Sp_Reader_go (C : Addr) : SpN := fun ds Ψ => ∃ bl ring a x, ∃ k : Int, ds = [rdD C bl ring a x, .int k] ∧ rdOk bl ring a x ∧ 0 ≤ k ∧ rdOk bl ring a (x + k) ∧ Ψ .non [rdD C bl ring (goA bl a x k) (goX bl a x k)]
def leastL (u v : Option Int) : Option Int := match u, v with
  | none, w => w
  | w, none => w
  | some i, some j => some (if j < i then j else i)
def Sp_least_left : SpN := fun ds Ψ => ∃ u v : Option Int, ds = [optD u, optD v] ∧ Ψ (optD (leastL u v)) []
theorem leastL_none {u v : Option Int} (h : leastL u v = none) : u = none ∧ v = none := by
  cases u <;> cases v <;> simp [leastL] at h ⊢
theorem leastL_some {u v : Option Int} {i : Int} (h : leastL u v = some i) (hu : ∀ x, u = some x → 0 ≤ x) (hv : ∀ x, v = some x → 0 ≤ x) : 0 ≤ i ∧ (∀ x, u = some x → i ≤ x) ∧ (∀ x, v = some x → i ≤ x) ∧ (u = some i ∨ v = some i) := by
  cases u with
  | none =>
    cases v with
    | none => cases h
    | some y =>
      have h' : some y = some i := h
      cases h'
      exact ⟨hv _ rfl, (fun x z => by cases z), (fun x z => by cases z; exact Int.le_refl _), .inr rfl⟩
  | some x =>
    cases v with
    | none =>
      have h' : some x = some i := h
      cases h'
      exact ⟨hu _ rfl, (fun x z => by cases z; exact Int.le_refl _), (fun x z => by cases z), .inl rfl⟩
    | some y =>
      have h' : some (if y < x then y else x) = some i := h
      have h2 := Option.some.inj h'
      have a1 := hu _ rfl
      have a2 := hv _ rfl
      by_cases c : y < x
      · rw [if_pos c] at h2
        subst h2
        exact ⟨a2, (fun w z => by cases z; omega), (fun w z => by cases z; omega), .inr rfl⟩
      · rw [if_neg c] at h2
        subst h2
        exact ⟨a1, (fun w z => by cases z; omega), (fun w z => by cases z; omega), .inl rfl⟩
/-- the first unlike signs of two points -/
def unlP (S T : Int → Nat) (r : Option (Nat × Nat)) : Prop := match r with
  | none => ∀ p, 0 ≤ p → S p = T p
  | some (c, d) => c ≠ d ∧ ∃ p, 0 ≤ p ∧ c = S p ∧ d = T p ∧ ∀ q, 0 ≤ q → q < p → S q = T q
def unlD : Option (Nat × Nat) → D
  | none => .non
  | some (c, d) => .tup [.str (tx [c]), .str (tx [d])]
def Sp_first_unlike : SpN := fun ds Ψ => ∃ bl ring l bl' ring' l', ds = [ptD l bl ring, ptD l' bl' ring'] ∧ okP bl ring ∧ okP bl' ring' ∧ ∀ r, unlP (signF bl ring) (signF bl' ring') r → Ψ (unlD r) []
def Sp_alike : SpN := fun ds Ψ => ∃ bl ring l bl' ring' l', ds = [ptD l bl ring, ptD l' bl' ring'] ∧ okP bl ring ∧ okP bl' ring' ∧ ∀ b : Bool, (b = true ↔ ∀ p, 0 ≤ p → signF bl ring p = signF bl' ring' p) → Ψ (.bl b) []
/-- two rows of signs, each of a period, alike so far as both periods together: alike -/
theorem two_periods {S T : Nat → Nat} {u v n : Nat} (hu : 0 < u) (hv : 0 < v) (hS : ∀ i, i + u < n → S (i + u) = S i) (hT : ∀ i, i + v < n → T (i + v) = T i) (h : ∀ i, i < u + v → i < n → S i = T i) : ∀ i, i < n → S i = T i := by
  intro i
  induction i using Nat.strongRecOn with
  | _ i ih =>
    intro hi
    by_cases hs : i < u + v
    · exact h i hs hi
    · have a1 := hS (i - u) (by omega)
      have a2 := hT (i - u - v) (by omega)
      have a3 := hS (i - v - u) (by omega)
      have a4 := hT (i - v) (by omega)
      have b1 := ih (i - u) (by omega) (by omega)
      have b2 := ih (i - u - v) (by omega) (by omega)
      have b3 := ih (i - v) (by omega) (by omega)
      rw [show i - u + u = i by omega] at a1
      rw [show i - u - v + v = i - u by omega] at a2
      rw [show i - v - u + u = i - v by omega] at a3
      rw [show i - v + v = i by omega] at a4
      rw [a1, b1, a2, ← b2, show i - u - v = i - v - u by omega, ← a3, b3, ← a4]
theorem strD_at {bl : Bl} {ring : List Nat} {a : Nat} (h : a ≤ bl.length) : atI (strD bl ring) (a : Int) = some (.tup [.str (tx (curW bl ring a)), match bl[a]? with | some b => .int (b.1.length * b.2) | none => .non]) := by
  rw [atI_natE]
  unfold strD curW
  by_cases hl : a < bl.length
  · rw [List.getElem?_append_left (by rw [List.length_map]; exact hl), List.getElem?_map, List.getElem?_eq_getElem hl]
    rfl
  · have e : a = bl.length := by omega
    rw [List.getElem?_append_right (by rw [List.length_map]; omega), List.length_map, List.getElem?_eq_none (by omega : bl.length ≤ a), e, Nat.sub_self]
    rfl
theorem dEq_non_int {i : Int} {Ψ : D → Prop} : dEq .non (.int i) Ψ = Ψ (.bl false) := by
  unfold dEq
  rw [show D.cm .non = true from rfl, show D.cm (.int i) = true from rfl, show deq .non (.int i) = false from rfl]
  simp
theorem curW_ok {bl : Bl} {ring : List Nat} {a : Nat} (h : okP bl ring) : okW (curW bl ring a) := by
  unfold curW
  split
  · rename_i b e
    exact (h.2.1 b (List.mem_of_getElem? e)).1
  · exact h.2.2
end Fw
namespace Fw
open PySem L2
/-- a reader stands P signs behind the front -/
structure RdAt (bl : Bl) (ring : List Nat) (a : Nat) (x P : Int) : Prop where
  ok : rdOk bl ring a x
  p0 : 0 ≤ P
  sg : ∀ q : Int, 0 ≤ q → signF (bl.drop a) ring (x + q) = signF bl ring (P + q)
/-- the signs of the run -/
def cs (bl : Bl) (ring : List Nat) (a : Nat) (x k : Int) : Nat := (curW bl ring a).getD ((x + k) % (curW bl ring a).length).toNat 0
theorem curL_some {bl : Bl} {a : Nat} {x l : Int} (h : curL bl a x = some l) : ∃ w n, bl[a]? = some (w, n) ∧ l = w.length * n - x ∧ bl.drop a = (w, n) :: bl.drop (a + 1) := by
  unfold curL at h
  split at h
  · rename_i b e
    have hl : a < bl.length := (List.getElem?_eq_some_iff.mp e).1
    refine ⟨b.1, b.2, e, by simpa using h.symm, ?_⟩
    rw [List.drop_eq_getElem_cons hl]
    congr 1
    rw [List.getElem?_eq_getElem hl] at e
    simpa using e
  · cases h
theorem curL_none {bl : Bl} {a : Nat} {x : Int} (h : curL bl a x = none) : bl[a]? = none ∧ bl.drop a = [] := by
  unfold curL at h
  split at h
  · cases h
  · rename_i e
    exact ⟨e, List.drop_eq_nil_of_le (by simpa using e)⟩
theorem RdAt.here {bl : Bl} {ring : List Nat} {a : Nat} {x P k : Int} (h : RdAt bl ring a x P) (hk : 0 ≤ k) (hl : ∀ l, curL bl a x = some l → k < l) : signF bl ring (P + k) = cs bl ring a x k := by
  rw [← h.sg k hk]
  unfold cs curW
  cases e : curL bl a x with
  | some l =>
    obtain ⟨w, n, e1, e2, e3⟩ := curL_some e
    have := hl l e
    rw [e3, signF_cons, if_pos (by omega), e1]
  | none =>
    obtain ⟨e1, e2⟩ := curL_none e
    rw [e2, e1]
    rfl
theorem RdAt.go {bl : Bl} {ring : List Nat} {a : Nat} {x P k : Int} (h : RdAt bl ring a x P) (hk : 0 ≤ k) (hl : ∀ l, curL bl a x = some l → k ≤ l) : rdOk bl ring a (x + k) ∧ RdAt bl ring (goA bl a x k) (goX bl a x k) (P + k) := by
  have ok2 : rdOk bl ring a (x + k) := by
    refine ⟨h.ok.1, h.ok.2.1, by have := h.ok.2.2.1; omega, fun b hb => ?_⟩
    have e : curL bl a x = some (b.1.length * b.2 - x) := by unfold curL; rw [hb]
    have := hl _ e
    omega
  refine ⟨ok2, ?_⟩
  unfold goA goX
  by_cases h0 : curL bl a (x + k) = some 0
  · rw [if_pos h0, if_pos h0]
    obtain ⟨w, n, e1, e2, e3⟩ := curL_some h0
    have hal : a < bl.length := (List.getElem?_eq_some_iff.mp e1).1
    refine ⟨⟨h.ok.1, hal, Int.le_refl _, fun b hb => ?_⟩, by have := h.p0; omega, fun q hq => ?_⟩
    · obtain ⟨b1, b2, _⟩ := h.ok.1.2.1 b (List.mem_of_getElem? hb)
      exact Int.mul_nonneg (by omega) b2
    · have h2 := h.sg (k + q) (by omega)
      rw [e3, show x + (k + q) = q + w.length * n by omega, signF_off hq] at h2
      rw [Int.zero_add, h2]
      congr 1
      omega
  · rw [if_neg h0, if_neg h0]
    refine ⟨ok2, by have := h.p0; omega, fun q hq => ?_⟩
    rw [show x + k + q = x + (k + q) by omega, h.sg (k + q) (by omega)]
    congr 1
    omega
theorem cs_period {bl : Bl} {ring : List Nat} {a : Nat} {x : Int} (i : Nat) : cs bl ring a x ((i + (curW bl ring a).length : Nat) : Int) = cs bl ring a x (i : Int) := by
  unfold cs
  rw [Int.natCast_add, ← Int.add_assoc, Int.add_emod_right]
/-- so far as both words together: alike so far as both runs go -/
theorem runs_alike {bl bl' : Bl} {ring ring' : List Nat} {a a' : Nat} {x x' : Int} (hP : okP bl ring) (hP' : okP bl' ring') (h : ∀ i : Nat, i < (curW bl ring a).length + (curW bl' ring' a').length → cs bl ring a x i = cs bl' ring' a' x' i) (i : Nat) :
    cs bl ring a x i = cs bl' ring' a' x' i := by
  have h0 := List.length_pos_iff.mpr (curW_ok (a := a) hP).1
  have h1 := List.length_pos_iff.mpr (curW_ok (a := a') hP').1
  exact two_periods (S := fun i => cs bl ring a x (i : Nat)) (T := fun i => cs bl' ring' a' x' (i : Nat)) (n := i + 1) h0 h1 (fun i _ => cs_period i) (fun i _ => cs_period i) (fun i hi _ => h i hi) i (Nat.lt_succ_self i)
theorem cs_cp {bl : Bl} {ring : List Nat} {a : Nat} {x k : Int} (h : okP bl ring) : cs bl ring a x k < 1114112 := cp_getD (curW_ok h).2.2 _
theorem RdAt.left0 {bl : Bl} {ring : List Nat} {a : Nat} {x P : Int} (h : RdAt bl ring a x P) : ∀ u, curL bl a x = some u → 0 ≤ u := fun u hu => by
  obtain ⟨w, n, e1, e2, _⟩ := curL_some hu
  have := h.ok.2.2.2 _ e1
  have e3 : ((w, n).1.length : Int) * (w, n).2 = w.length * n := rfl
  omega
end Fw
namespace Fw
open PySem L2
def reachN (st : Option Int) (R : Nat) : Int := match st with
  | none => R
  | some i => if (R : Int) < i then R else i
theorem curL_go {bl : Bl} {a : Nat} {x i : Int} (h : curL bl a x = some i) : goA bl a x i = a + 1 ∧ a < bl.length := by
  obtain ⟨w, n, e1, e2, e3⟩ := curL_some h
  refine ⟨?_, (List.getElem?_eq_some_iff.mp e1).1⟩
  unfold goA
  rw [if_pos]
  unfold curL
  rw [e1]
  show some ((w.length : Int) * n - (x + i)) = some 0
  congr 1
  omega
theorem goA_ge {bl : Bl} {a : Nat} {x i : Int} : a ≤ goA bl a x i := by
  unfold goA
  split <;> omega
end Fw
namespace Fw
open PySem L2
/-! ### the law's runs -/
def runD (bl : Bl) (ring : List Nat) : List D := (bl.map fun b => .tup [.str (tx b.1), .int (b.1.length * b.2)]) ++ [.tup [.str (tx ring), .int (10 ^ 60)]]
def Sp__law_runs : SpN := fun ds Ψ => ∃ bl ring l, ds = [ptD l bl ring] ∧ okP bl ring ∧ Ψ (.lst (runD bl ring)) []
end Fw
namespace Fw
open PySem L2
/-- all the signs of the blocks -/
def totL : Bl → Int
  | [] => 0
  | (w, n) :: r => w.length * n + totL r
theorem totL_nonneg : ∀ {bl : Bl}, okB bl → 0 ≤ totL bl
  | [], _ => Int.le_refl _
  | (w, n) :: r, h => by
    have h1 : 0 ≤ (w.length : Int) * n := Int.mul_nonneg (by omega) (h _ (List.mem_cons_self ..)).2.1
    have h2 : 0 ≤ totL r := totL_nonneg fun b hb => h b (List.mem_cons_of_mem _ hb)
    show 0 ≤ (w.length : Int) * n + totL r
    omega
theorem signF_past : ∀ {bl : Bl} {ring : List Nat} {p : Int}, okB bl → 0 ≤ p → signF bl ring (totL bl + p) = signF [] ring p
  | [], ring, p, _, h => by show signF [] ring (0 + p) = _; rw [Int.zero_add]
  | (w, n) :: r, ring, p, hB, h => by
    have hB' : okB r := fun b hb => hB b (List.mem_cons_of_mem _ hb)
    have h2 := totL_nonneg hB'
    show signF ((w, n) :: r) ring (w.length * n + totL r + p) = _
    rw [show (w.length : Int) * n + totL r + p = (totL r + p) + w.length * n by omega, signF_off (by omega), signF_past hB' h]
/-- alike so far as both are rings for long: alike -/
theorem alike_far {bl bl' : Bl} {ring ring' : List Nat} {N : Int} (hP : okP bl ring) (hP' : okP bl' ring') (h1 : totL bl + 2000 ≤ N) (h2 : totL bl' + 2000 ≤ N) (h : ∀ p, 0 ≤ p → p < N → signF bl ring p = signF bl' ring' p) : ∀ p, 0 ≤ p → signF bl ring p = signF bl' ring' p := by
  intro p hp
  have t1 := totL_nonneg hP.2.1
  have t2 := totL_nonneg hP'.2.1
  have r0 := List.length_pos_iff.mpr hP.2.2.1
  have r1 := List.length_pos_iff.mpr hP'.2.2.1
  have r2 := hP.2.2.2.1
  have r3 := hP'.2.2.2.1
  by_cases hN : p < N
  · exact h p hp hN
  · obtain ⟨M, hM⟩ : ∃ M : Nat, (M : Int) = if totL bl < totL bl' then totL bl' else totL bl := ⟨(if totL bl < totL bl' then totL bl' else totL bl).toNat, by split <;> omega⟩
    have hM1 : totL bl ≤ M := by rw [hM]; split <;> omega
    have hM2 : totL bl' ≤ M := by rw [hM]; split <;> omega
    have hM3 : (M : Int) + 2000 ≤ N := by rw [hM]; split <;> omega
    have per : ∀ {bl : Bl} {ring : List Nat}, okB bl → totL bl ≤ M → ∀ i : Nat, signF bl ring ((M + (i + ring.length : Nat) : Int)) = signF bl ring ((M + (i : Nat) : Int)) := fun {bl ring} hB hle i => by
      have q1 := @signF_past bl ring (M + (i + ring.length : Nat) - totL bl) hB (by omega)
      have q2 := @signF_past bl ring (M + (i : Nat) - totL bl) hB (by omega)
      rw [show totL bl + (M + ((i + ring.length : Nat) : Int) - totL bl) = M + ((i + ring.length : Nat) : Int) by omega] at q1
      rw [show totL bl + (M + ((i : Nat) : Int) - totL bl) = M + ((i : Nat) : Int) by omega] at q2
      rw [q1, q2]
      show ring.getD _ 0 = ring.getD _ 0
      rw [show (M : Int) + ((i + ring.length : Nat) : Int) - totL bl = (M + ((i : Nat) : Int) - totL bl) + ring.length by omega, Int.add_emod_right]
    obtain ⟨j, rfl⟩ : ∃ j : Nat, p = M + (j : Nat) := ⟨(p - M).toNat, by omega⟩
    exact two_periods (S := fun i => signF bl ring ((M + (i : Nat) : Int))) (T := fun i => signF bl' ring' ((M + (i : Nat) : Int))) (n := j + 1) r0 r1 (fun i _ => per hP.2.1 hM1 i) (fun i _ => per hP'.2.1 hM2 i) (fun i hi _ => h _ (by omega) (by omega)) j (Nat.lt_succ_self j)
end Fw
namespace Fw
open PySem L2
theorem signF_drop {ring : List Nat} : ∀ {a : Nat} {bl : Bl} {p : Int}, okB bl → 0 ≤ p → signF bl ring (totL (bl.take a) + p) = signF (bl.drop a) ring p
  | 0, bl, p, _, h => by rw [List.take_zero, List.drop_zero]; show signF bl ring (0 + p) = _; rw [Int.zero_add]
  | a + 1, [], p, _, h => by show signF [] ring (0 + p) = _; rw [Int.zero_add]; rfl
  | a + 1, (w, n) :: r, p, hB, h => by
    have hB' : okB r := fun b hb => hB b (List.mem_cons_of_mem _ hb)
    have h2 : 0 ≤ totL (r.take a) := totL_nonneg fun b hb => hB' b (List.mem_of_mem_take hb)
    rw [List.take_succ_cons, List.drop_succ_cons]
    show signF ((w, n) :: r) ring (w.length * n + totL (r.take a) + p) = _
    rw [show (w.length : Int) * n + totL (r.take a) + p = (totL (r.take a) + p) + w.length * n by omega, signF_off (by omega), signF_drop hB' h]
theorem totL_take {a : Nat} : ∀ {bl : Bl} {b : List Nat × Int}, bl[a]? = some b → totL (bl.take (a + 1)) = totL (bl.take a) + b.1.length * b.2 := by
  induction a with
  | zero =>
    intro bl b h
    cases bl with
    | nil => cases h
    | cons c r =>
      have h' : c = b := by simpa using h
      subst h'
      obtain ⟨w, n⟩ := c
      show (w.length : Int) * n + 0 = 0 + w.length * n
      omega
  | succ a ih =>
    intro bl b h
    cases bl with
    | nil => cases h
    | cons c r =>
      obtain ⟨w, n⟩ := c
      have := @ih r b (by simpa using h)
      rw [List.take_succ_cons, List.take_succ_cons]
      show (w.length : Int) * n + totL (r.take (a + 1)) = w.length * n + totL (r.take a) + _
      omega
/-- the length of a run of the law's -/
def lenR (bl : Bl) (a : Nat) : Int := match bl[a]? with
  | some b => b.1.length * b.2
  | none => 10 ^ 60
theorem runD_at {bl : Bl} {ring : List Nat} {a : Nat} (h : a ≤ bl.length) : atI (runD bl ring) (a : Int) = some (.tup [.str (tx (curW bl ring a)), .int (lenR bl a)]) := by
  rw [atI_natE]
  unfold runD curW lenR
  by_cases hl : a < bl.length
  · rw [List.getElem?_append_left (by rw [List.length_map]; exact hl), List.getElem?_map, List.getElem?_eq_getElem hl]
    rfl
  · have e : a = bl.length := by omega
    rw [List.getElem?_append_right (by rw [List.length_map]; omega), List.length_map, List.getElem?_eq_none (by omega : bl.length ≤ a), e, Nat.sub_self]
    rfl
theorem runD_len {bl : Bl} {ring : List Nat} : (runD bl ring).length = bl.length + 1 := by unfold runD; simp
/-- the law stands P signs behind the front -/
def LdAt (bl : Bl) (a : Nat) (x P : Int) : Prop := (a ≤ bl.length ∧ 0 ≤ x ∧ x ≤ lenR bl a ∧ P = totL (bl.take a) + x) ∨ (a = bl.length + 1 ∧ x = 0 ∧ 10 ^ 60 ≤ P)
theorem LdAt.here {bl : Bl} {ring : List Nat} {a : Nat} {x P k : Int} (hP : okP bl ring) (h : LdAt bl a x P) (ha : a ≤ bl.length) (hk : 0 ≤ k) (hl : x + k < lenR bl a) : signF bl ring (P + k) = cs bl ring a x k := by
  rcases h with ⟨_, h1, h2, rfl⟩ | ⟨h1, _⟩
  · rw [show totL (bl.take a) + x + k = totL (bl.take a) + (x + k) by omega, signF_drop hP.2.1 (by omega)]
    unfold cs curW
    unfold lenR at hl
    by_cases hal : a < bl.length
    · rw [List.drop_eq_getElem_cons hal, List.getElem?_eq_getElem hal]
      rw [List.getElem?_eq_getElem hal] at hl
      dsimp only at hl ⊢
      generalize bl[a] = b at *
      obtain ⟨w, n⟩ := b
      rw [signF_cons, if_pos hl]
    · rw [List.drop_eq_nil_of_le (by omega), List.getElem?_eq_none (by omega)]
      rfl
  · omega
def lgA (bl : Bl) (a : Nat) (x k : Int) : Nat := if x + k = lenR bl a then a + 1 else a
def lgX (bl : Bl) (a : Nat) (x k : Int) : Int := if x + k = lenR bl a then 0 else x + k
theorem LdAt.go {bl : Bl} {ring : List Nat} {a : Nat} {x P k : Int} (hP : okP bl ring) (h : LdAt bl a x P) (ha : a ≤ bl.length) (hk : 0 ≤ k) (hl : x + k ≤ lenR bl a) : LdAt bl (lgA bl a x k) (lgX bl a x k) (P + k) := by
  rcases h with ⟨_, h1, h2, rfl⟩ | ⟨h1, _⟩
  · unfold lgA lgX
    by_cases hE : x + k = lenR bl a
    · rw [if_pos hE, if_pos hE]
      by_cases hal : a < bl.length
      · refine .inl ⟨hal, Int.le_refl _, ?_, ?_⟩
        · unfold lenR
          split
          · rename_i b hb
            obtain ⟨_, b2, _⟩ := hP.2.1 b (List.mem_of_getElem? hb)
            exact Int.mul_nonneg (by omega) b2
          · decide +kernel
        · rw [totL_take (List.getElem?_eq_getElem hal)]
          unfold lenR at hE
          rw [List.getElem?_eq_getElem hal] at hE
          dsimp only at hE
          omega
      · refine .inr ⟨by omega, rfl, ?_⟩
        unfold lenR at hE
        rw [List.getElem?_eq_none (by omega)] at hE
        dsimp only at hE
        have := totL_nonneg (bl := bl.take a) fun b hb => hP.2.1 b (List.mem_of_mem_take hb)
        omega
    · rw [if_neg hE, if_neg hE]
      exact .inl ⟨ha, by omega, hl, by omega⟩
  · omega
def vOf : Option (Nat × Nat) → Int
  | none => 0
  | some (c, _) => if c = 82 then 1 else -1
def Sp__law_unlike : SpN := fun ds Ψ => ∃ bl ring l bl' ring' l', ds = [ptD l bl ring, ptD l' bl' ring'] ∧ okP bl ring ∧ okP bl' ring' ∧ totL bl ≤ 10 ^ 50 ∧ totL bl' ≤ 10 ^ 50 ∧ ∀ r, unlP (signF bl ring) (signF bl' ring') r → Ψ (.int (vOf r)) []
end Fw
namespace Fw
open PySem L2
/-! ### the same point told otherwise -/
theorem signF_app {X Y : Bl} {ring ring' : List Nat} (h : ∀ p, 0 ≤ p → signF X ring p = signF Y ring' p) : ∀ (L : Bl) (p : Int), 0 ≤ p → signF (L ++ X) ring p = signF (L ++ Y) ring' p
  | [], p, hp => h p hp
  | (w, n) :: r, p, hp => by
    rw [List.cons_append, List.cons_append, signF_cons, signF_cons]
    split
    · rfl
    · exact signF_app h r _ (by omega)
theorem signF_split {w : List Nat} {n s : Int} {R : Bl} {ring : List Nat} (hw : 0 < w.length) (hs : 0 ≤ s) (hn : s ≤ n) (p : Int) (hp : 0 ≤ p) : signF ((w, n) :: R) ring p = signF ((w, s) :: (w, n - s) :: R) ring p := by
  rw [@signF_cons w s]
  by_cases h : p < w.length * s
  · rw [if_pos h, signF_cons, if_pos]
    have := Int.mul_le_mul_of_nonneg_left hn (by omega : (0 : Int) ≤ w.length)
    omega
  · rw [if_neg h, ← signF_rows (by omega) hw hs]
    congr 1
    omega
theorem signF_front {ring : List Nat} {t : Nat} (ht : t ≤ ring.length) (hr : 0 < ring.length) (p : Int) (hp : 0 ≤ p) : signF [] ring p = signF [(ring.take t, 1)] (ring.drop t ++ ring.take t) p := by
  rw [signF_cons, List.length_take, Nat.min_eq_left ht, Int.mul_one]
  by_cases h : p < t
  · rw [if_pos h, Int.emod_eq_of_lt hp h]
    show ring.getD (p % ring.length).toNat 0 = _
    rw [Int.emod_eq_of_lt hp (by omega), List.getD_eq_getElem?_getD, List.getD_eq_getElem?_getD, List.getElem?_take, if_pos (by omega)]
  · rw [if_neg h]
    by_cases e : t = ring.length
    · have h2 : ring.drop t ++ ring.take t = ring := by rw [e, List.drop_length, List.take_length]; rfl
      rw [h2]
      show ring.getD _ 0 = ring.getD _ 0
      rw [e, Int.sub_emod_right]
    · have h2 := @signF_turn ring (t : Int) (p - t) hr (by omega)
      rw [Int.emod_eq_of_lt (by omega) (by omega), Int.toNat_natCast] at h2
      rw [h2]
      congr 1
      omega
theorem signF_double {ring : List Nat} (hr : 0 < ring.length) (p : Int) (hp : 0 ≤ p) : signF [] (ring ++ ring) p = signF [] ring p := by
  obtain ⟨q, rfl⟩ : ∃ q : Nat, p = (q : Int) := ⟨p.toNat, by omega⟩
  rw [signF_ring, signF_ring, List.length_append, List.getD_eq_getElem?_getD, List.getD_eq_getElem?_getD]
  congr 1
  have h1 : q % (ring.length + ring.length) < ring.length + ring.length := Nat.mod_lt _ (by omega)
  have h2 : q % (ring.length + ring.length) % ring.length = q % ring.length := Nat.mod_mod_of_dvd _ ⟨2, by omega⟩
  rw [← h2]
  generalize q % (ring.length + ring.length) = u at *
  by_cases h : u < ring.length
  · rw [List.getElem?_append_left h, Nat.mod_eq_of_lt h]
  · have h3 : u % ring.length = u - ring.length := by
      rw [Nat.mod_eq_sub_mod (by omega), Nat.mod_eq_of_lt (by omega)]
    rw [List.getElem?_append_right (by omega), h3]
theorem signF_ringB {ring : List Nat} {k : Int} (hr : 0 < ring.length) (p : Int) (hp : 0 ≤ p) : signF [(ring, k)] ring p = signF [] ring p := by
  rw [signF_cons]
  split
  · rfl
  · show ring.getD _ 0 = ring.getD _ 0
    rw [Int.sub_mul_emod_self_left]
end Fw
namespace Fw
open PySem L2
/-- blocks and a ring of few small signs, counts up to G -/
def retP (G : Int) (bl : Bl) (ring : List Nat) : Prop := bl.length ≤ 7 ∧ (∀ b ∈ bl, isW b.1 ∧ 1 ≤ b.1.length ∧ b.1.length ≤ 12 ∧ 1 ≤ b.2 ∧ b.2 ≤ G) ∧ isW ring ∧ 1 ≤ ring.length ∧ ring.length ≤ 12
theorem drP.ret {g G : Int} {bl : Bl} {ring : List Nat} (h : drP g bl ring) (hG : g + 5 ≤ G) : retP G bl ring :=
  ⟨by have := h.1; omega, fun b hb => let ⟨a1, a2, a3, a4, a5⟩ := h.2.1 b hb; ⟨a1, a2, by omega, a4, by omega⟩, h.2.2.1, h.2.2.2.1, by have := h.2.2.2.2; omega⟩
theorem retP.okB {G : Int} {bl : Bl} {ring : List Nat} (h : retP G bl ring) (hG : G < 10 ^ 200) : okB bl := fun b hb => by
  obtain ⟨a1, a2, a3, a4, a5⟩ := h.2.1 b hb
  refine ⟨okW.of a1 a2 (by omega), by omega, ?_⟩
  have e : (10 : Int) ^ 200 + 5 < 2 ^ 1000 := by decide +kernel
  have h6 : (b.2.natAbs : Int) < ((2 ^ 1000 : Nat) : Int) := by
    rw [Int.natCast_pow]
    omega
  exact Int.ofNat_lt.mp h6
theorem retP.ok {G : Int} {bl : Bl} {ring : List Nat} (h : retP G bl ring) (hG : G < 10 ^ 200) : okP bl ring := ⟨by have := h.1; omega, h.okB hG, okW.of h.2.2.1 h.2.2.2.1 (by have := h.2.2.2.2; omega)⟩
theorem retP.tot {G : Int} {bl : Bl} {ring : List Nat} (h : retP G bl ring) : totL bl ≤ 12 * G * bl.length := by
  have key : ∀ bl : Bl, (∀ b ∈ bl, b.1.length ≤ 12 ∧ 1 ≤ b.2 ∧ b.2 ≤ G) → totL bl ≤ 12 * G * bl.length := by
    intro bl
    induction bl with
    | nil => intro _; show (0 : Int) ≤ 12 * G * ((0 : Nat) : Int); rw [Int.natCast_zero, Int.mul_zero]; exact Int.le_refl _
    | cons b r ih =>
      intro hb
      obtain ⟨w, n⟩ := b
      obtain ⟨a1, a2, a3⟩ := hb _ (List.mem_cons_self ..)
      have i := ih fun b h => hb b (List.mem_cons_of_mem _ h)
      have e1 : (w.length : Int) * n ≤ 12 * G := Int.mul_le_mul (by show (w.length : Int) ≤ 12; have : w.length ≤ 12 := a1; omega) a3 (by have : 1 ≤ n := a2; omega) (by omega)
      show (w.length : Int) * n + totL r ≤ 12 * G * ((r.length + 1 : Nat) : Int)
      rw [Int.natCast_add, Int.mul_add]
      have e2 : 12 * G * ((1 : Nat) : Int) = 12 * G := Int.mul_one _
      omega
  exact key bl fun b hb => let ⟨_, _, a3, a4, a5⟩ := h.2.1 b hb; ⟨a3, a4, a5⟩
theorem ret_split {G : Int} {L R : Bl} {w : List Nat} {n s : Int} {ring : List Nat} (h : retP G (L ++ (w, n) :: R) ring) (hl : (L ++ (w, n) :: R).length < 7) (hs : 1 ≤ s) (hn : s < n) :
    retP G (L ++ (w, s) :: (w, n - s) :: R) ring ∧ ∀ p : Int, 0 ≤ p → signF (L ++ (w, s) :: (w, n - s) :: R) ring p = signF (L ++ (w, n) :: R) ring p := by
  obtain ⟨a1, a2, a3, a4, a5⟩ := h.2.1 (w, n) (List.mem_append_right _ (List.mem_cons_self ..))
  have a2' : 1 ≤ w.length := a2
  have a3' : w.length ≤ 12 := a3
  have a5' : n ≤ G := a5
  refine ⟨⟨by simp only [List.length_append, List.length_cons] at hl ⊢; omega, fun b hb => ?_, h.2.2⟩, fun p hp => signF_app (fun p hp => (signF_split (by omega) (by omega) (by omega) p hp).symm) L p hp⟩
  rcases List.mem_append.mp hb with hb | hb
  · exact h.2.1 b (List.mem_append_left _ hb)
  · cases hb with
    | head => exact ⟨a1, a2', a3', hs, by show s ≤ G; omega⟩
    | tail _ hb =>
      cases hb with
      | head => exact ⟨a1, a2', a3', by show 1 ≤ n - s; omega, by show n - s ≤ G; omega⟩
      | tail _ hb => exact h.2.1 b (List.mem_append_right _ (List.mem_cons_of_mem _ hb))
theorem ret_front {G : Int} {L : Bl} {ring : List Nat} {t : Nat} (h : retP G L ring) (hG : 1 ≤ G) (hl : L.length < 7) (h0 : 0 < t) (ht : t < ring.length) :
    retP G (L ++ [(ring.take t, 1)]) (ring.drop t ++ ring.take t) ∧ ∀ p : Int, 0 ≤ p → signF (L ++ [(ring.take t, 1)]) (ring.drop t ++ ring.take t) p = signF L ring p := by
  obtain ⟨b1, b2, b3⟩ := h.2.2
  have hlt : (ring.take t).length = t := by rw [List.length_take]; omega
  have hld : (ring.drop t).length = ring.length - t := by rw [List.length_drop]
  refine ⟨⟨by rw [List.length_append]; simp; omega, fun b hb => ?_, (b1.drop _).append (b1.take _), by rw [List.length_append]; omega, by rw [List.length_append]; omega⟩, fun p hp => ?_⟩
  · rcases List.mem_append.mp hb with hb | hb
    · exact h.2.1 b hb
    · simp only [List.mem_cons, List.not_mem_nil, or_false] at hb
      subst hb
      exact ⟨b1.take _, by show 1 ≤ (ring.take t).length; omega, by show (ring.take t).length ≤ 12; omega, Int.le_refl _, hG⟩
  · have := signF_app (X := []) (Y := [(ring.take t, 1)]) (ring := ring) (ring' := ring.drop t ++ ring.take t) (fun p hp => signF_front (by omega) (by omega) p hp) L p hp
    rw [List.append_nil] at this
    exact this.symm
theorem ret_double {G : Int} {L : Bl} {ring : List Nat} (h : retP G L ring) (hl : ring.length < 7) : retP G L (ring ++ ring) ∧ ∀ p : Int, 0 ≤ p → signF L (ring ++ ring) p = signF L ring p := by
  obtain ⟨b1, b2, b3⟩ := h.2.2
  refine ⟨⟨h.1, h.2.1, b1.append b1, by rw [List.length_append]; omega, by rw [List.length_append]; omega⟩, fun p hp => ?_⟩
  have := signF_app (X := []) (Y := []) (ring := ring ++ ring) (ring' := ring) (fun p hp => signF_double (by omega) p hp) L p hp
  rw [List.append_nil] at this
  exact this
theorem ret_ring {G k : Int} {L : Bl} {ring : List Nat} (h : retP G L ring) (hl : L.length < 7) (hk : 1 ≤ k) (hk2 : k ≤ G) : retP G (L ++ [(ring, k)]) ring ∧ ∀ p : Int, 0 ≤ p → signF (L ++ [(ring, k)]) ring p = signF L ring p := by
  obtain ⟨b1, b2, b3⟩ := h.2.2
  refine ⟨⟨by rw [List.length_append]; simp; omega, fun b hb => ?_, b1, b2, b3⟩, fun p hp => ?_⟩
  · rcases List.mem_append.mp hb with hb | hb
    · exact h.2.1 b hb
    · simp only [List.mem_cons, List.not_mem_nil, or_false] at hb
      subst hb
      exact ⟨b1, b2, b3, hk, hk2⟩
  · have := signF_app (X := [(ring, k)]) (Y := []) (ring := ring) (ring' := ring) (fun p hp => signF_ringB (by omega) p hp) L p hp
    rw [List.append_nil] at this
    exact this
def Sp__law_retold : SpN := fun ds Ψ => ∃ n d G bl ring l, ds = [d, ptD l bl ring] ∧ isBag n d ∧ n < 2 ^ 57 ∧ 6 ≤ G ∧ G < 10 ^ 200 ∧ retP G bl ring ∧ ∀ bl' ring' d', retP G bl' ring' → (∀ p : Int, 0 ≤ p → signF bl' ring' p = signF bl ring p) → isBag (n + 20) d' → Ψ (ptD false bl' ring') [d']
end Fw

/-! Fp4: ends of lists; points told otherwise; tables of data. -/
namespace Fw
open PySem L2

theorem cut_init {α : Type} (xs : List α) : cut xs none (some (-1)) = xs.dropLast := by
  unfold cut
  rw [HT.sIx_none, List.drop_zero, Nat.sub_zero]
  have e : HT.sIx xs.length xs.length (some (-1)) = ((-1 : Int) + (xs.length : Int)).toNat := rfl
  rw [e, List.dropLast_eq_take]
  congr 1
  omega
theorem atI_neg1 {α : Type} (xs : List α) : atI xs (-1) = xs[xs.length - 1]? := by
  unfold atI ixN
  rw [if_neg (by decide)]
  by_cases h : xs.length = 0
  · rw [if_neg (by omega), List.getElem?_eq_none (by omega)]
    rfl
  · rw [if_pos (by omega)]
    show xs[((-1 : Int) + (xs.length : Int)).toNat]? = _
    congr 1
    omega
theorem blD_init {L : Bl} {b : List Nat × Int} : (blD (L ++ [b])).dropLast = blD L := by
  unfold blD
  rw [List.map_append, List.map_cons, List.map_nil, List.dropLast_concat]
theorem blD_last {L : Bl} {b : List Nat × Int} : (blD (L ++ [b]))[(blD (L ++ [b])).length - 1]? = some (.tup [.str (tx b.1), .int b.2]) := by
  unfold blD
  rw [List.map_append, List.map_cons, List.map_nil, List.length_append, List.length_cons, List.length_nil, List.getElem?_append_right (by omega)]
  rw [show (List.map (fun b : List Nat × Int => D.tup [.str (tx b.1), .int b.2]) L).length + (0 + 1) - 1 - (List.map (fun b : List Nat × Int => D.tup [.str (tx b.1), .int b.2]) L).length = 0 by omega]
  rfl
theorem blD_at1 {L : Bl} {w : List Nat} {n : Int} : atI (blD (L ++ [(w, n)])) (-1) = some (.tup [.str (tx w), .int n]) := by rw [atI_neg1, blD_last]
theorem blD_snoc {L : Bl} {w : List Nat} {n : Int} : blD L ++ [.tup [.str (tx w), .int n]] = blD (L ++ [(w, n)]) := by
  unfold blD
  rw [List.map_append]
  rfl
theorem bl_last {bl : Bl} (h : bl ≠ []) : ∃ L w n, bl = L ++ [(w, n)] := by
  obtain ⟨w, n⟩ : List Nat × Int := bl.getLast h
  exact ⟨bl.dropLast, (bl.getLast h).1, (bl.getLast h).2, (List.dropLast_concat_getLast h).symm⟩
/-- the last block once more -/
theorem ret_more {G : Int} {L : Bl} {w : List Nat} {n : Int} {ring : List Nat} (h : retP G (L ++ [(w, n)]) ring) (hG : G < 10 ^ 200 - 1) : retP (G + 1) (L ++ [(w, n + 1)]) ring := by
  refine ⟨by have := h.1; rw [List.length_append] at this ⊢; exact this, fun b hb => ?_, h.2.2⟩
  rcases List.mem_append.mp hb with hb | hb
  · obtain ⟨a1, a2, a3, a4, a5⟩ := h.2.1 b (List.mem_append_left _ hb)
    exact ⟨a1, a2, a3, a4, by omega⟩
  · simp only [List.mem_cons, List.not_mem_nil, or_false] at hb
    subst hb
    obtain ⟨a1, a2, a3, a4, a5⟩ := h.2.1 (w, n) (List.mem_append_right _ (List.mem_cons_self ..))
    exact ⟨a1, a2, a3, by have : 1 ≤ n := a4; show 1 ≤ n + 1; omega, by have : n ≤ G := a5; show n + 1 ≤ G + 1; omega⟩
theorem retP.mono {G G' : Int} {bl : Bl} {ring : List Nat} (h : retP G bl ring) (hG : G ≤ G') : retP G' bl ring :=
  ⟨h.1, fun b hb => let ⟨a1, a2, a3, a4, a5⟩ := h.2.1 b hb; ⟨a1, a2, a3, a4, by omega⟩, h.2.2⟩
theorem retP.tot50 {bl : Bl} {ring : List Nat} (h : retP (10 ^ 31) bl ring) : totL bl ≤ 10 ^ 50 := by
  have h1 := h.tot
  have h2 := h.1
  have h3 : (12 * 10 ^ 31 : Int) * bl.length ≤ 12 * 10 ^ 31 * 7 := Int.mul_le_mul_of_nonneg_left (by omega) (by decide)
  have h4 : (12 * 10 ^ 31 * 7 : Int) ≤ 10 ^ 50 := by decide
  omega
theorem unl_bool {S T : Int → Nat} {r : Option (Nat × Nat)} {b : Bool} (hr : unlP S T r) (hb : b = true ↔ ∀ p, 0 ≤ p → S p = T p) : b = decide (vOf r = 0) := by
  cases r with
  | none => exact hb.mpr hr
  | some cd =>
    obtain ⟨c, d⟩ := cd
    obtain ⟨hne, p, hp, rfl, rfl, _⟩ := hr
    have h1 : ¬ vOf (some (S p, T p)) = 0 := by
      unfold vOf
      dsimp only
      split <;> decide
    rw [decide_eq_false h1]
    cases b with
    | false => rfl
    | true => exact absurd (hb.mp rfl p hp) hne
theorem rep_one {c : Nat} {ring : List Nat} (h : ∀ x ∈ ring, x = c) (hr : 0 < ring.length) (p : Int) : signF [] ring p = c := by
  have e0 := Int.emod_nonneg p (by omega : (ring.length : Int) ≠ 0)
  have e1 := Int.emod_lt_of_pos p (by omega : (0 : Int) < ring.length)
  show ring.getD (p % ring.length).toNat 0 = c
  rw [List.getD_eq_getElem?_getD, List.getElem?_eq_getElem (by omega)]
  exact h _ (List.getElem_mem _)
theorem ex_alike (p : Int) (hp : 0 ≤ p) : signF [([76], 3)] [82] p = signF [([76, 76], 1), ([76], 1)] [82, 82] p := by
  have w1 : ∀ (w : List Nat) (q : Int), (∀ x ∈ w, x = 76) → 0 < w.length → w.getD (q % w.length).toNat 0 = 76 := fun w q h hl => rep_one h hl q
  rw [signF_cons, signF_cons, signF_cons, w1 _ _ (by simp) (by simp), w1 _ _ (by simp) (by simp), w1 _ _ (by simp) (by simp), rep_one (c := 82) (by simp) (by simp), rep_one (c := 82) (by simp) (by simp)]
  simp only [List.length_cons, List.length_nil]
  split
  · split
    · rfl
    · rw [if_pos (by omega)]
  · rw [if_neg (by omega), if_neg (by omega)]
end Fw
namespace Fw
open PySem L2
/-! ### the order of points -/
def vO : Option (Nat × Nat) → Int
  | none => 0
  | some (c, _) => if c = 76 then -1 else 1
def Sp_order_of : SpN := fun ds Ψ => ∃ bl ring l bl' ring' l', ds = [ptD l bl ring, ptD l' bl' ring'] ∧ okP bl ring ∧ okP bl' ring' ∧ ∀ r, unlP (signF bl ring) (signF bl' ring') r → Ψ (.int (vO r)) []
end Fw

/-! Fp5: the order of points, in plain. -/
namespace Fw
open PySem L2

theorem unl_ex (S T : Int → Nat) : ∃ r, unlP S T r := by
  by_cases h : ∀ p, 0 ≤ p → S p = T p
  · exact ⟨none, h⟩
  · have h1 : ∃ n : Nat, S n ≠ T n := Classical.byContradiction fun z => h fun p hp => Classical.byContradiction fun y => z ⟨p.toNat, by rw [Int.toNat_of_nonneg hp]; exact y⟩
    obtain ⟨n, hn⟩ := h1
    have key : ∀ n : Nat, S n ≠ T n → ∃ m : Nat, S m ≠ T m ∧ ∀ k : Nat, k < m → S k = T k := by
      intro n
      induction n using Nat.strongRecOn with
      | _ n ih =>
        intro hn
        by_cases q : ∃ k, k < n ∧ S (k : Nat) ≠ T (k : Nat)
        · obtain ⟨k, hk, hk2⟩ := q
          exact ih k hk hk2
        · exact ⟨n, hn, fun k hk => Classical.byContradiction fun y => q ⟨k, hk, y⟩⟩
    obtain ⟨m, h2, h3⟩ := key n hn
    refine ⟨some (S m, T m), h2, m, by omega, rfl, rfl, fun q h0 hq => ?_⟩
    have := h3 q.toNat (by omega)
    rw [Int.toNat_of_nonneg h0] at this
    exact this
theorem unl_one {S T : Int → Nat} {r r' : Option (Nat × Nat)} (h : unlP S T r) (h' : unlP S T r') : r = r' := by
  cases r with
  | none =>
    cases r' with
    | none => rfl
    | some cd =>
      obtain ⟨c, d⟩ := cd
      obtain ⟨hne, p, hp, rfl, rfl, _⟩ := h'
      exact absurd (h p hp) hne
  | some cd =>
    obtain ⟨c, d⟩ := cd
    obtain ⟨hne, p, hp, rfl, rfl, hb⟩ := h
    cases r' with
    | none => exact absurd (h' p hp) hne
    | some cd' =>
      obtain ⟨c', d'⟩ := cd'
      obtain ⟨hne', p', hp', rfl, rfl, hb'⟩ := h'
      have e : p = p' := by
        rcases Int.lt_trichotomy p p' with z | z | z
        · exact absurd (hb' p hp z) hne
        · exact z
        · exact absurd (hb p' hp' z) hne'
      subst e
      rfl
noncomputable def rOf (S T : Int → Nat) : Option (Nat × Nat) := Classical.choose (unl_ex S T)
theorem rOf_ok (S T : Int → Nat) : unlP S T (rOf S T) := Classical.choose_spec (unl_ex S T)
theorem rOf_eq {S T : Int → Nat} {r : Option (Nat × Nat)} (h : unlP S T r) : r = rOf S T := unl_one h (rOf_ok S T)
/-- signs 76, 82 alone -/
def LRs (S : Int → Nat) : Prop := ∀ p, 0 ≤ p → S p = 76 ∨ S p = 82
noncomputable def ordV (S T : Int → Nat) : Int := vO (rOf S T)
theorem vOf_eq {S T : Int → Nat} {r : Option (Nat × Nat)} (hS : LRs S) (h : unlP S T r) : vOf r = ordV S T := by
  rw [show ordV S T = vO r by unfold ordV; rw [rOf_eq h]]
  cases r with
  | none => rfl
  | some cd =>
    obtain ⟨c, d⟩ := cd
    obtain ⟨_, p, hp, rfl, rfl, _⟩ := h
    unfold vOf vO
    dsimp only
    rcases hS p hp with e | e
    · rw [e]; rfl
    · rw [e]; rfl
/-- the first unlike place: S has 76, T 82 -/
def ahead (S T : Int → Nat) : Prop := ∃ p : Int, 0 ≤ p ∧ S p = 76 ∧ T p = 82 ∧ ∀ q, 0 ≤ q → q < p → S q = T q
theorem ord_cases {S T : Int → Nat} (hS : LRs S) (hT : LRs T) : (ordV S T = 0 ∧ ∀ p, 0 ≤ p → S p = T p) ∨ (ordV S T = -1 ∧ ahead S T) ∨ (ordV S T = 1 ∧ ahead T S) := by
  have h := rOf_ok S T
  unfold ordV
  generalize rOf S T = r at h
  cases r with
  | none => exact .inl ⟨rfl, h⟩
  | some cd =>
    obtain ⟨c, d⟩ := cd
    obtain ⟨hne, p, hp, rfl, rfl, hb⟩ := h
    unfold vO
    dsimp only
    rcases hS p hp with e | e
    · rcases hT p hp with e2 | e2
      · exact absurd (e.trans e2.symm) hne
      · exact .inr (.inl ⟨by rw [if_pos e], p, hp, e, e2, hb⟩)
    · rcases hT p hp with e2 | e2
      · exact .inr (.inr ⟨by rw [if_neg (by omega)], p, hp, e2, e, fun q h0 hq => (hb q h0 hq).symm⟩)
      · exact absurd (e.trans e2.symm) hne
theorem ahead_ne {S T : Int → Nat} (h : ahead S T) : ¬ ∀ p, 0 ≤ p → S p = T p := fun z => by
  obtain ⟨p, hp, e1, e2, _⟩ := h
  have := z p hp
  omega
theorem ahead_not {S T : Int → Nat} (h : ahead S T) : ¬ ahead T S := fun g => by
  obtain ⟨p, hp, e1, e2, hb⟩ := h
  obtain ⟨q, hq, f1, f2, hc⟩ := g
  rcases Int.lt_trichotomy p q with z | z | z
  · have := hc p hp z; omega
  · subst z; omega
  · have := hb q hq z; omega
theorem ord_zero {S T : Int → Nat} (hS : LRs S) (hT : LRs T) : ordV S T = 0 ↔ ∀ p, 0 ≤ p → S p = T p := by
  rcases ord_cases hS hT with ⟨e, h⟩ | ⟨e, h⟩ | ⟨e, h⟩
  · exact ⟨fun _ => h, fun _ => e⟩
  · exact ⟨fun z => by omega, fun z => absurd z (ahead_ne h)⟩
  · exact ⟨fun z => by omega, fun z => absurd (fun p hp => (z p hp).symm) (ahead_ne h)⟩
theorem ord_neg {S T : Int → Nat} (hS : LRs S) (hT : LRs T) : ordV S T = 0 - ordV T S := by
  rcases ord_cases hS hT with ⟨e, h⟩ | ⟨e, h⟩ | ⟨e, h⟩ <;> rcases ord_cases hT hS with ⟨f, g⟩ | ⟨f, g⟩ | ⟨f, g⟩
  · omega
  · exact absurd (fun p hp => (h p hp).symm) (ahead_ne g)
  · exact absurd h (ahead_ne g)
  · exact absurd (fun p hp => (g p hp).symm) (ahead_ne h)
  · exact absurd g (ahead_not h)
  · omega
  · exact absurd g (ahead_ne h)
  · omega
  · exact absurd g (ahead_not h)
theorem ahead_on {S T U : Int → Nat} (h : ahead S T) (g : ahead T U) : ahead S U := by
  obtain ⟨p, hp, e1, e2, hb⟩ := h
  obtain ⟨q, hq, f1, f2, hc⟩ := g
  rcases Int.lt_trichotomy p q with z | z | z
  · exact ⟨p, hp, e1, by rw [← hc p hp z]; exact e2, fun x h0 h1 => (hb x h0 h1).trans (hc x h0 (by omega))⟩
  · subst z; omega
  · exact ⟨q, hq, by rw [hb q hq z]; exact f1, f2, fun x h0 h1 => (hb x h0 (by omega)).trans (hc x h0 h1)⟩
theorem ahead_congr {S T S' T' : Int → Nat} (h : ahead S T) (e1 : ∀ p, 0 ≤ p → S p = S' p) (e2 : ∀ p, 0 ≤ p → T p = T' p) : ahead S' T' := by
  obtain ⟨p, hp, f1, f2, hb⟩ := h
  exact ⟨p, hp, by rw [← e1 p hp]; exact f1, by rw [← e2 p hp]; exact f2, fun x h0 h1 => by rw [← e1 x h0, ← e2 x h0]; exact hb x h0 h1⟩
theorem ord_ahead {S T : Int → Nat} (hS : LRs S) (hT : LRs T) (h : ahead S T) : ordV S T = -1 := by
  rcases ord_cases hS hT with ⟨e, g⟩ | ⟨e, g⟩ | ⟨e, g⟩
  · exact absurd g (ahead_ne h)
  · exact e
  · exact absurd g (ahead_not h)
theorem ord_on {S T U : Int → Nat} (hS : LRs S) (hT : LRs T) (hU : LRs U) (h1 : ordV S T ≤ 0) (h2 : ordV T U ≤ 0) : ordV S U = if ordV T U < ordV S T then ordV T U else ordV S T := by
  rcases ord_cases hS hT with ⟨e, h⟩ | ⟨e, h⟩ | ⟨e, h⟩ <;> rcases ord_cases hT hU with ⟨f, g⟩ | ⟨f, g⟩ | ⟨f, g⟩ <;> try omega
  · rw [e, f, (ord_zero hS hU).mpr fun p hp => (h p hp).trans (g p hp)]; rfl
  · rw [e, f, ord_ahead hS hU (ahead_congr g (fun p hp => (h p hp).symm) fun _ _ => rfl)]; rfl
  · rw [e, f, ord_ahead hS hU (ahead_congr h (fun _ _ => rfl) g)]; rfl
  · rw [e, f, ord_ahead hS hU (ahead_on h g)]; rfl
theorem isW.getD {w : List Nat} (h : isW w) (hl : 0 < w.length) (p : Int) : w.getD (p % w.length).toNat 0 = 76 ∨ w.getD (p % w.length).toNat 0 = 82 := by
  have e0 := Int.emod_nonneg p (by omega : (w.length : Int) ≠ 0)
  have e1 := Int.emod_lt_of_pos p (by omega : (0 : Int) < w.length)
  rw [List.getD_eq_getElem?_getD, List.getElem?_eq_getElem (by omega)]
  exact h _ (List.getElem_mem _)
theorem signF_LR {ring : List Nat} (hr : isW ring) (hl : 0 < ring.length) : ∀ {bl : Bl}, (∀ b ∈ bl, isW b.1 ∧ 1 ≤ b.1.length) → LRs (signF bl ring)
  | [], _, p, hp => hr.getD hl p
  | (w, n) :: r, h, p, hp => by
    obtain ⟨h1, h2⟩ := h _ (List.mem_cons_self ..)
    rw [signF_cons]
    split
    · exact h1.getD h2 p
    · exact signF_LR hr hl (fun b hb => h b (List.mem_cons_of_mem _ hb)) _ (by omega)
theorem retP.LR {G : Int} {bl : Bl} {ring : List Nat} (h : retP G bl ring) : LRs (signF bl ring) := signF_LR h.2.2.1 h.2.2.2.1 fun b hb => ⟨(h.2.1 b hb).1, (h.2.1 b hb).2.1⟩
/-! ### a few points -/
abbrev Pt := Bl × List Nat
def ptsD (P : List Pt) : List D := P.map fun p => ptD false p.1 p.2
abbrev sg (p : Pt) : Int → Nat := signF p.1 p.2
end Fw
namespace Fw
open PySem L2
noncomputable def rowD (P : List Pt) (p : Pt) : D := .lst (P.map fun q => .int (ordV (sg p) (sg q)))
noncomputable def tabD (P : List Pt) : D := .lst (P.map fun p => rowD P p)
theorem tab_at {P : List Pt} {a : Nat} (h : a < P.length) : (P.map fun p => rowD P p)[a]? = some (rowD P P[a]) := by rw [List.getElem?_map, List.getElem?_eq_getElem h]; rfl
theorem row_at {P : List Pt} {p : Pt} {b : Nat} (h : b < P.length) : (P.map fun q => D.int (ordV (sg p) (sg q)))[b]? = some (.int (ordV (sg p) (sg P[b]))) := by rw [List.getElem?_map, List.getElem?_eq_getElem h]; rfl
theorem pts_at {P : List Pt} {a : Nat} (h : a < P.length) : (ptsD P)[a]? = some (ptD false P[a].1 P[a].2) := by unfold ptsD; rw [List.getElem?_map, List.getElem?_eq_getElem h]; rfl
theorem tab_same {P : List Pt} (h : P.length ≤ 16777216) : sameOk 6 (tabD P) = true := by
  show (decide (_ ≤ 16777216) && _) = true
  rw [List.length_map, decide_eq_true h, Bool.true_and, List.all_eq_true]
  intro x hx
  rw [List.mem_map] at hx
  obtain ⟨p, _, rfl⟩ := hx
  show (decide (_ ≤ 16777216) && _) = true
  rw [List.length_map, decide_eq_true h, Bool.true_and, List.all_eq_true]
  intro y hy
  rw [List.mem_map] at hy
  obtain ⟨q, _, rfl⟩ := hy
  rfl
end Fw
namespace Fw
open PySem L2
theorem dIx_tab {P : List Pt} {a : Nat} {Ψ : D → Prop} (h : a < P.length) : dIx (tabD P) (.int (a : Int)) Ψ = Ψ (rowD P P[a]) := by
  unfold tabD
  rw [dIx_lst, atI_natE, tab_at h]
  simp
theorem dIx_row {P : List Pt} {p : Pt} {b : Nat} {Ψ : D → Prop} (h : b < P.length) : dIx (rowD P p) (.int (b : Int)) Ψ = Ψ (.int (ordV (sg p) (sg P[b]))) := by
  unfold rowD
  rw [dIx_lst, atI_natE, row_at h]
  simp
theorem dIx_pts {P : List Pt} {b : Nat} {Ψ : D → Prop} (h : b < P.length) : dIx (.lst (ptsD P)) (.int (b : Int)) Ψ = Ψ (ptD false P[b].1 P[b].2) := by
  rw [dIx_lst, atI_natE, pts_at h]
  simp
end Fw

/-! Fp6: least tellings: rows of signs that come round, in plain. -/
namespace Fw
open PySem L2

def seq (r : List Nat) (i : Nat) : Nat := r.getD (i % r.length) 0
def Per (S : Nat → Nat) (p : Nat) : Prop := ∀ i, S (i + p) = S i
theorem Per.mul {S : Nat → Nat} {p : Nat} (h : Per S p) : ∀ k, Per S (k * p)
  | 0 => fun i => by rw [Nat.zero_mul]; rfl
  | k + 1 => fun i => by rw [Nat.succ_mul, ← Nat.add_assoc, h, Per.mul h k]
theorem Per.gcd {S : Nat → Nat} : ∀ {n p q : Nat}, p + q ≤ n → Per S p → Per S q → Per S (Nat.gcd p q)
  | 0, p, q, hn, hp, hq => by
    have : p = 0 := by omega
    subst this
    rw [Nat.gcd_zero_left]; exact hq
  | n + 1, p, q, hn, hp, hq => by
    by_cases h0 : p = 0
    · subst h0; rw [Nat.gcd_zero_left]; exact hq
    · by_cases h1 : q = 0
      · subst h1; rw [Nat.gcd_zero_right]; exact hp
      · by_cases h : p ≤ q
        · have hs : Per S (q - p) := fun i => by
            rw [← hp (i + (q - p)), show i + (q - p) + p = i + q by omega, hq]
          have := Per.gcd (n := n) (by omega) hp hs
          rw [Nat.gcd_sub_self_right h] at this
          exact this
        · have hs : Per S (p - q) := fun i => by
            rw [← hq (i + (p - q)), show i + (p - q) + q = i + p by omega, hp]
          have := Per.gcd (n := n) (by omega) hs hq
          rw [Nat.gcd_sub_self_left (by omega)] at this
          exact this
theorem seq_per (r : List Nat) : Per (seq r) r.length := fun i => by unfold seq; rw [Nat.add_mod_right]
theorem seq_lt {r : List Nat} {i : Nat} (h : i < r.length) : seq r i = r[i] := by
  unfold seq
  rw [Nat.mod_eq_of_lt h, List.getD_eq_getElem?_getD, List.getElem?_eq_getElem h]
  rfl
theorem Per.mod {S : Nat → Nat} {d : Nat} (h : Per S d) (i : Nat) : S (i % d) = S i := by
  have := Per.mul h (i / d) (i % d)
  rw [← this]
  congr 1
  rw [Nat.mul_comm]
  have := Nat.div_add_mod i d
  omega
/-- no row of a lesser one -/
def prim (r : List Nat) : Prop := r ≠ [] ∧ ∀ d, 0 < d → d < r.length → d ∣ r.length → ¬ Per (seq r) d
theorem prim.dvd {r : List Nat} (h : prim r) {p : Nat} (hp : Per (seq r) p) : r.length ∣ p := by
  have hl : 0 < r.length := List.length_pos_iff.mpr h.1
  have g := Per.gcd (n := p + r.length) (Nat.le_refl _) hp (seq_per r)
  have g1 : 0 < Nat.gcd p r.length := Nat.gcd_pos_of_pos_right _ hl
  have g2 : Nat.gcd p r.length ∣ r.length := Nat.gcd_dvd_right ..
  have g3 : Nat.gcd p r.length ≤ r.length := Nat.le_of_dvd hl g2
  by_cases e : Nat.gcd p r.length = r.length
  · rw [← e]; exact Nat.gcd_dvd_left ..
  · exact absurd g (h.2 _ g1 (by omega) g2)
theorem row_iff {r : List Nat} {d : Nat} (h0 : 0 < d) (h1 : d < r.length) (h2 : d ∣ r.length) : (List.replicate (r.length / d) (r.take d)).flatten = r ↔ Per (seq r) d := by
  have hl : (r.take d).length = d := by rw [List.length_take]; omega
  have hm : d * (r.length / d) = r.length := Nat.mul_div_cancel' h2
  have hget : ∀ i, i < r.length → (List.replicate (r.length / d) (r.take d)).flatten[i]? = some (seq r (i % d)) := fun i hi => by
    have := @rep_get (r.take d) (by omega) (r.length / d) i (by rw [hl, hm]; exact hi)
    rw [this, hl]
    have hd : i % d < d := Nat.mod_lt _ h0
    rw [seq_lt (by omega), List.getD_eq_getElem?_getD, List.getElem?_take, if_pos hd, List.getElem?_eq_getElem (by omega)]
    rfl
  constructor
  · intro e
    have key : ∀ i, seq r i = seq r (i % d) := fun i => by
      have hi : i % r.length < r.length := Nat.mod_lt _ (by omega)
      have a := hget _ hi
      rw [e, List.getElem?_eq_getElem hi] at a
      have a' := Option.some.inj a
      rw [← seq_lt hi, Nat.mod_mod_of_dvd _ h2] at a'
      rw [← a']
      unfold seq
      rw [Nat.mod_mod]
    intro i
    rw [key (i + d), key i, Nat.add_mod_right]
  · intro hp
    apply List.ext_getElem?
    intro i
    by_cases hi : i < r.length
    · rw [hget i hi, hp.mod, seq_lt hi, List.getElem?_eq_getElem hi]
    · rw [List.getElem?_eq_none (by rw [rep_len, hl, hm]; omega), List.getElem?_eq_none (by omega)]
/-- the least row found -/
theorem prim_take {r : List Nat} {d : Nat} (h0 : 0 < d) (h1 : d < r.length) (h2 : d ∣ r.length) (hp : Per (seq r) d) (hl : ∀ e, 0 < e → e < d → e ∣ r.length → ¬ Per (seq r) e) : prim (r.take d) ∧ ∀ i, seq (r.take d) i = seq r i := by
  have hlen : (r.take d).length = d := by rw [List.length_take]; omega
  have hs : ∀ i, seq (r.take d) i = seq r i := fun i => by
    rw [← hp.mod i]
    have hd : i % d < d := Nat.mod_lt _ h0
    rw [seq_lt (r := r) (i := i % d) (by omega)]
    unfold seq
    rw [hlen, List.getD_eq_getElem?_getD, List.getElem?_take, if_pos hd, List.getElem?_eq_getElem (by omega)]
    rfl
  refine ⟨⟨fun e => by rw [e] at hlen; simp at hlen; omega, fun e he hed hdv hpe => ?_⟩, hs⟩
  rw [hlen] at hed hdv
  exact hl e he hed (Nat.dvd_trans hdv h2) fun i => by rw [← hs, ← hs]; exact hpe i
theorem seq_turn (r : List Nat) (c i : Nat) : seq (c :: r) (i + 1) = seq (r ++ [c]) i := by
  unfold seq
  rw [List.length_cons, List.length_append, List.length_cons, List.length_nil, Nat.zero_add]
  have h1 : i % (r.length + 1) < r.length + 1 := Nat.mod_lt _ (by omega)
  rw [List.getD_eq_getElem?_getD, List.getD_eq_getElem?_getD]
  by_cases h : i % (r.length + 1) = r.length
  · have e : (i + 1) % (r.length + 1) = 0 := by rw [Nat.add_mod, h]; rcases Nat.eq_zero_or_pos r.length with z | z; (rw [z]); (rw [Nat.mod_eq_of_lt (a := 1) (by omega), Nat.mod_self])
    rw [e, h, List.getElem?_append_right (Nat.le_refl _), Nat.sub_self]
    rfl
  · have e : (i + 1) % (r.length + 1) = i % (r.length + 1) + 1 := by
      rw [Nat.add_mod, Nat.mod_eq_of_lt (a := 1) (by omega), Nat.mod_eq_of_lt (by omega)]
    rw [e, List.getElem?_cons_succ, List.getElem?_append_left (by omega)]
theorem prim_turn {r : List Nat} {c : Nat} (h : prim (r ++ [c])) : prim (c :: r) := by
  refine ⟨by simp, fun d h0 h1 h2 hp => ?_⟩
  have hl : (r ++ [c]).length = (c :: r).length := by simp
  exact h.2 d h0 (by rw [hl]; exact h1) (by rw [hl]; exact h2) fun i => by
    rw [← seq_turn, ← seq_turn, show i + d + 1 = i + 1 + d by omega]
    exact hp (i + 1)
/-- a front, then a ring -/
def sig (f r : List Nat) (i : Nat) : Nat := if i < f.length then f.getD i 0 else seq r (i - f.length)
theorem sig_turn (f r : List Nat) (c i : Nat) : sig (f ++ [c]) (r ++ [c]) i = sig f (c :: r) i := by
  unfold sig
  rw [List.length_append, List.length_cons, List.length_nil, List.getD_eq_getElem?_getD, List.getD_eq_getElem?_getD]
  by_cases h : i < f.length
  · rw [if_pos (by omega), if_pos h, List.getElem?_append_left h]
  · rw [if_neg h]
    by_cases h2 : i = f.length
    · subst h2
      rw [if_pos (by omega), List.getElem?_append_right (Nat.le_refl _), Nat.sub_self]
      unfold seq
      rw [Nat.zero_mod]
      rfl
    · rw [if_neg (by omega), show i - f.length = (i - (f.length + (0 + 1))) + 1 by omega, seq_turn]
structure NF (f r : List Nat) : Prop where
  pr : prim r
  un : ∀ f' r' c, f = f' ++ [c] → r = r' ++ [c] → False
theorem NF.last {f r : List Nat} (h : NF f r) (hf : 0 < f.length) : f.getD (f.length - 1) 0 ≠ r.getD (r.length - 1) 0 := fun e => by
  have hr : 0 < r.length := List.length_pos_iff.mpr h.pr.1
  rw [List.getD_eq_getElem?_getD, List.getD_eq_getElem?_getD, List.getElem?_eq_getElem (by omega), List.getElem?_eq_getElem (by omega)] at e
  have e' : f[f.length - 1] = r[r.length - 1] := e
  have h1 := (List.dropLast_concat_getLast (List.length_pos_iff.mp hf)).symm
  have h2 := (List.dropLast_concat_getLast (List.length_pos_iff.mp hr)).symm
  rw [List.getLast_eq_getElem] at h1 h2
  rw [e'] at h1
  exact h.un _ _ _ h1 h2
theorem nf_dvd {f r f' r' : List Nat} (h : prim r) (h' : prim r') (e : ∀ i, sig f r i = sig f' r' i) : r'.length ∣ r.length := by
  have hl' : 0 < r'.length := List.length_pos_iff.mpr h'.1
  refine h'.dvd fun i => ?_
  have T : ∀ j, seq r' (j + f.length) = seq r (j + f'.length) := fun j => by
    have := e (j + f.length + f'.length)
    unfold sig at this
    rw [if_neg (by omega), if_neg (by omega), show j + f.length + f'.length - f.length = j + f'.length by omega, show j + f.length + f'.length - f'.length = j + f.length by omega] at this
    exact this.symm
  have hk : f.length ≤ f.length * r'.length := Nat.le_mul_of_pos_right _ hl'
  have p1 := Per.mul (seq_per r') f.length
  rw [← p1 (i + r.length), ← p1 i]
  rw [show i + r.length + f.length * r'.length = (i + r.length + f.length * r'.length - f.length) + f.length by omega, show i + f.length * r'.length = (i + f.length * r'.length - f.length) + f.length by omega, T, T]
  rw [show i + r.length + f.length * r'.length - f.length + f'.length = (i + f.length * r'.length - f.length + f'.length) + r.length by omega, seq_per r]
theorem nf_le {f r f' r' : List Nat} (h : NF f r) (h' : NF f' r') (e : ∀ i, sig f r i = sig f' r' i) (hm : r.length = r'.length) : f'.length ≤ f.length := by
  refine Classical.byContradiction fun hlt => ?_
  have hr : 0 < r'.length := List.length_pos_iff.mpr h'.pr.1
  refine h'.last (by omega) ?_
  have e1 := e (f'.length - 1)
  have e2 := e (f'.length - 1 + r.length)
  unfold sig at e1 e2
  rw [if_neg (by omega), if_pos (by omega)] at e1
  rw [if_neg (by omega), if_neg (by omega), show f'.length - 1 + r.length - f.length = (f'.length - 1 - f.length) + r.length by omega, seq_per r, show f'.length - 1 + r.length - f'.length = r'.length - 1 by omega] at e2
  rw [← e1, e2]
  unfold seq
  rw [Nat.mod_eq_of_lt (by omega)]
theorem nf_one {f r f' r' : List Nat} (h : NF f r) (h' : NF f' r') (e : ∀ i, sig f r i = sig f' r' i) : f = f' ∧ r = r' := by
  have hm : r.length = r'.length := Nat.dvd_antisymm (nf_dvd h'.pr h.pr fun i => (e i).symm) (nf_dvd h.pr h'.pr e)
  have hf : f.length = f'.length := Nat.le_antisymm (nf_le h' h (fun i => (e i).symm) hm.symm) (nf_le h h' e hm)
  constructor
  · apply List.ext_getElem?
    intro i
    by_cases hi : i < f.length
    · have := e i
      unfold sig at this
      rw [if_pos hi, if_pos (by omega), List.getD_eq_getElem?_getD, List.getD_eq_getElem?_getD, List.getElem?_eq_getElem hi, List.getElem?_eq_getElem (by omega)] at this
      rw [List.getElem?_eq_getElem hi, List.getElem?_eq_getElem (by omega)]
      exact congrArg some this
    · rw [List.getElem?_eq_none (by omega), List.getElem?_eq_none (by omega)]
  · apply List.ext_getElem?
    intro i
    by_cases hi : i < r.length
    · have := e (f.length + i)
      unfold sig at this
      rw [if_neg (by omega), if_neg (by omega), show f.length + i - f.length = i by omega, show f.length + i - f'.length = i by omega, seq_lt hi, seq_lt (by omega)] at this
      rw [List.getElem?_eq_getElem hi, List.getElem?_eq_getElem (by omega)]
      exact congrArg some this
    · rw [List.getElem?_eq_none (by omega), List.getElem?_eq_none (by omega)]
end Fw
namespace Fw
open PySem L2
def fb (f : List Nat) : Bl := if f = [] then [] else [(f, 1)]
theorem fb_nil : fb [] = [] := rfl
theorem fb_cons {c : Nat} {f : List Nat} : fb (c :: f) = [(c :: f, 1)] := rfl
def Sp_short_ring : SpN := fun ds Ψ => ∃ ring, ds = [.str (tx ring)] ∧ okW ring ∧ ∀ r, prim r → (∀ i, seq r i = seq ring i) → r.length ≤ ring.length → (isW ring → isW r) → Ψ (.str (tx r)) []
def Sp_least_of : SpN := fun ds Ψ => ∃ front ring, ds = [.str (tx front), .str (tx ring)] ∧ isW front ∧ front.length ≤ 1000 ∧ isW ring ∧ 1 ≤ ring.length ∧ ring.length ≤ 1000 ∧
  ∀ f r, NF f r → isW f → isW r → (∀ i, sig f r i = sig front ring i) → f.length ≤ front.length → r.length ≤ ring.length → Ψ (ptD false (fb f) r) []
/-- blocks of few signs together -/
def smP (bl : Bl) (ring : List Nat) : Prop := bl.length < 1000 ∧ (∀ b ∈ bl, isW b.1 ∧ 1 ≤ b.1.length ∧ 1 ≤ b.2) ∧ totL bl ≤ 1000 ∧ isW ring ∧ 1 ≤ ring.length ∧ ring.length ≤ 1000
def Sp_least : SpN := fun ds Ψ => ∃ bl ring l, ds = [ptD l bl ring] ∧ smP bl ring ∧ ∀ f r, NF f r → isW f → isW r → (∀ i : Nat, sig f r i = signF bl ring i) → f.length ≤ 1000 → r.length ≤ ring.length → Ψ (ptD false (fb f) r) []
def Sp__law_point_good : SpN := fun ds Ψ => ∃ bl ring, ds = [ptD false bl ring] ∧ smP bl ring ∧ Ψ (.bl true) []
def Sp__law_is_so : SpN := fun ds Ψ => ∃ bl ring bl' ring' l, ds = [ptD false bl ring, ptD l bl' ring'] ∧ smP bl ring ∧ smP bl' ring' ∧ (∀ p, 0 ≤ p → signF bl ring p = signF bl' ring' p) ∧ Ψ (.bl true) []
theorem smP.blk {bl : Bl} {ring : List Nat} (h : smP bl ring) : ∀ b ∈ bl, isW b.1 ∧ 1 ≤ b.1.length ∧ b.1.length ≤ 1000 ∧ 1 ≤ b.2 ∧ b.2 ≤ 1000 := by
  obtain ⟨_, h2, h3, _⟩ := h
  have key : ∀ bl : Bl, (∀ b ∈ bl, isW b.1 ∧ 1 ≤ b.1.length ∧ 1 ≤ b.2) → ∀ b ∈ bl, (b.1.length : Int) * b.2 ≤ totL bl := by
    intro bl
    induction bl with
    | nil => intro _ b hb; cases hb
    | cons c r ih =>
      intro hh b hb
      obtain ⟨w, n⟩ := c
      have p0 : ∀ b ∈ r, 0 ≤ (b.1.length : Int) * b.2 := fun b hb => Int.mul_nonneg (by omega) (by have := (hh b (List.mem_cons_of_mem _ hb)).2.2; omega)
      have q0 : 0 ≤ totL r := by
        clear ih hb hh
        induction r with
        | nil => exact Int.le_refl _
        | cons d r ih =>
          obtain ⟨u, m⟩ := d
          have a1 := p0 _ (List.mem_cons_self ..)
          have a2 := ih fun b hb => p0 b (List.mem_cons_of_mem _ hb)
          show 0 ≤ (u.length : Int) * m + totL r
          have a3 : 0 ≤ (u.length : Int) * m := a1
          omega
      have e : totL ((w, n) :: r) = w.length * n + totL r := rfl
      rw [e]
      cases hb with
      | head => show (w.length : Int) * n ≤ _; omega
      | tail _ hb =>
        have := ih (fun b hb => hh b (List.mem_cons_of_mem _ hb)) b hb
        have c1 : 0 ≤ (w.length : Int) * n := Int.mul_nonneg (by omega) (by have : 1 ≤ n := (hh _ (List.mem_cons_self ..)).2.2; omega)
        omega
  intro b hb
  obtain ⟨a1, a2, a3⟩ := h2 b hb
  have k := key bl h2 b hb
  have b1 : (b.1.length : Int) * 1 ≤ b.1.length * b.2 := Int.mul_le_mul_of_nonneg_left a3 (by omega)
  have b2 : 1 * b.2 ≤ (b.1.length : Int) * b.2 := Int.mul_le_mul_of_nonneg_right (by omega) (by omega)
  exact ⟨a1, a2, by omega, a3, by omega⟩
theorem smP.ok {bl : Bl} {ring : List Nat} (h : smP bl ring) : okP bl ring := by
  refine ⟨h.1, fun b hb => ?_, okW.of h.2.2.2.1 h.2.2.2.2.1 h.2.2.2.2.2⟩
  obtain ⟨a1, a2, a3, a4, a5⟩ := h.blk b hb
  refine ⟨okW.of a1 a2 a3, by omega, ?_⟩
  have h6 : (b.2.natAbs : Int) < ((2 ^ 1000 : Nat) : Int) := by
    have : (1000 : Int) < ((2 ^ 1000 : Nat) : Int) := by decide +kernel
    omega
  exact Int.ofNat_lt.mp h6
def flatB (bl : Bl) : List Nat := (bl.map fun b => (List.replicate b.2.toNat b.1).flatten).flatten
theorem flatB_cons {w : List Nat} {n : Int} {r : Bl} : flatB ((w, n) :: r) = (List.replicate n.toNat w).flatten ++ flatB r := rfl
theorem flatB_len : ∀ {bl : Bl}, (∀ b ∈ bl, 0 ≤ b.2) → ((flatB bl).length : Int) = totL bl
  | [], _ => rfl
  | (w, n) :: r, h => by
    have h0 : 0 ≤ n := h _ (List.mem_cons_self ..)
    rw [flatB_cons, List.length_append, rep_len, Int.natCast_add, flatB_len fun b hb => h b (List.mem_cons_of_mem _ hb), Int.natCast_mul, Int.toNat_of_nonneg h0]
    rfl
theorem flatB_W : ∀ {bl : Bl}, (∀ b ∈ bl, isW b.1) → isW (flatB bl)
  | [], _ => isW.nil
  | (w, n) :: r, h => by
    rw [flatB_cons]
    refine isW.append (fun c hc => ?_) (flatB_W fun b hb => h b (List.mem_cons_of_mem _ hb))
    rw [List.mem_flatten] at hc
    obtain ⟨l, hl, hc⟩ := hc
    have := List.eq_of_mem_replicate hl
    subst this
    exact h _ (List.mem_cons_self ..) c hc
theorem sig_flat {ring : List Nat} : ∀ {bl : Bl}, (∀ b ∈ bl, 0 < b.1.length ∧ 0 ≤ b.2) → ∀ i : Nat, sig (flatB bl) ring i = signF bl ring i
  | [], _, i => by
    rw [signF_ring]
    unfold sig flatB
    rfl
  | (w, n) :: r, h, i => by
    obtain ⟨h1, h2⟩ : 0 < w.length ∧ 0 ≤ n := h _ (List.mem_cons_self ..)
    have ih := @sig_flat ring r fun b hb => h b (List.mem_cons_of_mem _ hb)
    have e : ((w.length * n.toNat : Nat) : Int) = w.length * n := by rw [Int.natCast_mul, Int.toNat_of_nonneg h2]
    rw [flatB_cons]
    by_cases hi : i < w.length * n.toNat
    · rw [signF_in (by omega)]
      unfold sig
      rw [if_pos (by rw [List.length_append, rep_len]; omega), List.getD_eq_getElem?_getD, List.getElem?_append_left (by rw [rep_len]; exact hi), rep_get h1 _ _ hi]
      rfl
    · obtain ⟨j, rfl⟩ : ∃ j, i = j + w.length * n.toNat := ⟨i - w.length * n.toNat, by omega⟩
      rw [Int.natCast_add, e, signF_off (by omega), ← ih j]
      unfold sig
      rw [List.length_append, rep_len]
      by_cases hj : j < (flatB r).length
      · rw [if_pos (by omega), if_pos hj, List.getD_eq_getElem?_getD, List.getD_eq_getElem?_getD, List.getElem?_append_right (by rw [rep_len]; omega), rep_len]
        congr 2
        omega
      · rw [if_neg (by omega), if_neg hj]
        congr 1
        omega
theorem sig_fb {f r : List Nat} (i : Nat) : signF (fb f) r i = sig f r i := by
  unfold fb
  split
  · rename_i h
    subst h
    rw [signF_ring]
    rfl
  · rename_i h
    have hl : 0 < f.length := List.length_pos_iff.mpr h
    rw [← sig_flat (bl := [(f, 1)]) (fun b hb => by
      simp only [List.mem_cons, List.not_mem_nil, or_false] at hb
      subst hb
      exact ⟨hl, by show (0 : Int) ≤ 1; omega⟩)]
    rw [show flatB [(f, 1)] = f by unfold flatB; simp]
theorem fb_sm {f r : List Nat} (hf : isW f) (hr : isW r) (h1 : f.length ≤ 1000) (h2 : 1 ≤ r.length) (h3 : r.length ≤ 1000) : smP (fb f) r := by
  unfold fb
  split
  · exact ⟨by simp, (fun b hb => nomatch hb), by show (0 : Int) ≤ 1000; omega, hr, h2, h3⟩
  · rename_i h
    have hl : 0 < f.length := List.length_pos_iff.mpr h
    refine ⟨by simp, fun b hb => ?_, ?_, hr, h2, h3⟩
    · simp only [List.mem_cons, List.not_mem_nil, or_false] at hb
      subst hb
      exact ⟨hf, hl, Int.le_refl _⟩
    · show (f.length : Int) * 1 + 0 ≤ 1000
      omega
theorem retP.sm {bl : Bl} {ring : List Nat} (h : retP 11 bl ring) : smP bl ring := by
  refine ⟨by have := h.1; omega, fun b hb => ?_, ?_, h.2.2.1, h.2.2.2.1, by have := h.2.2.2.2; omega⟩
  · obtain ⟨a1, a2, a3, a4, a5⟩ := h.2.1 b hb
    exact ⟨a1, a2, a4⟩
  · have h1 := h.tot
    have h2 := h.1
    omega
theorem NF.of {f r : List Nat} (h : prim r) (hn : f = [] ∨ (f.getD (f.length - 1) 0 ≠ r.getD (r.length - 1) 0)) : NF f r := by
  refine ⟨h, fun f' r' c e1 e2 => ?_⟩
  subst e1 e2
  rcases hn with z | z
  · simp at z
  · apply z
    rw [List.getD_eq_getElem?_getD, List.getD_eq_getElem?_getD]
    simp
end Fw
namespace Fw
open PySem L2
theorem cpOk_rep {w : List Nat} (h : cpOk w = true) (n : Nat) : cpOk (List.replicate n w).flatten = true := cpOk_iff.mpr fun c hc => by
  rw [List.mem_flatten] at hc
  obtain ⟨l, hl, hc⟩ := hc
  have := List.eq_of_mem_replicate hl
  subst this
  exact cpOk_iff.mp h c hc
theorem mul_ok {w : List Nat} {n : Nat} (h1 : w.length ≤ 1000000) (h2 : n ≤ 1000000) (h3 : w.length * n ≤ 1000000) : MulOk (tx w) (n : Int) := PyProof.Rows.mulOk_of w.length n (by rw [tx_len]; omega) (by omega) (by omega) (by omega) (by omega)
end Fw
namespace Fw
open PySem L2
theorem dInW_sign {c : Nat} {a : List Nat} {Ψ : D → Prop} : dInW false (.str (tx [c])) (.str (tx a)) Ψ = Ψ (.bl (decide (c ∈ a))) := by
  show Ψ (.bl (!(Builtin.Str.occurrences (tx a) (tx [c]) 0 (tx a).length 1).isEmpty)) = _
  have := PySem.StrLaws.found_one (tx a) c
  rw [show (!(Builtin.Str.occurrences (tx a) (tx [c]) 0 (tx a).length 1).isEmpty) = decide (c ∈ (tx a).cps.toList) from this]
  rfl
theorem dInW_notsign {c : Nat} {a : List Nat} {Ψ : D → Prop} : dInW true (.str (tx [c])) (.str (tx a)) Ψ = Ψ (.bl (!decide (c ∈ a))) := by
  show Ψ (.bl (!(!(Builtin.Str.occurrences (tx a) (tx [c]) 0 (tx a).length 1).isEmpty))) = _
  have := PySem.StrLaws.found_one (tx a) c
  rw [show (!(Builtin.Str.occurrences (tx a) (tx [c]) 0 (tx a).length 1).isEmpty) = decide (c ∈ (tx a).cps.toList) from this]
  rfl
end Fw
namespace Fw
open PySem L2
theorem nf_LR : NF [] [76, 82] := ⟨⟨by simp, fun d h0 h1 h2 h => by
  have : d = 1 := by simp at h1; omega
  subst this
  exact absurd (h 0) (by decide)⟩, fun f' r' c e _ => by simp at e⟩
theorem sig_nil {r : List Nat} (i : Nat) : sig [] r i = signF [] r i := by rw [signF_ring]; rfl
theorem ex_LR1 (i : Nat) : signF [([76, 82], 2)] [76, 82, 76, 82] i = sig [] [76, 82] i := by
  rw [sig_nil]
  have h1 := signF_app (X := []) (Y := []) (ring := [76, 82] ++ [76, 82]) (ring' := [76, 82]) (fun p hp => signF_double (by simp) p hp) [([76, 82], 2)] i (by omega)
  rw [List.append_nil] at h1
  rw [show ([76, 82, 76, 82] : List Nat) = [76, 82] ++ [76, 82] from rfl, h1]
  exact signF_ringB (by simp) i (by omega)
theorem ex_LR2 (i : Nat) : signF [([76], 1)] [82, 76] i = sig [] [76, 82] i := by
  rw [sig_nil]
  exact (signF_front (ring := [76, 82]) (t := 1) (by simp) (by simp) i (by omega)).symm
theorem same_fb {f r : List Nat} {n : Nat} (hf : isW f) (hr : isW r) : sameOk (n + 4) (ptD false (fb f) r) = true := by
  have hs : ∀ (m : Nat) {w : List Nat}, isW w → sameOk (m + 1) (.str (tx w)) = true := fun m w h => same_tx h.cp
  have hb : sameOk (n + 3) (bD false (fb f)) = true := by
    unfold fb
    split
    · rfl
    · show (decide (_ ≤ 16777216) && _) = true
      simp [blD]
      show (decide (_ ≤ 16777216) && _) = true
      simp [hs n hf, sameOk, sameLeaf, cm_tx, hf.cp]
  show (decide (_ ≤ 16777216) && _) = true
  simp [hb, hs (n + 2) hr]
end Fw

/-! Fp7: rooms and cuts. -/
namespace Fw
open PySem L2

/-! ### words as keys -/
def kvW (l : List (List Nat × D)) : List (Key × D) := l.map fun p => (.inr (tx p.1), p.2)
def lookW (l : List (List Nat × D)) (r : List Nat) : Option D := (l.find? fun p => decide (p.1 = r)).map (·.2)
def putW (l : List (List Nat × D)) (r : List Nat) (d : D) : List (List Nat × D) := if (l.any fun p => decide (p.1 = r)) = true then l.map (fun p => if p.1 = r then (p.1, d) else p) else l ++ [(r, d)]
def dropW (l : List (List Nat × D)) (r : List Nat) : List (List Nat × D) := l.filter fun p => decide (p.1 ≠ r)
theorem key_tx (a b : List Nat) : ((Sum.inr (tx a) : Key) = .inr (tx b)) = (a = b) := by rw [Sum.inr.injEq, tx_inj]
theorem valD_kvW : ∀ (l : List (List Nat × D)) (r : List Nat), valD (kvW l) (.inr (tx r)) = lookW l r
  | [], r => rfl
  | p :: l, r => by
    have ih := valD_kvW l r
    unfold valD lookW at ih ⊢
    unfold kvW at ih ⊢
    rw [List.map_cons, List.find?_cons, List.find?_cons]
    simp only [key_tx]
    by_cases h : p.1 = r
    · rw [decide_eq_true h]; rfl
    · rw [decide_eq_false h]; exact ih
theorem dropD_kvW (l : List (List Nat × D)) (r : List Nat) : dropD (kvW l) (.inr (tx r)) = kvW (dropW l r) := by
  unfold dropD dropW kvW
  rw [List.filter_map]
  congr 1
  refine List.filter_congr fun p _ => ?_
  simp only [Function.comp, ne_eq, key_tx]
theorem any_kvW (l : List (List Nat × D)) (r : List Nat) : ((kvW l).any fun kv => decide (kv.1 = .inr (tx r))) = l.any fun p => decide (p.1 = r) := by
  unfold kvW
  rw [List.any_map]
  congr 1
  funext p
  simp only [Function.comp, key_tx]
theorem putD_kvW (l : List (List Nat × D)) (r : List Nat) (d : D) : putD (kvW l) (.inr (tx r)) d = kvW (putW l r d) := by
  unfold putD putW
  rw [any_kvW]
  split
  · unfold kvW
    rw [List.map_map, List.map_map]
    refine List.map_congr_left fun p _ => ?_
    simp only [Function.comp, key_tx]
    split <;> rfl
  · unfold kvW
    rw [List.map_append]
    rfl
theorem kvW_length (l : List (List Nat × D)) : (kvW l).length = l.length := List.length_map ..
theorem keys_kvW (l : List (List Nat × D)) : ((kvW l).map fun kv => keyV kv.1) = l.map fun p => D.str (tx p.1) := by
  unfold kvW
  rw [List.map_map]
  rfl
theorem putD_length (kvs : List (Key × D)) (k : Key) (d : D) : (putD kvs k d).length ≤ kvs.length + 1 := by
  unfold putD
  split
  · rw [List.length_map]; omega
  · rw [List.length_append]; simp
/-- a dict comprehension of pure parts, without tests -/
theorem wDcL_mapT {α : Type} {wg : WG} {wk wv : WE} {vs : List Nat} {ρ : Env} {Ψ : List (Key × D) → Env → Prop} (g : α → D) (fk : α → Key) (fv : α → D) : ∀ (l : List α) (acc : List (Key × D)),
    (∀ a ∈ l, ∀ k : D → D → Env → Prop, (∀ ρ3, wipeE ρ3 vs = ρ → k (keyV (fk a)) (fv a) ρ3) → wg (g a) ρ fun ρ1 => wk ρ1 (fun y ρ2 => wv ρ2 (fun z ρ3 => k y z ρ3) fun _ _ => False) fun _ _ => False) →
    acc.length + l.length ≤ sizeLine → Ψ (l.foldl (fun acc a => putD acc (fk a) (fv a)) acc) ρ → wDcL wg wYes wk wv vs (l.map g) acc ρ Ψ
  | [], acc, hb, hs, h => h
  | a :: l, acc, hb, hs, h => by
    have hs' : acc.length + (l.length + 1) ≤ sizeLine := hs
    have hp := putD_length acc (fk a) (fv a)
    refine hb a (List.mem_cons_self ..) (fun y z ρ4 => acc.length < sizeLine ∧ ∃ k, y.key = some k ∧ wDcL wg wYes wk wv vs (l.map g) (putD acc k z) (wipeE ρ4 vs) Ψ) fun ρ3 e => ⟨by omega, fk a, by cases fk a <;> rfl, ?_⟩
    rw [e]
    exact wDcL_mapT g fk fv l _ (fun d hd => hb d (List.mem_cons_of_mem _ hd)) (by omega) h

/-! ### cuts -/
def cov (rs : List (List Nat)) (w : List Nat) : Nat := rs.countP fun r => r.isPrefixOf w
def cutAt (B : Nat) (rs : List (List Nat)) : Prop := ∀ w, isW w → w.length = B → cov rs w = 1
def rD (r : List Nat) : D := .str (tx r)
theorem cov_cons (r : List Nat) (rs : List (List Nat)) (w : List Nat) : cov (r :: rs) w = cov rs w + if r <+: w then 1 else 0 := by
  unfold cov
  rw [List.countP_cons]
  simp only [List.isPrefixOf_iff_prefix]
theorem cov_append (a b : List (List Nat)) (w : List Nat) : cov (a ++ b) w = cov a w + cov b w := List.countP_append
theorem cov_perm {a b : List (List Nat)} (h : a.Perm b) (w : List Nat) : cov a w = cov b w := h.countP_eq _
theorem cut_perm {a b : List (List Nat)} {B : Nat} (h : a.Perm b) : cutAt B a ↔ cutAt B b := by
  unfold cutAt
  constructor
  · intro q w h1 h2; rw [← cov_perm h]; exact q w h1 h2
  · intro q w h1 h2; rw [cov_perm h]; exact q w h1 h2
theorem cov_pos {rs : List (List Nat)} {r w : List Nat} (h : r ∈ rs) (p : r <+: w) : 0 < cov rs w := List.countP_pos_iff.mpr ⟨r, h, List.isPrefixOf_iff_prefix.mpr p⟩
theorem cov_two {rs : List (List Nat)} {r r' w : List Nat} (h : r ∈ rs) (h' : r' ∈ rs) (ne : r ≠ r') (p : r <+: w) (p' : r' <+: w) : 2 ≤ cov rs w := by
  obtain ⟨a, b, rfl⟩ := List.append_of_mem h
  rw [cov_append, cov_cons, if_pos p]
  have : 0 < cov (a ++ b) w := cov_pos (by
    rcases List.mem_append.mp h' with z | z
    · exact List.mem_append_left _ z
    · rcases List.mem_cons.mp z with rfl | z
      · exact absurd rfl ne
      · exact List.mem_append_right _ z) p'
  rw [cov_append] at this
  omega
theorem isW_pad {w : List Nat} (h : isW w) (n : Nat) : isW (w ++ List.replicate n 76) := fun c hc => by
  rcases List.mem_append.mp hc with z | z
  · exact h c z
  · exact .inl (List.eq_of_mem_replicate z)
/-- the bound does not matter -/
theorem prefix_take {r w : List Nat} {n : Nat} (h : r.length ≤ n) : r <+: w.take n ↔ r <+: w := by
  constructor
  · exact fun z => z.trans (List.take_prefix n w)
  · rintro ⟨t, rfl⟩
    rw [List.take_append, List.take_of_length_le h]
    exact List.prefix_append ..
theorem cov_take {rs : List (List Nat)} {w : List Nat} {n : Nat} (h : ∀ r ∈ rs, r.length ≤ n) : cov rs (w.take n) = cov rs w := by
  unfold cov
  refine List.countP_congr fun r hr => ?_
  rw [List.isPrefixOf_iff_prefix, List.isPrefixOf_iff_prefix, prefix_take (h r hr)]
theorem cut_bound {rs : List (List Nat)} {B C : Nat} (hB : ∀ r ∈ rs, r.length ≤ B) (h : B ≤ C) : cutAt B rs ↔ cutAt C rs := by
  constructor
  · intro q w h1 h2
    rw [← cov_take hB]
    exact q _ (fun c hc => h1 c (List.mem_of_mem_take hc)) (by rw [List.length_take]; omega)
  · intro q w h1 h2
    have e : (w ++ List.replicate (C - B) 76).take B = w := by rw [← h2]; exact List.take_left ..
    have := q _ (isW_pad h1 (C - B)) (by rw [List.length_append, List.length_replicate]; omega)
    rw [← cov_take hB, e] at this
    exact this
theorem cut_any {rs : List (List Nat)} {B C : Nat} (hB : ∀ r ∈ rs, r.length ≤ B) (hC : ∀ r ∈ rs, r.length ≤ C) : cutAt B rs ↔ cutAt C rs := by
  rcases Nat.le_total B C with h | h
  · exact cut_bound hB h
  · exact (cut_bound hC h).symm
theorem cut_nodup {rs : List (List Nat)} {B : Nat} (hw : ∀ r ∈ rs, isW r) (hB : ∀ r ∈ rs, r.length ≤ B) (h : cutAt B rs) : rs.Nodup := by
  rw [List.nodup_iff_count]
  intro r
  refine Nat.le_of_not_lt fun z => ?_
  have hm : r ∈ rs := List.count_pos_iff.mp (by omega)
  have q := h (r ++ List.replicate (B - r.length) 76) (isW_pad (hw r hm) _) (by rw [List.length_append, List.length_replicate]; have := hB r hm; omega)
  have : rs.count r ≤ cov rs (r ++ List.replicate (B - r.length) 76) := by
    unfold cov List.count
    refine List.countP_mono_left fun x _ hx => ?_
    have e : x = r := by simpa using hx
    rw [e, List.isPrefixOf_iff_prefix]
    exact List.prefix_append ..
  omega
/-- the other sign -/
def oS (c : Nat) : Nat := if c = 76 then 82 else 76
theorem oS_ne {c : Nat} : oS c ≠ c := by unfold oS; split <;> omega
theorem oS_W {c : Nat} : oS c = 76 ∨ oS c = 82 := by unfold oS; split <;> simp
theorem isW_cons {c : Nat} {w : List Nat} : isW (c :: w) ↔ (c = 76 ∨ c = 82) ∧ isW w := by
  unfold isW
  simp
theorem isW_append {a b : List Nat} : isW (a ++ b) ↔ isW a ∧ isW b := by
  unfold isW
  simp only [List.mem_append]
  constructor
  · intro h; exact ⟨fun c hc => h c (.inl hc), fun c hc => h c (.inr hc)⟩
  · rintro ⟨h1, h2⟩ c (hc | hc)
    · exact h1 c hc
    · exact h2 c hc
theorem prefix_snoc {r p : List Nat} {c : Nat} (h : r <+: p ++ [c]) (ne : r ≠ p ++ [c]) : r <+: p := by
  obtain ⟨t, e⟩ := h
  rcases List.eq_nil_or_concat t with rfl | ⟨t', c', rfl⟩
  · rw [List.append_nil] at e; exact absurd e ne
  · rw [List.concat_eq_append, ← List.append_assoc] at e
    exact ⟨t', (List.append_inj' e rfl).1⟩
/-- the step: no other half, or the whole stands too -/
theorem cut_not {ls : List (List Nat)} {p : List Nat} {c B : Nat} (hB : ∀ r ∈ ls, r.length ≤ p.length + 1) (hw : isW (p ++ [c])) (hd : p ++ [c] ∈ ls) (h : p ++ [oS c] ∉ ls ∨ p ∈ ls) (hb : p.length + 1 ≤ B) : ¬ cutAt B ls := by
  intro q
  rw [← cut_bound hB hb] at q
  have hwp := (isW_append.mp hw).1
  have hdd := q (p ++ [c]) hw (by simp)
  rcases h with h | h
  · have q2 := q (p ++ [oS c]) (isW_append.mpr ⟨hwp, isW_cons.mpr ⟨oS_W, fun c h => by cases h⟩⟩) (by simp)
    obtain ⟨r, hr, hp⟩ := List.countP_pos_iff.mp (show 0 < cov ls (p ++ [oS c]) by omega)
    rw [List.isPrefixOf_iff_prefix] at hp
    have hrp : r <+: p := prefix_snoc hp fun e => h (e ▸ hr)
    have : 2 ≤ cov ls (p ++ [c]) := cov_two hr hd (fun e => by
      have := hrp.length_le
      rw [e] at this
      simp at this
      omega) (hrp.trans (List.prefix_append ..)) (List.prefix_refl _)
    omega
  · have : 2 ≤ cov ls (p ++ [c]) := cov_two h hd (fun e => by
      have := congrArg List.length e
      simp at this) (List.prefix_append ..) (List.prefix_refl _)
    omega
theorem prefix_half {p w : List Nat} {c : Nat} (hc : c = 76 ∨ c = 82) (hw : isW w) (hl : p.length < w.length) : (if p <+: w then 1 else 0) = (if p ++ [c] <+: w then 1 else 0) + if p ++ [oS c] <+: w then 1 else 0 := by
  by_cases h : p <+: w
  · obtain ⟨t, rfl⟩ := h
    cases t with
    | nil => simp at hl
    | cons d t =>
      have hd : d = 76 ∨ d = 82 := hw d (by simp)
      have e : ∀ x : Nat, (p ++ [x] <+: p ++ d :: t) ↔ x = d := fun x => by
        rw [List.prefix_append_right_inj]
        constructor
        · rintro ⟨u, e⟩
          have := List.cons.inj e
          exact this.1
        · rintro rfl; exact ⟨t, rfl⟩
      rw [if_pos (List.prefix_append ..)]
      simp only [e]
      unfold oS
      rcases hc with rfl | rfl <;> rcases hd with rfl | rfl <;> simp
  · have n : ∀ x : Nat, ¬ p ++ [x] <+: w := fun x z => h ((List.prefix_append ..).trans z)
    rw [if_neg h, if_neg (n c), if_neg (n _)]
theorem cov_remove {ls : List (List Nat)} {r w : List Nat} (hn : ls.Nodup) (h : r ∈ ls) : cov ls w = cov (ls.filter fun x => decide (x ≠ r)) w + if r <+: w then 1 else 0 := by
  have e : (ls.filter fun x => decide (x ≠ r)) = ls.erase r := by
    rw [hn.erase_eq_filter]
    exact List.filter_congr fun x _ => by by_cases e : x = r <;> simp [e]
  rw [e, cov_perm (List.perm_cons_erase h), cov_cons]
/-- the step: two halves, one whole -/
def joinH (ls : List (List Nat)) (p : List Nat) (c : Nat) : List (List Nat) := ((ls.filter fun x => decide (x ≠ p ++ [c])).filter fun x => decide (x ≠ p ++ [oS c])) ++ [p]
theorem cut_join {ls : List (List Nat)} {p : List Nat} {c B : Nat} (hn : ls.Nodup) (hw : isW (p ++ [c])) (hd : p ++ [c] ∈ ls) (ho : p ++ [oS c] ∈ ls) (hb : p.length + 1 ≤ B) : cutAt B (joinH ls p c) ↔ cutAt B ls := by
  have hc : c = 76 ∨ c = 82 := hw c (by simp)
  have ne : p ++ [oS c] ≠ p ++ [c] := fun e => oS_ne (by simpa using e)
  have e : ∀ w, isW w → w.length = B → cov (joinH ls p c) w = cov ls w := fun w h1 h2 => by
    unfold joinH
    rw [cov_append, cov_remove hn hd, cov_remove (hn.filter _) (List.mem_filter.mpr ⟨ho, by simpa using ne⟩), cov_cons, prefix_half hc h1 (by omega)]
    show _ + (0 + _) = _
    omega
  unfold cutAt
  constructor
  · intro q w h1 h2; rw [← e w h1 h2]; exact q w h1 h2
  · intro q w h1 h2; rw [e w h1 h2]; exact q w h1 h2
theorem joinH_nodup {ls : List (List Nat)} {p : List Nat} {c : Nat} (hn : ls.Nodup) (hp : p ∉ ls) : (joinH ls p c).Nodup := by
  unfold joinH
  rw [List.nodup_append]
  refine ⟨(hn.filter _).filter _, by simp, fun a ha b hb => ?_⟩
  rw [List.mem_singleton] at hb
  subst hb
  intro e
  subst e
  exact hp ((List.mem_filter.mp (List.mem_filter.mp ha).1).1)
theorem filter_ne_length {ls : List (List Nat)} {r : List Nat} (hn : ls.Nodup) (h : r ∈ ls) : (ls.filter fun x => decide (x ≠ r)).length + 1 = ls.length := by
  have e : (ls.filter fun x => decide (x ≠ r)) = ls.erase r := by
    rw [hn.erase_eq_filter]
    exact List.filter_congr fun x _ => by by_cases e : x = r <;> simp [e]
  rw [e, List.length_erase_of_mem h]
  have := List.length_pos_of_mem h
  omega
theorem joinH_length {ls : List (List Nat)} {p : List Nat} {c : Nat} (hn : ls.Nodup) (hd : p ++ [c] ∈ ls) (ho : p ++ [oS c] ∈ ls) : (joinH ls p c).length + 1 = ls.length := by
  have ne : p ++ [oS c] ≠ p ++ [c] := fun e => oS_ne (by simpa using e)
  have h1 := filter_ne_length hn hd
  have h2 := filter_ne_length (hn.filter fun x => decide (x ≠ p ++ [c])) (List.mem_filter.mpr ⟨ho, by simpa using ne⟩)
  unfold joinH
  rw [List.length_append]
  simp only [List.length_cons, List.length_nil]
  omega
theorem joinH_mem {ls : List (List Nat)} {p r : List Nat} {c : Nat} (h : r ∈ joinH ls p c) : r ∈ ls ∨ r = p := by
  unfold joinH at h
  rcases List.mem_append.mp h with z | z
  · exact .inl ((List.mem_filter.mp (List.mem_filter.mp z).1).1)
  · exact .inr (List.mem_singleton.mp z)
/-- the end -/
theorem cut_end {ls : List (List Nat)} {B : Nat} (h1 : ls.length ≤ 1) (hB : ∀ r ∈ ls, r.length ≤ B) (hw : ∀ r ∈ ls, isW r) : cutAt B ls ↔ [] ∈ ls := by
  match ls, h1 with
  | [], _ =>
    constructor
    · intro q
      have := q (List.replicate B 76) (fun c hc => .inl (List.eq_of_mem_replicate hc)) List.length_replicate
      simp [cov] at this
    · intro q; cases q
  | [r], _ =>
    rw [List.mem_singleton]
    constructor
    · intro q
      cases r with
      | nil => rfl
      | cons c r =>
        have hl := hB _ (List.mem_cons_self ..)
        rw [List.length_cons] at hl
        have := q (oS c :: List.replicate (B - 1) 76) (isW_cons.mpr ⟨oS_W, fun c hc => .inl (List.eq_of_mem_replicate hc)⟩) (by rw [List.length_cons, List.length_replicate]; omega)
        rw [cov_cons, if_neg] at this
        · simp [cov] at this
        · rintro ⟨t, e⟩
          exact oS_ne (List.cons.inj e).1.symm
    · rintro e w _ _
      rw [← e, cov_cons, if_pos (List.nil_prefix ..)]
      rfl
/-! ### contracts -/
def Sp_other_half : SpN := fun ds Ψ => ∃ p c, ds = [.str (tx (p ++ [c]))] ∧ p.length ≤ 1000 ∧ isW (p ++ [c]) ∧ Ψ (.str (tx (p ++ [oS c]))) []
def seqD (d : D) (xs : List D) : Prop := d = .lst xs ∨ d = .tup xs
theorem dItems_seq {d : D} {xs : List D} (h : seqD d xs) {φ : List D → Prop} : dItems d φ = φ xs := by rcases h with rfl | rfl <;> rfl
theorem dLen_seq {d : D} {xs : List D} (h : seqD d xs) {Ψ : D → Prop} : dLen d Ψ = Ψ (.int xs.length) := by rcases h with rfl | rfl <;> rfl
def Sp_is_cut : SpN := fun ds Ψ => ∃ d rs, ∃ B : Nat, ds = [d] ∧ seqD d (rs.map rD) ∧ rs.length ≤ 1000 ∧ (∀ r ∈ rs, isW r ∧ r.length ≤ B) ∧ B ≤ 1000 ∧ ∀ b : Bool, (b = true ↔ cutAt B rs) → Ψ (.bl b) []
def kraft (rs : List (List Nat)) : Nat := (rs.map fun r => 2 ^ (12 - r.length)).sum
def cutP (rs : List (List Nat)) : Prop := cutAt 12 rs ∧ kraft rs = 4096 ∧ ∀ r ∈ rs, isW r ∧ r.length ≤ 12
def Sp__law_cut : SpN := fun ds Ψ => ∃ n d, ∃ size : Nat, ds = [d, .int size] ∧ isBag n d ∧ n < 2 ^ 58 ∧ 1 ≤ size ∧ size ≤ 64 ∧ ∀ rs d', cutP rs → rs.length = size → isBag (n + 200) d' → Ψ (.lst (rs.map rD)) [d']
def Sp__law_covers : SpN := fun ds Ψ => ∃ rs, ∃ B : Nat, ds = [.lst (rs.map rD)] ∧ rs.length ≤ 1000 ∧ (∀ r ∈ rs, isW r ∧ r.length ≤ B) ∧ B ≤ 1000 ∧ Ψ .non [] ∧ ∀ b : Bool, (b = true ↔ cutAt B rs) → Ψ (.bl b) []
/-- a set of words, as a dict of True -/
def setW (ls : List (List Nat)) : List (List Nat × D) := ls.map fun r => (r, .bl true)
def addW (ls : List (List Nat)) (r : List Nat) : List (List Nat) := if r ∈ ls then ls else ls ++ [r]
theorem any_setW (ls : List (List Nat)) (r : List Nat) : ((setW ls).any fun p => decide (p.1 = r)) = decide (r ∈ ls) := by
  unfold setW
  rw [List.any_map]
  by_cases h : r ∈ ls
  · rw [decide_eq_true h]
    exact List.any_eq_true.mpr ⟨r, h, by simp⟩
  · rw [decide_eq_false h, List.any_eq_false]
    intro x hx
    simp only [Function.comp, decide_eq_true_eq]
    rintro rfl
    exact h hx
theorem putW_setW (ls : List (List Nat)) (r : List Nat) : putW (setW ls) r (.bl true) = setW (addW ls r) := by
  unfold putW addW
  rw [any_setW]
  by_cases h : r ∈ ls
  · rw [if_pos h, if_pos (decide_eq_true h)]
    unfold setW
    rw [List.map_map]
    refine List.map_congr_left fun x _ => ?_
    simp only [Function.comp]
    split <;> rfl
  · rw [if_neg h, if_neg (by simpa using h)]
    unfold setW
    rw [List.map_append]
    rfl
theorem dropW_setW (ls : List (List Nat)) (r : List Nat) : dropW (setW ls) r = setW (ls.filter fun x => decide (x ≠ r)) := by
  unfold dropW setW
  rw [List.filter_map]
  rfl
theorem lookW_some (l : List (List Nat × D)) (r : List Nat) : (lookW l r).isSome = l.any fun p => decide (p.1 = r) := by
  unfold lookW
  rw [Option.isSome_map, Bool.eq_iff_iff, List.find?_isSome, List.any_eq_true]
theorem look_setW (ls : List (List Nat)) (r : List Nat) : (valD (kvW (setW ls)) (.inr (tx r))).isSome = decide (r ∈ ls) := by rw [valD_kvW, lookW_some, any_setW]
theorem setW_length (ls : List (List Nat)) : (kvW (setW ls)).length = ls.length := by rw [kvW_length]; exact List.length_map ..
theorem keys_setW (ls : List (List Nat)) : ((kvW (setW ls)).map fun kv => keyV kv.1) = ls.map rD := by
  rw [keys_kvW]
  unfold setW
  rw [List.map_map]
  rfl
def dedW (rs : List (List Nat)) : List (List Nat) := rs.foldl addW []
theorem ded_fold : ∀ (rs acc : List (List Nat)), (rs.map rD).length = rs.length ∧ rs.foldl (fun acc r => putD acc (.inr (tx r)) (.bl true)) (kvW (setW acc)) = kvW (setW (rs.foldl addW acc))
  | [], acc => ⟨rfl, rfl⟩
  | r :: rs, acc => by
    refine ⟨by simp, ?_⟩
    rw [List.foldl_cons, List.foldl_cons, putD_kvW, putW_setW]
    exact (ded_fold rs _).2
theorem addW_length (ls : List (List Nat)) (r : List Nat) : (addW ls r).length ≤ ls.length + 1 := by
  unfold addW
  split
  · omega
  · rw [List.length_append]; simp
theorem ded_le : ∀ (rs acc : List (List Nat)), (rs.foldl addW acc).length ≤ acc.length + rs.length
  | [], acc => by simp
  | r :: rs, acc => by
    have := ded_le rs (addW acc r)
    have := addW_length acc r
    rw [List.foldl_cons, List.length_cons]
    omega
theorem ded_nodup : ∀ (rs acc : List (List Nat)), (acc ++ rs).Nodup → rs.foldl addW acc = acc ++ rs
  | [], acc, _ => by simp
  | r :: rs, acc, h => by
    have hn : r ∉ acc := fun z => (List.nodup_append.mp h).2.2 r z r (List.mem_cons_self ..) rfl
    rw [List.foldl_cons, addW, if_neg hn, ded_nodup rs (acc ++ [r]) (by simpa using h)]
    simp
theorem ded_short : ∀ (rs acc : List (List Nat)), acc.Nodup → ¬ (acc ++ rs).Nodup → (rs.foldl addW acc).length < acc.length + rs.length
  | [], acc, hn, h => by simp at h; exact absurd hn h
  | r :: rs, acc, hn, h => by
    rw [List.foldl_cons, List.length_cons]
    by_cases hm : r ∈ acc
    · rw [addW, if_pos hm]
      have := ded_le rs acc
      omega
    · have e : addW acc r = acc ++ [r] := by rw [addW, if_neg hm]
      rw [e]
      have := ded_short rs (acc ++ [r]) (by
        rw [List.nodup_append]
        refine ⟨hn, by simp, fun a ha b hb => ?_⟩
        rw [List.mem_singleton] at hb
        subst hb
        rintro rfl
        exact hm ha) (by simpa using h)
      rw [List.length_append] at this
      simp only [List.length_cons, List.length_nil] at this
      omega
theorem drop_setW (ls : List (List Nat)) (r : List Nat) : dropD (kvW (setW ls)) (.inr (tx r)) = kvW (setW (ls.filter fun x => decide (x ≠ r))) := by rw [dropD_kvW, dropW_setW]
theorem put_setW (ls : List (List Nat)) (r : List Nat) : putD (kvW (setW ls)) (.inr (tx r)) (.bl true) = kvW (setW (addW ls r)) := by rw [putD_kvW, putW_setW]
theorem joinH_eq {ls : List (List Nat)} {p : List Nat} {c : Nat} (h : p ∉ ls) : addW ((ls.filter fun x => decide (x ≠ p ++ [c])).filter fun x => decide (x ≠ p ++ [oS c])) p = joinH ls p c := by
  unfold addW joinH
  rw [if_neg fun z => h (List.mem_filter.mp (List.mem_filter.mp z).1).1]
end Fw

/-! Fp8: cuts drawn; words by their number. -/
namespace Fw
open PySem L2

theorem starts_tx (w r : List Nat) : Txt.startswith (tx w) (tx r) = r.isPrefixOf w := by
  rw [Bool.eq_iff_iff, List.isPrefixOf_iff_prefix]
  unfold Txt.startswith Builtin.Str.subAt
  rw [tx_len, tx_len]
  unfold tx
  simp only [Nat.zero_add, Bool.and_eq_true, decide_eq_true_eq, beq_iff_eq]
  constructor
  · rintro ⟨h1, h2⟩
    have := congrArg Array.toList h2
    simp at this
    rw [List.prefix_iff_eq_take]
    exact this.symm
  · intro h
    refine ⟨h.length_le, ?_⟩
    apply Array.ext'
    simp
    exact (List.prefix_iff_eq_take.mp h).symm
theorem dStarts_tx {w r : List Nat} {Ψ : D → Prop} : dStarts (tx w) (.str (tx r)) Ψ = Ψ (.bl (r.isPrefixOf w)) := by
  show Ψ (.bl (Txt.startswith (tx w) (tx r))) = _
  rw [starts_tx]
theorem deq_words : ∀ a b : List (List Nat), deq (.lst (a.map rD)) (.lst (b.map rD)) = decide (a = b)
  | [], [] => by simp [deq, D.py, D.pyL, PyData.eqv, PyData.eqvAll]
  | [], _ :: _ => by simp [deq, D.py, D.pyL, PyData.eqv, PyData.eqvAll]
  | _ :: _, [] => by simp [deq, D.py, D.pyL, PyData.eqv, PyData.eqvAll]
  | x :: a, y :: b => by
    have ih := deq_words a b
    have h0 : deq (.str (tx x)) (.str (tx y)) = decide (x = y) := by simp only [deq_str, tx_inj]
    simp only [deq, D.py, D.pyL, PyData.eqv, PyData.eqvAll, List.map_cons, rD] at ih h0 ⊢
    rw [h0, ih]
    by_cases e : x = y <;> by_cases e2 : a = b <;> simp [e, e2]
theorem cm_words {rs : List (List Nat)} (h : ∀ r ∈ rs, isW r) : D.cm (.lst (rs.map rD)) = true := cm_of (n := 1) (by decide) (cmN_lst fun x hx => by
  obtain ⟨r, hr, rfl⟩ := List.mem_map.mp hx
  exact cmN_tx 0 (h r hr).cp)
theorem dEq_nil {rs : List (List Nat)} (h : ∀ r ∈ rs, isW r) {Ψ : D → Prop} : dEq (.lst (rs.map rD)) (.lst []) Ψ = Ψ (.bl (decide (rs = []))) := by
  unfold dEq
  rw [cm_words h, cm_lst_nil, show (D.lst []) = .lst (([] : List (List Nat)).map rD) from rfl, deq_words]
  simp
theorem dNe_words {a b : List (List Nat)} (h : ∀ r ∈ a, isW r) (h' : ∀ r ∈ b, isW r) {Ψ : D → Prop} : dNe (.lst (a.map rD)) (.lst (b.map rD)) Ψ = Ψ (.bl (!decide (a = b))) := by
  unfold dNe
  rw [cm_words h, cm_words h', deq_words]
  simp
theorem dEq_words {a b : List (List Nat)} (h : ∀ r ∈ a, isW r) (h' : ∀ r ∈ b, isW r) {Ψ : D → Prop} : dEq (.lst (a.map rD)) (.lst (b.map rD)) Ψ = Ψ (.bl (decide (a = b))) := by
  unfold dEq
  rw [cm_words h, cm_words h', deq_words]
  simp
theorem eqV_nat (a b : Nat) : eqV (D.int (a : Int)).toV (D.int (b : Int)).toV = decide (a = b) := by
  show eqV (V.int a) (V.int b) = _
  by_cases h : a = b
  · subst h; simp [eqV]
  · rw [decide_eq_false h]
    simp only [eqV]
    simp
    omega
theorem dIndex_nat {ns : List Nat} {m : Nat} {Ψ : D → Prop} (h : m ∈ ns) (hΨ : ∀ j : Nat, ns[j]? = some m → Ψ (.int j)) : dIndex (.lst (ns.map fun n : Nat => .int (n : Int))) (.int (m : Int)) Ψ := by
  rw [dIndex_lst]
  refine ⟨rfl, List.all_eq_true.mpr fun x hx => ?_, ?_⟩
  · obtain ⟨n, _, rfl⟩ := List.mem_map.mp hx; rfl
  have key : ∀ ns : List Nat, m ∈ ns → ∃ j : Nat, ns[j]? = some m ∧ ∀ i < j, ∀ z, ns[i]? = some z → z ≠ m := by
    intro ns
    induction ns with
    | nil => intro h; cases h
    | cons n ns ih =>
      intro h
      by_cases e : n = m
      · exact ⟨0, by rw [e]; rfl, fun i hi => by omega⟩
      · obtain ⟨j, h1, h2⟩ := ih (by rcases List.mem_cons.mp h with z | z; exact absurd z.symm e; exact z)
        refine ⟨j + 1, h1, fun i hi z hz => ?_⟩
        cases i with
        | zero => cases hz; exact e
        | succ i => exact h2 i (by omega) z hz
  obtain ⟨j, h1, h2⟩ := key ns h
  refine ⟨j, .int (m : Int), by rw [List.getElem?_map, h1]; rfl, by rw [eqV_nat]; simp, fun i hi z' hz' => ?_, hΨ j h1⟩
  rw [List.getElem?_map] at hz'
  obtain ⟨n, hn, rfl⟩ := Option.map_eq_some_iff.mp hz'
  rw [eqV_nat]
  exact decide_eq_false (h2 i hi n hn)

/-! ### a room halved -/
def halveAt (rs : List (List Nat)) (r : List Nat) (at_ : Nat) : List (List Nat) := rs.take at_ ++ [r ++ [76], r ++ [82]] ++ rs.drop (at_ + 1)
theorem split_at {rs : List (List Nat)} {r : List Nat} {i : Nat} (h : rs[i]? = some r) : rs = rs.take i ++ r :: rs.drop (i + 1) := by
  obtain ⟨hi, e⟩ := List.getElem?_eq_some_iff.mp h
  rw [← e, ← List.drop_eq_getElem_cons hi, List.take_append_drop]
theorem kraft_append (a b : List (List Nat)) : kraft (a ++ b) = kraft a + kraft b := by unfold kraft; rw [List.map_append, List.sum_append]
theorem kraft_cons (r : List Nat) (b : List (List Nat)) : kraft (r :: b) = 2 ^ (12 - r.length) + kraft b := by unfold kraft; rw [List.map_cons, List.sum_cons]
theorem halve_cov {rs : List (List Nat)} {r w : List Nat} {i : Nat} (h : rs[i]? = some r) (hw : isW w) (hl : r.length < w.length) : cov (halveAt rs r i) w = cov rs w := by
  have e := split_at h
  have e2 := prefix_half (p := r) (c := 76) (.inl rfl) hw hl
  rw [show oS 76 = 82 from rfl] at e2
  calc cov (halveAt rs r i) w = _ := by
        unfold halveAt
        rw [cov_append, cov_append, cov_cons, cov_cons, show cov [] w = 0 from rfl]
    _ = cov (rs.take i ++ r :: rs.drop (i + 1)) w := by rw [cov_append, cov_cons]; omega
    _ = cov rs w := by rw [← e]
theorem halve_mem {rs : List (List Nat)} {r x : List Nat} {i : Nat} (h : x ∈ halveAt rs r i) : x ∈ rs ∨ x = r ++ [76] ∨ x = r ++ [82] := by
  unfold halveAt at h
  rcases List.mem_append.mp h with z | z
  · rcases List.mem_append.mp z with z | z
    · exact .inl (List.mem_of_mem_take z)
    · simp at z; exact .inr z
  · exact .inl (List.mem_of_mem_drop z)
theorem isW_L : isW [76] := fun c h => .inl (List.mem_singleton.mp h)
theorem isW_R : isW [82] := fun c h => .inr (List.mem_singleton.mp h)
theorem isW_nil : isW [] := fun c h => by cases h
theorem halve_cut {rs : List (List Nat)} {r : List Nat} {i : Nat} (hc : cutP rs) (h : rs[i]? = some r) (hl : r.length ≤ 11) : cutP (halveAt rs r i) := by
  refine ⟨fun w h1 h2 => by rw [halve_cov h h1 (by omega)]; exact hc.1 w h1 h2, ?_, fun x hx => ?_⟩
  · have e := split_at h
    have hk := hc.2.1
    rw [e, kraft_append, kraft_cons] at hk
    unfold halveAt
    rw [kraft_append, kraft_append, kraft_cons, kraft_cons, show kraft [] = 0 from rfl, List.length_append, List.length_append]
    have e3 : 2 ^ (12 - r.length) = 2 * 2 ^ (12 - (r.length + 1)) := by
      rw [show 12 - r.length = (12 - (r.length + 1)) + 1 by omega, Nat.pow_succ]
      omega
    simp only [List.length_cons, List.length_nil, Nat.zero_add]
    omega
  · have hr := hc.2.2 r (List.mem_of_getElem? h)
    rcases halve_mem hx with z | rfl | rfl
    · exact hc.2.2 x z
    · exact ⟨isW_append.mpr ⟨hr.1, isW_L⟩, by simp; omega⟩
    · exact ⟨isW_append.mpr ⟨hr.1, isW_R⟩, by simp; omega⟩
theorem halve_len {rs : List (List Nat)} {r : List Nat} {i : Nat} (h : rs[i]? = some r) : (halveAt rs r i).length = rs.length + 1 := by
  have hi := (List.getElem?_eq_some_iff.mp h).1
  unfold halveAt
  rw [List.length_append, List.length_append, List.length_take, List.length_drop]
  simp
  omega
theorem kraft_deep : ∀ rs : List (List Nat), (∀ r ∈ rs, 12 ≤ r.length) → kraft rs = rs.length
  | [], _ => rfl
  | r :: rs, h => by
    rw [kraft_cons, kraft_deep rs fun x hx => h x (List.mem_cons_of_mem _ hx), show 12 - r.length = 0 by have := h r (List.mem_cons_self ..); omega, List.length_cons]
    omega
/-- few rooms: one that is not too deep -/
theorem cut_short {rs : List (List Nat)} (hc : cutP rs) (hl : rs.length < 4096) : ∃ r ∈ rs, r.length ≤ 11 := Classical.byContradiction fun z => by
  have := kraft_deep rs fun r hr => by
    refine Nat.le_of_not_lt fun h => z ⟨r, hr, by omega⟩
  have := hc.2.1
  omega
theorem cutP_one : cutP [[]] := ⟨fun w _ _ => by rw [cov_cons, if_pos (List.nil_prefix ..)]; rfl, by decide, fun r hr => by
  rw [List.mem_singleton] at hr
  subst hr
  exact ⟨isW_nil, by decide⟩⟩
theorem cutP.ne {rs : List (List Nat)} (h : cutP rs) : 0 < rs.length := by
  rcases rs with _ | ⟨r, rs⟩
  · have := h.2.1; cases this
  · simp

/-! ### a word by its number -/
def wordN (d n : Nat) : List Nat := (List.range d).map fun k => if n / 2 ^ k % 2 = 0 then 76 else 82
theorem wordN_W (d n : Nat) : isW (wordN d n) := fun c hc => by
  unfold wordN at hc
  obtain ⟨k, _, rfl⟩ := List.mem_map.mp hc
  split
  · exact .inl rfl
  · exact .inr rfl
theorem wordN_len (d n : Nat) : (wordN d n).length = d := by unfold wordN; rw [List.length_map, List.length_range]
theorem wordN_succ (d n : Nat) : wordN (d + 1) n = (if n % 2 = 0 then 76 else 82) :: wordN d (n / 2) := by
  unfold wordN
  rw [List.range_succ_eq_map, List.map_cons, List.map_map, Nat.pow_zero, Nat.div_one]
  congr 1
  refine List.map_congr_left fun k _ => ?_
  simp only [Function.comp, Nat.succ_eq_add_one]
  rw [Nat.pow_succ, Nat.mul_comm, ← Nat.div_div_eq_div_mul]
theorem wordN_all : ∀ (w : List Nat), isW w → ∃ n, n < 2 ^ w.length ∧ wordN w.length n = w
  | [], _ => ⟨0, by decide, rfl⟩
  | c :: w, h => by
    obtain ⟨hc, hw⟩ := isW_cons.mp h
    obtain ⟨n, hn, e⟩ := wordN_all w hw
    have hp : 2 ^ (w.length + 1) = 2 * 2 ^ w.length := by rw [Nat.pow_succ]; omega
    rcases hc with rfl | rfl
    · refine ⟨2 * n, by rw [List.length_cons, hp]; omega, ?_⟩
      rw [List.length_cons, wordN_succ, if_pos (by omega), show 2 * n / 2 = n by omega, e]
    · refine ⟨2 * n + 1, by rw [List.length_cons, hp]; omega, ?_⟩
      rw [List.length_cons, wordN_succ, if_neg (by omega), show (2 * n + 1) / 2 = n by omega, e]
theorem cut_words {rs : List (List Nat)} {d : Nat} : cutAt d rs ↔ ∀ n, n < 2 ^ d → cov rs (wordN d n) = 1 := by
  constructor
  · intro h n _; exact h _ (wordN_W d n) (wordN_len d n)
  · rintro h w hw rfl
    obtain ⟨n, hn, e⟩ := wordN_all w hw
    have := h n hn
    rwa [e] at this

/-! ### a cut told by looking -/
def tails (c : Nat) (rs : List (List Nat)) : List (List Nat) := rs.filterMap fun r => match r with
  | [] => none
  | d :: t => if d = c then some t else none
def cutR : Nat → List (List Nat) → Bool
  | 0, rs => rs == [[]]
  | n + 1, rs => rs == [[]] || (!rs.contains [] && cutR n (tails 76 rs) && cutR n (tails 82 rs))
theorem cov_tails {c : Nat} {w : List Nat} : ∀ {rs : List (List Nat)}, ¬ [] ∈ rs → cov rs (c :: w) = cov (tails c rs) w
  | [], _ => rfl
  | [] :: rs, h => absurd (List.mem_cons_self ..) h
  | (d :: t) :: rs, h => by
    have ih := cov_tails (c := c) (w := w) (rs := rs) fun z => h (List.mem_cons_of_mem _ z)
    rw [cov_cons, ih]
    by_cases e : d = c
    · subst e
      have e2 : tails d ((d :: t) :: rs) = t :: tails d rs := by unfold tails; rw [List.filterMap_cons]; simp
      rw [e2, cov_cons]
      congr 1
      simp only [List.cons_prefix_cons, true_and]
    · have e2 : tails c ((d :: t) :: rs) = tails c rs := by unfold tails; rw [List.filterMap_cons]; simp [e]
      rw [e2, if_neg fun z => e (List.cons_prefix_cons.mp z).1, Nat.add_zero]
theorem cutR_ok : ∀ (n : Nat) (rs : List (List Nat)), cutR n rs = true → cutAt n rs
  | 0, rs, h => by
    have e : rs = [[]] := by simpa [cutR] using h
    subst e
    intro w _ _
    rw [cov_cons, if_pos (List.nil_prefix ..)]
    rfl
  | n + 1, rs, h => by
    unfold cutR at h
    rw [Bool.or_eq_true] at h
    rcases h with h | h
    · have e : rs = [[]] := by simpa using h
      subst e
      intro w _ _
      rw [cov_cons, if_pos (List.nil_prefix ..)]
      rfl
    · rw [Bool.and_eq_true, Bool.and_eq_true] at h
      obtain ⟨⟨h0, h1⟩, h2⟩ := h
      have hn : ¬ [] ∈ rs := by simpa using h0
      rintro (_ | ⟨c, w⟩) hw hl
      · cases hl
      · rw [cov_tails hn]
        rcases (isW_cons.mp hw).1 with rfl | rfl
        · exact cutR_ok n _ h1 w (isW_cons.mp hw).2 (by simpa using hl)
        · exact cutR_ok n _ h2 w (isW_cons.mp hw).2 (by simpa using hl)
theorem flat_sing {α β : Type} (g : α → β) : ∀ l : List α, (l.map fun k => [g k]).flatten = l.map g
  | [] => rfl
  | a :: l => by rw [List.map_cons, List.flatten_cons, flat_sing g l]; rfl
def goodL (ss : List (List Nat)) : Prop := (∀ r ∈ ss, isW r ∧ r.length ≤ 14) ∧ ss.length ≤ 40
theorem goodL_app {a b : List (List Nat)} (ha : ∀ r ∈ a, isW r ∧ r.length ≤ 14) (hb : ∀ r ∈ b, isW r ∧ r.length ≤ 14) (h : a.length + b.length ≤ 40) : goodL (a ++ b) := ⟨fun r hr => (List.mem_append.mp hr).elim (ha r) (hb r), by rw [List.length_append]; exact h⟩
theorem not_cut_nil (B : Nat) : ¬ cutAt B [] := fun q => by
  have := q (List.replicate B 76) (fun c hc => .inl (List.eq_of_mem_replicate hc)) List.length_replicate
  simp [cov] at this
theorem same_bl (b : Bool) : sameOk 6 (.bl b) = true := rfl
theorem dNe_nilW {rs : List (List Nat)} (h : ∀ r ∈ rs, isW r) {Ψ : D → Prop} : dNe (.lst (rs.map rD)) (.lst []) Ψ = Ψ (.bl (!decide (rs = []))) := by
  unfold dNe
  rw [cm_words h, cm_lst_nil, show (D.lst []) = .lst (([] : List (List Nat)).map rD) from rfl, deq_words]
  simp
def deepL : List (List Nat) := (List.range 12).map (fun k => (List.replicate k [76]).flatten ++ [82]) ++ [(List.replicate 12 [76]).flatten]
def okWs (rs : List (List Nat)) (B : Nat) : Bool := rs.all fun r => r.all (fun c => c == 76 || c == 82) && decide (r.length ≤ B)
theorem okWs_ok {rs : List (List Nat)} {B : Nat} (h : okWs rs B = true) : ∀ r ∈ rs, isW r ∧ r.length ≤ B := fun r hr => by
  have := List.all_eq_true.mp h r hr
  rw [Bool.and_eq_true, decide_eq_true_eq] at this
  refine ⟨fun c hc => ?_, this.2⟩
  have := List.all_eq_true.mp this.1 c hc
  simpa using this
theorem no_cut {rs : List (List Nat)} {B : Nat} (w : List Nat) (hw : okWs [w] B = true) (hl : w.length = B) (hc : cov rs w ≠ 1) : ¬ cutAt B rs := fun q => hc (q w (okWs_ok hw w (by simp)).1 hl)
theorem deep_cut : cutAt 12 deepL := cutR_ok 12 _ (by decide +kernel)
theorem deep_no1 : ¬ cutAt 12 deepL.dropLast := no_cut (List.replicate 12 76) (by decide +kernel) (by decide +kernel) (by decide +kernel)
theorem deep_no2 : ¬ cutAt 12 (deepL.dropLast ++ [(List.replicate 11 [76]).flatten]) := no_cut (List.replicate 11 76 ++ [82]) (by decide +kernel) (by decide +kernel) (by decide +kernel)
theorem deep_no3 : ¬ cutAt 12 (deepL.drop 1) := no_cut (List.replicate 12 82) (by decide +kernel) (by decide +kernel) (by decide +kernel)
theorem deep_rev : cutAt 12 deepL.reverse := cutR_ok 12 _ (by decide +kernel)
theorem bool_of {b : Bool} {p : Prop} (h : b = true ↔ p) (hp : p) : b = true := h.mpr hp
theorem bool_not {b : Bool} {p : Prop} (h : b = true ↔ p) (hp : ¬ p) : b = false := by
  cases b with
  | false => rfl
  | true => exact absurd (h.mp rfl) hp
end Fw

/-! Fp9: the rooms about some rooms, finer cuts. -/
namespace Fw
open PySem L2

/-! ### comprehensions of two clauses -/
section
variable {α : Type} {wg wg1 : WG} {wi1 : WA} {wt1 : WB} {we : WE} {vs vs1 : List Nat} {ρ : Env}
theorem addS_length (l : List Str) (x : Str) : (addS l x).length ≤ l.length + 1 := by
  unfold addS
  split
  · omega
  · rw [List.length_append]; simp
theorem wScIn_T {Ψ : List Str → Env → Prop} (g : α → D) (f : α → Str) : ∀ (l : List α) (acc : List Str),
    (∀ a ∈ l, ∀ k : D → Env → Prop, (∀ ρ3, wipeE ρ3 vs1 = ρ → k (.str (f a)) ρ3) → wg1 (g a) ρ fun ρ1 => we ρ1 k fun _ _ => False) →
    acc.length + l.length < scanBound → Ψ (l.foldl (fun acc a => addS acc (f a)) acc) ρ → wScIn wg1 wYes we vs1 (l.map g) acc ρ Ψ
  | [], acc, hb, hs, h => h
  | a :: l, acc, hb, hs, h => by
    have hs' : acc.length + (l.length + 1) < scanBound := hs
    have hl := addS_length acc (f a)
    refine hb a (List.mem_cons_self ..) (fun y ρ3 => strAt y fun x => acc.length + 1 < scanBound ∧ wScIn wg1 wYes we vs1 (l.map g) (addS acc x) (wipeE ρ3 vs1) Ψ) fun ρ3 e => ⟨by omega, ?_⟩
    rw [e]
    exact wScIn_T g f l _ (fun d hd => hb d (List.mem_cons_of_mem _ hd)) (by omega) h
theorem wScOut_T {Ψ : List Str → Env → Prop} (g : α → D) (F : List Str → α → List Str) : ∀ (l : List α) (acc : List Str),
    (∀ pre a suf, l = pre ++ a :: suf → ∀ k : List Str → Env → Prop, (∀ ρ4, wipeE ρ4 vs = ρ → k (F (pre.foldl F acc) a) ρ4) → wg (g a) ρ fun ρ1 => wi1 ρ1 (fun ds1 ρ3 => wScIn wg1 wt1 we vs1 ds1 (pre.foldl F acc) (wipeE ρ3 vs1) k) fun _ _ => False) →
    Ψ (l.foldl F acc) ρ → wScOut wg wYes wi1 wg1 wt1 we vs vs1 (l.map g) acc ρ Ψ
  | [], acc, hb, h => h
  | a :: l, acc, hb, h => by
    refine hb [] a l rfl (fun acc' ρ4 => wScOut wg wYes wi1 wg1 wt1 we vs vs1 (l.map g) acc' (wipeE ρ4 vs) Ψ) fun ρ4 e => ?_
    rw [e]
    exact wScOut_T g F l _ (fun pre b suf eq => hb (a :: pre) b suf (by rw [eq]; rfl)) h
theorem wL2In_filT {Ψ : List D → Env → Prop} (g : α → D) (p : α → Bool) (f : α → D) : ∀ (l : List α) (acc : List D),
    (∀ d ∈ l, ∀ (k : D → Env → Prop) (k' : Env → Prop), (p d = true → ∀ ρ3, wipeE ρ3 vs1 = ρ → k (f d) ρ3) → (p d = false → ∀ ρ3, wipeE ρ3 vs1 = ρ → k' ρ3) → wg1 (g d) ρ fun ρ1 => wt1 ρ1 (fun b ρ2 => if b = true then we ρ2 k (fun _ _ => False) else k' ρ2) fun _ _ => False) →
    acc.length + l.length ≤ sizeLine → Ψ (acc ++ (l.filter p).map f) ρ → wL2In wg1 wt1 we vs1 (l.map g) acc ρ Ψ
  | [], acc, hb, hs, h => by simpa [wL2In] using h
  | d :: ds, acc, hb, hs, h => by
    have hs' : acc.length + (ds.length + 1) ≤ sizeLine := hs
    refine hb d (List.mem_cons_self ..) (fun y ρ3 => acc.length < sizeLine ∧ wL2In wg1 wt1 we vs1 (ds.map g) (acc ++ [y]) (wipeE ρ3 vs1) Ψ) (fun ρ2 => wL2In wg1 wt1 we vs1 (ds.map g) acc (wipeE ρ2 vs1) Ψ) (fun hp ρ3 e => ⟨by omega, ?_⟩) fun hp ρ3 e => ?_
    · rw [e]
      refine wL2In_filT g p f ds _ (fun b hb' => hb b (List.mem_cons_of_mem _ hb')) (by rw [List.length_append]; simp; omega) ?_
      rw [List.filter_cons_of_pos hp, List.map_cons] at h
      simpa using h
    · rw [e]
      refine wL2In_filT g p f ds _ (fun b hb' => hb b (List.mem_cons_of_mem _ hb')) (by omega) ?_
      rw [List.filter_cons_of_neg (by simp [hp])] at h
      exact h
theorem wL2Out_T {Ψ : List D → Env → Prop} (g : α → D) (F : α → List D) : ∀ (l : List α) (acc : List D),
    (∀ pre a suf, l = pre ++ a :: suf → ∀ k : List D → Env → Prop, (∀ ρ4, wipeE ρ4 vs = ρ → k (acc ++ pre.flatMap F ++ F a) ρ4) → wg (g a) ρ fun ρ1 => wi1 ρ1 (fun ds1 ρ3 => wL2In wg1 wt1 we vs1 ds1 (acc ++ pre.flatMap F) (wipeE ρ3 vs1) k) fun _ _ => False) →
    Ψ (acc ++ l.flatMap F) ρ → wL2Out wg wYes wi1 wg1 wt1 we vs vs1 (l.map g) acc ρ Ψ
  | [], acc, hb, h => by simpa [wL2Out] using h
  | a :: l, acc, hb, h => by
    have h0 := hb [] a l rfl (fun acc' ρ4 => wL2Out wg wYes wi1 wg1 wt1 we vs vs1 (l.map g) acc' (wipeE ρ4 vs) Ψ)
    rw [List.flatMap_nil, List.append_nil] at h0
    refine h0 fun ρ4 e => ?_
    rw [e]
    refine wL2Out_T g F l _ (fun pre b suf eq k hk => ?_) (by rw [List.flatMap_cons] at h; simpa using h)
    have h1 := hb (a :: pre) b suf (by rw [eq]; rfl) k (by rw [List.flatMap_cons]; simpa using hk)
    rw [List.flatMap_cons, ← List.append_assoc] at h1
    exact h1
end

/-! ### words sorted -/
def srtW (l : List (List Nat)) : List (List Nat) := l.mergeSort fun a b => decide (a ≤ b)
theorem srtW_perm (l : List (List Nat)) : (srtW l).Perm l := List.mergeSort_perm ..
theorem srtW_mem {l : List (List Nat)} {w : List Nat} : w ∈ srtW l ↔ w ∈ l := (srtW_perm l).mem_iff
theorem srtW_nodup {l : List (List Nat)} : (srtW l).Nodup ↔ l.Nodup := (srtW_perm l).nodup_iff
theorem srtW_length (l : List (List Nat)) : (srtW l).length = l.length := (srtW_perm l).length_eq
theorem srtS_tx (l : List (List Nat)) : srtS (l.map tx) = (srtW l).map tx := by
  unfold srtS srtW
  refine (List.map_mergeSort fun a _ b _ => ?_).symm
  unfold leS
  rw [tx_cps, tx_cps]
theorem tx_inj' {a b : List Nat} (h : tx a = tx b) : a = b := by rwa [tx_inj] at h
theorem map_tx_inj {l l' : List (List Nat)} (h : l.map tx = l'.map tx) : l = l' := List.map_inj_right (fun a b => tx_inj') |>.mp h
theorem srtW_unique {l l' : List (List Nat)} (h : l.Perm l') : srtW l = srtW l' := by
  have := srtS_unique (h.map tx)
  rw [srtS_tx, srtS_tx] at this
  exact map_tx_inj this
theorem srtW_eq {l l' : List (List Nat)} (hn : l.Nodup) (hn' : l'.Nodup) (h : ∀ w, w ∈ l ↔ w ∈ l') : srtW l = srtW l' := srtW_unique ((List.perm_ext_iff_of_nodup hn hn').mpr h)
theorem dSrt_words {l : List (List Nat)} {Ψ : D → Prop} (h : Ψ (.lst ((srtW l).map rD))) : dSrt (.lst (l.map rD)) Ψ := by
  refine ⟨l.map tx, ?_, ?_⟩
  · rw [show l.map rD = (l.map tx).map D.str from by rw [List.map_map]; rfl]
    exact D.strs_map _
  · rw [srtS_tx, List.map_map]
    exact h

/-! ### beginnings -/
def preF (acc : List (List Nat)) (r : List Nat) : List (List Nat) := (List.range r.length).foldl (fun acc n => addW acc (r.take n)) acc
def preW (rs : List (List Nat)) : List (List Nat) := rs.foldl preF []
def innerW (rs : List (List Nat)) : List (List Nat) := srtW (preW rs)
theorem addW_mem {ls : List (List Nat)} {r w : List Nat} : w ∈ addW ls r ↔ w ∈ ls ∨ w = r := by
  unfold addW
  split
  · exact ⟨.inl, fun h => h.elim id fun e => e ▸ ‹_›⟩
  · rw [List.mem_append, List.mem_singleton]
theorem addW_nodup {ls : List (List Nat)} {r : List Nat} (h : ls.Nodup) : (addW ls r).Nodup := by
  unfold addW
  split
  · exact h
  · rename_i hn
    rw [List.nodup_append]
    refine ⟨h, by simp, fun a ha b hb => ?_⟩
    rw [List.mem_singleton] at hb
    subst hb
    rintro rfl
    exact hn ha
theorem foldW_mem {α : Type} (f : α → List Nat) : ∀ (l : List α) (acc : List (List Nat)) (w : List Nat), w ∈ l.foldl (fun acc a => addW acc (f a)) acc ↔ w ∈ acc ∨ ∃ a ∈ l, w = f a
  | [], acc, w => by simp
  | a :: l, acc, w => by
    rw [List.foldl_cons, foldW_mem f l, addW_mem]
    simp only [List.mem_cons, exists_eq_or_imp, or_assoc]
theorem foldW_nodup {α : Type} (f : α → List Nat) : ∀ (l : List α) (acc : List (List Nat)), acc.Nodup → (l.foldl (fun acc a => addW acc (f a)) acc).Nodup
  | [], acc, h => h
  | a :: l, acc, h => foldW_nodup f l _ (addW_nodup h)
theorem foldW_len {α : Type} (f : α → List Nat) : ∀ (l : List α) (acc : List (List Nat)), (l.foldl (fun acc a => addW acc (f a)) acc).length ≤ acc.length + l.length
  | [], acc => by simp
  | a :: l, acc => by
    have := foldW_len f l (addW acc (f a))
    have := addW_length acc (f a)
    rw [List.foldl_cons, List.length_cons]
    omega
/-- a beginning of r that is not r -/
def ppre (w r : List Nat) : Prop := w <+: r ∧ w.length < r.length
theorem ppre_take {w r : List Nat} : (∃ n ∈ List.range r.length, w = r.take n) ↔ ppre w r := by
  constructor
  · rintro ⟨n, hn, rfl⟩
    have := List.mem_range.mp hn
    exact ⟨List.take_prefix .., by rw [List.length_take]; omega⟩
  · rintro ⟨h, hl⟩
    exact ⟨w.length, List.mem_range.mpr hl, List.prefix_iff_eq_take.mp h⟩
theorem preF_mem {acc : List (List Nat)} {r w : List Nat} : w ∈ preF acc r ↔ w ∈ acc ∨ ppre w r := by
  unfold preF
  rw [foldW_mem, ppre_take]
theorem preFold_mem : ∀ (rs acc : List (List Nat)) (w : List Nat), w ∈ rs.foldl preF acc ↔ w ∈ acc ∨ ∃ r ∈ rs, ppre w r
  | [], acc, w => by simp
  | r :: rs, acc, w => by
    rw [List.foldl_cons, preFold_mem rs, preF_mem]
    simp only [List.mem_cons, exists_eq_or_imp, or_assoc]
theorem preW_mem {rs : List (List Nat)} {w : List Nat} : w ∈ preW rs ↔ ∃ r ∈ rs, ppre w r := by
  unfold preW
  rw [preFold_mem]
  simp
theorem preFold_nodup : ∀ (rs acc : List (List Nat)), acc.Nodup → (rs.foldl preF acc).Nodup
  | [], acc, h => h
  | r :: rs, acc, h => preFold_nodup rs _ (foldW_nodup _ _ _ h)
theorem preFold_len : ∀ (rs acc : List (List Nat)), (rs.foldl preF acc).length ≤ acc.length + (rs.map List.length).sum
  | [], acc => by simp
  | r :: rs, acc => by
    have h1 := preFold_len rs (preF acc r)
    have h2 := foldW_len (fun n => r.take n) (List.range r.length) acc
    rw [List.length_range] at h2
    rw [List.foldl_cons, List.map_cons, List.sum_cons]
    unfold preF at h1 ⊢
    omega
theorem innerW_mem {rs : List (List Nat)} {w : List Nat} : w ∈ innerW rs ↔ ∃ r ∈ rs, ppre w r := srtW_mem.trans preW_mem
theorem innerW_nodup (rs : List (List Nat)) : (innerW rs).Nodup := srtW_nodup.mpr (preFold_nodup rs [] List.nodup_nil)
theorem innerW_len (rs : List (List Nat)) : (innerW rs).length ≤ (rs.map List.length).sum := by
  have := preFold_len rs []
  unfold innerW
  rw [srtW_length]
  unfold preW
  simpa using this
theorem innerW_W {rs : List (List Nat)} (h : ∀ r ∈ rs, isW r) : ∀ w ∈ innerW rs, isW w := fun w hw => by
  obtain ⟨r, hr, hp, _⟩ := innerW_mem.mp hw
  exact fun c hc => h r hr c (hp.subset hc)
/-- the same for texts -/
theorem addS_tx (l : List (List Nat)) (w : List Nat) : addS (l.map tx) (tx w) = (addW l w).map tx := by
  unfold addS addW
  have : (tx w ∈ l.map tx) ↔ w ∈ l := ⟨fun h => by obtain ⟨a, ha, e⟩ := List.mem_map.mp h; rw [← tx_inj' e]; exact ha, fun h => List.mem_map_of_mem h⟩
  by_cases h : w ∈ l
  · rw [if_pos h, if_pos (this.mpr h)]
  · rw [if_neg h, if_neg fun z => h (this.mp z), List.map_append]
    rfl
theorem foldS_tx {α : Type} (f : α → List Nat) : ∀ (l : List α) (acc : List (List Nat)), l.foldl (fun acc a => addS acc (tx (f a))) (acc.map tx) = (l.foldl (fun acc a => addW acc (f a)) acc).map tx
  | [], acc => rfl
  | a :: l, acc => by rw [List.foldl_cons, List.foldl_cons, addS_tx, foldS_tx f l]
def preFS (acc : List Str) (r : List Nat) : List Str := (List.range r.length).foldl (fun acc n => addS acc (tx (r.take n))) acc
theorem preFS_tx : ∀ (rs acc : List (List Nat)), rs.foldl preFS (acc.map tx) = (rs.foldl preF acc).map tx
  | [], acc => rfl
  | r :: rs, acc => by
    rw [List.foldl_cons, List.foldl_cons]
    unfold preFS
    rw [foldS_tx]
    exact preFS_tx rs _

/-! ### the fewest rooms about some -/
def leafF (I : List (List Nat)) (w : List Nat) : List (List Nat) := ([76, 82].filter fun s => !decide (w ++ [s] ∈ I)).map fun s => w ++ [s]
def roundW (rs : List (List Nat)) : List (List Nat) := if innerW rs = [] then [[]] else srtW ((innerW rs).flatMap (leafF (innerW rs)))
theorem leafF_mem {I : List (List Nat)} {w x : List Nat} : x ∈ leafF I w ↔ (x = w ++ [76] ∨ x = w ++ [82]) ∧ x ∉ I := by
  unfold leafF
  rw [List.mem_map]
  constructor
  · rintro ⟨s, hs, rfl⟩
    rw [List.mem_filter] at hs
    refine ⟨?_, by simpa using hs.2⟩
    have := hs.1
    simp only [List.mem_cons, List.not_mem_nil, or_false] at this
    rcases this with rfl | rfl
    · exact .inl rfl
    · exact .inr rfl
  · rintro ⟨rfl | rfl, h⟩
    · exact ⟨76, List.mem_filter.mpr ⟨by simp, by simpa using h⟩, rfl⟩
    · exact ⟨82, List.mem_filter.mpr ⟨by simp, by simpa using h⟩, rfl⟩
theorem leafF_nodup (I : List (List Nat)) (w : List Nat) : (leafF I w).Nodup := by
  unfold leafF
  refine List.Pairwise.map _ (fun a b h e => h ?_) ((by decide : [76, 82].Nodup).filter _)
  simpa using e
theorem leaves_nodup : ∀ (l I : List (List Nat)), l.Nodup → (l.flatMap (leafF I)).Nodup
  | [], I, _ => List.nodup_nil
  | w :: l, I, h => by
    obtain ⟨h1, h2⟩ := List.nodup_cons.mp h
    rw [List.flatMap_cons, List.nodup_append]
    refine ⟨leafF_nodup I w, leaves_nodup l I h2, fun a ha b hb => ?_⟩
    rintro rfl
    obtain ⟨v, hv, hb⟩ := List.mem_flatMap.mp hb
    have e : w = v := by
      obtain ⟨e1, _⟩ := leafF_mem.mp ha
      obtain ⟨e2, _⟩ := leafF_mem.mp hb
      rcases e1 with e1 | e1 <;> rcases e2 with e2 | e2 <;> (rw [e1] at e2; have := List.append_inj' e2 rfl; exact this.1)
    exact h1 (e ▸ hv)
theorem roundW_mem {rs : List (List Nat)} {x : List Nat} (h : innerW rs ≠ []) : x ∈ roundW rs ↔ ∃ w ∈ innerW rs, (x = w ++ [76] ∨ x = w ++ [82]) ∧ x ∉ innerW rs := by
  unfold roundW
  rw [if_neg h, srtW_mem, List.mem_flatMap]
  simp only [leafF_mem]
theorem roundW_nodup (rs : List (List Nat)) : (roundW rs).Nodup := by
  unfold roundW
  split
  · simp
  · exact srtW_nodup.mpr (leaves_nodup _ _ (innerW_nodup rs))
theorem roundW_len (rs : List (List Nat)) : (roundW rs).length ≤ 2 * (rs.map List.length).sum + 1 := by
  unfold roundW
  split
  · simp
  · rw [srtW_length]
    have h1 := innerW_len rs
    have h2 : ∀ l : List (List Nat), (l.flatMap (leafF (innerW rs))).length ≤ 2 * l.length := fun l => by
      induction l with
      | nil => simp
      | cons w l ih =>
        have : (leafF (innerW rs) w).length ≤ 2 := by
          unfold leafF
          rw [List.length_map]
          exact List.length_filter_le ..
        rw [List.flatMap_cons, List.length_append, List.length_cons]
        omega
    have := h2 (innerW rs)
    omega

/-! ### contracts -/
def okRs (rs : List (List Nat)) : Prop := rs.length ≤ 1000 ∧ (∀ r ∈ rs, isW r ∧ r.length ≤ 1000) ∧ (rs.map List.length).sum < 4000
def Sp_inner_of : SpN := fun ds Ψ => ∃ d rs, ds = [d] ∧ seqD d (rs.map rD) ∧ okRs rs ∧ Ψ (.lst ((innerW rs).map rD)) []
def Sp_rooms_round : SpN := fun ds Ψ => ∃ d rs, ds = [d] ∧ seqD d (rs.map rD) ∧ okRs rs ∧ Ψ (.lst ((roundW rs).map rD)) []
def finR (one other : List (List Nat)) : List (List Nat) := (one ++ other).filter fun r => decide (r ≠ [])
def Sp_finer : SpN := fun ds Ψ => ∃ d one d' other, ds = [d, d'] ∧ seqD d (one.map rD) ∧ seqD d' (other.map rD) ∧ okRs (finR one other) ∧ one.length ≤ 500 ∧ other.length ≤ 500 ∧ (∀ r ∈ one ++ other, isW r ∧ r.length ≤ 1000) ∧ Ψ (.lst ((roundW (finR one other)).map rD)) []
theorem dListA_seq {d : D} {xs : List D} (h : seqD d xs) {Ψ : D → Prop} : dList d Ψ = Ψ (.lst xs) := by rcases h with rfl | rfl <;> rfl
end Fw

/-! Fp10: finer cuts by looking. -/
namespace Fw
open PySem L2

theorem prefix_le {a b w : List Nat} (ha : a <+: w) (hb : b <+: w) (h : a.length ≤ b.length) : a <+: b := List.prefix_of_prefix_length_le ha hb h
def padW (w : List Nat) (n : Nat) : List Nat := w ++ List.replicate (n - w.length) 76
theorem padW_len {w : List Nat} {n : Nat} (h : w.length ≤ n) : (padW w n).length = n := by unfold padW; rw [List.length_append, List.length_replicate]; omega
theorem padW_W {w : List Nat} {n : Nat} (h : isW w) : isW (padW w n) := isW_pad h _
theorem padW_pre (w : List Nat) (n : Nat) : w <+: padW w n := List.prefix_append ..
theorem cut_uniq {rs : List (List Nat)} {B : Nat} {r r' w : List Nat} (h : cutAt B rs) (hw : isW w) (hl : w.length ≤ B) (hr : r ∈ rs) (hr' : r' ∈ rs) (p : r <+: w) (p' : r' <+: w) : r = r' := Classical.byContradiction fun ne => by
  have h1 := h (padW w B) (padW_W hw) (padW_len hl)
  have h2 := cov_two hr hr' ne (p.trans (padW_pre w B)) (p'.trans (padW_pre w B))
  omega
theorem cut_in {rs : List (List Nat)} {B : Nat} {r r' : List Nat} (h : cutAt B rs) (hw : ∀ r ∈ rs, isW r ∧ r.length ≤ B) (hr : r ∈ rs) (hr' : r' ∈ rs) (p : r <+: r') : r = r' := cut_uniq h (hw r' hr').1 (hw r' hr').2 hr hr' p (List.prefix_refl _)
theorem cut_has {rs : List (List Nat)} {B : Nat} {w : List Nat} (h : cutAt B rs) (hw : isW w) (hl : w.length ≤ B) : ∃ r ∈ rs, r <+: padW w B := by
  have h1 := h (padW w B) (padW_W hw) (padW_len hl)
  obtain ⟨r, hr, hp⟩ := List.countP_pos_iff.mp (show 0 < cov rs (padW w B) by omega)
  exact ⟨r, hr, List.isPrefixOf_iff_prefix.mp hp⟩
/-- a word that begins no room of a cut: a room begins it -/
theorem cut_under {rs : List (List Nat)} {B : Nat} {w : List Nat} (h : cutAt B rs) (hw : isW w) (hl : w.length ≤ B) (hn : ∀ r ∈ rs, ¬ ppre w r) : ∃ r ∈ rs, r <+: w := by
  obtain ⟨r, hr, hp⟩ := cut_has h hw hl
  refine ⟨r, hr, ?_⟩
  rcases Nat.lt_or_ge w.length r.length with hlt | hge
  · exact absurd ⟨prefix_le (padW_pre w B) hp (by omega), hlt⟩ (hn r hr)
  · exact prefix_le hp (padW_pre w B) hge
theorem cut_leaf {rs : List (List Nat)} {B : Nat} {p r : List Nat} {s : Nat} (h : cutAt B rs) (hw : ∀ r ∈ rs, isW r ∧ r.length ≤ B) (hr : r ∈ rs) (hp : ppre p r) (hs : s = 76 ∨ s = 82) (hn : ∀ r ∈ rs, ¬ ppre (p ++ [s]) r) : p ++ [s] ∈ rs := by
  have hpw : isW p := fun c hc => (hw r hr).1 c (hp.1.subset hc)
  have hl := (hw r hr).2
  have hlt := hp.2
  obtain ⟨t, ht, htp⟩ := cut_under h (isW_append.mpr ⟨hpw, isW_cons.mpr ⟨hs, isW_nil⟩⟩) (by simp; omega) hn
  by_cases e : t = p ++ [s]
  · rw [← e]; exact ht
  · have tp : t <+: p := prefix_snoc htp e
    have : t = r := cut_in h hw ht hr (tp.trans hp.1)
    have := tp.length_le
    subst t
    omega
def finP (one other : List (List Nat)) (x : List Nat) : Prop := (x ∈ one ∧ ∃ t ∈ other, t <+: x) ∨ (x ∈ other ∧ ∃ t ∈ one, t <+: x)
theorem finP_comm {one other : List (List Nat)} {x : List Nat} : finP one other x ↔ finP other one x := Or.comm
theorem finR_mem {one other : List (List Nat)} {r : List Nat} : r ∈ finR one other ↔ (r ∈ one ∨ r ∈ other) ∧ r ≠ [] := by
  unfold finR
  rw [List.mem_filter, List.mem_append, decide_eq_true_eq]
theorem no_ppre_nil {x : List Nat} : ¬ ppre x [] := fun h => by have := h.2; simp at this
theorem ppre_nil {r : List Nat} (h : r ≠ []) : ppre [] r := ⟨List.nil_prefix .., List.length_pos_iff.mpr h⟩
theorem ppre_init {w : List Nat} {s : Nat} : ppre w (w ++ [s]) := ⟨List.prefix_append .., by simp⟩
theorem round_fin {one other : List (List Nat)} (ho : cutP one) (ho' : cutP other) (x : List Nat) : x ∈ roundW (finR one other) ↔ finP one other x := by
  by_cases hI : innerW (finR one other) = []
  · have hall : ∀ r, r ∈ one ∨ r ∈ other → r = [] := fun r hr => Classical.byContradiction fun ne => by
      have : [] ∈ innerW (finR one other) := innerW_mem.mpr ⟨r, finR_mem.mpr ⟨hr, ne⟩, ppre_nil ne⟩
      rw [hI] at this
      cases this
    unfold roundW
    rw [if_pos hI, List.mem_singleton]
    constructor
    · rintro rfl
      obtain ⟨a, ha⟩ := List.exists_mem_of_length_pos ho.ne
      obtain ⟨b, hb⟩ := List.exists_mem_of_length_pos ho'.ne
      have e1 := hall a (.inl ha)
      have e2 := hall b (.inr hb)
      subst e1 e2
      exact .inl ⟨ha, _, hb, List.prefix_refl _⟩
    · rintro (⟨h, _⟩ | ⟨h, _⟩)
      · exact hall x (.inl h)
      · exact hall x (.inr h)
  · rw [roundW_mem hI]
    have notin : x ∉ innerW (finR one other) → (∀ r ∈ one, ¬ ppre x r) ∧ ∀ r ∈ other, ¬ ppre x r := fun h => by
      constructor <;> intro r hr hp
      · exact h (innerW_mem.mpr ⟨r, finR_mem.mpr ⟨.inl hr, fun e => no_ppre_nil (e ▸ hp)⟩, hp⟩)
      · exact h (innerW_mem.mpr ⟨r, finR_mem.mpr ⟨.inr hr, fun e => no_ppre_nil (e ▸ hp)⟩, hp⟩)
    constructor
    · rintro ⟨w, hw, hx, hn⟩
      obtain ⟨s, hs, rfl⟩ : ∃ s, (s = 76 ∨ s = 82) ∧ x = w ++ [s] := by
        rcases hx with rfl | rfl
        · exact ⟨76, .inl rfl, rfl⟩
        · exact ⟨82, .inr rfl, rfl⟩
      obtain ⟨n1, n2⟩ := notin hn
      obtain ⟨r, hr, hp⟩ := innerW_mem.mp hw
      rcases (finR_mem.mp hr).1 with h | h
      · have hx := cut_leaf ho.1 ho.2.2 h hp hs n1
        exact .inl ⟨hx, cut_under ho'.1 (ho.2.2 _ hx).1 (ho.2.2 _ hx).2 n2⟩
      · have hx := cut_leaf ho'.1 ho'.2.2 h hp hs n2
        exact .inr ⟨hx, cut_under ho.1 (ho'.2.2 _ hx).1 (ho'.2.2 _ hx).2 n1⟩
    · intro h
      obtain ⟨one', other', ho2, ho2', hx, u, hu, hux, hmem⟩ : ∃ one' other', cutP one' ∧ cutP other' ∧ x ∈ one' ∧ ∃ u ∈ other', u <+: x ∧ ∀ r, (r ∈ one ∨ r ∈ other) ↔ (r ∈ one' ∨ r ∈ other') := by
        rcases h with ⟨hx, u, hu, hp⟩ | ⟨hx, u, hu, hp⟩
        · exact ⟨one, other, ho, ho', hx, u, hu, hp, fun _ => Iff.rfl⟩
        · exact ⟨other, one, ho', ho, hx, u, hu, hp, fun _ => Or.comm⟩
      have noone : ∀ r, (r ∈ one' ∨ r ∈ other') → x <+: r → r.length ≤ x.length := fun r hr hp => by
        rcases hr with hr | hr
        · have := cut_in ho2.1 ho2.2.2 hx hr hp
          subst this
          omega
        · have := cut_in ho2'.1 ho2'.2.2 hu hr (hux.trans hp)
          subst this
          exact hux.length_le
      rcases List.eq_nil_or_concat x with rfl | ⟨w, s, rfl⟩
      · exfalso
        obtain ⟨v, hv⟩ := List.exists_mem_of_ne_nil _ hI
        obtain ⟨r, hr, hp⟩ := innerW_mem.mp hv
        have h1 := noone r ((hmem r).mp (finR_mem.mp hr).1) (List.nil_prefix ..)
        have h2 := hp.2
        rw [List.length_nil] at h1
        omega
      · rw [List.concat_eq_append] at *
        have hs := (ho2.2.2 _ hx).1 s (by simp)
        have hxin : w ++ [s] ∈ finR one other := finR_mem.mpr ⟨(hmem _).mpr (.inl hx), by simp⟩
        refine ⟨w, innerW_mem.mpr ⟨_, hxin, ppre_init⟩, by rcases hs with rfl | rfl <;> simp, fun z => ?_⟩
        obtain ⟨r, hr, hp⟩ := innerW_mem.mp z
        have := noone r ((hmem r).mp (finR_mem.mp hr).1) hp.1
        have := hp.2
        omega
theorem count_one {F : List (List Nat)} {t w : List Nat} (hn : F.Nodup) (ht : t ∈ F) (hp : t <+: w) (hu : ∀ x ∈ F, x <+: w → x = t) : cov F w = 1 := by
  unfold cov
  rw [List.countP_eq_length_filter]
  have hm : ∀ x, x ∈ F.filter (fun r => r.isPrefixOf w) ↔ x = t := fun x => by
    rw [List.mem_filter, List.isPrefixOf_iff_prefix]
    exact ⟨fun ⟨a, b⟩ => hu x a b, fun e => e ▸ ⟨ht, hp⟩⟩
  have : (F.filter fun r => r.isPrefixOf w).Perm [t] := (List.perm_ext_iff_of_nodup (hn.filter _) (by simp)).mpr fun x => by rw [hm, List.mem_singleton]
  rw [this.length_eq]
  rfl
theorem fin_cut {one other F : List (List Nat)} (ho : cutP one) (ho' : cutP other) (hn : F.Nodup) (hF : ∀ x, x ∈ F ↔ finP one other x) : cutAt 12 F := fun w hw hl => by
  obtain ⟨t, ht, hp⟩ := cut_has ho.1 hw (Nat.le_of_eq hl)
  obtain ⟨u, hu, hq⟩ := cut_has ho'.1 hw (Nat.le_of_eq hl)
  have epad : padW w 12 = w := by unfold padW; rw [hl]; simp
  rw [epad] at hp hq
  have key : ∀ x ∈ F, x <+: w → (x = t ∧ u <+: t) ∨ (x = u ∧ t <+: u) := fun x hx hxw => by
    rcases (hF x).mp hx with ⟨h1, v, hv, hvx⟩ | ⟨h1, v, hv, hvx⟩
    · have e := cut_uniq ho.1 hw (Nat.le_of_eq hl) h1 ht hxw hp
      have e2 := cut_uniq ho'.1 hw (Nat.le_of_eq hl) hv hu (hvx.trans hxw) hq
      subst e e2
      exact .inl ⟨rfl, hvx⟩
    · have e := cut_uniq ho'.1 hw (Nat.le_of_eq hl) h1 hu hxw hq
      have e2 := cut_uniq ho.1 hw (Nat.le_of_eq hl) hv ht (hvx.trans hxw) hp
      subst e e2
      exact .inr ⟨rfl, hvx⟩
  have anti : ∀ {a b : List Nat}, a <+: b → b <+: a → a = b := fun h1 h2 => h1.eq_of_length (Nat.le_antisymm h1.length_le h2.length_le)
  rcases Nat.le_total u.length t.length with h | h
  · have ut := prefix_le hq hp h
    exact count_one hn ((hF t).mpr (.inl ⟨ht, u, hu, ut⟩)) hp fun x hx hxw => (key x hx hxw).elim (·.1) fun z => z.1.trans (anti ut z.2)
  · have tu := prefix_le hp hq h
    exact count_one hn ((hF u).mpr (.inr ⟨hu, t, ht, tu⟩)) hq fun x hx hxw => (key x hx hxw).elim (fun z => z.1.trans (anti tu z.2)) (·.1)
/-- what the law looks at -/
def dueA (one other : List (List Nat)) : List (List Nat) := one.filter fun r => other.any fun t => t.isPrefixOf r
def dueB (one other : List (List Nat)) : List (List Nat) := other.filter fun r => !decide (r ∈ dueA one other) && one.any fun t => t.isPrefixOf r
theorem any_pre {ts : List (List Nat)} {r : List Nat} : (ts.any fun t => t.isPrefixOf r) = true ↔ ∃ t ∈ ts, t <+: r := by
  rw [List.any_eq_true]
  simp only [List.isPrefixOf_iff_prefix]
theorem due_mem {one other : List (List Nat)} {x : List Nat} : x ∈ dueA one other ++ dueB one other ↔ finP one other x := by
  have hA : ∀ x, x ∈ dueA one other ↔ x ∈ one ∧ ∃ t ∈ other, t <+: x := fun x => by unfold dueA; rw [List.mem_filter, any_pre]
  have hB : x ∈ dueB one other ↔ x ∈ other ∧ ¬ x ∈ dueA one other ∧ ∃ t ∈ one, t <+: x := by
    unfold dueB
    rw [List.mem_filter, Bool.and_eq_true, any_pre]
    simp
  rw [List.mem_append, hB]
  unfold finP
  constructor
  · rintro (h | ⟨h1, _, h2⟩)
    · exact .inl ((hA x).mp h)
    · exact .inr ⟨h1, h2⟩
  · rintro (h | ⟨h1, h2⟩)
    · exact .inl ((hA x).mpr h)
    · by_cases hx : x ∈ dueA one other
      · exact .inl hx
      · exact .inr ⟨h1, hx, h2⟩
theorem due_nodup {one other : List (List Nat)} (h : one.Nodup) (h' : other.Nodup) : (dueA one other ++ dueB one other).Nodup := by
  rw [List.nodup_append]
  refine ⟨h.filter _, h'.filter _, fun a ha b hb => ?_⟩
  rintro rfl
  have := (List.mem_filter.mp hb).2
  rw [Bool.and_eq_true] at this
  have := this.1
  simp at this
  exact this ha
theorem cutP.nodup {rs : List (List Nat)} (h : cutP rs) : rs.Nodup := cut_nodup (fun r hr => (h.2.2 r hr).1) (fun r hr => (h.2.2 r hr).2) h.1
theorem srtW_nil : srtW [[]] = [[]] := by
  unfold srtW
  simp
theorem round_due {one other : List (List Nat)} (ho : cutP one) (ho' : cutP other) : roundW (finR one other) = srtW (dueA one other ++ dueB one other) := by
  have h1 : roundW (finR one other) = srtW (roundW (finR one other)) := by
    unfold roundW
    split
    · exact srtW_nil.symm
    · exact (srtW_unique (srtW_perm _)).symm
  rw [h1]
  exact srtW_eq (roundW_nodup _) (due_nodup ho.nodup ho'.nodup) fun w => (round_fin ho ho' w).trans due_mem.symm
theorem round_comm {one other : List (List Nat)} (ho : cutP one) (ho' : cutP other) : roundW (finR other one) = srtW (dueA one other ++ dueB one other) := by
  rw [round_due ho' ho]
  exact srtW_eq (due_nodup ho'.nodup ho.nodup) (due_nodup ho.nodup ho'.nodup) fun w => due_mem.trans (finP_comm.trans due_mem.symm)
/-- data -/
theorem dIn_words {w : List Nat} {l : List (List Nat)} : dIn (rD w) (l.map rD) = decide (w ∈ l) := by
  unfold dIn rD
  rw [List.map_map]
  show inV (V.str (tx w)) (l.map fun r => V.str (tx r)) = _
  induction l with
  | nil => rfl
  | cons r l ih =>
    rw [List.map_cons]
    unfold inV at ih ⊢
    rw [List.any_cons, ih]
    by_cases e : w = r
    · subst e; simp [eqV]
    · have : tx r ≠ tx w := fun z => e (tx_inj' z).symm
      have : tx w ≠ tx r := fun z => e (tx_inj' z)
      simp [eqV, *]
theorem dInW_words {neg : Bool} {w : List Nat} {l : List (List Nat)} {Ψ : D → Prop} : dInW neg (.str (tx w)) (.lst (l.map rD)) Ψ = Ψ (.bl (if neg then !decide (w ∈ l) else decide (w ∈ l))) := by
  show (_ ∧ _ ∧ Ψ (.bl (if neg then !dIn (rD w) (l.map rD) else dIn (rD w) (l.map rD)))) = _
  rw [dIn_words]
  have h1 : (D.str (tx w)).flat = true := rfl
  have h2 : (l.map rD).all D.flat = true := List.all_eq_true.mpr fun x hx => by obtain ⟨r, _, rfl⟩ := List.mem_map.mp hx; rfl
  rw [h1, h2]
  simp
theorem same_words {n : Nat} {l : List (List Nat)} (h : ∀ r ∈ l, isW r) (hl : l.length ≤ 1000000) : sameOk (n + 2) (.lst (l.map rD)) = true := by
  show (decide _ && (l.map rD).all (sameOk (n + 1))) = true
  rw [List.length_map, decide_eq_true (show l.length ≤ 16777216 by omega), Bool.true_and, List.all_eq_true]
  intro x hx
  obtain ⟨r, hr, rfl⟩ := List.mem_map.mp hx
  show D.cm (.str (tx r)) = true
  rw [cm_tx]
  exact (h r hr).cp
theorem dNe_wordsL {ls : List (List (List Nat))} (h : ∀ l ∈ ls, ∀ r ∈ l, isW r) {Ψ : D → Prop} : dNe (.lst (ls.map fun l => .lst (l.map rD))) (.lst (ls.map fun l => .lst (l.map rD))) Ψ = Ψ (.bl false) := by
  have c : D.cm (.lst (ls.map fun l => .lst (l.map rD))) = true := cm_of (n := 2) (by decide) (cmN_lst fun x hx => by
    obtain ⟨l, hl, rfl⟩ := List.mem_map.mp hx
    exact cmN_lst fun x hx => by
      obtain ⟨r, hr, rfl⟩ := List.mem_map.mp hx
      exact cmN_tx 0 (h l hl r hr).cp)
  have e : ∀ ls : List (List (List Nat)), deq (.lst (ls.map fun l => .lst (l.map rD))) (.lst (ls.map fun l => .lst (l.map rD))) = true := fun ls => by
    induction ls with
    | nil => simp [deq, D.py, D.pyL, PyData.eqv, PyData.eqvAll]
    | cons l ls ih =>
      have h0 := deq_words l l
      simp only [deq, D.py, D.pyL, PyData.eqv, PyData.eqvAll, List.map_cons] at ih h0 ⊢
      rw [h0, ih]
      simp
  unfold dNe
  rw [c, e]
  simp
theorem srtW_of {l l' : List (List Nat)} (h : l.Perm l') (hs : l'.Pairwise (fun a b => decide (a ≤ b) = true)) : srtW l = l' := by
  rw [srtW_unique h]
  exact List.mergeSort_of_pairwise hs
theorem okRs_of {rs : List (List Nat)} {n m : Nat} (h : ∀ r ∈ rs, isW r ∧ r.length ≤ n) (hl : rs.length ≤ m) (hm : m * n < 4000) (hm1 : m ≤ 1000) (hn : n ≤ 1000) : okRs rs := by
  refine ⟨by omega, fun r hr => ⟨(h r hr).1, by have := (h r hr).2; omega⟩, ?_⟩
  have : ∀ l : List (List Nat), (∀ r ∈ l, r.length ≤ n) → (l.map List.length).sum ≤ l.length * n := fun l => by
    induction l with
    | nil => intro _; simp
    | cons r l ih =>
      intro h
      have h1 := h r (List.mem_cons_self ..)
      have h2 := ih fun x hx => h x (List.mem_cons_of_mem _ hx)
      rw [List.map_cons, List.sum_cons, List.length_cons, Nat.add_mul]
      omega
  have h1 := this rs fun r hr => (h r hr).2
  have h2 : rs.length * n ≤ m * n := Nat.mul_le_mul_right _ hl
  omega
theorem finR_ok {one other : List (List Nat)} (h : cutP one) (h' : cutP other) (hl : one.length ≤ 64) (hl' : other.length ≤ 64) : okRs (finR one other) := by
  refine okRs_of (n := 12) (m := 128) (fun r hr => ?_) ?_ (by decide) (by decide) (by decide)
  · rcases (finR_mem.mp hr).1 with z | z
    · exact h.2.2 r z
    · exact h'.2.2 r z
  · unfold finR
    refine Nat.le_trans (List.length_filter_le ..) ?_
    rw [List.length_append]
    omega
theorem cutP_two : cutP [[82], [76]] := ⟨cutR_ok 12 _ (by decide +kernel), by decide +kernel, okWs_ok (by decide +kernel)⟩
theorem round_ex1 : roundW (finR [[]] [[]]) = [[]] := by
  rw [round_due cutP_one cutP_one, show dueA [[]] [[]] ++ dueB [[]] [[]] = [[]] by decide +kernel]
  exact srtW_nil
theorem round_ex2 : roundW (finR [[]] [[82], [76]]) = [[76], [82]] := by
  rw [round_due cutP_one cutP_two, show dueA [[]] [[82], [76]] ++ dueB [[]] [[82], [76]] = [[82], [76]] by decide +kernel]
  exact srtW_of (List.Perm.swap ..) (by decide +kernel)
end Fw

/-! Fp11: cuts about rooms that lie apart. -/
namespace Fw
open PySem L2

/-! ### the sum of a cut -/
def kr (n : Nat) (rs : List (List Nat)) : Nat := (rs.map fun r => 2 ^ (n - r.length)).sum
theorem kr_cons (n : Nat) (r : List Nat) (rs : List (List Nat)) : kr n (r :: rs) = 2 ^ (n - r.length) + kr n rs := by unfold kr; rw [List.map_cons, List.sum_cons]
theorem tails_cons {c d : Nat} {t : List Nat} {rs : List (List Nat)} : tails c ((d :: t) :: rs) = if d = c then t :: tails c rs else tails c rs := by
  unfold tails
  rw [List.filterMap_cons]
  by_cases e : d = c <;> simp [e]
theorem tails_mem {c : Nat} {t : List Nat} {rs : List (List Nat)} : t ∈ tails c rs ↔ c :: t ∈ rs := by
  unfold tails
  rw [List.mem_filterMap]
  constructor
  · rintro ⟨r, hr, e⟩
    cases r with
    | nil => cases e
    | cons d r =>
      dsimp only at e
      split at e
      · rename_i h; cases e; subst h; exact hr
      · cases e
  · intro h; exact ⟨_, h, by simp⟩
theorem kr_tails {n : Nat} : ∀ {rs : List (List Nat)}, ¬ [] ∈ rs → (∀ r ∈ rs, isW r) → kr (n + 1) rs = kr n (tails 76 rs) + kr n (tails 82 rs)
  | [], _, _ => rfl
  | [] :: rs, h, _ => absurd (List.mem_cons_self ..) h
  | (d :: t) :: rs, h, hw => by
    have ih := kr_tails (n := n) (rs := rs) (fun z => h (List.mem_cons_of_mem _ z)) fun r hr => hw r (List.mem_cons_of_mem _ hr)
    have hd := (isW_cons.mp (hw _ (List.mem_cons_self ..))).1
    have e : n + 1 - (d :: t).length = n - t.length := by rw [List.length_cons]; omega
    rw [kr_cons, tails_cons, tails_cons, e, ih]
    rcases hd with rfl | rfl
    · rw [if_pos rfl, if_neg (by decide), kr_cons]; omega
    · rw [if_neg (by decide), if_pos rfl, kr_cons]; omega
theorem cut_one_nil {B : Nat} {rs : List (List Nat)} (h : cutAt B rs) (hw : ∀ r ∈ rs, isW r ∧ r.length ≤ B) (h0 : [] ∈ rs) : rs = [[]] := by
  have hn := cut_nodup (fun r hr => (hw r hr).1) (fun r hr => (hw r hr).2) h
  have : rs.Perm [[]] := (List.perm_ext_iff_of_nodup hn (by simp)).mpr fun x => by
    rw [List.mem_singleton]
    exact ⟨fun hx => (cut_in h hw h0 hx (List.nil_prefix ..)).symm, fun e => e ▸ h0⟩
  exact List.perm_singleton.mp this
theorem kr_cut : ∀ (n : Nat) (rs : List (List Nat)), cutAt n rs → (∀ r ∈ rs, isW r ∧ r.length ≤ n) → kr n rs = 2 ^ n
  | 0, rs, h, hw => by
    have : [] ∈ rs := by
      obtain ⟨r, hr, hp⟩ := cut_has h isW_nil (Nat.le_refl 0)
      have := (hw r hr).2
      have e : r = [] := List.eq_nil_of_length_eq_zero (by omega)
      exact e ▸ hr
    rw [cut_one_nil h hw this]
    rfl
  | n + 1, rs, h, hw => by
    by_cases h0 : [] ∈ rs
    · rw [cut_one_nil h hw h0]
      simp [kr]
    · have ht : ∀ c, (c = 76 ∨ c = 82) → cutAt n (tails c rs) ∧ ∀ r ∈ tails c rs, isW r ∧ r.length ≤ n := fun c hc => by
        refine ⟨fun w h1 h2 => ?_, fun r hr => ?_⟩
        · rw [← cov_tails h0]
          exact h (c :: w) (isW_cons.mpr ⟨hc, h1⟩) (by rw [List.length_cons, h2])
        · have := hw _ (tails_mem.mp hr)
          exact ⟨(isW_cons.mp this.1).2, by have := this.2; rw [List.length_cons] at this; omega⟩
      rw [kr_tails h0 fun r hr => (hw r hr).1, kr_cut n _ (ht 76 (.inl rfl)).1 (ht 76 (.inl rfl)).2, kr_cut n _ (ht 82 (.inr rfl)).1 (ht 82 (.inr rfl)).2, Nat.pow_succ]
      omega
theorem cutP_of {rs : List (List Nat)} (h : cutAt 12 rs) (hw : ∀ r ∈ rs, isW r ∧ r.length ≤ 12) : cutP rs := ⟨h, kr_cut 12 rs h hw, hw⟩

/-! ### the cut about rooms -/
theorem ppre_trans {u v r : List Nat} (h : u <+: v) (h' : ppre v r) : ppre u r := ⟨h.trans h'.1, Nat.lt_of_le_of_lt h.length_le h'.2⟩
theorem inner_closed {rs : List (List Nat)} {u v : List Nat} (h : u <+: v) (hv : v ∈ innerW rs) : u ∈ innerW rs := by
  obtain ⟨r, hr, hp⟩ := innerW_mem.mp hv
  exact innerW_mem.mpr ⟨r, hr, ppre_trans h hp⟩
theorem take_succ_snoc {w : List Nat} {n : Nat} (h : n < w.length) : w.take (n + 1) = w.take n ++ [w[n]] := by rw [List.take_succ_eq_append_getElem h]
theorem round_words {rs : List (List Nat)} {B : Nat} (hw : ∀ r ∈ rs, isW r ∧ r.length ≤ B) : ∀ x ∈ roundW rs, isW x ∧ x.length ≤ B := fun x hx => by
  by_cases hI : innerW rs = []
  · unfold roundW at hx
    rw [if_pos hI, List.mem_singleton] at hx
    subst hx
    exact ⟨isW_nil, Nat.zero_le _⟩
  · obtain ⟨w, h1, h2, _⟩ := (roundW_mem hI).mp hx
    obtain ⟨r, hr, hp⟩ := innerW_mem.mp h1
    have hww : isW w := fun c hc => (hw r hr).1 c (hp.1.subset hc)
    have := (hw r hr).2
    have := hp.2
    rcases h2 with rfl | rfl
    · exact ⟨isW_append.mpr ⟨hww, isW_L⟩, by simp; omega⟩
    · exact ⟨isW_append.mpr ⟨hww, isW_R⟩, by simp; omega⟩
theorem last_in {P : Nat → Prop} : ∀ (n : Nat), P 0 → ¬ P n → ∃ m, m < n ∧ P m ∧ ¬ P (m + 1)
  | 0, h0, hn => absurd h0 hn
  | n + 1, h0, hn => by
    by_cases h : P n
    · exact ⟨n, by omega, h, hn⟩
    · obtain ⟨m, h1, h2⟩ := last_in n h0 h
      exact ⟨m, by omega, h2⟩
theorem round_cut {rs : List (List Nat)} {B : Nat} (hw : ∀ r ∈ rs, isW r ∧ r.length ≤ B) : cutAt B (roundW rs) := by
  by_cases hI : innerW rs = []
  · unfold roundW
    rw [if_pos hI]
    intro w _ _
    rw [cov_cons, if_pos (List.nil_prefix ..)]
    rfl
  · intro w h1 h2
    obtain ⟨v, hv⟩ := List.exists_mem_of_ne_nil _ hI
    have h0 : [] ∈ innerW rs := inner_closed (List.nil_prefix ..) hv
    have hn : ¬ w.take B ∈ innerW rs := fun z => by
      obtain ⟨r, hr, hp⟩ := innerW_mem.mp z
      have := (hw r hr).2
      have := hp.2
      rw [List.length_take] at this
      omega
    obtain ⟨m, hm, hp, hq⟩ := last_in (P := fun n => w.take n ∈ innerW rs) B (by simpa using h0) hn
    have hlt : m < w.length := by omega
    have hs := h1 _ (List.getElem_mem hlt)
    rw [take_succ_snoc hlt] at hq
    have ht : w.take m ++ [w[m]] ∈ roundW rs := (roundW_mem hI).mpr ⟨_, hp, by rcases hs with e | e <;> simp [e], hq⟩
    have htp : w.take m ++ [w[m]] <+: w := by rw [← take_succ_snoc hlt]; exact List.take_prefix ..
    have hml : (w.take m).length = m := by rw [List.length_take]; omega
    refine count_one (roundW_nodup rs) ht htp fun x hx hxw => ?_
    obtain ⟨u, hu, hxe, hxn⟩ := (roundW_mem hI).mp hx
    obtain ⟨s, rfl⟩ : ∃ s, x = u ++ [s] := by rcases hxe with e | e <;> exact ⟨_, e⟩
    have huw : u <+: w := (List.prefix_append ..).trans hxw
    rcases Nat.lt_trichotomy u.length m with hlm | hlm | hlm
    · exact absurd (inner_closed (prefix_le hxw (List.take_prefix m w) (by rw [hml]; simp; omega)) hp) hxn
    · have e1 : u = w.take m := by rw [← hlm]; exact List.prefix_iff_eq_take.mp huw
      have := List.prefix_iff_eq_take.mp hxw
      rw [this]
      have e2 : (u ++ [s]).length = m + 1 := by simp; omega
      rw [e2, take_succ_snoc hlt]
    · exact absurd (inner_closed (prefix_le htp huw (by rw [List.length_append, hml]; simp; omega)) hu) hq
theorem inner_congr {rs rs' : List (List Nat)} (h : ∀ w, (∃ r ∈ rs, ppre w r) ↔ ∃ r ∈ rs', ppre w r) : innerW rs = innerW rs' := by
  unfold innerW
  exact srtW_eq (preFold_nodup rs [] List.nodup_nil) (preFold_nodup rs' [] List.nodup_nil) fun w => preW_mem.trans ((h w).trans preW_mem.symm)
theorem round_congr {rs rs' : List (List Nat)} (h : innerW rs = innerW rs') : roundW rs = roundW rs' := by unfold roundW; rw [h]
theorem round_self {one : List (List Nat)} (ho : cutP one) : roundW one = srtW one := by
  have h1 : roundW one = roundW (finR one one) := round_congr (inner_congr fun w => by
    constructor
    · rintro ⟨r, hr, hp⟩
      exact ⟨r, finR_mem.mpr ⟨.inl hr, fun e => no_ppre_nil (e ▸ hp)⟩, hp⟩
    · rintro ⟨r, hr, hp⟩
      exact ⟨r, (finR_mem.mp hr).1.elim id id, hp⟩)
  rw [h1, round_due ho ho]
  exact srtW_eq (due_nodup ho.nodup ho.nodup) ho.nodup fun w => due_mem.trans ⟨fun h => h.elim (·.1) (·.1), fun h => .inl ⟨h, w, h, List.prefix_refl _⟩⟩
/-- rooms that lie apart -/
def apartB (rs : List (List Nat)) : Bool := !((srtW rs).zip (srtW rs).tail).any fun p => p.1.isPrefixOf p.2
theorem apart_sub {one rs : List (List Nat)} (ho : cutP one) (hs : ∀ r ∈ rs, r ∈ one) (hn : rs.Nodup) : apartB rs = true := by
  unfold apartB
  rw [Bool.not_eq_true', List.any_eq_false]
  intro p hp
  rw [List.isPrefixOf_iff_prefix]
  intro z
  obtain ⟨i, hi, e⟩ := List.getElem_of_mem hp
  have hn' : (srtW rs).Nodup := srtW_nodup.mpr hn
  rw [List.getElem_zip] at e
  have h1 : p.1 = (srtW rs)[i]'(by simp at hi; omega) := by rw [← e]
  have h2 : p.2 = (srtW rs)[i + 1]'(by simp at hi; omega) := by rw [← e]; simp
  have m1 : p.1 ∈ one := hs _ (srtW_mem.mp (by rw [h1]; exact List.getElem_mem _))
  have m2 : p.2 ∈ one := hs _ (srtW_mem.mp (by rw [h2]; exact List.getElem_mem _))
  have := cut_in ho.1 ho.2.2 m1 m2 z
  rw [h1, h2] at this
  exact (List.pairwise_iff_getElem.mp hn') i (i + 1) _ _ (by omega) this
/-! ### a comprehension whose test draws -/
theorem wLcL_invF {wg : WG} {wt : WB} {we : WE} {vs : List Nat} {Ψ : List D → Env → Prop} (I : Nat → List D → Env → Prop) : ∀ (ds acc : List D) (ρ : Env), I 0 acc ρ →
    (∀ i d, ds[i]? = some d → ∀ acc ρ, I i acc ρ → ∀ (k : D → Env → Prop) (k' : Env → Prop), (∀ y ρ3, acc.length < sizeLine → I (i + 1) (acc ++ [y]) (wipeE ρ3 vs) → k y ρ3) → (∀ ρ3, I (i + 1) acc (wipeE ρ3 vs) → k' ρ3) → wg d ρ fun ρ1 => wt ρ1 (fun b ρ2 => if b = true then we ρ2 k (fun _ _ => False) else k' ρ2) fun _ _ => False) →
    (∀ acc ρ, I ds.length acc ρ → Ψ acc ρ) → wLcL wg wt we vs ds acc ρ Ψ
  | [], acc, ρ, h0, hb, h => h acc ρ h0
  | d :: ds, acc, ρ, h0, hb, h => hb 0 d rfl acc ρ h0 (fun y ρ3 => acc.length < sizeLine ∧ wLcL wg wt we vs ds (acc ++ [y]) (wipeE ρ3 vs) Ψ) (fun ρ2 => wLcL wg wt we vs ds acc (wipeE ρ2 vs) Ψ)
      (fun y ρ3 hl hi => ⟨hl, wLcL_invF (fun i => I (i + 1)) ds _ _ hi (fun i d hd => hb (i + 1) d hd) h⟩) fun ρ3 hi => wLcL_invF (fun i => I (i + 1)) ds _ _ hi (fun i d hd => hb (i + 1) d hd) h
/-! ### contracts -/
def roomB (w : List Nat) : Bool := w.all fun c => decide (c ∈ [76, 82])
theorem roomB_W {w : List Nat} : roomB w = true ↔ isW w := by
  unfold roomB isW
  rw [List.all_eq_true]
  simp
def Sp_is_room : SpN := fun ds Ψ => ∃ w, ds = [.str (tx w)] ∧ w.length ≤ 100000 ∧ Ψ (.bl (roomB w)) []
def Sp_need_room : SpN := fun ds Ψ => ∃ w, ds = [.str (tx w)] ∧ isW w ∧ w.length ≤ 12 ∧ Ψ .non []
def Sp_are_apart : SpN := fun ds Ψ => ∃ rs, ds = [.lst (rs.map rD)] ∧ rs.length ≤ 1000 ∧ (∀ r ∈ rs, isW r ∧ r.length ≤ 1000) ∧ Ψ (.bl (apartB rs)) []
def Sp_cut_with : SpN := fun ds Ψ => ∃ rs, ds = [.lst (rs.map rD)] ∧ okRs rs ∧ (∀ r ∈ rs, isW r ∧ r.length ≤ 12) ∧ apartB rs = true ∧ Ψ (.lst ((roundW rs).map rD)) []
theorem sub_filter {one acc : List (List Nat)} {x : List Nat} {i : Nat} (hn : one.Nodup) (hx : one[i]? = some x) (hs : acc.Sublist (one.take i)) : (acc ++ [x]).Sublist (one.take (i + 1)) := by
  have hi := (List.getElem?_eq_some_iff.mp hx)
  obtain ⟨h1, h2⟩ := hi
  rw [List.take_succ_eq_append_getElem h1, h2]
  exact hs.append (List.Sublist.refl _)
theorem sub_skip {one acc : List (List Nat)} {i : Nat} (hs : acc.Sublist (one.take i)) : acc.Sublist (one.take (i + 1)) := hs.trans (List.take_sublist_take_left (by omega))
theorem sumLen_le {n : Nat} : ∀ l : List (List Nat), (∀ r ∈ l, r.length ≤ n) → (l.map List.length).sum ≤ l.length * n
  | [], _ => by simp
  | r :: l, h => by
    have h1 := h r (List.mem_cons_self ..)
    have h2 := sumLen_le l fun x hx => h x (List.mem_cons_of_mem _ hx)
    rw [List.map_cons, List.sum_cons, List.length_cons, Nat.add_mul]
    omega
theorem fin_absorb {one other F : List (List Nat)} (hc : cutP one) (hc' : cutP other) (hF : cutP F) (hm : ∀ x, x ∈ F ↔ finP one other x) (hs : srtW F = F) : roundW (finR F one) = F := by
  rw [round_due hF hc]
  refine Eq.trans ?_ hs
  refine srtW_unique ((List.perm_ext_iff_of_nodup (due_nodup hF.nodup hc.nodup) hF.nodup).mpr fun x => ?_)
  rw [due_mem]
  constructor
  · rintro (⟨h, _⟩ | ⟨hx, t, ht, htx⟩)
    · exact h
    · rcases (hm t).mp ht with ⟨h1, _⟩ | ⟨h1, u, hu, hut⟩
      · have := cut_in hc.1 hc.2.2 h1 hx htx
        exact this ▸ ht
      · have e := cut_in hc.1 hc.2.2 hu hx (hut.trans htx)
        subst e
        have : t = u := htx.eq_of_length (Nat.le_antisymm htx.length_le hut.length_le)
        exact this ▸ ht
  · intro hx
    rcases (hm x).mp hx with ⟨h1, _⟩ | ⟨_, u, hu, hux⟩
    · exact .inl ⟨hx, x, h1, List.prefix_refl _⟩
    · exact .inl ⟨hx, u, hu, hux⟩
theorem fin_same {F : List (List Nat)} (hF : cutP F) (hs : srtW F = F) : roundW (finR F F) = F := by
  rw [round_due hF hF]
  refine Eq.trans ?_ hs
  exact srtW_eq (due_nodup hF.nodup hF.nodup) hF.nodup fun w => due_mem.trans ⟨fun h => h.elim (·.1) (·.1), fun h => .inl ⟨h, w, h, List.prefix_refl _⟩⟩
theorem cov_long {rs : List (List Nat)} {w : List Nat} (hc : cutP rs) (hw : isW w) (hl : 12 ≤ w.length) : cov rs w = 1 := (cut_bound (fun r h => (hc.2.2 r h).2) hl).mp hc.1 w hw rfl
/-- just one room of a cut begins a longer word -/
theorem cov_under {rs : List (List Nat)} {w : List Nat} (hc : cutP rs) (h : ∃ t ∈ rs, t <+: w) (hw : isW w) (hl : w.length ≤ 12) : cov rs w = 1 := by
  obtain ⟨t, ht, hp⟩ := h
  exact count_one hc.nodup ht hp fun x hx hxw => cut_uniq hc.1 hw hl hx ht hxw hp
theorem cov_filter (rs : List (List Nat)) (w : List Nat) : (rs.filter fun r => r.isPrefixOf w).length = cov rs w := (List.countP_eq_length_filter ..).symm
end Fw

/-! Fp12: tables of rooms, halves put together; a reduced table is one. -/
namespace Fw
open PySem L2
abbrev Tb := List (List Nat × List Nat)
def keysT (T : Tb) : List (List Nat) := T.map (·.1)
def lookT (T : Tb) (w : List Nat) : Option (List Nat) := (T.find? fun p => decide (p.1 = w)).map (·.2)
def dropT (T : Tb) (w : List Nat) : Tb := T.filter fun p => decide (p.1 ≠ w)
theorem keysT_mem {T : Tb} {w : List Nat} : w ∈ keysT T ↔ ∃ u, (w, u) ∈ T := by
  unfold keysT
  rw [List.mem_map]
  exact ⟨fun ⟨p, h, e⟩ => ⟨p.2, by rw [← e]; exact h⟩, fun ⟨u, h⟩ => ⟨_, h, rfl⟩⟩
theorem lookT_mem {T : Tb} {w u : List Nat} (h : lookT T w = some u) : (w, u) ∈ T := by
  unfold lookT at h
  obtain ⟨p, h1, h2⟩ := Option.map_eq_some_iff.mp h
  have := List.find?_some h1
  have e : p.1 = w := of_decide_eq_true this
  rw [← e, ← h2]
  exact List.mem_of_find?_eq_some h1
theorem lookT_of : ∀ {T : Tb} {w u : List Nat}, (keysT T).Nodup → (w, u) ∈ T → lookT T w = some u
  | [], _, _, _, h => by cases h
  | p :: T, w, u, hn, h => by
    have hn' := List.nodup_cons.mp (show (p.1 :: keysT T).Nodup from hn)
    unfold lookT
    rw [List.find?_cons]
    rcases List.mem_cons.mp h with e | h
    · rw [← e]; simp
    · have : p.1 ≠ w := fun e => hn'.1 (by rw [e]; exact keysT_mem.mpr ⟨u, h⟩)
      rw [decide_eq_false this]
      exact lookT_of hn'.2 h
theorem lookT_none {T : Tb} {w : List Nat} : lookT T w = none ↔ w ∉ keysT T := by
  unfold lookT keysT
  rw [Option.map_eq_none_iff, List.find?_eq_none]
  simp only [decide_eq_true_eq, List.mem_map, not_exists, not_and]
theorem lookT_some {T : Tb} {w : List Nat} : (lookT T w).isSome = decide (w ∈ keysT T) := by
  cases h : lookT T w with
  | none => simp [lookT_none.mp h]
  | some u => simp [keysT_mem.mpr ⟨u, lookT_mem h⟩]
theorem dropT_keys (T : Tb) (w : List Nat) : keysT (dropT T w) = (keysT T).filter fun x => decide (x ≠ w) := by
  unfold keysT dropT
  rw [List.filter_map]
  rfl
theorem dropT_mem {T : Tb} {w : List Nat} {p : List Nat × List Nat} : p ∈ dropT T w ↔ p ∈ T ∧ p.1 ≠ w := by
  unfold dropT
  rw [List.mem_filter, decide_eq_true_eq]
/-! ### two halves together -/
def joinU (T : Tb) (p : List Nat) : Option (List Nat) := match lookT T (p ++ [76]), lookT T (p ++ [82]) with
  | some a, some b => if a = a.dropLast ++ [76] ∧ b = a.dropLast ++ [82] then some a.dropLast else none
  | _, _ => none
theorem joinU_some {T : Tb} {p u : List Nat} : joinU T p = some u ↔ lookT T (p ++ [76]) = some (u ++ [76]) ∧ lookT T (p ++ [82]) = some (u ++ [82]) := by
  unfold joinU
  constructor
  · intro h
    split at h
    · rename_i a b e1 e2
      split at h
      · rename_i z
        cases h
        rw [e1, e2]
        exact ⟨by rw [← z.1], by rw [← z.2]⟩
      · cases h
    · cases h
  · rintro ⟨e1, e2⟩
    rw [e1, e2]
    simp
def stepT (T : Tb) (p : List Nat) : Tb := match joinU T p with
  | some u => dropT (dropT T (p ++ [76])) (p ++ [82]) ++ [(p, u)]
  | none => T
structure okT (B C : Nat) (T : Tb) : Prop where
  cut : cutAt B (keysT T)
  key : ∀ r ∈ keysT T, isW r ∧ r.length ≤ B
  val : ∀ p ∈ T, isW p.2 ∧ p.2.length ≤ C
theorem okT.nodup {B C : Nat} {T : Tb} (h : okT B C T) : (keysT T).Nodup := cut_nodup (fun r hr => (h.key r hr).1) (fun r hr => (h.key r hr).2) h.cut
def act (T : Tb) (w x : List Nat) : Prop := ∃ q ∈ T, q.1 <+: w ∧ x = q.2 ++ w.drop q.1.length
theorem oS_76 : oS 76 = 82 := rfl
section
variable {B C : Nat} {T : Tb} {p u : List Nat}
theorem okT.par (h : okT B C T) {c : Nat} (hk : p ++ [c] ∈ keysT T) : p ∉ keysT T ∧ isW p ∧ p.length + 1 ≤ B := by
  have k := h.key _ hk
  rw [List.length_append] at k
  refine ⟨fun z => ?_, (isW_append.mp k.1).1, k.2⟩
  have := cut_in h.cut h.key z hk (List.prefix_append ..)
  have e := congrArg List.length this
  simp at e
theorem stepT_some (h : joinU T p = some u) : stepT T p = dropT (dropT T (p ++ [76])) (p ++ [82]) ++ [(p, u)] := by unfold stepT; rw [h]
theorem stepT_none (h : joinU T p = none) : stepT T p = T := by unfold stepT; rw [h]
theorem keysT_app (T R : Tb) : keysT (T ++ R) = keysT T ++ keysT R := List.map_append ..
theorem stepT_keys (h : joinU T p = some u) : keysT (stepT T p) = joinH (keysT T) p 76 := by
  rw [stepT_some h, keysT_app, dropT_keys, dropT_keys]
  rfl
theorem stepT_ok (h : okT B C T) : okT B C (stepT T p) := by
  cases hj : joinU T p with
  | none => rw [stepT_none hj]; exact h
  | some u =>
    obtain ⟨e1, e2⟩ := joinU_some.mp hj
    have m1 := lookT_mem e1
    have m2 := lookT_mem e2
    have k1 := keysT_mem.mpr ⟨_, m1⟩
    have k2 := keysT_mem.mpr ⟨_, m2⟩
    obtain ⟨np, wp, lp⟩ := h.par k1
    have hw1 := (h.key _ k1).1
    refine ⟨?_, ?_, ?_⟩
    · rw [stepT_keys hj]
      exact (cut_join h.nodup hw1 k1 (by rw [oS_76]; exact k2) lp).mpr h.cut
    · intro r hr
      rw [stepT_keys hj] at hr
      rcases joinH_mem hr with z | z
      · exact h.key r z
      · rw [z]; exact ⟨wp, by omega⟩
    · intro q hq
      rw [stepT_some hj] at hq
      rcases List.mem_append.mp hq with z | z
      · exact h.val q (dropT_mem.mp (dropT_mem.mp z).1).1
      · rw [List.mem_singleton.mp z]
        have v := h.val _ m1
        have v1 := v.2
        rw [List.length_append] at v1
        exact ⟨(isW_append.mp v.1).1, by simp at v1 ⊢; omega⟩
theorem stepT_len (h : okT B C T) (hj : joinU T p = some u) : (stepT T p).length + 1 = T.length := by
  obtain ⟨e1, e2⟩ := joinU_some.mp hj
  have k1 := keysT_mem.mpr ⟨_, lookT_mem e1⟩
  have k2 := keysT_mem.mpr ⟨_, lookT_mem e2⟩
  have := joinH_length h.nodup k1 (by rw [oS_76]; exact k2)
  rw [← stepT_keys hj] at this
  unfold keysT at this
  rwa [List.length_map, List.length_map] at this
theorem act_fun (h : okT B C T) {w x y : List Nat} (hw : isW w) (hl : w.length = B) (a : act T w x) (b : act T w y) : x = y := by
  obtain ⟨q, hq, hp, rfl⟩ := a
  obtain ⟨q', hq', hp', rfl⟩ := b
  have e := cut_uniq h.cut hw (by omega) (keysT_mem.mpr ⟨q.2, hq⟩) (keysT_mem.mpr ⟨q'.2, hq'⟩) hp hp'
  have z1 := lookT_of h.nodup (show (q.1, q.2) ∈ T from hq)
  have z2 := lookT_of h.nodup (show (q'.1, q'.2) ∈ T from hq')
  rw [e] at z1
  rw [z1] at z2
  rw [e, Option.some.inj z2]
theorem half_drop {p w : List Nat} {c : Nat} (h : p ++ [c] <+: w) (u : List Nat) : u ++ [c] ++ w.drop (p ++ [c]).length = u ++ w.drop p.length := by
  obtain ⟨t, rfl⟩ := h
  rw [List.drop_left, List.append_assoc p, List.drop_left, List.append_assoc]
theorem stepT_act (h : okT B C T) {w x : List Nat} (hw : isW w) (hl : w.length = B) : act (stepT T p) w x ↔ act T w x := by
  cases hj : joinU T p with
  | none => rw [stepT_none hj]
  | some u =>
    obtain ⟨e1, e2⟩ := joinU_some.mp hj
    have m1 := lookT_mem e1
    have m2 := lookT_mem e2
    have k1 := keysT_mem.mpr ⟨_, m1⟩
    have k2 := keysT_mem.mpr ⟨_, m2⟩
    obtain ⟨np, wp, lp⟩ := h.par k1
    have half : p <+: w → p ++ [76] <+: w ∨ p ++ [82] <+: w := fun hp => by
      obtain ⟨t, rfl⟩ := hp
      cases t with
      | nil => simp at hl; omega
      | cons c t =>
        have hc : c = 76 ∨ c = 82 := hw c (by simp)
        rcases hc with rfl | rfl
        · left; exact ⟨t, by simp⟩
        · right; exact ⟨t, by simp⟩
    rw [stepT_some hj]
    constructor
    · rintro ⟨q, hq, hp, rfl⟩
      rcases List.mem_append.mp hq with z | z
      · exact ⟨q, (dropT_mem.mp (dropT_mem.mp z).1).1, hp, rfl⟩
      · rw [List.mem_singleton.mp z] at hp ⊢
        rcases half hp with y | y
        · exact ⟨_, m1, y, (half_drop y u).symm⟩
        · exact ⟨_, m2, y, (half_drop y u).symm⟩
    · rintro ⟨q, hq, hp, rfl⟩
      by_cases z1 : q.1 = p ++ [76]
      · have := lookT_of h.nodup (show (q.1, q.2) ∈ T from hq)
        rw [z1, e1] at this
        refine ⟨(p, u), by simp, (List.prefix_append p [76]).trans (by rw [← z1]; exact hp), ?_⟩
        rw [← Option.some.inj this, z1]
        rw [z1] at hp
        exact half_drop hp u
      · by_cases z2 : q.1 = p ++ [82]
        · have := lookT_of h.nodup (show (q.1, q.2) ∈ T from hq)
          rw [z2, e2] at this
          refine ⟨(p, u), by simp, (List.prefix_append p [82]).trans (by rw [← z2]; exact hp), ?_⟩
          rw [← Option.some.inj this, z2]
          rw [z2] at hp
          exact half_drop hp u
        · exact ⟨q, List.mem_append_left _ (dropT_mem.mpr ⟨dropT_mem.mpr ⟨hq, z1⟩, z2⟩), hp, rfl⟩
end
def red (T : Tb) : Prop := ∀ p, joinU T p = none
/-- the deepest key below q, its sister is a key too -/
theorem deep_pair {rs : List (List Nat)} {B : Nat} (h : cutAt B rs) (hw : ∀ r ∈ rs, isW r ∧ r.length ≤ B) {q : List Nat} (hq : ∃ r ∈ rs, ppre q r) : ∃ p, q <+: p ∧ p ++ [76] ∈ rs ∧ p ++ [82] ∈ rs := by
  -- the longest key below q
  have key : ∀ n, (∃ r ∈ rs, ppre q r ∧ B - r.length ≤ n) → ∃ p, q <+: p ∧ p ++ [76] ∈ rs ∧ p ++ [82] ∈ rs := by
    intro n
    induction n using Nat.strongRecOn with
    | ind n ih =>
      rintro ⟨r, hr, hp, hn⟩
      obtain ⟨⟨t, rfl⟩, hl⟩ := hp
      have tne : t ≠ [] := fun e => by subst e; simp at hl
      obtain ⟨t', c, rfl⟩ : ∃ t' c, t = t' ++ [c] := ⟨t.dropLast, t.getLast tne, (List.dropLast_concat_getLast tne).symm⟩
      have eR : q ++ (t' ++ [c]) = (q ++ t') ++ [c] := by simp
      rw [eR] at hr hn
      have hwr := hw _ hr
      have hc : c = 76 ∨ c = 82 := hwr.1 c (by simp)
      by_cases deeper : ∃ r ∈ rs, ppre ((q ++ t') ++ [oS c]) r
      · obtain ⟨r', hr', hp'⟩ := deeper
        have l1 := hp'.2
        have l2 := (hw r' hr').2
        have hlen : ((q ++ t') ++ [oS c]).length = ((q ++ t') ++ [c]).length := by simp
        refine ih (B - r'.length) ?_ ⟨r', hr', ⟨?_, ?_⟩, Nat.le_refl _⟩
        · have := hwr.2
          omega
        · exact ((List.prefix_append q t').trans (List.prefix_append _ _)).trans hp'.1
        · have e0 : ((q ++ t') ++ [oS c]).length = q.length + t'.length + 1 := by simp only [List.length_append, List.length_cons, List.length_nil]
          omega
      · have hn' : ∀ r ∈ rs, ¬ ppre ((q ++ t') ++ [oS c]) r := fun r hr z => deeper ⟨r, hr, z⟩
        have o := cut_leaf (p := q ++ t') (s := oS c) h hw hr ppre_init oS_W hn'
        refine ⟨q ++ t', List.prefix_append .., ?_⟩
        rcases hc with rfl | rfl
        · exact ⟨hr, o⟩
        · exact ⟨o, hr⟩
  obtain ⟨r, hr, hp⟩ := hq
  exact key _ ⟨r, hr, hp, Nat.le_refl _⟩
section
variable {B C : Nat} {T R : Tb}
theorem act_pad {p v t : List Nat} (hm : (p, v) ∈ T) : act T (p ++ t) (v ++ t) := ⟨_, hm, List.prefix_append .., by rw [List.drop_left]⟩
theorem no_inner (hT : okT B C T) (hR : okT B C R) (rR : red R) (ha : ∀ w, isW w → w.length = B → ∀ x, act T w x → act R w x) {q : List Nat} (hq : q ∈ keysT T) : ¬ ∃ r ∈ keysT R, ppre q r := fun hi => by
  obtain ⟨p, hqp, k1, k2⟩ := deep_pair hR.cut hR.key hi
  obtain ⟨v, hv⟩ := keysT_mem.mp hq
  obtain ⟨a, ha1⟩ := keysT_mem.mp k1
  obtain ⟨b, hb1⟩ := keysT_mem.mp k2
  obtain ⟨t, rfl⟩ := hqp
  have wp := (hR.key _ k1).1
  have lp := (hR.key _ k1).2
  rw [List.length_append] at lp
  have one : ∀ {c : Nat} {a : List Nat}, c = 76 ∨ c = 82 → (q ++ t ++ [c], a) ∈ R → a = v ++ t ++ [c] := fun {c a} hc hm => by
    have hpad : isW (List.replicate (B - ((q ++ t).length + 1)) 76) := fun x hx => .inl (List.eq_of_mem_replicate hx)
    have e1 : q ++ t ++ [c] ++ List.replicate (B - ((q ++ t).length + 1)) 76 = q ++ (t ++ [c] ++ List.replicate (B - ((q ++ t).length + 1)) 76) := by simp
    have hw : isW (q ++ t ++ [c] ++ List.replicate (B - ((q ++ t).length + 1)) 76) := isW_append.mpr ⟨isW_append.mpr ⟨(isW_append.mp wp).1, fun x hx => by rw [List.mem_singleton.mp hx]; exact hc⟩, hpad⟩
    have hl : (q ++ t ++ [c] ++ List.replicate (B - ((q ++ t).length + 1)) 76).length = B := by
      rw [List.length_append, List.length_append, List.length_replicate]
      have : [c].length = 1 := rfl
      have : [76].length = 1 := rfl
      omega
    have a1 : act R _ _ := act_pad (t := List.replicate (B - ((q ++ t).length + 1)) 76) hm
    have a2 : act R _ _ := ha _ hw hl _ (by rw [e1]; exact act_pad hv)
    have := act_fun hR hw hl a1 a2
    have e2 : v ++ (t ++ [c] ++ List.replicate (B - ((q ++ t).length + 1)) 76) = (v ++ t ++ [c]) ++ List.replicate (B - ((q ++ t).length + 1)) 76 := by simp
    rw [e2] at this
    exact List.append_cancel_right this
  have z := joinU_some.mpr ⟨(lookT_of hR.nodup ha1).trans (by rw [one (.inl rfl) ha1]), (lookT_of hR.nodup hb1).trans (by rw [one (.inr rfl) hb1])⟩
  rw [rR] at z
  cases z
theorem red_sub (hT : okT B C T) (hR : okT B C R) (rT : red T) (rR : red R) (ha : ∀ w, isW w → w.length = B → ∀ x, act T w x ↔ act R w x) {p : List Nat × List Nat} (hp : p ∈ T) : p ∈ R := by
  obtain ⟨q, v⟩ := p
  have hq : q ∈ keysT T := keysT_mem.mpr ⟨v, hp⟩
  have hqw := hT.key q hq
  have n1 := no_inner hT hR rR (fun w hw hl x => (ha w hw hl x).mp) hq
  obtain ⟨r, hr, hrp⟩ := cut_under hR.cut hqw.1 hqw.2 (fun r hr z => n1 ⟨r, hr, z⟩)
  have e : r = q := Classical.byContradiction fun ne => by
    have lt : r.length < q.length := by
      rcases Nat.lt_or_ge r.length q.length with z | z
      · exact z
      · exact absurd (hrp.eq_of_length_le z) ne
    exact no_inner hR hT rT (fun w hw hl x => (ha w hw hl x).mpr) hr ⟨q, hq, hrp, lt⟩
  subst e
  obtain ⟨v', hv'⟩ := keysT_mem.mp hr
  have hpad : isW (List.replicate (B - r.length) 76) := fun x hx => .inl (List.eq_of_mem_replicate hx)
  have hw : isW (r ++ List.replicate (B - r.length) 76) := isW_append.mpr ⟨hqw.1, hpad⟩
  have hl : (r ++ List.replicate (B - r.length) 76).length = B := by
    rw [List.length_append, List.length_replicate]
    have := hqw.2
    omega
  have := act_fun hR hw hl ((ha _ hw hl _).mp (act_pad hp)) (act_pad hv')
  rw [List.append_cancel_right this]
  exact hv'
end
/-! ### told by the keys, rising -/
def sortT (T : Tb) : Tb := (srtW (keysT T)).map fun k => (k, (lookT T k).getD [])
theorem sortT_eq {T R : Tb} (hT : (keysT T).Nodup) (hR : (keysT R).Nodup) (h : ∀ p, p ∈ T ↔ p ∈ R) : sortT T = sortT R := by
  have hk : ∀ w, w ∈ keysT T ↔ w ∈ keysT R := fun w => by
    rw [keysT_mem, keysT_mem]
    exact exists_congr fun u => h _
  have e : srtW (keysT T) = srtW (keysT R) := srtW_eq hT hR hk
  unfold sortT
  rw [e]
  refine List.map_congr_left fun k hm => ?_
  have hm' : k ∈ keysT R := srtW_mem.mp hm
  obtain ⟨u, hu⟩ := keysT_mem.mp hm'
  rw [lookT_of hR hu, lookT_of hT ((h _).mpr hu)]
theorem sortT_keys (T : Tb) : keysT (sortT T) = srtW (keysT T) := by
  unfold sortT keysT
  rw [List.map_map]
  exact List.map_id _
theorem sortT_mem {T : Tb} (hT : (keysT T).Nodup) {p : List Nat × List Nat} : p ∈ sortT T ↔ p ∈ T := by
  unfold sortT
  rw [List.mem_map]
  constructor
  · rintro ⟨k, hk, rfl⟩
    obtain ⟨u, hu⟩ := keysT_mem.mp (srtW_mem.mp hk)
    rw [lookT_of hT hu]
    exact hu
  · intro h
    exact ⟨p.1, srtW_mem.mpr (keysT_mem.mpr ⟨p.2, h⟩), by rw [lookT_of hT (show (p.1, p.2) ∈ T from h)]; rfl⟩
/-! ### longest first -/
def srtL (l : List (List Nat)) : List (List Nat) := l.mergeSort fun a b => decide ((b.length : Int) ≤ (a.length : Int))
theorem srtLen_tx (l : List (List Nat)) : srtLen (l.map tx) = (srtL l).map tx := by
  unfold srtLen srtL
  refine (List.map_mergeSort fun a _ b _ => ?_).symm
  rw [tx_len, tx_len]
theorem srtL_perm (l : List (List Nat)) : (srtL l).Perm l := List.mergeSort_perm ..
theorem srtL_falls (l : List (List Nat)) : (srtL l).Pairwise (fun a b => b.length ≤ a.length) := by
  have := List.pairwise_mergeSort (le := fun a b : List Nat => decide ((b.length : Int) ≤ (a.length : Int))) (fun a b c h h' => by
    simp only [decide_eq_true_eq] at *; omega) (fun a b => by simp only [Bool.or_eq_true, decide_eq_true_eq]; omega) l
  exact List.Pairwise.imp (fun {a b} h => by simpa using h) this
def foldT (T : Tb) (ws : List (List Nat)) : Tb := ws.foldl stepT T
def leastT (T : Tb) : Tb := sortT (foldT T (srtL (innerW (keysT T))))
section
variable {B C : Nat} {T : Tb}
theorem foldT_ok (ws : List (List Nat)) : ∀ {T : Tb}, okT B C T → okT B C (foldT T ws) := by
  induction ws with
  | nil => exact fun h => h
  | cons p ws ih => exact fun h => ih (stepT_ok h)
theorem foldT_act (ws : List (List Nat)) : ∀ {T : Tb}, okT B C T → ∀ {w x : List Nat}, isW w → w.length = B → (act (foldT T ws) w x ↔ act T w x) := by
  induction ws with
  | nil => intro T h w x hw hl; exact Iff.rfl
  | cons p ws ih => intro T h w x hw hl; exact (ih (stepT_ok h) hw hl).trans (stepT_act h hw hl)
theorem lookT_app {T R : Tb} {w : List Nat} : lookT (T ++ R) w = (lookT T w).or (lookT R w) := by
  unfold lookT
  rw [List.find?_append]
  cases T.find? fun p => decide (p.1 = w) <;> rfl
theorem lookT_drop {T : Tb} {w v : List Nat} (h : w ≠ v) : lookT (dropT T v) w = lookT T w := by
  unfold lookT dropT
  rw [List.find?_filter]
  congr 2
  funext p
  by_cases e : p.1 = w
  · simp [e, h]
  · simp [e]
theorem lookT_step {p w : List Nat} (h0 : w ≠ p) (h1 : w ≠ p ++ [76]) (h2 : w ≠ p ++ [82]) : lookT (stepT T p) w = lookT T w := by
  cases hj : joinU T p with
  | none => rw [stepT_none hj]
  | some u =>
    rw [stepT_some hj, lookT_app, lookT_drop h2, lookT_drop h1]
    have : lookT [(p, u)] w = none := lookT_none.mpr (by unfold keysT; simp [h0])
    rw [this, Option.or_none]
theorem joinU_step {p q : List Nat} (hl : p.length ≤ q.length) (ne : q ≠ p) : joinU (stepT T p) q = joinU T q := by
  have a : ∀ c : Nat, lookT (stepT T p) (q ++ [c]) = lookT T (q ++ [c]) := fun c => by
    refine lookT_step (fun e => ?_) (fun e => ?_) (fun e => ?_)
    · have := congrArg List.length e
      simp at this; omega
    · exact ne (List.append_inj_left' e rfl)
    · exact ne (List.append_inj_left' e rfl)
  unfold joinU
  rw [a, a]
theorem joinU_self {p : List Nat} (h : okT B C T) : joinU (stepT T p) p = none := by
  cases hj : joinU T p with
  | none => rw [stepT_none hj]; exact hj
  | some u =>
    cases hk : joinU (stepT T p) p with
    | none => rfl
    | some u' =>
      exfalso
      have k := keysT_mem.mpr ⟨_, lookT_mem (joinU_some.mp hk).1⟩
      exact ((stepT_ok h).par k).1 (by rw [stepT_some hj]; exact keysT_mem.mpr ⟨u, by simp⟩)
theorem foldT_done : ∀ (ws : List (List Nat)) {T : Tb} (dn : List (List Nat)), okT B C T → (∀ q ∈ dn, joinU T q = none) → (∀ q ∈ dn, ∀ p ∈ ws, p.length ≤ q.length ∧ q ≠ p) → ws.Pairwise (fun a b => b.length ≤ a.length) → ws.Nodup → ∀ q, q ∈ dn ∨ q ∈ ws → joinU (foldT T ws) q = none
  | [], T, dn, _, hd, _, _, _, q, hq => hd q (hq.elim id fun z => by cases z)
  | p :: ws, T, dn, h, hd, hs, hp, hn, q, hq => by
    have hp' := List.pairwise_cons.mp hp
    have hn' := List.nodup_cons.mp hn
    refine foldT_done ws (T := stepT T p) (p :: dn) (stepT_ok h) (fun q hq => ?_) (fun q hq p' hp2 => ?_) hp'.2 hn'.2 q ?_
    · rcases List.mem_cons.mp hq with e | e
      · rw [e]; exact joinU_self h
      · have z := hs q e p List.mem_cons_self
        rw [joinU_step z.1 z.2]
        exact hd q e
    · rcases List.mem_cons.mp hq with e | e
      · rw [e]; exact ⟨hp'.1 p' hp2, fun z => hn'.1 (by rw [z]; exact hp2)⟩
      · exact hs q e p' (List.mem_cons_of_mem _ hp2)
    · rcases hq with e | e
      · exact .inl (List.mem_cons_of_mem _ e)
      · rcases List.mem_cons.mp e with e | e
        · exact .inl (by rw [e]; exact List.mem_cons_self)
        · exact .inr e
theorem foldT_keys {I : List (List Nat)} : ∀ (ws : List (List Nat)) {T : Tb}, (∀ r ∈ keysT T, r ∈ I) → (∀ w ∈ ws, w ∈ I) → ∀ r ∈ keysT (foldT T ws), r ∈ I
  | [], T, h, _, r, hr => h r hr
  | p :: ws, T, h, hw, r, hr => by
    refine foldT_keys ws (T := stepT T p) (fun r hr => ?_) (fun w hm => hw w (List.mem_cons_of_mem _ hm)) r hr
    cases hj : joinU T p with
    | none => rw [stepT_none hj] at hr; exact h r hr
    | some u =>
      rw [stepT_keys hj] at hr
      rcases joinH_mem hr with z | z
      · exact h r z
      · rw [z]; exact hw p List.mem_cons_self
theorem fold_red (h : okT B C T) : red (foldT T (srtL (innerW (keysT T)))) := fun p => by
  have hd := foldT_done (srtL (innerW (keysT T))) [] h (fun q z => by cases z) (fun q z => by cases z) (srtL_falls _) ((srtL_perm _).nodup_iff.mpr (innerW_nodup _))
  cases hj : joinU (foldT T (srtL (innerW (keysT T)))) p with
  | none => rfl
  | some u =>
    have k := keysT_mem.mpr ⟨_, lookT_mem (joinU_some.mp hj).1⟩
    have hI := foldT_keys (I := keysT T ++ innerW (keysT T)) (srtL (innerW (keysT T))) (fun r hr => List.mem_append_left _ hr) (fun w hw => List.mem_append_right _ ((srtL_perm _).mem_iff.mp hw)) _ k
    have pin : p ∈ innerW (keysT T) := by
      rcases List.mem_append.mp hI with z | z
      · exact innerW_mem.mpr ⟨_, z, ppre_init⟩
      · exact inner_closed (List.prefix_append ..) z
    have := hd p (.inr ((srtL_perm _).mem_iff.mpr pin))
    rw [hj] at this
    cases this
/-- the least table is one: whoever reduces comes to it -/
theorem least_of {R : Tb} (h : okT B C T) (hR : okT B C R) (rR : red R) (ha : ∀ w, isW w → w.length = B → ∀ x, act R w x ↔ act T w x) : sortT R = leastT T := by
  have h1 := foldT_ok (srtL (innerW (keysT T))) h
  have a1 : ∀ w, isW w → w.length = B → ∀ x, act R w x ↔ act (foldT T (srtL (innerW (keysT T)))) w x := fun w hw hl x => (ha w hw hl x).trans (foldT_act _ h hw hl).symm
  refine sortT_eq hR.nodup h1.nodup fun p => ⟨red_sub hR h1 rR (fold_red h) a1, red_sub h1 hR (fold_red h) rR fun w hw hl x => (a1 w hw hl x).symm⟩
theorem sortT_ok (h : okT B C T) : okT B C (sortT T) := by
  refine ⟨?_, ?_, fun p hp => h.val p ((sortT_mem h.nodup).mp hp)⟩
  · rw [sortT_keys]; exact (cut_perm (srtW_perm _)).mpr h.cut
  · rw [sortT_keys]; exact fun r hr => h.key r (srtW_mem.mp hr)
theorem least_ok (h : okT B C T) : okT B C (leastT T) := sortT_ok (foldT_ok _ h)
theorem sortT_act (h : okT B C T) {w x : List Nat} : act (sortT T) w x ↔ act T w x := exists_congr fun q => and_congr_left fun _ => sortT_mem h.nodup
theorem least_act (h : okT B C T) {w x : List Nat} (hw : isW w) (hl : w.length = B) : act (leastT T) w x ↔ act T w x := (sortT_act (foldT_ok _ h)).trans (foldT_act _ h hw hl)
theorem foldT_len (ws : List (List Nat)) : ∀ {T : Tb}, okT B C T → (foldT T ws).length ≤ T.length := by
  induction ws with
  | nil => exact fun _ => Nat.le_refl _
  | cons p ws ih =>
    intro T h
    refine Nat.le_trans (ih (stepT_ok h)) ?_
    cases hj : joinU T p with
    | none => rw [stepT_none hj]; exact Nat.le_refl _
    | some u => have := stepT_len h hj; omega
theorem sortT_len (T : Tb) : (sortT T).length = T.length := by
  unfold sortT
  rw [List.length_map, srtW_length]
  exact List.length_map ..
theorem least_len (h : okT B C T) : (leastT T).length ≤ T.length := by
  unfold leastT
  rw [sortT_len]
  exact foldT_len _ h
end
end Fw

/-! Fp13: tables as data; the contracts of least_table and its kin. -/
namespace Fw
open PySem L2
def tW (T : Tb) : List (List Nat × D) := T.map fun p => (p.1, rD p.2)
def tD (T : Tb) : D := .dk (kvW (tW T))
theorem look_tW (T : Tb) (w : List Nat) : lookW (tW T) w = (lookT T w).map rD := by
  unfold lookW tW lookT
  rw [List.find?_map, Option.map_map, Option.map_map]
  rfl
theorem valD_tW (T : Tb) (w : List Nat) : valD (kvW (tW T)) (.inr (tx w)) = (lookT T w).map rD := by rw [valD_kvW, look_tW]
theorem drop_tW (T : Tb) (w : List Nat) : dropD (kvW (tW T)) (.inr (tx w)) = kvW (tW (dropT T w)) := by
  rw [dropD_kvW]
  congr 1
  unfold dropW tW dropT
  rw [List.filter_map]
  rfl
theorem put_tW {T : Tb} {w u : List Nat} (h : w ∉ keysT T) : putD (kvW (tW T)) (.inr (tx w)) (rD u) = kvW (tW (T ++ [(w, u)])) := by
  rw [putD_kvW]
  congr 1
  unfold putW tW
  rw [if_neg, List.map_append]
  · rfl
  · intro z
    obtain ⟨q, hq, e⟩ := List.any_eq_true.mp z
    obtain ⟨p, hp, rfl⟩ := List.mem_map.mp hq
    have e' : p.1 = w := of_decide_eq_true e
    exact h (by rw [← e']; exact keysT_mem.mpr ⟨p.2, hp⟩)
theorem tW_len (T : Tb) : (kvW (tW T)).length = T.length := by rw [kvW_length]; exact List.length_map ..
theorem keys_tW (T : Tb) : ((kvW (tW T)).map fun kv => keyV kv.1) = (keysT T).map rD := by
  rw [keys_kvW]
  unfold tW keysT
  rw [List.map_map, List.map_map]
  rfl
def prD (p : List Nat × List Nat) : D := .tup [rD p.1, rD p.2]
def pairsD (d : D) (T : Tb) : Prop := seqD d (T.map prD)
/-! ### Moving: attributes -/
def F_Moving (x0 : D) : List (Str × D) := [(("table" : Str), x0)]
section
variable {x0 d : D} {g : Str}
theorem F_Moving_table : (F_Moving x0).lookup ("table" : Str) = some x0 := by
  unfold F_Moving
  rw [look_cons, if_pos rfl]
theorem F_Moving_put_table : dputF ("table" : Str) d (F_Moving x0) = F_Moving d := by
  unfold F_Moving
  rw [dput_cons, if_pos rfl]
  try rfl
theorem F_Moving_ini_table : dputF ("table" : Str) d [] = F_Moving  d := by
  rw [dput_nil]
  try rfl
theorem F_Moving_m_lead_room : (F_Moving x0).lookup ("lead_room" : Str) = none := by
  unfold F_Moving
  rw [look_cons, if_neg (by decide +kernel : ¬ ("lead_room" : Str) = ("table" : Str))]
  rfl
theorem F_Moving_m_lead : (F_Moving x0).lookup ("lead" : Str) = none := by
  unfold F_Moving
  rw [look_cons, if_neg (by decide +kernel : ¬ ("lead" : Str) = ("table" : Str))]
  rfl
theorem F_Moving_m_pairs : (F_Moving x0).lookup ("pairs" : Str) = none := by
  unfold F_Moving
  rw [look_cons, if_neg (by decide +kernel : ¬ ("pairs" : Str) = ("table" : Str))]
  rfl
theorem F_Moving_m___len__ : (F_Moving x0).lookup ("__len__" : Str) = none := by
  unfold F_Moving
  rw [look_cons, if_neg (by decide +kernel : ¬ ("__len__" : Str) = ("table" : Str))]
  rfl
theorem F_Moving_len : (F_Moving x0).length = 1 := rfl
end
def mvD (C : Addr) (T : Tb) : D := .ins C (F_Moving (tD T))
def getV (o : Option D) (z : D) : D := match o with
  | some x => x
  | none => z
theorem getV_look (o : Option (List Nat)) : getV (o.map rD) (.str (tx [])) = .str (tx (o.getD [])) := by cases o <;> rfl
theorem joinU_get {T : Tb} {p u : List Nat} : joinU T p = some u ↔ (lookT T (p ++ [76])).getD [] = u ++ [76] ∧ (lookT T (p ++ [82])).getD [] = u ++ [82] := by
  rw [joinU_some]
  have k : ∀ (o : Option (List Nat)) (c : Nat), o = some (u ++ [c]) ↔ o.getD [] = u ++ [c] := fun o c => by
    cases o with
    | none => simp
    | some a => simp
  rw [k, k]
theorem cut_ini (a : List Nat) (h : a ≠ []) : ∃ b c, a = b ++ [c] := ⟨a.dropLast, a.getLast h, (List.dropLast_concat_getLast h).symm⟩
theorem fold_tW : ∀ (l acc : Tb), (keysT acc ++ keysT l).Nodup → l.foldl (fun acc p => putD acc (.inr (tx p.1)) (rD p.2)) (kvW (tW acc)) = kvW (tW (acc ++ l))
  | [], acc, _ => by rw [List.append_nil]; rfl
  | p :: l, acc, h => by
    have h' : (keysT acc ++ (p.1 :: keysT l)).Nodup := h
    have np : p.1 ∉ keysT acc := fun z => (List.nodup_append.mp h').2.2 _ z _ List.mem_cons_self rfl
    rw [List.foldl_cons, put_tW np, fold_tW l (acc ++ [(p.1, p.2)]) (by rw [keysT_app]; simpa [keysT] using h'), List.append_assoc]
    rfl
theorem fold_tW0 {l : Tb} (h : (keysT l).Nodup) : l.foldl (fun acc p => putD acc (.inr (tx p.1)) (rD p.2)) [] = kvW (tW l) := by
  have := fold_tW l [] (by simpa [keysT] using h)
  rwa [show kvW (tW []) = [] from rfl] at this
theorem fold_sort {R : Tb} : (srtW (keysT R)).foldl (fun acc k => putD acc (.inr (tx k)) (rD ((lookT R k).getD []))) [] = (sortT R).foldl (fun acc p => putD acc (.inr (tx p.1)) (rD p.2)) [] := by
  unfold sortT
  rw [List.foldl_map]
def Sp_halves_joined : SpN := fun ds Ψ => ∃ T p, ∃ B C : Nat, ds = [tD T, .str (tx p)] ∧ okT B C T ∧ C ≤ 1000 ∧ p.length ≤ 1000 ∧ T.length ≤ 1000 ∧ ∀ b, Ψ (.bl b) [tD (stepT T p)]
def Sp_least_table : SpN := fun ds Ψ => ∃ d T, ∃ B C : Nat, ds = [d] ∧ pairsD d T ∧ okT B C T ∧ B ≤ 1000 ∧ C ≤ 1000 ∧ okRs (keysT T) ∧ Ψ (tD (leastT T)) []
def Sp_room_led : SpN := fun ds Ψ => ∃ T w, ∃ B C : Nat, ds = [tD T, .str (tx w)] ∧ okT B C T ∧ C ≤ 1000 ∧ T.length ≤ 1000 ∧ w.length ≤ 1000 ∧ isW w ∧ (∀ x, act T w x → Ψ (.str (tx x)) []) ∧ ((¬ ∃ x, act T w x) → Ψ .non [])
def Sp_Moving___init__ (C : Addr) : SpN := fun ds Ψ => ∃ d T, ds = [.ins C [], d] ∧ pairsD d T ∧ okT 12 12 T ∧ cutAt 12 (T.map (·.2)) ∧ T.length ≤ 64 ∧ Ψ .non [mvD C (leastT T)]
def Sp_Moving_lead_room (C : Addr) : SpN := fun ds Ψ => ∃ T w, ∃ B C' : Nat, ds = [mvD C T, .str (tx w)] ∧ okT B C' T ∧ C' ≤ 1000 ∧ T.length ≤ 1000 ∧ w.length ≤ 1000 ∧ isW w ∧ (∀ x, act T w x → Ψ (.str (tx x)) []) ∧ ((¬ ∃ x, act T w x) → Ψ .non [])
def Sp__law_pairs : SpN := fun ds Ψ => ∃ n d, ∃ most : Nat, ds = [d, .int most] ∧ isBag n d ∧ n < 2 ^ 57 ∧ 1 ≤ most ∧ most ≤ 16 ∧ ∀ T d', okT 12 12 T → cutAt 12 (T.map (·.2)) → T.length ≤ most → isBag (n + 500) d' → Ψ (.lst (T.map prD)) [d']
def Sp__law_least : SpN := fun ds Ψ => ∃ T, ∃ B C : Nat, ds = [.lst (T.map prD)] ∧ okT B C T ∧ B ≤ 1000 ∧ C ≤ 1000 ∧ T.length ≤ 1000 ∧ Ψ (tD (leastT T)) []
def Sp__law_moving_drawn (C : Addr) : SpN := fun ds Ψ => ∃ n d, ∃ most : Nat, ds = [d, .int most] ∧ isBag n d ∧ n < 2 ^ 57 ∧ 1 ≤ most ∧ most ≤ 16 ∧ ∀ T d', okT 12 12 T → cutAt 12 (T.map (·.2)) → T.length ≤ most → isBag (n + 500) d' → Ψ (.tup [mvD C (leastT T), tD (leastT T)]) [d']
def Sp__law_led : SpN := fun ds Ψ => ∃ T w, ∃ B C : Nat, ds = [tD T, .str (tx w)] ∧ okT B C T ∧ B ≤ 1000 ∧ C ≤ 1000 ∧ T.length ≤ 1000 ∧ w.length ≤ 1000 ∧ isW w ∧ (∀ x, act T w x → Ψ (.str (tx x)) []) ∧ ((¬ ∃ x, act T w x) → Ψ .non [])
theorem zip_ok {one two : List (List Nat)} (h : cutP one) (h' : cutP two) (e : one.length = two.length) : okT 12 12 (one.zip two) ∧ cutAt 12 ((one.zip two).map (·.2)) ∧ (one.zip two).length = one.length := by
  have k1 : (one.zip two).map (·.1) = one := List.map_fst_zip (by omega)
  have k2 : (one.zip two).map (·.2) = two := List.map_snd_zip (by omega)
  refine ⟨⟨?_, ?_, fun p hp => ?_⟩, ?_, ?_⟩
  · unfold keysT; rw [k1]; exact h.1
  · unfold keysT; rw [k1]; exact h.2.2
  · have : p.2 ∈ (one.zip two).map (·.2) := List.mem_map.mpr ⟨p, hp, rfl⟩
    rw [k2] at this
    exact h'.2.2 _ this
  · rw [k2]; exact h'.1
  · rw [List.length_zip, e, Nat.min_self]
theorem cutP.perm {a b : List (List Nat)} (h : cutP a) (p : b.Perm a) : cutP b := cutP_of ((cut_perm p).mpr h.1) fun r hr => h.2.2 r (p.mem_iff.mp hr)
theorem zip_prD (one two : List (List Nat)) : ((one.map rD).zip (two.map rD)).map (fun p => D.tup [p.1, p.2]) = (one.zip two).map prD := by
  rw [List.zip_map, List.map_map]
  rfl
theorem turn_perm {α : Type} (l : List α) (n : Nat) : (l.drop n ++ l.take n).Perm l := by
  have := (List.perm_append_comm (l₁ := l.drop n) (l₂ := l.take n))
  rwa [List.take_append_drop] at this
theorem erase_perm {α : Type} : ∀ (l : List α) (k : Nat) (y : α), l[k]? = some y → (y :: l.eraseIdx k).Perm l
  | [], k, y, h => by simp at h
  | a :: l, 0, y, h => by
    have := Option.some.inj h
    subst this
    exact List.Perm.refl _
  | a :: l, k + 1, y, h => by
    rw [List.eraseIdx_cons_succ]
    exact (List.Perm.swap a y _).trans ((erase_perm l k y h).cons a)
theorem eraseIdx_map {α β : Type} (g : α → β) : ∀ (l : List α) (k : Nat), (l.map g).eraseIdx k = (l.eraseIdx k).map g
  | [], _ => rfl
  | a :: l, 0 => rfl
  | a :: l, k + 1 => by
    rw [List.map_cons, List.eraseIdx_cons_succ, eraseIdx_map g l k, List.eraseIdx_cons_succ, List.map_cons]
theorem take_zip_snoc {one vs : List (List Nat)} {i : Nat} {x v : List Nat} (h : one[i]? = some x) (e : vs.length = i) : (one.take (i + 1)).zip (vs ++ [v]) = (one.take i).zip vs ++ [(x, v)] := by
  have hi : i < one.length := (List.getElem?_eq_some_iff.mp h).1
  have e2 : one.take (i + 1) = one.take i ++ [x] := by
    rw [List.take_add_one, h]
    rfl
  rw [e2, List.zip_append (by rw [List.length_take, e]; omega)]
  rfl
theorem pairsK_prD : ∀ T : Tb, pairsK (T.map prD) = some (kvW (tW T))
  | [] => rfl
  | p :: T => by
    have ih := pairsK_prD T
    rw [List.map_cons]
    unfold pairsK
    rw [show pairK (prD p) = some (.inr (tx p.1), rD p.2) from rfl, ih]
    rfl
theorem mergeD_tW {T : Tb} (h : (keysT T).Nodup) : mergeD [] (kvW (tW T)) = kvW (tW T) := by
  have := fold_tW0 h
  unfold mergeD
  rw [← this]
  conv => lhs; arg 3; rw [this]
  unfold kvW tW
  rw [List.foldl_map, List.foldl_map]
theorem cut_tail {α : Type} (b : List α) (c : α) : cut (b ++ [c]) (some (-1)) none = [c] := by
  have h1 : HT.sIx (b ++ [c]).length 0 (some (-1)) = b.length := by
    show ((-1 : Int) + ((b ++ [c]).length : Int)).toNat = _
    rw [List.length_append]
    show ((-1 : Int) + ((b.length + 1 : Nat) : Int)).toNat = _
    omega
  unfold cut
  rw [HT.sIx_none, h1, List.drop_left, List.length_append, Nat.add_sub_cancel_left]
  rfl
theorem cut_tail_nil {α : Type} : cut ([] : List α) (some (-1)) none = [] := by
  unfold cut
  rw [List.drop_nil, List.take_nil]
theorem cut_tail_len (a : List Nat) : (cut a (some (-1)) none).length ≤ 1 := by
  by_cases h : a = []
  · subst h; rw [cut_tail_nil]; decide
  · obtain ⟨b, c, rfl⟩ := cut_ini a h
    rw [cut_tail]; exact Nat.le_refl _
theorem cut_tail_W {a : List Nat} (h : isW a) : isW (cut a (some (-1)) none) := by
  by_cases h0 : a = []
  · subst h0; rw [cut_tail_nil]; exact isW_nil
  · obtain ⟨b, c, rfl⟩ := cut_ini a h0
    rw [cut_tail]; exact (isW_append.mp h).2
theorem cut_tail_eq {a : List Nat} {s : Nat} : cut a (some (-1)) none = [s] ↔ ∃ b, a = b ++ [s] := by
  by_cases h0 : a = []
  · subst h0; rw [cut_tail_nil]; simp
  · obtain ⟨b, c, rfl⟩ := cut_ini a h0
    rw [cut_tail]
    constructor
    · intro h; exact ⟨b, by rw [h]⟩
    · rintro ⟨b', h⟩; exact List.append_inj_right' h rfl
theorem stepT_le {B C : Nat} {T : Tb} {p : List Nat} (h : okT B C T) : (stepT T p).length ≤ T.length := by
  cases hj : joinU T p with
  | none => rw [stepT_none hj]; exact Nat.le_refl _
  | some u => have := stepT_len h hj; omega
theorem okT.pos {B C : Nat} {T : Tb} (h : okT B C T) : 0 < T.length := by
  rcases Nat.eq_zero_or_pos T.length with z | z
  · have : keysT T = [] := by unfold keysT; rw [List.length_eq_zero_iff.mp z]; rfl
    have hc := h.cut
    rw [this] at hc
    exact absurd hc (not_cut_nil B)
  · exact z
theorem kk_tW (T : Tb) : (kvW (tW T)).map (·.1) = ((keysT T).map tx).map Sum.inr := by
  unfold kvW tW keysT
  rw [List.map_map, List.map_map, List.map_map, List.map_map]
  rfl
theorem act_uniq {B C : Nat} {T : Tb} (h : okT B C T) {w x y : List Nat} (a : act T w x) (b : act T w y) : x = y := by
  obtain ⟨q, hq, hp, rfl⟩ := a
  obtain ⟨q', hq', hp', rfl⟩ := b
  have k1 := keysT_mem.mpr ⟨q.2, hq⟩
  have k2 := keysT_mem.mpr ⟨q'.2, hq'⟩
  have e : q.1 = q'.1 := by
    rcases Nat.le_total q.1.length q'.1.length with z | z
    · exact cut_in h.cut h.key k1 k2 (prefix_le hp hp' z)
    · exact (cut_in h.cut h.key k2 k1 (prefix_le hp' hp z)).symm
  have z1 := lookT_of h.nodup (show (q.1, q.2) ∈ T from hq)
  have z2 := lookT_of h.nodup (show (q'.1, q'.2) ∈ T from hq')
  rw [e] at z1
  rw [z1] at z2
  rw [e, Option.some.inj z2]
theorem act_W {B C : Nat} {T : Tb} (h : okT B C T) {w x : List Nat} (hw : isW w) (a : act T w x) : isW x ∧ x.length ≤ C + w.length := by
  obtain ⟨q, hq, hp, rfl⟩ := a
  have v := h.val q hq
  refine ⟨isW_append.mpr ⟨v.1, fun c hc => hw c (List.mem_of_mem_drop hc)⟩, ?_⟩
  rw [List.length_append, List.length_drop]
  have := v.2
  omega
def T_one : Tb := [([], [])]
def T_two : Tb := [([76], [82]), ([82], [76])]
theorem cutP_lr : cutP [[76], [82]] := cutP_two.perm (List.Perm.swap _ _ _)
theorem ok_one : okT 12 12 T_one ∧ cutAt 12 (T_one.map (·.2)) := ⟨⟨cutP_one.1, cutP_one.2.2, fun p hp => by
  rw [List.mem_singleton.mp hp]
  exact ⟨isW_nil, by decide⟩⟩, cutP_one.1⟩
theorem ok_two : okT 12 12 T_two ∧ cutAt 12 (T_two.map (·.2)) := ⟨⟨cutP_lr.1, cutP_lr.2.2, fun p hp => cutP_two.2.2 p.2 (by
  rcases List.mem_cons.mp hp with e | hp
  · rw [e]; simp
  · rw [List.mem_singleton.mp hp]; simp)⟩, cutP_two.1⟩
theorem snoc_one {p : List Nat} {a b : Nat} (h : p ++ [a] = [b]) : p = [] ∧ a = b := by
  cases p with
  | nil => exact ⟨rfl, (List.cons.inj h).1⟩
  | cons c p => simp at h
theorem least_one : leastT T_one = T_one := by
  rw [← least_of ok_one.1 ok_one.1 (fun p => ?_) (fun w _ _ x => Iff.rfl)]
  · unfold sortT
    rw [show keysT T_one = [[]] from rfl, srtW_nil]
    rfl
  · cases hj : joinU T_one p with
    | none => rfl
    | some u =>
      have := lookT_mem (joinU_some.mp hj).1
      have := List.mem_singleton.mp this
      simp at this
theorem least_two : leastT T_two = T_two := by
  rw [← least_of ok_two.1 ok_two.1 (fun p => ?_) (fun w _ _ x => Iff.rfl)]
  · unfold sortT
    rw [show keysT T_two = [[76], [82]] from rfl, srtW_of (List.Perm.refl _) (by decide)]
    rfl
  · cases hj : joinU T_two p with
    | none => rfl
    | some u =>
      have := lookT_mem (joinU_some.mp hj).1
      unfold T_two at this
      rcases List.mem_cons.mp this with e | e
      · have e2 := (Prod.mk.inj e).2
        have := (snoc_one e2).2
        omega
      · have e2 := (Prod.mk.inj (List.mem_singleton.mp e)).1
        have := (snoc_one e2).2
        omega
end Fw

/-! Fp14: movings turned about, one behind the other. -/
namespace Fw
open PySem L2
def invT (T : Tb) : Tb := T.map fun p => (p.2, p.1)
theorem invT_mem {T : Tb} {p : List Nat × List Nat} : p ∈ invT T ↔ (p.2, p.1) ∈ T := by
  unfold invT
  rw [List.mem_map]
  constructor
  · rintro ⟨q, hq, rfl⟩; exact hq
  · intro h; exact ⟨_, h, rfl⟩
theorem invT_keys (T : Tb) : keysT (invT T) = T.map (·.2) := by
  unfold keysT invT
  rw [List.map_map]
  rfl
theorem invT_inv (T : Tb) : invT (invT T) = T := by
  unfold invT
  rw [List.map_map]
  exact List.map_id _
theorem invT_len (T : Tb) : (invT T).length = T.length := List.length_map ..
/-- a moving: rooms of a cut led to rooms of a cut -/
structure okM (B C : Nat) (T : Tb) : Prop where
  one : okT B C T
  two : okT C B (invT T)
theorem okM.inv {B C : Nat} {T : Tb} (h : okM B C T) : okM C B (invT T) := ⟨h.two, by rw [invT_inv]; exact h.one⟩
theorem okT.nodupT {B C : Nat} {T : Tb} (h : okT B C T) : T.Nodup := by
  have := h.nodup
  unfold keysT at this
  exact List.Pairwise.of_map (·.1) (fun a b h e => h (by rw [e])) this
theorem okT.perm {B C : Nat} {T R : Tb} (h : okT B C T) (p : R.Perm T) : okT B C R := by
  have pk : (keysT R).Perm (keysT T) := p.map _
  exact ⟨(cut_perm pk).mpr h.cut, fun r hr => h.key r (pk.mem_iff.mp hr), fun q hq => h.val q (p.mem_iff.mp hq)⟩
theorem okM.of {T : Tb} (h : okT 12 12 T) (hc : cutAt 12 (T.map (·.2))) : okM 12 12 T := by
  refine ⟨h, ?_, ?_, fun p hp => h.key p.2 (keysT_mem.mpr ⟨p.1, invT_mem.mp hp⟩)⟩
  · rw [invT_keys]; exact hc
  · intro r hr
    rw [invT_keys] at hr
    obtain ⟨p, hp, rfl⟩ := List.mem_map.mp hr
    exact h.val p hp
section
variable {B C : Nat} {T : Tb} {p u : List Nat}
theorem joinU_mem (h : okT B C T) : joinU T p = some u ↔ (p ++ [76], u ++ [76]) ∈ T ∧ (p ++ [82], u ++ [82]) ∈ T := by
  rw [joinU_some]
  exact ⟨fun z => ⟨lookT_mem z.1, lookT_mem z.2⟩, fun z => ⟨lookT_of h.nodup z.1, lookT_of h.nodup z.2⟩⟩
theorem joinU_inv (h : okM B C T) : joinU T p = some u ↔ joinU (invT T) u = some p := by
  rw [joinU_mem h.one, joinU_mem h.two, invT_mem, invT_mem]
theorem stepT_mem (h : okT B C T) (hj : joinU T p = some u) {q : List Nat × List Nat} : q ∈ stepT T p ↔ (q ∈ T ∧ q ≠ (p ++ [76], u ++ [76]) ∧ q ≠ (p ++ [82], u ++ [82])) ∨ q = (p, u) := by
  obtain ⟨m1, m2⟩ := (joinU_mem h).mp hj
  have uniq : ∀ {a b : List Nat}, (a, b) ∈ T → q ∈ T → (q.1 ≠ a ↔ q ≠ (a, b)) := fun {a b} hm hq => by
    constructor
    · intro z e; rw [e] at z; exact z rfl
    · intro z e
      have e1 := lookT_of h.nodup (show (q.1, q.2) ∈ T from hq)
      have e2 := lookT_of h.nodup hm
      rw [e, e2] at e1
      exact z (by rw [← e, Option.some.inj e1])
  rw [stepT_some hj, List.mem_append, dropT_mem, dropT_mem, List.mem_singleton]
  refine or_congr ?_ Iff.rfl
  constructor
  · rintro ⟨⟨z, z1⟩, z2⟩
    exact ⟨z, (uniq m1 z).mp z1, (uniq m2 z).mp z2⟩
  · rintro ⟨z, z1, z2⟩
    exact ⟨⟨z, (uniq m1 z).mpr z1⟩, (uniq m2 z).mpr z2⟩
theorem stepT_inv (h : okM B C T) (hj : joinU T p = some u) : (invT (stepT T p)).Perm (stepT (invT T) u) := by
  have hj2 := (joinU_inv h).mp hj
  have n1 : (invT (stepT T p)).Nodup := by
    unfold invT
    refine List.Pairwise.map (fun p : List Nat × List Nat => (p.2, p.1)) (fun a b ne e => ne ?_) (stepT_ok h.one).nodupT
    obtain ⟨e1, e2⟩ := Prod.mk.inj e
    exact Prod.ext e2 e1
  refine (List.perm_ext_iff_of_nodup n1 (stepT_ok h.two).nodupT).mpr fun q => ?_
  rw [invT_mem, stepT_mem h.one hj, stepT_mem h.two hj2, invT_mem]
  obtain ⟨a, b⟩ := q
  simp only [Prod.mk.injEq, ne_eq, And.comm]
theorem stepM_ok (h : okM B C T) : okM B C (stepT T p) := by
  cases hj : joinU T p with
  | none => rw [stepT_none hj]; exact h
  | some u => exact ⟨stepT_ok h.one, (stepT_ok h.two).perm (stepT_inv h hj)⟩
theorem foldM_ok (ws : List (List Nat)) : ∀ {T : Tb}, okM B C T → okM B C (foldT T ws) := by
  induction ws with
  | nil => exact fun h => h
  | cons p ws ih => exact fun h => ih (stepM_ok h)
theorem sortT_perm (h : okT B C T) : (sortT T).Perm T := (List.perm_ext_iff_of_nodup (sortT_ok h).nodupT h.nodupT).mpr fun q => sortT_mem h.nodup
theorem okM.perm {R : Tb} (h : okM B C T) (p : R.Perm T) : okM B C R := ⟨h.one.perm p, h.two.perm (p.map _)⟩
theorem leastM_ok (h : okM B C T) : okM B C (leastT T) := (foldM_ok _ h).perm (sortT_perm (foldT_ok _ h.one))
end
/-! ### one behind the other -/
def ledT (R : Tb) (w : List Nat) : Option (List Nat) := (R.find? fun q => q.1.isPrefixOf w).map fun q => q.2 ++ w.drop q.1.length
theorem ledT_act {R : Tb} {w x : List Nat} (h : ledT R w = some x) : act R w x := by
  unfold ledT at h
  obtain ⟨q, h1, h2⟩ := Option.map_eq_some_iff.mp h
  exact ⟨q, List.mem_of_find?_eq_some h1, List.isPrefixOf_iff_prefix.mp (List.find?_some (p := fun q : List Nat × List Nat => q.1.isPrefixOf w) h1), h2.symm⟩
theorem ledT_none {R : Tb} {w : List Nat} (h : ledT R w = none) : ∀ r ∈ keysT R, ¬ r <+: w := fun r hr hp => by
  unfold ledT at h
  rw [Option.map_eq_none_iff, List.find?_eq_none] at h
  obtain ⟨u, hu⟩ := keysT_mem.mp hr
  exact h _ hu (List.isPrefixOf_iff_prefix.mpr hp)
theorem ledT_no {R : Tb} {w : List Nat} (h : ledT R w = none) : ¬ ∃ x, act R w x := by
  rintro ⟨x, q, hq, hp, _⟩
  exact ledT_none h q.1 (keysT_mem.mpr ⟨q.2, hq⟩) hp
def belowT (R : Tb) (p : List Nat × List Nat) : Tb := (R.filter fun q => p.2.isPrefixOf q.1).map fun q => (p.1 ++ q.1.drop p.2.length, q.2)
def oneBehind (R : Tb) (p : List Nat × List Nat) : Tb := match ledT R p.2 with
  | some x => [(p.1, x)]
  | none => belowT R p
def behindT (T R : Tb) : Tb := T.flatMap (oneBehind R)
theorem cov_le {rs : List (List Nat)} {C : Nat} {w : List Nat} (h : cutAt C rs) (hr : ∀ r ∈ rs, r.length ≤ C) (hw : isW w) : cov rs w ≤ 1 := by
  rcases Nat.le_total w.length C with z | z
  · have e := h (padW w C) (padW_W hw) (padW_len z)
    rw [← e]
    unfold cov
    refine List.countP_mono_left fun r hr hp => ?_
    exact List.isPrefixOf_iff_prefix.mpr ((List.isPrefixOf_iff_prefix.mp hp).trans (padW_pre w C))
  · have e := h (w.take C) (fun c hc => hw c (List.mem_of_mem_take hc)) (by rw [List.length_take]; omega)
    rw [cov_take hr] at e
    omega
theorem count_swap (T R : Tb) : (T.map fun p => R.countP fun q => p.2.isPrefixOf q.1).sum = (R.map fun q => cov (T.map (·.2)) q.1).sum := by
  induction T with
  | nil =>
    rw [List.map_nil, List.sum_nil]
    induction R with
    | nil => rfl
    | cons q R ih => rw [List.map_cons, List.sum_cons, ← ih]; rfl
  | cons p T ih =>
    rw [List.map_cons, List.sum_cons, ih]
    clear ih
    induction R with
    | nil => rfl
    | cons q R ih2 =>
      rw [List.countP_cons, List.map_cons, List.sum_cons, List.map_cons, List.sum_cons, ← Nat.add_assoc, List.map_cons, cov_cons, Nat.add_right_comm]
      rw [List.map_cons] at ih2
      have : (if p.2.isPrefixOf q.1 = true then 1 else 0) = if p.2 <+: q.1 then 1 else 0 := by
        by_cases z : p.2 <+: q.1
        · rw [if_pos z, if_pos (List.isPrefixOf_iff_prefix.mpr z)]
        · rw [if_neg z, if_neg (fun y => z (List.isPrefixOf_iff_prefix.mp y))]
      rw [this]
      omega
theorem sum_le_len {α : Type} (f : α → Nat) (l : List α) (h : ∀ a ∈ l, f a ≤ 1) : (l.map f).sum ≤ l.length := by
  induction l with
  | nil => exact Nat.le_refl _
  | cons a l ih =>
    rw [List.map_cons, List.sum_cons, List.length_cons]
    have := h a List.mem_cons_self
    have := ih fun b hb => h b (List.mem_cons_of_mem _ hb)
    omega
section
variable {B C B' C' : Nat} {T R : Tb}
theorem oneBehind_len (R : Tb) (p : List Nat × List Nat) : (oneBehind R p).length ≤ 1 + R.countP fun q => p.2.isPrefixOf q.1 := by
  unfold oneBehind
  split
  · simp
  · unfold belowT
    rw [List.length_map, List.countP_eq_length_filter]
    omega
theorem flat_len (R : Tb) : ∀ T : Tb, (behindT T R).length ≤ T.length + (T.map fun p => R.countP fun q => p.2.isPrefixOf q.1).sum
  | [] => Nat.le_refl _
  | p :: T => by
    have ih := flat_len R T
    have o := oneBehind_len R p
    unfold behindT at ih ⊢
    rw [List.flatMap_cons, List.length_append, List.map_cons, List.sum_cons, List.length_cons]
    omega
theorem behind_len (h : okM B C T) (h' : okT B' C' R) : (behindT T R).length ≤ T.length + R.length := by
  refine Nat.le_trans (flat_len R T) (Nat.add_le_add_left ?_ _)
  rw [count_swap]
  refine sum_le_len _ _ fun q hq => cov_le (C := C) ?_ ?_ (h'.key q.1 (keysT_mem.mpr ⟨q.2, hq⟩)).1
  · rw [← invT_keys]; exact h.two.cut
  · rw [← invT_keys]; exact fun r hr => (h.two.key r hr).2
theorem keysT_flat (R : Tb) : ∀ T : Tb, keysT (behindT T R) = T.flatMap fun p => keysT (oneBehind R p)
  | [] => rfl
  | p :: T => by
    unfold behindT
    rw [List.flatMap_cons, keysT_app, List.flatMap_cons, ← keysT_flat R T]
    rfl
theorem belowT_mem {p q : List Nat × List Nat} : q ∈ belowT R p ↔ ∃ r ∈ R, p.2 <+: r.1 ∧ q = (p.1 ++ r.1.drop p.2.length, r.2) := by
  unfold belowT
  rw [List.mem_map]
  constructor
  · rintro ⟨r, hr, rfl⟩
    obtain ⟨h1, h2⟩ := List.mem_filter.mp hr
    exact ⟨r, h1, List.isPrefixOf_iff_prefix.mp h2, rfl⟩
  · rintro ⟨r, hr, hp, rfl⟩
    exact ⟨r, List.mem_filter.mpr ⟨hr, List.isPrefixOf_iff_prefix.mpr hp⟩, rfl⟩
theorem cov_flat (w : List Nat) (f : (List Nat × List Nat) → List (List Nat)) : ∀ T : Tb, cov (T.flatMap f) w = (T.map fun p => cov (f p) w).sum
  | [] => rfl
  | p :: T => by rw [List.flatMap_cons, cov_append, cov_flat w f T, List.map_cons, List.sum_cons]
theorem cov_one {w : List Nat} {p : List Nat × List Nat} (h' : okT B' C' R) (hp : isW p.2) (hw : isW w) (hl : p.1.length + B' ≤ w.length) : cov (keysT (oneBehind R p)) w = if p.1 <+: w then 1 else 0 := by
  by_cases z : p.1 <+: w
  · rw [if_pos z]
    obtain ⟨t, rfl⟩ := z
    rw [List.length_append] at hl
    have ht : isW t := (isW_append.mp hw).2
    unfold oneBehind
    split
    · show cov [p.1] _ = 1
      rw [cov_cons, if_pos (List.prefix_append ..)]
      rfl
    · rename_i hn
      have hno := ledT_none hn
      have e : cov (keysT (belowT R p)) (p.1 ++ t) = cov (keysT R) (p.2 ++ t) := by
        unfold belowT keysT cov
        rw [List.map_map, List.countP_map, List.countP_filter, List.countP_map]
        refine List.countP_congr fun q hq => ?_
        have hqk := hno q.1 (keysT_mem.mpr ⟨q.2, hq⟩)
        simp only [Function.comp, Bool.and_eq_true, List.isPrefixOf_iff_prefix]
        constructor
        · rintro ⟨h1, ⟨s, hs⟩⟩
          rw [← hs, List.drop_left] at h1
          rw [← hs]
          exact (List.prefix_append_right_inj _).mpr ((List.prefix_append_right_inj _).mp h1)
        · intro h1
          have h2 : p.2 <+: q.1 := by
            rcases Nat.le_total q.1.length p.2.length with y | y
            · exact absurd (prefix_le h1 (List.prefix_append ..) y) hqk
            · exact prefix_le (List.prefix_append ..) h1 y
          refine ⟨?_, h2⟩
          obtain ⟨s, hs⟩ := h2
          rw [← hs, List.drop_left]
          rw [← hs] at h1
          exact (List.prefix_append_right_inj _).mpr ((List.prefix_append_right_inj _).mp h1)
      rw [e]
      have hcut : cutAt (p.2 ++ t).length (keysT R) := (cut_bound (fun r hr => (h'.key r hr).2) (by rw [List.length_append]; omega)).mp h'.cut
      exact hcut _ (isW_append.mpr ⟨hp, ht⟩) rfl
  · rw [if_neg z]
    have : ∀ r ∈ keysT (oneBehind R p), ¬ r <+: w := fun r hr hr2 => by
      unfold oneBehind at hr
      split at hr
      · have e : r = p.1 := List.mem_singleton.mp hr
        rw [e] at hr2
        exact z hr2
      · obtain ⟨u, hu⟩ := keysT_mem.mp hr
        obtain ⟨q, _, _, e⟩ := belowT_mem.mp hu
        have e1 := (Prod.mk.inj e).1
        rw [e1] at hr2
        exact z ((List.prefix_append ..).trans hr2)
    unfold cov
    rw [List.countP_eq_zero]
    intro r hr
    rw [List.isPrefixOf_iff_prefix]
    exact this r hr
theorem behind_ok (h : okT B C T) (h' : okT B' C' R) : okT (B + B') (C + C') (behindT T R) := by
  refine ⟨fun w hw hl => ?_, fun r hr => ?_, fun q hq => ?_⟩
  · rw [keysT_flat, cov_flat]
    have e : (T.map fun p => cov (keysT (oneBehind R p)) w) = T.map fun p => if p.1 <+: w then 1 else 0 := by
      refine List.map_congr_left fun p hp => ?_
      have k := h.key p.1 (keysT_mem.mpr ⟨p.2, hp⟩)
      exact cov_one h' (h.val p hp).1 hw (by omega)
    rw [e]
    have hcut : cutAt (B + B') (keysT T) := (cut_bound (fun r hr => (h.key r hr).2) (by omega)).mp h.cut
    refine Eq.trans ?_ (hcut w hw hl)
    have : ∀ T : Tb, (T.map fun p => if p.1 <+: w then 1 else 0).sum = cov (T.map (·.1)) w := fun T => by
      induction T with
      | nil => rfl
      | cons p T ih => rw [List.map_cons, List.sum_cons, List.map_cons, cov_cons, ih, Nat.add_comm]
    exact this T
  · rw [keysT_flat] at hr
    obtain ⟨p, hp, hr⟩ := List.mem_flatMap.mp hr
    have k := h.key p.1 (keysT_mem.mpr ⟨p.2, hp⟩)
    unfold oneBehind at hr
    split at hr
    · rw [show r = p.1 from List.mem_singleton.mp hr]
      exact ⟨k.1, by omega⟩
    · obtain ⟨u, hu⟩ := keysT_mem.mp hr
      obtain ⟨q, hq, _, e⟩ := belowT_mem.mp hu
      have e1 := (Prod.mk.inj e).1
      have k2 := h'.key q.1 (keysT_mem.mpr ⟨q.2, hq⟩)
      rw [e1]
      refine ⟨isW_append.mpr ⟨k.1, fun c hc => k2.1 c (List.mem_of_mem_drop hc)⟩, ?_⟩
      rw [List.length_append, List.length_drop]
      omega
  · obtain ⟨p, hp, hq⟩ := List.mem_flatMap.mp hq
    have v := h.val p hp
    unfold oneBehind at hq
    split at hq
    · rename_i x hx
      rw [List.mem_singleton.mp hq]
      have z := act_W h' v.1 (ledT_act hx)
      exact ⟨z.1, by have z1 := z.2; have z2 := v.2; show x.length ≤ _; omega⟩
    · obtain ⟨r, hr, _, e⟩ := belowT_mem.mp hq
      rw [e]
      have z := h'.val r hr
      exact ⟨z.1, by have z1 := z.2; show r.2.length ≤ _; omega⟩
end
end Fw
namespace Fw
open PySem L2
def Sp_Moving_pairs (C : Addr) : SpN := fun ds Ψ => ∃ T, ds = [mvD C T] ∧ Ψ (.lst (T.map prD)) []
def Sp_still (C : Addr) : SpN := fun ds Ψ => ds = [] ∧ Ψ (mvD C T_one) []
def Sp_made (C : Addr) : SpN := fun ds Ψ => ∃ d T, ∃ B B' : Nat, ds = [d] ∧ pairsD d T ∧ okT B B' T ∧ B ≤ 1000 ∧ B' ≤ 1000 ∧ okRs (keysT T) ∧ (leastT T).length ≤ 64 ∧ Ψ (mvD C (leastT T)) []
def Sp_pairs_behind : SpN := fun ds Ψ => ∃ T R, ∃ B C B' C' : Nat, ds = [tD T, tD R] ∧ okM B C T ∧ okT B' C' R ∧ B ≤ 400 ∧ C ≤ 400 ∧ B' ≤ 400 ∧ C' ≤ 400 ∧ T.length ≤ 400 ∧ R.length ≤ 400 ∧ Ψ (.lst ((behindT T R).map prD)) []
def Sp_joined (C0 : Addr) : SpN := fun ds Ψ => ∃ T R, ∃ B C B' C' : Nat, ds = [mvD C0 T, mvD C0 R] ∧ okM B C T ∧ okT B' C' R ∧ B ≤ 400 ∧ C ≤ 400 ∧ B' ≤ 400 ∧ C' ≤ 400 ∧ T.length ≤ 400 ∧ R.length ≤ 400 ∧ (T.length + R.length) * (B + B') < 4000 ∧ (leastT (behindT T R)).length ≤ 64 ∧ Ψ (mvD C0 (leastT (behindT T R))) []
def Sp__law_rows : SpN := fun ds Ψ => ∃ T, ∃ B C : Nat, ds = [tD T] ∧ okT B C T ∧ T.length ≤ 1000 ∧ Ψ (.lst ((sortT T).map prD)) []
def Sp__law_kin (C0 : Addr) : SpN := fun ds Ψ => ∃ T, ∃ B C : Nat, ds = [mvD C0 T, tD T] ∧ okT B C T ∧ sortT T = T ∧ T.length ≤ 1000 ∧ Ψ (.bl true) []
def Sp__law_about : SpN := fun ds Ψ => ∃ T, ∃ B C : Nat, ds = [tD T] ∧ okM B C T ∧ B ≤ 1000 ∧ C ≤ 1000 ∧ T.length ≤ 1000 ∧ Ψ (tD (leastT (invT T))) []
def Sp__law_behind : SpN := fun ds Ψ => ∃ T R, ∃ B C B' C' : Nat, ds = [tD T, tD R] ∧ okM B C T ∧ okT B' C' R ∧ B ≤ 400 ∧ C ≤ 400 ∧ B' ≤ 400 ∧ C' ≤ 400 ∧ T.length ≤ 400 ∧ R.length ≤ 400 ∧ Ψ (tD (leastT (behindT T R))) []
theorem items_tW (T : Tb) : ((kvW (tW T)).map fun kv => D.tup [keyV kv.1, kv.2]) = T.map prD := by
  unfold kvW tW
  rw [List.map_map, List.map_map]
  rfl
theorem flat_snoc (R T : Tb) (p : List Nat × List Nat) : behindT (T ++ [p]) R = behindT T R ++ oneBehind R p := by
  unfold behindT
  rw [List.flatMap_append]
  simp
theorem ledT_cases {B C : Nat} {R : Tb} (h : okT B C R) (w : List Nat) : (∃ x, ledT R w = some x ∧ (∀ y, act R w y → y = x) ∧ act R w x) ∨ (ledT R w = none ∧ ¬ ∃ x, act R w x) := by
  cases e : ledT R w with
  | some x => exact .inl ⟨x, rfl, fun y hy => act_uniq h hy (ledT_act e), ledT_act e⟩
  | none => exact .inr ⟨rfl, ledT_no e⟩
theorem behind_take {B C B' C' : Nat} {T R : Tb} (h : okM B C T) (h' : okT B' C' R) (n : Nat) : (behindT (T.take n) R).length ≤ T.length + R.length := by
  have e : behindT T R = behindT (T.take n) R ++ behindT (T.drop n) R := by
    unfold behindT
    rw [← List.flatMap_append, List.take_append_drop]
  have := behind_len h h'
  rw [e, List.length_append] at this
  omega
def belowF (R : Tb) (p : List Nat × List Nat) (k : List Nat) : List Nat × List Nat := (p.1 ++ k.drop p.2.length, (lookT R k).getD [])
theorem below_keys {B C : Nat} {R : Tb} (h : okT B C R) (p : List Nat × List Nat) : ((keysT R).filter fun k => p.2.isPrefixOf k).map (belowF R p) = belowT R p := by
  unfold belowT keysT
  rw [List.filter_map, List.map_map]
  refine List.map_congr_left fun q hq => ?_
  have hq' := (List.mem_filter.mp hq).1
  show belowF R p q.1 = _
  unfold belowF
  rw [lookT_of h.nodup (show (q.1, q.2) ∈ R from hq')]
  rfl
theorem same_prs {T : Tb} (h : ∀ p ∈ T, isW p.1 ∧ isW p.2) (hl : T.length ≤ 1000000) : sameOk 6 (.lst (T.map prD)) = true := by
  show (decide ((T.map prD).length ≤ 16777216) && (T.map prD).all (sameOk 5)) = true
  rw [Bool.and_eq_true, decide_eq_true_eq, List.length_map]
  refine ⟨by omega, List.all_eq_true.mpr fun d hd => ?_⟩
  obtain ⟨p, hp, rfl⟩ := List.mem_map.mp hd
  have hw := h p hp
  have a : sameOk 4 (rD p.1) = true := same_tx hw.1.cp
  have b : sameOk 4 (rD p.2) = true := same_tx hw.2.cp
  show (decide ([rD p.1, rD p.2].length ≤ 16777216) && [rD p.1, rD p.2].all (sameOk 4)) = true
  simp [a, b]
theorem oneBehind_some {R : Tb} {p : List Nat × List Nat} {x : List Nat} (h : ledT R p.2 = some x) : oneBehind R p = [(p.1, x)] := by unfold oneBehind; rw [h]
theorem oneBehind_none {R : Tb} {p : List Nat × List Nat} (h : ledT R p.2 = none) : oneBehind R p = belowT R p := by unfold oneBehind; rw [h]
def Sp_Moving___len__ (C : Addr) : SpN := fun ds Ψ => ∃ T, ds = [mvD C T] ∧ Ψ (.int T.length) []
theorem okT.weak {B C B' C' : Nat} {T : Tb} (h : okT B C T) (hb : B ≤ B') (hc : C ≤ C') : okT B' C' T := ⟨(cut_bound (fun r hr => (h.key r hr).2) hb).mp h.cut, fun r hr => ⟨(h.key r hr).1, Nat.le_trans (h.key r hr).2 hb⟩, fun p hp => ⟨(h.val p hp).1, Nat.le_trans (h.val p hp).2 hc⟩⟩
theorem sort_sort {B C : Nat} {T : Tb} (h : okT B C T) : sortT (sortT T) = sortT T := sortT_eq (sortT_ok h).nodup h.nodup fun p => sortT_mem h.nodup
theorem least_sorted {B C : Nat} {T : Tb} (h : okT B C T) : sortT (leastT T) = leastT T := sort_sort (foldT_ok _ h)
theorem red_sort {B C : Nat} {T : Tb} (h : okT B C T) (r : red T) : red (sortT T) := fun p => by
  cases hj : joinU (sortT T) p with
  | none => rfl
  | some u =>
    have m := (joinU_mem (sortT_ok h)).mp hj
    have := (joinU_mem h).mpr ⟨(sortT_mem h.nodup).mp m.1, (sortT_mem h.nodup).mp m.2⟩
    rw [r p] at this
    cases this
theorem least_red {B C : Nat} {T : Tb} (h : okT B C T) : red (leastT T) := red_sort (foldT_ok _ h) (fold_red h)
theorem least_self {B C : Nat} {T : Tb} (h : okT B C T) (r : red T) (s : sortT T = T) : leastT T = T := by
  have := least_of h h r fun w _ _ x => Iff.rfl
  rw [← this, s]
theorem least_least {B C : Nat} {T : Tb} (h : okT B C T) : leastT (leastT T) = leastT T := least_self (least_ok h) (least_red h) (least_sorted h)
structure gdM (B C n : Nat) (T : Tb) : Prop where
  ok : okM B C T
  srt : sortT T = T
  red : red T
  len : T.length ≤ n
theorem gdM.least {B C n : Nat} {T : Tb} (h : okM B C T) (hl : T.length ≤ n) : gdM B C n (leastT T) := ⟨leastM_ok h, least_sorted h.one, least_red h.one, Nat.le_trans (least_len h.one) hl⟩
theorem gdM.self {B C n : Nat} {T : Tb} (h : gdM B C n T) : leastT T = T := least_self h.ok.one h.red h.srt
theorem behind_two : behindT T_two T_two = [([76], [76]), ([82], [82])] := by decide
theorem red_one : red T_one := fun p => by
  cases hj : joinU T_one p with
  | none => rfl
  | some u =>
    have := lookT_mem (joinU_some.mp hj).1
    have := List.mem_singleton.mp this
    simp at this
theorem two_two : (leastT (behindT T_two T_two)).length = 1 := by
  have h := behind_ok ok_two.1 ok_two.1
  have h1 : okT 24 24 T_one := ok_one.1.weak (by decide) (by decide)
  have := least_of h h1 red_one (fun w hw hl x => ?_)
  · rw [← this, sortT_len]
    rfl
  · rw [behind_two]
    constructor
    · rintro ⟨q, hq, _, rfl⟩
      have e : q = ([], []) := List.mem_singleton.mp hq
      subst e
      cases w with
      | nil => simp at hl
      | cons c w =>
        have hc : c = 76 ∨ c = 82 := hw c (by simp)
        rcases hc with rfl | rfl
        · exact ⟨([76], [76]), by simp, ⟨w, rfl⟩, rfl⟩
        · exact ⟨([82], [82]), by simp, ⟨w, rfl⟩, rfl⟩
    · rintro ⟨q, hq, ⟨t, rfl⟩, rfl⟩
      refine ⟨([], []), by simp [T_one], List.nil_prefix, ?_⟩
      rcases List.mem_cons.mp hq with e | hq
      · subst e; rfl
      · have e := List.mem_singleton.mp hq
        subst e; rfl
end Fw

/-! Fp15: promises of defs that may raise; of told defs. -/
namespace Fw
open PySem L2
def SpL__law_bag : SpN := fun ds Ψ => ∃ d, ds = [d] ∧ ScrD d ∧ ∀ d', isBag 0 d' → Ψ d' []
/-- an exception of the class C with its word alone -/
def xW (C : Addr) (w : Str) : Exc := ⟨C, [("word", .str w)]⟩
def SpX_need_room (C : Addr) : SpD := fun ds Ψ Ξ => ∃ w, ds = [.str (tx w)] ∧ w.length ≤ 100000 ∧ (if roomB w = true ∧ w.length ≤ 12 then Ψ .non [] else Ξ (xW C "BadRoom") [])
/-- what `except (F, S) as e: return ("no", e.word)` wants of an exception -/
def Td__law_tried (K : PySem.W.Frag) (CF CS : Addr) (y : Exc) (Ψ : D → Prop) : Prop := ∃ d, PySem.W.exmAny K (.ref y.C) [.ref CF, .ref CS] = some true ∧ XfC K y.C ∧ PySem.W.findIn K (.ref y.C) "word" = some none ∧ y.fs.lookup ("word" : Str) = some d ∧ Ψ (.tup [.str "no", d])
end Fw

/-! Fp16: rooms that lie apart; cuts told and refused. -/
namespace Fw
open PySem L2

/-! ### apart -/
theorem lex_between : ∀ {x y z : List Nat}, x ≤ z → z ≤ y → x <+: y → x <+: z
  | [], _, _, _, _, _ => List.nil_prefix ..
  | a :: x, [], _, _, _, h => by cases h with | intro t e => cases e
  | a :: x, b :: y, [], h, _, _ => by
    rw [List.le_nil] at h
    cases h
  | a :: x, b :: y, c :: z, h1, h2, h3 => by
    rw [List.cons_prefix_cons] at h3
    obtain ⟨rfl, h3⟩ := h3
    rw [List.cons_le_cons_iff] at h1 h2
    have e : a = c := by
      rcases h1 with h1 | ⟨h1, _⟩
      · rcases h2 with h2 | ⟨h2, _⟩
        · omega
        · omega
      · exact h1
    subst e
    have h1' : x ≤ z := h1.elim (fun q => absurd q (Nat.lt_irrefl _)) (·.2)
    have h2' : z ≤ y := h2.elim (fun q => absurd q (Nat.lt_irrefl _)) (·.2)
    rw [List.cons_prefix_cons]
    exact ⟨rfl, lex_between h1' h2' h3⟩
theorem srtW_sorted (l : List (List Nat)) : (srtW l).Pairwise fun a b => a ≤ b := by
  have h := List.pairwise_mergeSort (le := fun a b : List Nat => decide (a ≤ b)) (fun a b c h1 h2 => by
    rw [decide_eq_true_eq] at *
    exact List.le_trans h1 h2) (fun a b => by
    rw [Bool.or_eq_true, decide_eq_true_eq, decide_eq_true_eq]
    exact List.le_total a b) l
  exact h.imp fun h => by simpa using h
theorem chain_apart : ∀ {l : List (List Nat)}, l.Pairwise (fun a b => a ≤ b) → (∀ p ∈ l.zip l.tail, ¬ p.1 <+: p.2) → l.Pairwise fun a b => ¬ a <+: b
  | [], _, _ => .nil
  | [x], _, _ => List.pairwise_singleton ..
  | x :: y :: l, h, hz => by
    have ih := chain_apart (l := y :: l) (List.pairwise_cons.mp h).2 (fun p hp => hz p (by
      show p ∈ (x, y) :: (y :: l).zip l
      exact List.mem_cons_of_mem _ hp))
    refine List.pairwise_cons.mpr ⟨fun z hz' hp => ?_, ih⟩
    have hxy : ¬ x <+: y := hz (x, y) (List.mem_cons_self ..)
    have h1 := (List.pairwise_cons.mp h).1 y (List.mem_cons_self ..)
    rcases List.mem_cons.mp hz' with rfl | hm
    · exact hxy hp
    · exact hxy (lex_between h1 ((List.pairwise_cons.mp (List.pairwise_cons.mp h).2).1 z hm) hp)
theorem apart_pair {rs : List (List Nat)} (h : apartB rs = true) : rs.Pairwise fun a b => ¬ a <+: b ∧ ¬ b <+: a := by
  unfold apartB at h
  rw [Bool.not_eq_true', List.any_eq_false] at h
  have hs := srtW_sorted rs
  have hc := chain_apart hs fun p hp q => h p hp (by rw [List.isPrefixOf_iff_prefix]; exact q)
  have hb : (srtW rs).Pairwise fun a b => ¬ a <+: b ∧ ¬ b <+: a := by
    refine (hs.and hc).imp fun {a b} ⟨h1, h2⟩ => ⟨h2, fun h3 => h2 ?_⟩
    have h4 := List.le_antisymm h1 h3.le
    rw [h4]
    exact List.prefix_refl _
  exact hb.perm (srtW_perm rs) fun ⟨a, b⟩ => ⟨b, a⟩
theorem apart_dup {rs : List (List Nat)} {r : List Nat} (h : r ∈ rs) : apartB (rs ++ [r]) = false := by
  cases e : apartB (rs ++ [r]) with
  | false => rfl
  | true =>
    have := (List.pairwise_append.mp (apart_pair e)).2.2 r h r (List.mem_singleton.mpr rfl)
    exact absurd (List.prefix_refl _) this.1
theorem apart_half {rs : List (List Nat)} {r : List Nat} {s : Nat} (h : r ∈ rs) : apartB ((r ++ [s]) :: rs) = false := by
  cases e : apartB ((r ++ [s]) :: rs) with
  | false => rfl
  | true =>
    have := (List.pairwise_cons.mp (apart_pair e)).1 r h
    exact absurd (List.prefix_append ..) this.2

/-! ### the rooms round: by the members alone -/
theorem innerW_nil : innerW [] = [] := by
  unfold innerW preW
  exact List.eq_nil_of_length_eq_zero (by rw [srtW_length]; rfl)
theorem roundW_nil : roundW [] = [[]] := by
  unfold roundW
  rw [innerW_nil, if_pos rfl]
/-- the halves of the inner words that are none themselves -/
def halvesW (I : List (List Nat)) : List (List Nat) := (I.map (· ++ [76]) ++ I.map (· ++ [82])).filter fun x => !decide (x ∈ I)
theorem halves_due {rs : List (List Nat)} (h : innerW rs ≠ []) : srtW (halvesW (innerW rs)) = roundW rs := by
  unfold roundW
  rw [if_neg h]
  have hn := innerW_nodup rs
  have inj : ∀ s : Nat, Function.Injective fun w : List Nat => w ++ [s] := fun s a b e => List.append_cancel_right e
  refine srtW_eq ?_ (leaves_nodup _ _ hn) fun w => ?_
  · refine (List.nodup_append.mpr ⟨?_, ?_, fun a ha b hb e => ?_⟩).filter _
    · exact List.pairwise_map.mpr (hn.imp fun h e => h (inj 76 e))
    · exact List.pairwise_map.mpr (hn.imp fun h e => h (inj 82 e))
    · obtain ⟨x, _, rfl⟩ := List.mem_map.mp ha
      obtain ⟨y, _, rfl⟩ := List.mem_map.mp hb
      have := List.append_inj_right' e rfl
      simp at this
  · unfold halvesW
    rw [List.mem_filter, List.mem_append, List.mem_map, List.mem_map, List.mem_flatMap]
    simp only [Bool.not_eq_true', decide_eq_false_iff_not, leafF_mem]
    constructor
    · rintro ⟨⟨x, hx, rfl⟩ | ⟨x, hx, rfl⟩, hn⟩
      · exact ⟨x, hx, .inl rfl, hn⟩
      · exact ⟨x, hx, .inr rfl, hn⟩
    · rintro ⟨x, hx, rfl | rfl, hn⟩
      · exact ⟨.inl ⟨x, hx, rfl⟩, hn⟩
      · exact ⟨.inr ⟨x, hx, rfl⟩, hn⟩

theorem strs_rD (l : List (List Nat)) : D.strs (l.map rD) = some (l.map tx) := by
  rw [show l.map rD = (l.map tx).map D.str by rw [List.map_map]; rfl]
  exact D.strs_map _
theorem srtS_rD (l : List (List Nat)) : (srtS (l.map tx)).map D.str = (srtW l).map rD := by
  rw [srtS_tx, List.map_map]
  rfl
theorem halve_deep {rs : List (List Nat)} {r : List Nat} {i j : Nat} (hr : rs[j]? = some r) (h : ∀ r ∈ rs, r.length < 1 + i) : ∀ x ∈ halveAt rs r j, x.length < 1 + (i + 1) := fun x hx => by
  unfold halveAt at hx
  have h0 := h r (List.mem_of_getElem? hr)
  rcases List.mem_append.mp hx with hx | hx
  · rcases List.mem_append.mp hx with hx | hx
    · have := h x (List.mem_of_mem_take hx); omega
    · simp only [List.mem_cons, List.not_mem_nil, or_false] at hx
      rcases hx with rfl | rfl <;> (simp; omega)
  · have := h x (List.mem_of_mem_drop hx); omega
/-- a room that may be handed in -/
def rok (r : List Nat) : Bool := roomB r && decide (r.length ≤ 12)
theorem rok_iff {r : List Nat} : rok r = true ↔ isW r ∧ r.length ≤ 12 := by
  unfold rok
  rw [Bool.and_eq_true, roomB_W, decide_eq_true_eq]
/-- lists of rooms of which one is none -/
def badL (l : List (List Nat)) : Prop := l.length ≤ 20 ∧ (∀ r ∈ l, r.length ≤ 13) ∧ l.all rok = false
theorem badL_of {l l' : List (List Nat)} {r : List Nat} (h : l.length + l'.length ≤ 19) (hl : ∀ r ∈ l, r.length ≤ 13) (hl' : ∀ r ∈ l', r.length ≤ 13) (hr : rok r = false) (hr2 : r.length ≤ 13) : badL (l ++ [r] ++ l') := by
  refine ⟨by simp; omega, fun x hx => ?_, ?_⟩
  · simp only [List.mem_append, List.mem_singleton] at hx
    rcases hx with (hx | rfl) | hx
    · exact hl x hx
    · exact hr2
    · exact hl' x hx
  · rw [List.all_append, List.all_append]
    simp [hr]
/-! ### promises -/
def SpT_are_apart : SpN := fun ds Ψ => ∃ d rs, ds = [d] ∧ seqD d (rs.map rD) ∧ rs.length ≤ 1000 ∧ (∀ r ∈ rs, isW r ∧ r.length ≤ 1000) ∧ Ψ (.bl (apartB rs)) []
def xNC (C : Addr) (i : Int) : Exc := ⟨C, [("side", .int i), ("word", .str "NoCut")]⟩
def SpX_cut_with (CB CN : Addr) : SpD := fun ds Ψ Ξ => ∃ d rs, ds = [d] ∧ seqD d (rs.map rD) ∧ rs.length ≤ 100 ∧ (∀ r ∈ rs, r.length ≤ 1000) ∧
  (if rs.all rok = true then (if apartB rs = true then Ψ (.lst ((roundW rs).map rD)) [] else Ξ (xNC CN 0) []) else Ξ (xW CB "BadRoom") [])
def SpD__law_cut : SpN := fun ds Ψ => ∃ n d, ∃ size : Nat, ds = [d, .int size] ∧ isBag n d ∧ n < 2 ^ 58 ∧ 1 ≤ size ∧ size ≤ 64 ∧ ∀ rs d', cutP rs → rs.length = size → (∀ r ∈ rs, r.length < size) → isBag (n + 200) d' → Ψ (.lst (rs.map rD)) [d']
def Sp__law_inner : SpN := fun ds Ψ => ∃ rs, ds = [.lst (rs.map rD)] ∧ rs.length ≤ 100 ∧ (∀ r ∈ rs, isW r ∧ r.length ≤ 12) ∧ Ψ (.lst ((innerW rs).map rD)) []
/-- `except N as e: return (e.word, e.side)`, `except F as e: return (e.word, None)` -/
def Td__law_word_of (K : PySem.W.Frag) (CN CF : Addr) (y : Exc) (Ψ : D → Prop) : Prop := ∃ w, XfC K y.C ∧ PySem.W.findIn K (.ref y.C) "word" = some none ∧ y.fs.lookup ("word" : Str) = some w ∧
  ((PySem.W.exmAny K (.ref y.C) [.ref CN] = some true ∧ PySem.W.findIn K (.ref y.C) "side" = some none ∧ ∃ s, y.fs.lookup ("side" : Str) = some s ∧ Ψ (.tup [w, s])) ∨
    (PySem.W.exmAny K (.ref y.C) [.ref CN] = some false ∧ PySem.W.exmAny K (.ref y.C) [.ref CF] = some true ∧ Ψ (.tup [w, .non])))
end Fw

/-! Fp17: points that are good. -/
namespace Fw
open PySem L2
def wdB (w : List Nat) : Bool := decide (1 ≤ w.length) && decide (w.length ≤ 12) && roomB w
def maB (n : Int) : Bool := decide (1 ≤ n) && decide (n < 10 ^ 30)
def gpB (bl : Bl) (ring : List Nat) : Bool := decide (bl.length ≤ 8) && wdB ring && bl.all fun b => wdB b.1 && maB b.2
def Sp_is_word : SpN := fun ds Ψ => ∃ w, ds = [.str (tx w)] ∧ w.length ≤ 100000 ∧ Ψ (.bl (wdB w)) []
def gpS (bl : Bl) (ring : List Nat) : Prop := bl.length ≤ 1000 ∧ ring.length ≤ 100000 ∧ ∀ b ∈ bl, b.1.length ≤ 100000
def SpX_need_point (C : Addr) : SpD := fun ds Ψ Ξ => ∃ l bl ring, ds = [ptD l bl ring] ∧ gpS bl ring ∧ (if gpB bl ring = true then Ψ .non [] else Ξ (xW C "BadPoint") [])
end Fw
namespace Fw
open PySem L2
theorem dLen_bD {l : Bool} {bl : Bl} {Ψ : D → Prop} : dLen (bD l bl) Ψ = Ψ (.int bl.length) := by
  have : (blD bl).length = bl.length := List.length_map ..
  unfold bD
  rw [← this]
  cases l <;> rfl
end Fw
namespace Fw
open PySem L2
theorem deq_blS (bl : Bl) : deq (.lst (blD bl)) (.lst (blD bl)) = true := by
  induction bl with
  | nil => simp [deq, blD, D.py, D.pyL, PyData.eqv, PyData.eqvAll]
  | cons b bl ih =>
    simp only [deq, blD, D.py, D.pyL, PyData.eqv, PyData.eqvAll, List.map_cons] at ih ⊢
    rw [ih]
    simp
theorem dNe_blS {bl : Bl} {Ψ : D → Prop} (h : ∀ b ∈ bl, cpOk b.1 = true) : dNe (.lst (blD bl)) (.lst (blD bl)) Ψ = Ψ (.bl false) := by
  have c : D.cm (.lst (blD bl)) = true := cm_of (n := 2) (by decide) (cmN_lst fun x hx => by
    unfold blD at hx
    rw [List.mem_map] at hx
    obtain ⟨b, hb, rfl⟩ := hx
    refine cmN_tup fun x hx => ?_
    simp only [List.mem_cons, List.not_mem_nil, or_false] at hx
    rcases hx with rfl | rfl
    · exact cmN_tx _ (h b hb)
    · exact cmN_int _ _)
  unfold dNe
  rw [c, deq_blS]
  simp
/-- as drawn: small texts -/
def smT (w : List Nat) : Prop := w.length ≤ 13 ∧ cpOk w = true
theorem wdB_eq {w : List Nat} : wdB w = (decide (0 < (w.length : Int)) && decide ((w.length : Int) < 13) && roomB w) := by
  unfold wdB
  congr 2
  · exact decide_eq_decide.mpr (by omega)
  · exact decide_eq_decide.mpr (by omega)
theorem maB_eq {n : Int} : maB n = (decide (0 < n) && decide (n < 10 ^ 30)) := by
  unfold maB
  congr 1
theorem smT.of {w : List Nat} (h : isW w) (hl : w.length ≤ 13) : smT w := ⟨hl, h.cp⟩
end Fw
namespace Fw
open PySem L2
theorem gpB_eq {bl : Bl} {ring : List Nat} : gpB bl ring = ((decide (bl.length < 9) && (ring :: bl.map Prod.fst).all wdB) && bl.all fun b => maB b.2) := by
  have e : ∀ bl : Bl, (bl.all fun b => wdB b.1 && maB b.2) = ((bl.map Prod.fst).all wdB && bl.all fun b => maB b.2) := fun bl => by
    induction bl with
    | nil => rfl
    | cons b bl ih =>
      rw [List.all_cons, ih, List.map_cons, List.all_cons, List.all_cons]
      cases wdB b.1 <;> cases maB b.2 <;> simp
  unfold gpB
  rw [e, List.all_cons, show decide (bl.length ≤ 8) = decide (bl.length < 9) from decide_eq_decide.mpr (by omega)]
  simp only [Bool.and_assoc]
end Fw
namespace K06
set_option exponentiation.threshold 5000
open PySem L2 Fw
def top (i : Nat) : Stmt := PySem.Challenge.pw_forkwander_k06_points_that_are_good.main.body.getD i (.Pass ⟨0, 0, 0, 0⟩)
structure DefAt (K : PySem.W.Frag) (mg : Str → Option Value) (x : Str) (st : Stmt) (ps : List Str) (f : Addr) (fd : FuncData) : Prop where
  F : Fun K x x st f fd
  m : mg x = some (.ref f)
  b : Binds K fd ps []
structure MethAt (K : PySem.W.Frag) (C : Addr) (x qual : Str) (st : Stmt) (ps : List Str) (f : Addr) (fd : FuncData) : Prop where
  F : Fun K x qual st f fd
  m : Meth K C x f
  b : Binds K fd ps []
structure InitAt (K : PySem.W.Frag) (qual : Str) (st : Stmt) (ps : List Str) (f : Addr) (fd : FuncData) : Prop where
  F : Fun K "__init__" qual st f fd
  b : Binds K fd ps []
abbrev s__law_bag : Stmt := top 14
abbrev N__law_bag : List Str := ["script", "salt", "cell"]
theorem sc__law_bag : FnScope N__law_bag ["script"] (defScope s__law_bag) := ⟨rfl, rfl, rfl, by decide +kernel, rfl, by decide +kernel, by decide +kernel⟩
abbrev s__law_pull : Stmt := top 15
abbrev N__law_pull : List Str := ["bag", "sides", "cell", "got", "seed"]
theorem sc__law_pull : FnScope N__law_pull ["bag", "sides"] (defScope s__law_pull) := ⟨rfl, rfl, rfl, by decide +kernel, rfl, by decide +kernel, by decide +kernel⟩
abbrev s__law_of : Stmt := top 16
abbrev N__law_of : List Str := ["bag", "some"]
theorem sc__law_of : FnScope N__law_of ["bag", "some"] (defScope s__law_of) := ⟨rfl, rfl, rfl, by decide +kernel, rfl, by decide +kernel, by decide +kernel⟩
abbrev s__law_word : Stmt := top 17
abbrev N__law_word : List Str := ["bag", "low", "most", "k"]
theorem sc__law_word : FnScope N__law_word ["bag", "low", "most"] (defScope s__law_word) := ⟨rfl, rfl, rfl, by decide +kernel, rfl, by decide +kernel, by decide +kernel⟩
abbrev s__law_point : Stmt := top 18
abbrev N__law_point : List Str := ["bag", "greatest", "blocks", "k", "often"]
theorem sc__law_point : FnScope N__law_point ["bag", "greatest"] (defScope s__law_point) := ⟨rfl, rfl, rfl, by decide +kernel, rfl, by decide +kernel, by decide +kernel⟩
abbrev s__law_same : Stmt := top 20
abbrev N__law_same : List Str := ["found", "due", "k"]
theorem sc__law_same : FnScope N__law_same ["found", "due"] (defScope s__law_same) := ⟨rfl, rfl, rfl, by decide +kernel, rfl, by decide +kernel, by decide +kernel⟩
abbrev s__law_tried : Stmt := top 19
abbrev N__law_tried : List Str := ["ask", "e"]
theorem sc__law_tried : FnScope N__law_tried ["ask"] (defScope s__law_tried) := ⟨rfl, rfl, rfl, by decide +kernel, rfl, by decide +kernel, by decide +kernel⟩
abbrev s_BadPoint___init__ : Stmt := inClass (top 3) 0
abbrev N_BadPoint___init__ : List Str := ["self"]
theorem sc_BadPoint___init__ : FnScope N_BadPoint___init__ ["self"] (defScope s_BadPoint___init__) := ⟨rfl, rfl, rfl, by decide +kernel, rfl, by decide +kernel, by decide +kernel⟩
abbrev s_is_room : Stmt := top 7
abbrev N_is_room : List Str := ["text", "sign"]
theorem sc_is_room : FnScope N_is_room ["text"] (defScope s_is_room) := ⟨rfl, rfl, rfl, by decide +kernel, rfl, by decide +kernel, by decide +kernel⟩
abbrev s_is_word : Stmt := top 11
abbrev N_is_word : List Str := ["text"]
theorem sc_is_word : FnScope N_is_word ["text"] (defScope s_is_word) := ⟨rfl, rfl, rfl, by decide +kernel, rfl, by decide +kernel, by decide +kernel⟩
abbrev s_need_point : Stmt := top 12
abbrev N_need_point : List Str := ["point", "blocks", "ring", "word", "many"]
theorem sc_need_point : FnScope N_need_point ["point"] (defScope s_need_point) := ⟨rfl, rfl, rfl, by decide +kernel, rfl, by decide +kernel, by decide +kernel⟩
abbrev s_law : Stmt := top 21
abbrev N_law : List Str := ["script", "bag", "turn", "blocks", "ring", "odd", "often", "kind", "at", "words", "good", "handed", "found", "word", "times_of", "sign", "<tab>"]
theorem sc_law : FnScope N_law ["script"] (defScope s_law) := ⟨rfl, rfl, rfl, by decide +kernel, rfl, by decide +kernel, by decide +kernel⟩
structure Tx (K : PySem.W.Frag) (mg : Str → Option Value) : Prop where
  b_all : mg "all" = none
  b_bool : mg "bool" = none
  b_int : mg "int" = none
  b_isinstance : mg "isinstance" = none
  b_len : mg "len" = none
  b_list : mg "list" = none
  b_range : mg "range" = none
  b_str : mg "str" = none
  b_tuple : mg "tuple" = none
  c_BLOCKS : ∃ t, mg "BLOCKS" = some (.int 8 t)
  c_DEEP : ∃ t, mg "DEEP" = some (.int 12 t)
  c_FAR : ∃ t, mg "FAR" = some (.int 1000000000000000000000000000000 t)
  c_SIGNS : ∃ t, mg "SIGNS" = some (.str "LR" t)
structure Xs (K : PySem.W.Frag) (mg : Str → Option Value) (C_BadPoint f_BadPoint___init__ C_ForkError C_ShelfError : Addr) : Prop where
  BadPoint : XR K mg "BadPoint" C_BadPoint f_BadPoint___init__
  BadPoint_word : PySem.W.findIn K (.ref C_BadPoint) "word" = some none
  h_ForkError : XH K mg "ForkError" C_ForkError
  s_BadPoint_ForkError : PySem.W.subIn K (.ref C_BadPoint) (.ref C_ForkError) = some true
  h_ShelfError : XH K mg "ShelfError" C_ShelfError
  s_BadPoint_ShelfError : PySem.W.subIn K (.ref C_BadPoint) (.ref C_ShelfError) = some false
section
variable {P : Program} {w : World} {K : PySem.W.Frag} {mg : Str → Option Value} {base : Heap}
theorem ok__law_bag {f : Addr} {fd : FuncData} (F : Fun K "_law_bag" "_law_bag" s__law_bag f fd) (T : Tx K mg) : FnOk P w K mg base CX0 1 f fd ["script"] (spOf K [.z] (.o shL) (spN SpL__law_bag)) := by
  have sc := sc__law_bag
  refine okD (kl := [.z, .z]) F sc rfl rfl fun cdv A outer s H E hr => ?_
  have hu := hr.units
  refine ⟨_, _, (ss (sSet (i := 1) sc.nd x_int)
    (ss (sFor PassesOwn.never rfl (iS (xSl (xv 0) oNone (oSome x_int))) (gN (i := 2) sc.nd) (s1 (sSet (i := 1) sc.nd (xMod (xAdd (xAdd (xMul (xv 1) x_int) (xMod (xv 2) x_int)) x_int) x_int))))
    (s1 (sRet (xLst (aCons (PX.toZ (cYN cn_list call_list_of T.b_list (xSl (xv 0) oNone (oSome x_int)))) (aCons x_int (aCons x_int (aCons (xv 1) (aCons x_int aNil)))))))))), ?_⟩
  rintro ds Ψ hl ⟨d0, rfl, ⟨ns, hd⟩, hp⟩
  refine .inr ?_
  rcases hd with rfl | rfl
  · simp! only [cut_map, ← List.map_take]
    refine wLoop_T _ (fun r ρ => ∃ s x, ρ = [some (.scr ns), some (.int s), x] ∧ 0 ≤ s ∧ s < 2147483648) _ _ ⟨9148, none, rfl, by omega, by omega⟩ ?_ ?_
    · rintro a r ρ ⟨s, x, rfl, h1, h2⟩ k hk
      simp! only []
      exact ⟨cmul64 (by omega) (by omega), by omega, by omega, hk _ ⟨_, _, rfl, by omega, by omega⟩⟩
    · rintro ρ ⟨s, x, rfl, h1, h2⟩
      simp! only [cut_map, ← List.map_take]
      exact hp _ ⟨_, _, _, _, _, rfl, by omega, by omega, h1, h2, by omega, by omega⟩
  · simp! only [cut_map, ← List.map_take]
    refine wLoop_T _ (fun r ρ => ∃ s x, ρ = [some (.lst (ns.map D.int)), some (.int s), x] ∧ 0 ≤ s ∧ s < 2147483648) _ _ ⟨9148, none, rfl, by omega, by omega⟩ ?_ ?_
    · rintro a r ρ ⟨s, x, rfl, h1, h2⟩ k hk
      simp! only []
      exact ⟨cmul64 (by omega) (by omega), by omega, by omega, hk _ ⟨_, _, rfl, by omega, by omega⟩⟩
    · rintro ρ ⟨s, x, rfl, h1, h2⟩
      simp! only [cut_map, ← List.map_take]
      exact hp _ ⟨_, _, _, _, _, rfl, by omega, by omega, h1, h2, by omega, by omega⟩


theorem ok__law_pull {f : Addr} {fd : FuncData} (F : Fun K "_law_pull" "_law_pull" s__law_pull f fd) (T : Tx K mg) : FnOk P w K mg base CX0 1 f fd ["bag", "sides"] (spOf K [.io shL, .z] .z (spN Sp__law_pull)) := by
  have sc := sc__law_pull
  refine okD (kl := [.z, .z, .z]) F sc rfl rfl fun cdv A outer s H E hr => ?_
  have hu := hr.units
  refine ⟨_, _, (ss (sIf (PBW.toB (bAnd (bC od_eq (op_eqD hu) (xIxP hu (xvt 0 (k := .io shL) flat_L) x_int) x_int (nomark _)) (bOne (bC od_ord or_lt (xIxP hu (xvt 0 (k := .io shL) flat_L) x_int) (cB cd_len cr_len T.b_len (xIxP hu (xvt 0 (k := .io shL) flat_L) x_int)) (nomark _))))) (ss (sSet (i := 2) sc.nd (xIx hu (xIxP hu (xvt 0 (k := .io shL) flat_L) x_int) (xIxP hu (xvt 0 (k := .io shL) flat_L) x_int)))
    (ss (sPut (i := 0) (.inr rfl) (xAdd (xIxP hu (xvt 0 (k := .io shL) flat_L) x_int) x_int) x_int)
    (s1 (sIf (bC od_ord or_ge (xv 2) (xPow x_int x_int) (nomark _)) (s1 (sPut (i := 0) (.inr rfl) (xv 2) x_int)) (s1 (sPut (i := 0) (.inr rfl) (xMod (xAdd (xAdd (xMul (xIxP hu (xvt 0 (k := .io shL) flat_L) x_int) x_int) (xMod (xv 2) x_int)) x_int) x_int) x_int)))))) ssNil)
    (ss (sIf (bC od_ord or_gt (xIxP hu (xvt 0 (k := .io shL) flat_L) x_int) x_int (nomark _)) (ss (sSet (i := 3) sc.nd (xMod (xIxP hu (xvt 0 (k := .io shL) flat_L) x_int) (xv 1)))
    (ss (sPut (i := 0) (.inr rfl) (xFdiv (xIxP hu (xvt 0 (k := .io shL) flat_L) x_int) (xv 1)) x_int)
    (s1 (sRet (xv 3))))) ssNil)
    (ss (sPut (i := 0) (.inr rfl) (xAdd (xIxP hu (xvt 0 (k := .io shL) flat_L) x_int) x_int) x_int)
    (ss (sSet (i := 4) sc.nd (xMod (xAdd (xIxP hu (xvt 0 (k := .io shL) flat_L) x_int) (xMul (xIxP hu (xvt 0 (k := .io shL) flat_L) x_int) x_int)) x_int))
    (ss (sPut (i := 0) (.inr rfl) (xMod (xAdd (xAdd (xMul (xMod (xMul (xv 4) (xv 4)) x_int) (xAdd (xMod (xv 4) x_int) x_int)) (xMul x_int (xv 4))) x_int) x_int) x_int)
    (s1 (sRet (xMod (xAdd (xFdiv (xIxP hu (xvt 0 (k := .io shL) flat_L) x_int) x_int) (xMul (xMod (xIxP hu (xvt 0 (k := .io shL) flat_L) x_int) x_int) x_int)) (xv 1))))))))), ?_⟩
  rintro ds Ψ hl ⟨n, d, sides, rfl, ⟨cells, i, b, s, c, rfl, hi, hb, hs, hs2, hc, hc2⟩, hn, h0, h1, hp⟩
  refine .inr ?_
  refine seq_mid (fun ρ => ∃ i b s x, ρ = [some (.lst [.lst (cells.map .int), .int i, .int b, .int s, .int c]), some (.int sides), x, none, none] ∧ 0 ≤ i ∧ 0 ≤ b ∧ 0 ≤ s ∧ s < 2147483648) ?_ ?_
  · intro k hk
    simp! only []
    split
    · split
      · rename_i h1 h2
        rw [List.length_map] at h2
        refine ⟨.int (cells[i.toNat]'(by omega)), by rw [atI_pos hi, List.getElem?_map, List.getElem?_eq_getElem (by omega)]; rfl, ?_⟩
        simp! only []
        refine ⟨by unfold CPow; omega, ?_⟩
        split
        · rename_i h3
          have h4 : (10 : Int) ^ Int.toNat 18 = 1000000000000000000 := by decide
          rw [h4] at h3
          exact hk _ ⟨_, _, _, _, rfl, by omega, by omega, hs, hs2⟩
        · refine ⟨cmul64 (by omega) (by omega), by omega, by omega, ?_⟩
          exact hk _ ⟨_, _, _, _, rfl, by omega, by omega, by omega, by omega⟩
      · exact hk _ ⟨_, _, _, _, rfl, hi, hb, hs, hs2⟩
    · exact hk _ ⟨_, _, _, _, rfl, hi, hb, hs, hs2⟩
  · rintro ρ ⟨i, b, s, x, rfl, hi, hb, hs, hs2⟩
    simp! only []
    split
    · refine ⟨h0, cdivK h0 h1, ?_⟩
      exact hp _ _ (Int.emod_nonneg _ (by omega)) (Int.emod_lt_of_pos _ h0) ⟨_, _, _, _, _, rfl, hi, Int.ediv_nonneg hb (by omega), hs, hs2, hc, by omega⟩
    · refine ⟨cmul64 (by omega) (by omega), by omega, ?_⟩
      exact ⟨cmul64 (by omega) (by omega), by omega, by omega, cmul64 (by omega) (by omega), cmul64 (by omega) (by omega), by omega, cdivW (by omega) (by omega), by omega, cmul64 (by omega) (by omega), h0, hp _ _ (Int.emod_nonneg _ (by omega)) (Int.emod_lt_of_pos _ h0) ⟨_, _, _, _, _, rfl, hi, hb, by omega, by omega, by omega, by omega⟩⟩


theorem ok__law_of {f : Addr} {fd : FuncData} (F : Fun K "_law_of" "_law_of" s__law_of f fd) (T : Tx K mg) {f__law_pull : Addr} {fd__law_pull : FuncData} (D__law_pull : DefAt K mg "_law_pull" s__law_pull ["bag", "sides"] f__law_pull fd__law_pull) (G__law_pull : FnOk P w K mg base CX0 1 f__law_pull fd__law_pull ["bag", "sides"] (spOf K [.io shL, .z] .z (spN Sp__law_pull))) : FnOk P w K mg base CX0 2 f fd ["bag", "some"] (spOf K [.io shL, .t] .z (spN Sp__law_of)) := by
  have sc := sc__law_of
  refine okD (kl := []) F sc rfl rfl fun cdv A outer s H E hr => ?_
  have hu := hr.units
  refine ⟨_, _, (s1 (sRet (xIx hu (xvs 1) (xCall G__law_pull (hr.mono (by first | exact Nat.le_refl _ | decide | omega)) D__law_pull.m D__law_pull.F.kp D__law_pull.b pass0 (kS 0 (kV (cB cd_len cr_len T.b_len (xvs 1)) kNil)) (.cons (.io rfl (by first | decide | simp [muts])) (.cons (.z) .nil)) (by first | decide | simp [muts]) (hom1 (.inr rfl)) (fun z => nomatch z))))), ?_⟩
  rintro ds Ψ hl ⟨n, d, xs, rfl, hd, hn, h0, h1, hp⟩
  refine .inr ?_
  obtain ⟨ys, rfl⟩ := hd.lst
  simp! only [Sp__law_pull]
  refine ⟨n, _, _, rfl, hd, hn, by omega, by omega, fun r d' hr0 hr1 hd' => ?_⟩
  simp! only []
  refine ⟨xs[r.toNat]'(by omega), by rw [atI_pos hr0, List.getElem?_eq_getElem], hp _ _ (List.getElem_mem _) hd'⟩


theorem ok__law_word {f : Addr} {fd : FuncData} (F : Fun K "_law_word" "_law_word" s__law_word f fd) (T : Tx K mg) {f__law_of : Addr} {fd__law_of : FuncData} (D__law_of : DefAt K mg "_law_of" s__law_of ["bag", "some"] f__law_of fd__law_of) (G__law_of : FnOk P w K mg base CX0 2 f__law_of fd__law_of ["bag", "some"] (spOf K [.io shL, .t] .z (spN Sp__law_of))) {f__law_pull : Addr} {fd__law_pull : FuncData} (D__law_pull : DefAt K mg "_law_pull" s__law_pull ["bag", "sides"] f__law_pull fd__law_pull) (G__law_pull : FnOk P w K mg base CX0 1 f__law_pull fd__law_pull ["bag", "sides"] (spOf K [.io shL, .z] .z (spN Sp__law_pull))) : FnOk P w K mg base CX0 3 f fd ["bag", "low", "most"] (spOf K [.io shL, .z, .z] .z (spN Sp__law_word)) := by
  have sc := sc__law_word
  refine okD (kl := [.z]) F sc rfl rfl fun cdv A outer s H E hr => ?_
  have hu := hr.units
  refine ⟨_, _, (s1 (sRet (xJoin x_str (PX.toZ (xLc [("k", 3)] rfl sc.nd (iR1 T.b_range (aCons (xAdd (xv 1) (xCall G__law_pull (hr.mono (by first | exact Nat.le_refl _ | decide | omega)) D__law_pull.m D__law_pull.F.kp D__law_pull.b pass0 (kS 0 (kV (xAdd (xSub (xv 2) (xv 1)) x_int) kNil)) (.cons (.io rfl (by first | decide | simp [muts])) (.cons (.z) .nil)) (by first | decide | simp [muts]) (hom1 (.inr rfl)) (fun z => nomatch z))) aNil)) (blkOk_by (N := N__law_word) (sc := defScope s__law_word) (by decide +kernel)) (fun s H C cl fp => (gN (i := 3) sc.nd)) gm_name (go_name (by decide)) (fun s H C cl fp => tN) (fun s H C cl fp => (xCall G__law_of (hr.mono (by first | exact Nat.le_refl _ | decide | omega)) D__law_of.m D__law_of.F.kp D__law_of.b pass0 (kS 0 (kV (PX.toZ (xLst (aCons x_str (aCons x_str aNil)))) kNil)) (.cons (.io rfl (by first | decide | simp [muts])) (.cons (.t) .nil)) (by first | decide | simp [muts]) (hom1 (.inr rfl)) (fun z => nomatch z)))))))), ?_⟩
  rintro ds Ψ hl ⟨n, d, low, most, rfl, hd, hn, h1, h2, hp⟩
  refine .inr ?_
  simp! only [Sp__law_pull]
  refine ⟨n, d, _, rfl, hd, by omega, by omega, by omega, fun r d' hr0 hr1 hd' => ?_⟩
  try simp! only []
  refine ⟨by omega, by omega, ?_⟩
  obtain ⟨m, rfl⟩ : ∃ m : Nat, r = (m : Int) := ⟨r.toNat, by omega⟩
  refine wLcL_inv (fun i acc ρ => ∃ ws d, acc = ws.map (fun c => .str (tx [c])) ∧ ws.length = i ∧ isW ws ∧ isBag (n + 1 + i) d ∧ ρ = [some d, some (.int low), some (.int most), none]) _ [] _ ⟨[], d', rfl, rfl, isW.nil, hd', rfl⟩ ?_ ?_ ?_
  · rintro i e he acc ρ ⟨ws, d, rfl, hw1, hw2, hd, rfl⟩ k hk
    have hi := (irange_get he).1
    simp! only [Sp__law_of]
    refine ⟨n + 1 + i, _, _, rfl, hd, by omega, by simp, by simp, fun x d' hx hd' => ?_⟩
    simp! only []
    have hx' : ∃ c, (c = 76 ∨ c = 82) ∧ x = .str (tx [c]) := by
      simp only [List.mem_cons, List.not_mem_nil, or_false] at hx
      rcases hx with rfl | rfl
      · exact ⟨76, .inl rfl, congrArg D.str (ofS _)⟩
      · exact ⟨82, .inr rfl, congrArg D.str (ofS _)⟩
    obtain ⟨c, hc, rfl⟩ := hx'
    refine hk _ _ (by rw [List.length_map, PySem.sizeLine_eq]; omega) ⟨ws ++ [c], d', by simp, by simp [hw1], hw2.append (fun x hx => by simp at hx; subst hx; exact hc), hd', rfl⟩
  · rw [irange_len]; simp [PySem.sizeLine_eq]; omega
  · rintro acc ρ ⟨ws, d, rfl, hw1, hw2, hd, rfl⟩
    rw [irange_len] at hw1 hd
    rw [show Str.ofString "" = tx [] from ofS _, show (ws.map fun c => D.str (tx [c])) = (ws.map fun c => [c]).map fun w => D.str (tx w) by rw [List.map_map]; rfl]
    refine dJoin0 ?_ ?_
    · rw [flat_one]; omega
    · rw [flat_one]
      exact ⟨_, rfl, hp ws d hw2 (by omega) (by omega) (hd.mono (by omega))⟩


theorem ok__law_point {f : Addr} {fd : FuncData} (F : Fun K "_law_point" "_law_point" s__law_point f fd) (T : Tx K mg) {f__law_of : Addr} {fd__law_of : FuncData} (D__law_of : DefAt K mg "_law_of" s__law_of ["bag", "some"] f__law_of fd__law_of) (G__law_of : FnOk P w K mg base CX0 2 f__law_of fd__law_of ["bag", "some"] (spOf K [.io shL, .t] .z (spN Sp__law_of))) {f__law_pull : Addr} {fd__law_pull : FuncData} (D__law_pull : DefAt K mg "_law_pull" s__law_pull ["bag", "sides"] f__law_pull fd__law_pull) (G__law_pull : FnOk P w K mg base CX0 1 f__law_pull fd__law_pull ["bag", "sides"] (spOf K [.io shL, .z] .z (spN Sp__law_pull))) {f__law_word : Addr} {fd__law_word : FuncData} (D__law_word : DefAt K mg "_law_word" s__law_word ["bag", "low", "most"] f__law_word fd__law_word) (G__law_word : FnOk P w K mg base CX0 3 f__law_word fd__law_word ["bag", "low", "most"] (spOf K [.io shL, .z, .z] .z (spN Sp__law_word))) : FnOk P w K mg base CX0 4 f fd ["bag", "greatest"] (spOf K [.io shL, .z] .z (spN Sp__law_point)) := by
  have sc := sc__law_point
  refine okD (kl := [.ow shL, .z, .z]) F sc rfl rfl fun cdv A outer s H E hr => ?_
  have hu := hr.units
  refine ⟨_, _, (ss (sSetO (i := 2) sc.nd (xLst aNil))
    (ss (sFor PassesOwn.never rfl (iR1 T.b_range (aCons (xCall G__law_pull (hr.mono (by first | exact Nat.le_refl _ | decide | omega)) D__law_pull.m D__law_pull.F.kp D__law_pull.b pass0 (kS 0 (kV x_int kNil)) (.cons (.io rfl (by first | decide | simp [muts])) (.cons (.z) .nil)) (by first | decide | simp [muts]) (hom1 (.inr rfl)) (fun z => nomatch z)) aNil)) (gN (i := 3) sc.nd) (ss (sSet (i := 4) sc.nd (xAdd x_int (xCall G__law_of (hr.mono (by first | exact Nat.le_refl _ | decide | omega)) D__law_of.m D__law_of.F.kp D__law_of.b pass0 (kS 0 (kV (PX.toZ (xLst (aCons x_int (aCons (xCall G__law_pull (hr.mono (by first | exact Nat.le_refl _ | decide | omega)) D__law_pull.m D__law_pull.F.kp D__law_pull.b pass0 (kS 0 (kV x_int kNil)) (.cons (.io rfl (by first | decide | simp [muts])) (.cons (.z) .nil)) (by first | decide | simp [muts]) (hom1 (.inr rfl)) (fun z => nomatch z)) (aCons (xCall G__law_pull (hr.mono (by first | exact Nat.le_refl _ | decide | omega)) D__law_pull.m D__law_pull.F.kp D__law_pull.b pass0 (kS 0 (kV (xv 1) kNil)) (.cons (.io rfl (by first | decide | simp [muts])) (.cons (.z) .nil)) (by first | decide | simp [muts]) (hom1 (.inr rfl)) (fun z => nomatch z)) aNil))))) kNil)) (.cons (.io rfl (by first | decide | simp [muts])) (.cons (.t) .nil)) (by first | decide | simp [muts]) (hom1 (.inr rfl)) (fun z => nomatch z))))
    (s1 (sApp (i := 2) (n := 0) (.inl rfl) (xTup (aCons (xCall G__law_word (hr.mono (by first | exact Nat.le_refl _ | decide | omega)) D__law_word.m D__law_word.F.kp D__law_word.b pass0 (kS 0 (kV x_int (kV x_int kNil))) (.cons (.io rfl (by first | decide | simp [muts])) (.cons (.z) (.cons (.z) .nil))) (by first | decide | simp [muts]) (hom1 (.inr rfl)) (fun z => nomatch z)) (aCons (xv 4) aNil)))))))
    (s1 (sRet (xTup (aCons (cY cd_tuple call_tuple_of T.b_tuple (xvt 2 (k := .ow shL) flat_L)) (aCons (xCall G__law_word (hr.mono (by first | exact Nat.le_refl _ | decide | omega)) D__law_word.m D__law_word.F.kp D__law_word.b pass0 (kS 0 (kV x_int (kV x_int kNil))) (.cons (.io rfl (by first | decide | simp [muts])) (.cons (.z) (.cons (.z) .nil))) (by first | decide | simp [muts]) (hom1 (.inr rfl)) (fun z => nomatch z)) aNil))))))), ?_⟩
  rintro ds Ψ hl ⟨n, d, g, rfl, hd, hn, h1, h2, hp⟩
  refine .inr ?_
  simp! only [Sp__law_pull]
  refine ⟨n, d, 4, rfl, hd, by omega, by omega, by omega, fun r d' hr0 hr1 hd' => ?_⟩
  try simp! only []
  refine ⟨by omega, by omega, ?_⟩
  refine wLoop_inv (fun i ρ => ∃ bl d x y, ρ = [some d, some (.int g), some (.lst (blD bl)), x, y] ∧ bl.length = i ∧ (∀ b ∈ bl, isW b.1 ∧ 1 ≤ b.1.length ∧ b.1.length ≤ 4 ∧ 1 ≤ b.2 ∧ b.2 ≤ g + 5) ∧ isBag (n + 1 + 8 * i) d) _ _ ⟨[], d', none, none, rfl, rfl, (fun b hb => nomatch hb), hd'⟩ ?_ ?_
  · rintro i e he ρ ⟨bl, d, x, y, rfl, hb1, hb2, hd⟩ k hk
    have hi := (irange_get he).1
    simp! only [Sp__law_pull]
    refine ⟨_, d, _, rfl, hd, by omega, by omega, by omega, fun r1 d1 hr10 hr11 hd1 => ?_⟩
    simp! only [Sp__law_pull]
    refine ⟨_, d1, _, rfl, hd1, by omega, by omega, by omega, fun r2 d2 hr20 hr21 hd2 => ?_⟩
    simp! only [Sp__law_of]
    refine ⟨_, d2, _, rfl, hd2, by omega, by simp, by simp, fun x3 d3 hx3 hd3 => ?_⟩
    have hx' : ∃ m : Int, 0 ≤ m ∧ m ≤ g + 4 ∧ x3 = .int m := by
      simp only [List.mem_cons, List.not_mem_nil, or_false] at hx3
      rcases hx3 with rfl | rfl | rfl
      · exact ⟨0, by omega, by omega, rfl⟩
      · exact ⟨r1, by omega, by omega, rfl⟩
      · exact ⟨r2, by omega, by omega, rfl⟩
    obtain ⟨m, hm0, hm1, rfl⟩ := hx'
    simp! only [Sp__law_word]
    refine ⟨_, d3, 1, 4, rfl, hd3, by omega, by omega, by omega, fun w4 d4 hw hl1 hl4 hd4 => ?_⟩
    simp! only []
    refine ⟨by unfold blD; rw [List.length_map]; omega, hk _ ⟨bl ++ [(w4, 1 + m)], d4, some e, some (.int (1 + m)), by unfold blD; simp, by simp [hb1], fun b hb => ?_, hd4.mono (by omega)⟩⟩
    rcases List.mem_append.mp hb with hb | hb
    · exact hb2 b hb
    · simp only [List.mem_cons, List.not_mem_nil, or_false] at hb
      subst hb
      exact ⟨hw, hl1, hl4, by show 1 ≤ 1 + m; omega, by show 1 + m ≤ g + 5; omega⟩
  · rintro ρ ⟨bl, d, x, y, rfl, hb1, hb2, hd⟩
    rw [irange_len] at hb1 hd
    simp! only [Sp__law_word]
    refine ⟨_, d, 1, 4, rfl, hd, by omega, by omega, by omega, fun w4 d4 hw hl1 hl4 hd4 => ?_⟩
    simp! only []
    exact hp bl w4 d4 ⟨by omega, hb2, hw, hl1, hl4⟩ (hd4.mono (by omega))


theorem ok__law_same {f : Addr} {fd : FuncData} (F : Fun K "_law_same" "_law_same" s__law_same f fd) (T : Tx K mg) (D__law_same : DefAt K mg "_law_same" s__law_same ["found", "due"] f fd) : ∀ n, FnOk P w K mg base CX0 (1 + n) f fd ["found", "due"] (spOf K [.t, .t] .z (spN (Sp__law_same n))) := by
  intro n
  have sc := sc__law_same
  induction n with
  | zero => exact FnOk.none fun _ _ h => h.elim
  | succ n G__law_same =>
  refine okD (kl := [.z]) F sc rfl rfl fun cdv A outer s H E hr => ?_
  have hu := hr.units
  refine ⟨_, _, (ss (sIf (bT (cIsi T.b_isinstance (xvs 1) (xTup (aCons (x_bty (T := "list") T.b_list) (aCons (x_bty (T := "tuple") T.b_tuple) aNil))))) (ss (sIf (PBW.toB (bOr (bC od_ne (op_neD hu) (cIsi T.b_isinstance (xvs 0) (x_bty (T := "list") T.b_list)) (cIsi T.b_isinstance (xvs 1) (x_bty (T := "list") T.b_list)) (nomark _)) (bOne (bC od_ne (op_neD hu) (cIsi T.b_isinstance (xvs 0) (x_bty (T := "tuple") T.b_tuple)) (cIsi T.b_isinstance (xvs 1) (x_bty (T := "tuple") T.b_tuple)) (nomark _))))) (s1 (sRet x_bl)) ssNil)
    (s1 (sRet (vAnd (xEq hu (cB cd_len cr_len T.b_len (xvs 0)) (cB cd_len cr_len T.b_len (xvs 1))) (vOne (cB cd_all (cr_all rfl) T.b_all (PX.toZ (xLcP [("k", 2)] rfl sc.nd (PXi.any (iR1 T.b_range (aCons (cB cd_len cr_len T.b_len (xvs 1)) aNil))) (blkOk_by (N := N__law_same) (sc := defScope s__law_same) (by decide +kernel)) (fun s H C cl fp => (gN (i := 2) sc.nd)) gm_name (go_name (by decide)) (fun s H C cl fp => tN) (fun s H C cl fp => (xCall G__law_same (hr.mono (by first | exact Nat.le_refl _ | decide | omega)) D__law_same.m D__law_same.F.kp D__law_same.b pass0 (kV (xIx hu (xvs 0) (xv 2)) (kV (xIx hu (xvs 1) (xv 2)) kNil)) (.cons (.t) (.cons (.t) .nil)) (by first | decide | simp [muts]) (hom0) (fun _ => rfl))))))))))) ssNil)
    (ss (sIf (PBW.toB (bOr (bC od_isN op_isN (xvs 1) x_non (nomark _)) (bOne (bC od_isN op_isN (xvs 0) x_non (nomark _))))) (s1 (sRet (vAnd (xIsN (xvs 0) x_non) (vOne (xIsN (xvs 1) x_non))))) ssNil)
    (ss (sIf (PBW.toB (bOr (bC od_ne (op_neD hu) (cIsi T.b_isinstance (xvs 1) (x_bty (T := "bool") T.b_bool)) (cIsi T.b_isinstance (xvs 0) (x_bty (T := "bool") T.b_bool)) (nomark _)) (bOne (bC od_ne (op_neD hu) (cIsi T.b_isinstance (xvs 1) (x_bty (T := "int") T.b_int)) (cIsi T.b_isinstance (xvs 0) (x_bty (T := "int") T.b_int)) (nomark _))))) (s1 (sRet x_bl)) ssNil)
    (s1 (sRet (vAnd (xEq hu (cIsi T.b_isinstance (xvs 1) (x_bty (T := "str") T.b_str)) (cIsi T.b_isinstance (xvs 0) (x_bty (T := "str") T.b_str))) (vOne (xEq hu (xvs 0) (xvs 1))))))))), ?_⟩
  rintro ds Ψ hl ⟨d, rfl, hd, hp⟩
  refine .inr ?_
  have seqs : ∀ (xs : List D) (d : D), xs.length ≤ 16777216 → xs.all (sameOk n) = true → (∀ (i : Int) (Φ : D → Prop), dIx d (.int i) Φ = ∃ d, atI xs i = some d ∧ Φ d) → wLcL (wgName 2) wYes (wCall [SK.t, SK.t] [none, none] (spN (Sp__law_same n)) (wCons (w2e dIx (wVar 0) (wVar 2)) (wCons (w2e dIx (wVar 1) (wVar 2)) wNil))) [2] (irange 0 ((xs.length : Nat) : Int).toNat) [] [some d, some d, none] fun acc x => dAll (D.lst acc) fun z => Ψ z [] := by
    intro xs d h1 h2 h3
    rw [Int.toNat_natCast, irange_nat]
    refine wLcL_mapT _ (fun i : Nat => .bl true) _ [] ?_ ?_ ?_
    · intro i hi k hk
      have hi' : i < xs.length := List.mem_range.mp hi
      simp! only [h3, atI_natE, List.getElem?_eq_getElem hi']
      have hx := List.all_eq_true.mp h2 _ (List.getElem_mem hi')
      cases n with
      | zero => cases hx
      | succ n => exact ⟨_, rfl, hx, hk _ rfl⟩
    · rw [List.length_nil, List.length_range, PySem.sizeLine_eq]; omega
    · rw [List.nil_append, dAll_map]
      rw [show ((List.range xs.length).all fun i => true) = true by simp]
      exact hp
  cases d with
  | non => simp! only []; exact hp
  | bl k =>
    simp! only [show D.cm (.bl k) = true from rfl]
    simp only [not_true, decide_false, if_false, Bool.false_eq_true, decide_true, if_true]
    exact hp
  | int i =>
    simp! only []
    simp only [not_true, decide_false, if_false, Bool.false_eq_true, decide_true, if_true]
    exact hp
  | str x =>
    simp! only []
    simp only [not_true, decide_false, if_false, Bool.false_eq_true, decide_true, if_true]
    refine ⟨hd, hd, ?_⟩
    rw [deq_str, decide_eq_true rfl]
    exact hp
  | lst xs =>
    have hd' : (decide (xs.length ≤ 16777216) && xs.all (sameOk n)) = true := hd
    rw [Bool.and_eq_true, decide_eq_true_eq] at hd'
    simp! only []
    simp only [not_true, decide_false, if_false, Bool.false_eq_true, decide_true, if_true]
    exact ⟨by omega, by omega, seqs xs _ hd'.1 hd'.2 fun _ _ => rfl⟩
  | tup xs =>
    have hd' : (decide (xs.length ≤ 16777216) && xs.all (sameOk n)) = true := hd
    rw [Bool.and_eq_true, decide_eq_true_eq] at hd'
    simp! only []
    simp only [not_true, decide_false, if_false, Bool.false_eq_true, decide_true, if_true]
    exact ⟨by omega, by omega, seqs xs _ hd'.1 hd'.2 fun _ _ => rfl⟩
  | _ => cases hd


theorem ok__law_tried {f : Addr} (T : Tx K mg) {C_BadPoint f_BadPoint___init__ C_ForkError C_ShelfError : Addr} (XS : Xs K mg C_BadPoint f_BadPoint___init__ C_ForkError C_ShelfError) : ∃ l, ToldAt K mg "_law_tried" s__law_tried "ask" "e" f "told" l ∧ ∀ y Ψ, Td__law_tried K C_ForkError C_ShelfError y Ψ → wTold K l y Ψ := by
  apply told_mk
  · exact ⟨_, _, _, _, _, _, _, _, rfl⟩
  · apply td_cons rfl rfl
    · intro P w base cdg A outer s H
      exact .two ⟨rfl, by decide, .inl XS.h_ForkError.mg⟩ ⟨rfl, by decide, .inl XS.h_ShelfError.mg⟩ (by rfl) (by rfl)
    · intro P w base cdg A outer s H a oe cls d pn y hz hf
      exact (s1 (sRet (xTup (aCons x_str (aCons (xXf 1 hz hf) aNil)))))
    · exact .nil
  · exact fun y Ψ h => by
      obtain ⟨d, h1, h2, h3, h4, h5⟩ := h
      refine ⟨true, h1, fun _ f a => ?_, fun h => by cases h⟩
      simp! only []
      exact ⟨h2, h3, d, h4, h5⟩


theorem ok_is_room {f : Addr} {fd : FuncData} (F : Fun K "is_room" "is_room" s_is_room f fd) (T : Tx K mg) : FnOk P w K mg base CX0 1 f fd ["text"] (spOf K [.z] .z (spN Sp_is_room)) := by
  have sc := sc_is_room
  refine okD (kl := [.z]) F sc rfl rfl fun cdv A outer s H E hr => ?_
  have hu := hr.units
  refine ⟨_, _, (s1 (sRet (cB cd_all (cr_all rfl) T.b_all (PX.toZ (xLcP [("sign", 1)] rfl sc.nd (PXi.any (iS (xv 0))) (blkOk_by (N := N_is_room) (sc := defScope s_is_room) (by decide +kernel)) (fun s H C cl fp => (gN (i := 1) sc.nd)) gm_name (go_name (by decide)) (fun s H C cl fp => tN) (fun s H C cl fp => (xIn hu (by rfl) (xv 1) (x_gstr rfl T.c_SIGNS.choose_spec ⟨_, rfl⟩)))))))), ?_⟩
  rintro ds Ψ hl ⟨w, rfl, hw, hp⟩
  refine .inr ?_
  simp! only [show Str.ofString "LR" = tx [76, 82] from ofS _]
  refine wLcL_mapT (fun c : Nat => D.str (tx [c])) (fun c : Nat => .bl (decide (c ∈ [76, 82]))) w [] ?_ (by simp [PySem.sizeLine_eq]; omega) ?_
  · intro c hc k hk
    simp! only [dInW_sign]
    exact hk _ rfl
  · rw [List.nil_append, dAll_map]
    exact hp


theorem ok_is_word {f : Addr} {fd : FuncData} (F : Fun K "is_word" "is_word" s_is_word f fd) (T : Tx K mg) {f_is_room : Addr} {fd_is_room : FuncData} (D_is_room : DefAt K mg "is_room" s_is_room ["text"] f_is_room fd_is_room) (G_is_room : FnOk P w K mg base CX0 1 f_is_room fd_is_room ["text"] (spOf K [.z] .z (spN Sp_is_room))) : FnOk P w K mg base CX0 2 f fd ["text"] (spOf K [.z] .z (spN Sp_is_word)) := by
  have sc := sc_is_word
  refine okD (kl := []) F sc rfl rfl fun cdv A outer s H E hr => ?_
  have hu := hr.units
  refine ⟨_, _, (s1 (sRet (vAnd (x_chain od_ord or_le od_ord or_le x_int (cB cd_len cr_len T.b_len (xv 0)) (x_gint rfl T.c_DEEP.choose_spec ⟨_, rfl⟩)) (vOne (xCall G_is_room (hr.mono (by first | exact Nat.le_refl _ | decide | omega)) D_is_room.m D_is_room.F.kp D_is_room.b pass0 (kV (xv 0) kNil) (.cons (.z) .nil) (by first | decide | simp [muts]) (hom0) (fun _ => rfl)))))), ?_⟩
  rintro ds Ψ hl ⟨w, rfl, hw, hp⟩
  refine .inl ⟨rfl, ?_⟩
  simp! only [Sp_is_room]
  refine ⟨by omega, ?_⟩
  unfold wdB at hp
  by_cases h1 : 1 ≤ w.length
  · rw [if_pos (by omega)]
    by_cases h2 : w.length ≤ 12
    · rw [if_pos (by omega)]
      rw [decide_eq_true h1, decide_eq_true h2] at hp
      exact ⟨w, rfl, hw, hp⟩
    · rw [if_neg (by omega)]
      rw [decide_eq_false h2, Bool.and_false] at hp
      exact hp
  · rw [if_neg (by omega)]
    rw [decide_eq_false h1] at hp
    exact hp


theorem ok_need_point {f : Addr} {fd : FuncData} (F : Fun K "need_point" "need_point" s_need_point f fd) (T : Tx K mg) {C_BadPoint f_BadPoint___init__ C_ForkError C_ShelfError : Addr} (XS : Xs K mg C_BadPoint f_BadPoint___init__ C_ForkError C_ShelfError) {fd_BadPoint___init__ : FuncData} (D_BadPoint___init__ : InitAt K "BadPoint.__init__" s_BadPoint___init__ ["self"] f_BadPoint___init__ fd_BadPoint___init__) (G_BadPoint___init__ : FnOk P w K mg base CX0 1 f_BadPoint___init__ fd_BadPoint___init__ ["self"] (spIni C_BadPoint 0 [("word", .inl "BadPoint")])) {f_is_word : Addr} {fd_is_word : FuncData} (D_is_word : DefAt K mg "is_word" s_is_word ["text"] f_is_word fd_is_word) (G_is_word : FnOk P w K mg base CX0 2 f_is_word fd_is_word ["text"] (spOf K [.z] .z (spN Sp_is_word))) : FnOk P w K mg base (L2.CX P w) 3 f fd ["point"] (spOf K [.z] .z (SpX_need_point C_BadPoint)) := by
  have sc := sc_need_point
  refine okX (kl := [.z, .z, .z, .z]) F sc rfl rfl fun cdv A outer s H E hr => ?_
  have hu := hr.units
  refine ⟨_, _, (ss (sAsg (xv 0) (gT (n := 2) rfl (gsCons (gN (i := 1) sc.nd) (gsCons (gN (i := 2) sc.nd) gsNil))))
    (ss (sIf (PBW.toB (bOr (bC od_ord or_gt (cB cd_len cr_len T.b_len (xv 1)) (x_gint rfl T.c_BLOCKS.choose_spec ⟨_, rfl⟩) (nomark _)) (bOne (bNot (bT (xCall G_is_word (hr.mono (by first | exact Nat.le_refl _ | decide | omega)) D_is_word.m D_is_word.F.kp D_is_word.b pass0 (kV (xv 2) kNil) (.cons (.z) .nil) (by first | decide | simp [muts]) (hom0) (fun _ => rfl))))))) (s1 (sRaise0 takeX XS.BadPoint.ox XS.BadPoint.ini XS.BadPoint.ity G_BadPoint___init__ (hr.mono (by first | exact Nat.le_refl _ | decide | omega)) XS.BadPoint.mg D_BadPoint___init__.b pass0)) ssNil)
    (s1 (sIf (bNot (bT (cB cd_all (cr_all rfl) T.b_all (PX.toZ (xLcP [("word", 3), ("many", 4)] rfl sc.nd (PXi.any (iS (xv 1))) (blkOk_by (N := N_need_point) (sc := defScope s_need_point) (by decide +kernel)) (fun s H C cl fp => (gT (n := 2) rfl (gsCons (gN (i := 3) sc.nd) (gsCons (gN (i := 4) sc.nd) gsNil)))) (gm_tup (gm_cons gm_name (gm_cons gm_name gm_nil))) (go_tup (go_cons gm_name (gm_cons gm_name gm_nil) (go_name (by decide)) (go_cons gm_name gm_nil (go_name (by decide)) go_nil))) (fun s H C cl fp => tN) (fun s H C cl fp => (vAnd (xCall G_is_word (hr.mono (by first | exact Nat.le_refl _ | decide | omega)) D_is_word.m D_is_word.F.kp D_is_word.b pass0 (kV (xv 3) kNil) (.cons (.z) .nil) (by first | decide | simp [muts]) (hom0) (fun _ => rfl)) (vOne (x_chain od_ord or_le od_ord or_lt x_int (xv 4) (x_gint rfl T.c_FAR.choose_spec ⟨_, rfl⟩)))))))))) (s1 (sRaise0 takeX XS.BadPoint.ox XS.BadPoint.ini XS.BadPoint.ity G_BadPoint___init__ (hr.mono (by first | exact Nat.le_refl _ | decide | omega)) XS.BadPoint.mg D_BadPoint___init__.b pass0)) ssNil)))), ?_⟩
  rintro ds Ψ Ξ hl ⟨l, bl, ring, rfl, ⟨hl1, hr, hb⟩, hp⟩
  refine .inl ⟨rfl, ?_⟩
  simp! only [Sp_is_word, ptD, dLen_bD, dItems_bD]
  by_cases h1 : bl.length ≤ 8
  · rw [if_neg (by omega)]
    refine ⟨ring, rfl, hr, ?_⟩
    cases h2 : wdB ring with
    | false =>
      rw [if_neg (by unfold gpB; rw [h2]; simp)] at hp
      rw [if_pos rfl]
      exact ⟨[], rfl, hp⟩
    | true =>
      rw [if_neg (by simp)]
      refine wLcL_mapT (fun b : List Nat × Int => D.tup [.str (tx b.1), .int b.2]) (fun b => .bl (wdB b.1 && maB b.2)) bl [] ?_ (by simp [PySem.sizeLine_eq]; omega) ?_
      · intro b hb1 k hk
        simp! only [Sp_is_word]
        refine ⟨b.1, rfl, hb b hb1, ?_⟩
        cases h3 : wdB b.1 with
        | false =>
          rw [h3] at hk
          exact hk _ rfl
        | true =>
          rw [h3] at hk
          have hm : ∀ x, D.bl x = D.bl (maB b.2) → ∀ ρ3, wipeE ρ3 [3, 4] = _ → k (.bl x) ρ3 := fun x e ρ3 h => e ▸ hk ρ3 h
          unfold maB at hm
          by_cases h4 : 1 ≤ b.2
          · rw [decide_eq_true h4] at hm
            rw [if_pos h4]
            exact hm _ rfl _ rfl
          · rw [decide_eq_false h4] at hm
            rw [if_neg h4]
            exact hm _ rfl _ rfl
      · rw [List.nil_append, dAll_map]
        simp! only []
        unfold gpB at hp
        rw [decide_eq_true h1, h2] at hp
        cases h3 : bl.all fun b => wdB b.1 && maB b.2 with
        | true =>
          rw [if_pos (by rw [h3]; rfl)] at hp
          rw [if_neg (by simp)]
          exact hp
        | false =>
          rw [if_neg (by rw [h3]; simp)] at hp
          rw [if_pos rfl]
          exact ⟨[], rfl, hp⟩
  · rw [if_neg (by unfold gpB; rw [decide_eq_false h1]; simp)] at hp
    rw [if_pos (by omega)]
    exact ⟨[], rfl, hp⟩


theorem ok_law {f c PT : Addr} {vK dc pm ct oc : Value} {an od : Option Addr} {osl : Array (Option Value)} (lk : K.lookup f = some ⟨oc, od, .func (PySem.W.fnOf "law" "law" (defArgs s_law) (defBody s_law) (defScope s_law) .none vK dc pm an (.ref c) ct), osl⟩) (hcd : PySem.W.codeIn K (.ref c) "law" = true) (TB : LamX.TabB base mg c PT) (T : Tx K mg) {C_BadPoint f_BadPoint___init__ C_ForkError C_ShelfError : Addr} (XS : Xs K mg C_BadPoint f_BadPoint___init__ C_ForkError C_ShelfError) {f__law_bag : Addr} {fd__law_bag : FuncData} (D__law_bag : DefAt K mg "_law_bag" s__law_bag ["script"] f__law_bag fd__law_bag) (G__law_bag : FnOk P w K mg base CX0 1 f__law_bag fd__law_bag ["script"] (spOf K [.z] (.o shL) (spN SpL__law_bag))) {f__law_of : Addr} {fd__law_of : FuncData} (D__law_of : DefAt K mg "_law_of" s__law_of ["bag", "some"] f__law_of fd__law_of) (G__law_of : FnOk P w K mg base CX0 2 f__law_of fd__law_of ["bag", "some"] (spOf K [.io shL, .t] .z (spN Sp__law_of))) {f__law_point : Addr} {fd__law_point : FuncData} (D__law_point : DefAt K mg "_law_point" s__law_point ["bag", "greatest"] f__law_point fd__law_point) (G__law_point : FnOk P w K mg base CX0 4 f__law_point fd__law_point ["bag", "greatest"] (spOf K [.io shL, .z] .z (spN Sp__law_point))) {f__law_pull : Addr} {fd__law_pull : FuncData} (D__law_pull : DefAt K mg "_law_pull" s__law_pull ["bag", "sides"] f__law_pull fd__law_pull) (G__law_pull : FnOk P w K mg base CX0 1 f__law_pull fd__law_pull ["bag", "sides"] (spOf K [.io shL, .z] .z (spN Sp__law_pull))) {f__law_same : Addr} {fd__law_same : FuncData} (D__law_same : DefAt K mg "_law_same" s__law_same ["found", "due"] f__law_same fd__law_same) (G__law_same : FnOk P w K mg base CX0 7 f__law_same fd__law_same ["found", "due"] (spOf K [.t, .t] .z (spN (Sp__law_same 6)))) {f__law_tried : Addr} {fd__law_tried : FuncData} (D__law_tried : DefAt K mg "_law_tried" s__law_tried ["ask"] f__law_tried fd__law_tried) (G__law_tried : ∃ l, ToldAt K mg "_law_tried" s__law_tried "ask" "e" f__law_tried "told" l ∧ ∀ y Ψ, Td__law_tried K C_ForkError C_ShelfError y Ψ → wTold K l y Ψ) {f__law_word : Addr} {fd__law_word : FuncData} (D__law_word : DefAt K mg "_law_word" s__law_word ["bag", "low", "most"] f__law_word fd__law_word) (G__law_word : FnOk P w K mg base CX0 3 f__law_word fd__law_word ["bag", "low", "most"] (spOf K [.io shL, .z, .z] .z (spN Sp__law_word))) {f_need_point : Addr} {fd_need_point : FuncData} (D_need_point : DefAt K mg "need_point" s_need_point ["point"] f_need_point fd_need_point) (G_need_point : FnOk P w K mg base (L2.CX P w) 3 f_need_point fd_need_point ["point"] (spOf K [.z] .z (SpX_need_point C_BadPoint))) :
    FnOk P w K mg base CX0 8 f (PySem.W.fnOf "law" "law" (defArgs s_law) (defBody s_law) (defScope s_law) .none vK dc pm an (.ref c) ct) ["script"] (spLawT K PT) := by
  obtain ⟨l__law_tried, td__law_tried, tw__law_tried⟩ := G__law_tried
  have sc := sc_law
  refine okLaw (kl := [.ow shL, .z, .ow shL, .z, .z, .z, .z, .z, .z, .z, .z, .ow shL, .z, .z, .z]) lk hcd sc rfl (by intro x hx; cases hx; rintro (h | h | h) <;> exact absurd h (by decide +kernel)) fun A outer s H E hr => ?_
  have hu := hr.units
  refine ⟨_, _, (ss (sSetO (i := 1) sc.nd (xCall G__law_bag (hr.mono (by first | exact Nat.le_refl _ | decide | omega)) D__law_bag.m D__law_bag.F.kp D__law_bag.b pass0 (kV (xv 0) kNil) (.cons (.z) .nil) (by first | decide | simp [muts]) (hom0) (fun _ => rfl)))
    (ss (sFor PassesOwn.never rfl (iR1 T.b_range (aCons x_int aNil)) (gN (i := 2) sc.nd) (ssRe 3 sc.nd (sAsg (xCall G__law_point (hr.mono (by first | exact Nat.le_refl _ | decide | omega)) D__law_point.m D__law_point.F.kp D__law_point.b pass0 (kS 1 (kV (xSub (xPow x_int x_int) x_int) kNil)) (.cons (.ow rfl (by first | decide | simp [muts])) (.cons (.z) .nil)) (by first | decide | simp [muts]) (hom1 (.inl rfl)) (fun z => nomatch z)) (gT (n := 2) rfl (gsCons (gN (i := 3) sc.nd) (gsCons (gN (i := 4) sc.nd) gsNil)))) (cYN cn_list call_list_of T.b_list (xv 3))
    (ss (sWhile PassesOwn.never (bC od_ord or_lt (cB cd_len cr_len T.b_len (xvt 3 (k := .ow shL) flat_L)) (xCall G__law_of (hr.mono (by first | exact Nat.le_refl _ | decide | omega)) D__law_of.m D__law_of.F.kp D__law_of.b pass0 (kS 1 (kV (PX.toZ (xLst (aCons x_int (aCons x_int (aCons x_int (aCons x_int (aCons x_int aNil))))))) kNil)) (.cons (.ow rfl (by first | decide | simp [muts])) (.cons (.t) .nil)) (by first | decide | simp [muts]) (hom1 (.inl rfl)) (fun z => nomatch z)) (nomark _)) (ss (sApp (i := 3) (n := 0) (.inl rfl) (xTup (aCons (xCall G__law_word (hr.mono (by first | exact Nat.le_refl _ | decide | omega)) D__law_word.m D__law_word.F.kp D__law_word.b pass0 (kS 1 (kV x_int (kV x_int kNil))) (.cons (.ow rfl (by first | decide | simp [muts])) (.cons (.z) (.cons (.z) .nil))) (by first | decide | simp [muts]) (hom1 (.inl rfl)) (fun z => nomatch z)) (aCons (xCall G__law_of (hr.mono (by first | exact Nat.le_refl _ | decide | omega)) D__law_of.m D__law_of.F.kp D__law_of.b pass0 (kS 1 (kV (PX.toZ (xLst (aCons x_int (aCons (xSub (xPow x_int x_int) x_int) aNil)))) kNil)) (.cons (.ow rfl (by first | decide | simp [muts])) (.cons (.t) .nil)) (by first | decide | simp [muts]) (hom1 (.inl rfl)) (fun z => nomatch z)) aNil))))
    (s1 (sIf (bC od_ord or_gt (cB cd_len cr_len T.b_len (xvt 3 (k := .ow shL) flat_L)) x_int (nomark _)) (s1 sBrk) ssNil))))
    (ss (sSet (i := 5) sc.nd (xCall G__law_of (hr.mono (by first | exact Nat.le_refl _ | decide | omega)) D__law_of.m D__law_of.F.kp D__law_of.b pass0 (kS 1 (kV (PX.toZ (xLst (aCons x_str (aCons (xMul x_str x_int) (aCons (xMul x_str x_int) (aCons x_str (aCons x_str (aCons x_str aNil)))))))) kNil)) (.cons (.ow rfl (by first | decide | simp [muts])) (.cons (.t) .nil)) (by first | decide | simp [muts]) (hom1 (.inl rfl)) (fun z => nomatch z)))
    (ss (sSet (i := 6) sc.nd (xCall G__law_of (hr.mono (by first | exact Nat.le_refl _ | decide | omega)) D__law_of.m D__law_of.F.kp D__law_of.b pass0 (kS 1 (kV (PX.toZ (xLst (aCons x_int (aCons (xNeg x_int) (aCons x_int (aCons (xSub (xPow x_int x_int) x_int) (aCons (xPow x_int x_int) (aCons (xSub x_int (xPow x_int x_int)) aNil)))))))) kNil)) (.cons (.ow rfl (by first | decide | simp [muts])) (.cons (.t) .nil)) (by first | decide | simp [muts]) (hom1 (.inl rfl)) (fun z => nomatch z)))
    (ss (sPar (i := 7) (j := 8) rfl sc.nd (aCons (xCall G__law_pull (hr.mono (by first | exact Nat.le_refl _ | decide | omega)) D__law_pull.m D__law_pull.F.kp D__law_pull.b pass0 (kS 1 (kV x_int kNil)) (.cons (.ow rfl (by first | decide | simp [muts])) (.cons (.z) .nil)) (by first | decide | simp [muts]) (hom1 (.inl rfl)) (fun z => nomatch z)) (aCons (xCall G__law_pull (hr.mono (by first | exact Nat.le_refl _ | decide | omega)) D__law_pull.m D__law_pull.F.kp D__law_pull.b pass0 (kS 1 (kV (xAdd (cB cd_len cr_len T.b_len (xvt 3 (k := .ow shL) flat_L)) x_int) kNil)) (.cons (.ow rfl (by first | decide | simp [muts])) (.cons (.z) .nil)) (by first | decide | simp [muts]) (hom1 (.inl rfl)) (fun z => nomatch z)) aNil)) (by decide))
    (ss (sIf (bC od_eq (op_eqD hu) (xv 7) x_int (nomark _)) (s1 (sSet (i := 4) sc.nd (xv 5))) (s1 (sIf (PBW.toB (bAnd (bC od_ord or_lt (xv 7) x_int (nomark _)) (bOne (bC od_ord or_lt (xv 8) (cB cd_len cr_len T.b_len (xvt 3 (k := .ow shL) flat_L)) (nomark _))))) (s1 (sPut (i := 3) (.inl rfl) (xIf (bC od_eq (op_eqD hu) (xv 7) x_int (nomark _)) (xTup (aCons (xv 5) (aCons (xIx hu (xIxP hu (xvt 3 (k := .ow shL) flat_L) (xv 8)) x_int) aNil))) (xTup (aCons (xIx hu (xIxP hu (xvt 3 (k := .ow shL) flat_L) (xv 8)) x_int) (aCons (xv 6) aNil)))) (xv 8))) ssNil)))
    (ss (sSet (i := 9) sc.nd (xAdd (PX.toZ (xLst (aCons (xv 4) aNil))) (PX.toZ (xLcP [("word", 13), ("times_of", 14)] rfl sc.nd (iSt (xvt 3 (k := .ow shL) flat_L)) (blkOk_by (N := N_law) (sc := defScope s_law) (by decide +kernel)) (fun s H C cl fp => (gT (n := 2) rfl (gsCons (gN (i := 13) sc.nd) (gsCons (gN (i := 14) sc.nd) gsNil)))) (gm_tup (gm_cons gm_name (gm_cons gm_name gm_nil))) (go_tup (go_cons gm_name (gm_cons gm_name gm_nil) (go_name (by decide)) (go_cons gm_name gm_nil (go_name (by decide)) go_nil))) (fun s H C cl fp => tN) (fun s H C cl fp => (xv 13))))))
    (ss (sSet (i := 10) sc.nd (vAnd (xLt (cB cd_len cr_len T.b_len (xvt 3 (k := .ow shL) flat_L)) x_int) (vOne (cB cd_all (cr_all rfl) T.b_all (PX.toZ (xLcP [("word", 13)] rfl sc.nd (PXi.any (iS (xv 9))) (blkOk_by (N := N_law) (sc := defScope s_law) (by decide +kernel)) (fun s H C cl fp => (gN (i := 13) sc.nd)) gm_name (go_name (by decide)) (fun s H C cl fp => tN) (fun s H C cl fp => (vAnd (x_chain od_ord or_lt od_ord or_lt x_int (cB cd_len cr_len T.b_len (xv 13)) x_int) (vOne (cB cd_all (cr_all rfl) T.b_all (PX.toZ (xLcP [("sign", 15)] rfl sc.nd (PXi.any (iS (xv 13))) (blkOk_by (N := N_law) (by rfl)) (fun s H C cl fp => (gN (i := 15) sc.nd)) gm_name (go_name (by decide)) (fun s H C cl fp => tN) (fun s H C cl fp => (xIn hu (by rfl) (xv 15) x_str))))))))))))))
    (ss (sSet (i := 10) sc.nd (vAnd (xv 10) (vOne (cB cd_all (cr_all rfl) T.b_all (PX.toZ (xLcP [("word", 13), ("times_of", 14)] rfl sc.nd (iSt (xvt 3 (k := .ow shL) flat_L)) (blkOk_by (N := N_law) (sc := defScope s_law) (by decide +kernel)) (fun s H C cl fp => (gT (n := 2) rfl (gsCons (gN (i := 13) sc.nd) (gsCons (gN (i := 14) sc.nd) gsNil)))) (gm_tup (gm_cons gm_name (gm_cons gm_name gm_nil))) (go_tup (go_cons gm_name (gm_cons gm_name gm_nil) (go_name (by decide)) (go_cons gm_name gm_nil (go_name (by decide)) go_nil))) (fun s H C cl fp => tN) (fun s H C cl fp => (x_chain od_ord or_lt od_ord or_lt x_int (xv 14) (xPow x_int x_int)))))))))
    (ss (sSet (i := 11) sc.nd (PX.toZ (cYN cn_list call_list_of T.b_list (xvt 3 (k := .ow shL) flat_L))))
    (ss (sSetO (i := 12) sc.nd (xLst (aCons (xLamT 16 3 D__law_tried.m D__law_tried.F D__law_tried.b sc__law_tried td__law_tried (by exact TB) (hr.mono (by first | exact Nat.le_refl _ | decide | omega)) qual_nox (by rfl) (by rfl) (LamX.lamS_by (sc := defScope s_law) (by decide +kernel)) (fun _ _ _ _ _ => by rfl) (fun A outer s H E f c2 hr => by have hu := hr.units; exact (xCall G_need_point (hr.mono (by first | exact Nat.le_refl _ | decide | omega)) D_need_point.m D_need_point.F.kp D_need_point.b passLam (kV (xTup (aCons (xv 11) (aCons (xv 4) aNil))) kNil) (.cons (.z) .nil) (by first | decide | simp [muts]) (hom0) (fun _ => rfl)))) aNil)))
    (ss (sApp (i := 12) (n := 0) (.inl rfl) (xLamT 16 3 D__law_tried.m D__law_tried.F D__law_tried.b sc__law_tried td__law_tried (by exact TB) (hr.mono (by first | exact Nat.le_refl _ | decide | omega)) qual_nox (by rfl) (by rfl) (LamX.lamS_by (sc := defScope s_law) (by decide +kernel)) (fun _ _ _ _ _ => by rfl) (fun A outer s H E f c2 hr => by have hu := hr.units; exact (xCall G_need_point (hr.mono (by first | exact Nat.le_refl _ | decide | omega)) D_need_point.m D_need_point.F.kp D_need_point.b passLam (kV (xTup (aCons (cY cd_tuple call_tuple_of T.b_tuple (xvt 3 (k := .ow shL) flat_L)) (aCons (xv 4) aNil))) kNil) (.cons (.z) .nil) (by first | decide | simp [muts]) (hom0) (fun _ => rfl)))))
    (s1 (sIf (PBW.toB (bOr (bNot (bT (xCall G__law_same (hr.mono (by first | exact Nat.le_refl _ | decide | omega)) D__law_same.m D__law_same.F.kp D__law_same.b pass0 (kS 12 (kV (xMul (PX.toZ (xLst (aCons (xIf (bT (xv 10)) (xTup (aCons x_str (aCons x_non aNil))) (xTup (aCons x_str (aCons x_str aNil)))) aNil))) x_int) kNil)) (.cons (.ts (k := .ow shL) rfl flat_L (by first | decide | simp [muts])) (.cons (.t) .nil)) (by first | decide | simp [muts]) (hom0) (fun _ => rfl)))) (bOne (bC od_ne (op_neD hu) (xv 11) (xvt 3 (k := .ow shL) flat_L) (nomark _))))) (s1 (sRet x_bl)) ssNil)))))))))))))))
    (s1 (sRet (xIsN (xCall G_need_point (hr.mono (by first | exact Nat.le_refl _ | decide | omega)) D_need_point.m D_need_point.F.kp D_need_point.b passL (kV (xTup (aCons (xTup aNil) (aCons x_str aNil))) kNil) (.cons (.z) .nil) (by first | decide | simp [muts]) (hom0) (fun _ => rfl)) x_non))))), ?_⟩
  intro s0 hs0
  have mul1 : MulOk (tx [76]) 12 := mul_ok (w := [76]) (n := 12) (by decide) (by decide) (by decide)
  have mul2 : MulOk (tx [82]) 13 := mul_ok (w := [82]) (n := 13) (by decide) (by decide) (by decide)
  have pw : CPow 10 30 := by unfold CPow; omega
  have pw2 : CPow 10 29 := by unfold CPow; omega
  simp! only [SpL__law_bag]
  refine ⟨s0, rfl, hs0, fun d0 hd0 => ⟨by omega, by omega, ?_⟩⟩
  refine wLoop_inv (fun i ρ => ∃ d x2 x3 x4 x5 x6 x7 x8 x9 x10 x11 x12 x13 x14 x15, ρ = [some s0, some d, x2, x3, x4, x5, x6, x7, x8, x9, x10, x11, x12, x13, x14, x15, some .non] ∧ isBag (1000 * i) d) _ _ ⟨d0, none, none, none, none, none, none, none, none, none, none, none, none, none, none, rfl, hd0⟩ ?_ ?_
  · rintro i t he ρ ⟨d, x2, x3, x4, x5, x6, x7, x8, x9, x10, x11, x12, x13, x14, x15, rfl, hd⟩ k hk
    have hi : i < 12 := (irange_get he).1
    rw [wgName_eq, wRe_eq]
    simp! only [Sp__law_point]
    refine ⟨pw, _, d, _, rfl, hd, by omega, by decide +kernel, by decide +kernel, fun bl0 ring d1 hdr hd1 => ?_⟩
    simp! only [ptD, bD]
    have hrg : smT ring := .of hdr.2.2.1 (by have := hdr.2.2.2.2; omega)
    refine wWhile_inv (fun m ρ => ∃ d bl, ρ = [some s0, some d, some t, some (.lst (blD bl)), some (.str (tx ring)), x5, x6, x7, x8, x9, x10, x11, x12, x13, x14, x15, some .non] ∧ m + bl.length = 8 ∧ (∀ b ∈ bl, smT b.1) ∧ isBag (1000 * i + 40 + 30 * bl.length) d) (fun ρ => ∃ d bl, ρ = [some s0, some d, some t, some (.lst (blD bl)), some (.str (tx ring)), x5, x6, x7, x8, x9, x10, x11, x12, x13, x14, x15, some .non] ∧ bl.length ≤ 9 ∧ (∀ b ∈ bl, smT b.1) ∧ isBag (1000 * i + 450) d) (m0 := 8 - bl0.length) ⟨d1, bl0, rfl, by have := hdr.1; omega, fun b hb => by have := hdr.2.1 b hb; exact .of this.1 (by omega), hd1.mono (by omega)⟩ ?_ ?_
    · rintro m ρ ⟨d, bl, rfl, hm, hb, hd⟩ k2 kx hk2 hkx
      simp! only [Sp__law_of, Sp__law_word, Int.reducePow]
      refine ⟨_, d, _, rfl, hd, by omega, by simp, by simp, fun x d2 hx hd2 => ?_⟩
      obtain ⟨n, rfl, hn⟩ : ∃ n : Nat, x = .int n ∧ n ≤ 9 := by
        simp only [List.mem_cons, List.not_mem_nil, or_false] at hx
        rcases hx with rfl | rfl | rfl | rfl | rfl
        · exact ⟨0, rfl, by omega⟩
        · exact ⟨0, rfl, by omega⟩
        · exact ⟨0, rfl, by omega⟩
        · exact ⟨8, rfl, by omega⟩
        · exact ⟨9, rfl, by omega⟩
      simp! only [show (blD bl).length = bl.length from List.length_map ..]
      by_cases h1 : bl.length < n
      · rw [if_pos (by omega)]
        refine ⟨_, d2, 1, 12, rfl, hd2, by omega, by omega, by omega, fun w d3 h2 h3 h4 hd3 => ⟨pw, _, d3, _, rfl, hd3, by omega, by simp, by simp, fun y d4 hy hd4 => ?_⟩⟩
        obtain ⟨v, rfl⟩ : ∃ v : Int, y = .int v := by
          simp only [List.mem_cons, List.not_mem_nil, or_false] at hy
          rcases hy with rfl | rfl
          · exact ⟨_, rfl⟩
          · exact ⟨_, rfl⟩
        have e : blD bl ++ [D.tup [.str (tx w), .int v]] = blD (bl ++ [(w, v)]) := by unfold blD; rw [List.map_append]; rfl
        have hb' : ∀ b ∈ bl ++ [(w, v)], smT b.1 := fun b hb1 => (List.mem_append.mp hb1).elim (hb b) fun z => by rw [List.mem_singleton.mp z]; exact .of h2 (by show w.length ≤ 13; omega)
        have hl' : (bl ++ [(w, v)]).length = bl.length + 1 := by simp
        simp! only [e, hl', show (blD (bl ++ [(w, v)])).length = bl.length + 1 from (List.length_map ..).trans hl', show (blD bl).length = bl.length from List.length_map ..]
        refine ⟨by omega, ?_⟩
        by_cases h5 : 8 < bl.length + 1
        · rw [if_pos (by omega)]
          exact hkx _ ⟨d4, _, rfl, by omega, hb', hd4.mono (by omega)⟩
        · rw [if_neg (by omega)]
          exact hk2 _ (m - 1) (by omega) ⟨d4, _, rfl, by omega, hb', hd4.mono (by omega)⟩
      · rw [if_neg (by omega)]
        exact hkx _ ⟨d2, bl, rfl, by omega, hb, hd2.mono (by omega)⟩
    rintro ρ ⟨d, bl, rfl, hbl, hb, hd⟩
    dsimp only
    refine seq_mid (fun ρ => ∃ d odd, ρ = [some s0, some d, some t, some (.lst (blD bl)), some (.str (tx ring)), some (.str (tx odd)), x6, x7, x8, x9, x10, x11, x12, x13, x14, x15, some .non] ∧ smT odd ∧ isBag (1000 * i + 460) d) ?_ ?_
    · intro k1 hk1
      simp! only [Sp__law_of]
      rw [show Str.ofString "L" = tx [76] from ofS _, show Str.ofString "R" = tx [82] from ofS _, dMul_tx, dMul_tx]
      refine ⟨mul1, mul2, _, d, _, rfl, hd, by omega, by simp, by simp, fun x d2 hx hd2 => ?_⟩
      obtain ⟨o, rfl, ho⟩ : ∃ o, x = .str (tx o) ∧ smT o := by
        simp only [List.mem_cons, List.not_mem_nil, or_false] at hx
        rcases hx with rfl | rfl | rfl | rfl | rfl | rfl
        · exact ⟨_, congrArg D.str (ofS _), by decide, by decide⟩
        · exact ⟨_, rfl, by decide, by decide⟩
        · exact ⟨_, rfl, by decide, by decide⟩
        all_goals exact ⟨_, congrArg D.str (ofS _), by decide, by decide⟩
      exact hk1 _ ⟨d2, o, rfl, ho, hd2.mono (by omega)⟩
    rintro ρ ⟨d, odd, rfl, hod, hd⟩
    refine seq_mid (fun ρ => ∃ d, ∃ often : Int, ρ = [some s0, some d, some t, some (.lst (blD bl)), some (.str (tx ring)), some (.str (tx odd)), some (.int often), x7, x8, x9, x10, x11, x12, x13, x14, x15, some .non] ∧ isBag (1000 * i + 470) d) ?_ ?_
    · intro k1 hk1
      simp! only [Sp__law_of]
      refine ⟨pw, pw, pw2, _, d, _, rfl, hd, by omega, by simp, by simp, fun x d2 hx hd2 => ?_⟩
      obtain ⟨v, rfl⟩ : ∃ v : Int, x = .int v := by
        simp only [List.mem_cons, List.not_mem_nil, or_false] at hx
        rcases hx with rfl | rfl | rfl | rfl | rfl | rfl
        all_goals exact ⟨_, rfl⟩
      exact hk1 _ ⟨d2, v, rfl, hd2.mono (by omega)⟩
    rintro ρ ⟨d, often, rfl, hd⟩
    refine seq_mid (fun ρ => ∃ d, ∃ kind : Int, ∃ at_ : Nat, ρ = [some s0, some d, some t, some (.lst (blD bl)), some (.str (tx ring)), some (.str (tx odd)), some (.int often), some (.int kind), some (.int (at_ : Nat)), x9, x10, x11, x12, x13, x14, x15, some .non] ∧ at_ ≤ bl.length ∧ isBag (1000 * i + 480) d) ?_ ?_
    · intro k1 hk1
      simp! only [Sp__law_pull]
      refine ⟨_, d, _, rfl, hd, by omega, by omega, by omega, fun r d2 h0 h1 hd2 => ?_⟩
      rw [show (blD bl).length = bl.length from List.length_map ..]
      refine ⟨_, d2, _, rfl, hd2, by omega, by omega, by omega, fun q d3 h2 h3 hd3 => ?_⟩
      obtain ⟨q, rfl⟩ := Int.eq_ofNat_of_zero_le h2
      exact hk1 _ ⟨d3, r, q, rfl, by omega, hd3.mono (by omega)⟩
    rintro ρ ⟨d, kind, at_, rfl, hat, hd⟩
    refine seq_mid (fun ρ => ∃ bl ring, ρ = [some s0, some d, some t, some (.lst (blD bl)), some (.str (tx ring)), some (.str (tx odd)), some (.int often), some (.int kind), some (.int (at_ : Nat)), x9, x10, x11, x12, x13, x14, x15, some .non] ∧ bl.length ≤ 9 ∧ (∀ b ∈ bl, smT b.1) ∧ smT ring) ?_ ?_
    · intro k1 hk1
      simp! only []
      by_cases h1 : kind = 0
      · rw [if_pos h1]
        exact hk1 _ ⟨bl, odd, rfl, hbl, hb, hod⟩
      rw [if_neg h1]
      by_cases h2 : kind < 3
      · rw [if_pos h2, show (blD bl).length = bl.length from List.length_map ..]
        by_cases h3 : at_ < bl.length
        · rw [if_pos (by omega), atI_natE, ixN_nat _ _ h3]
          have e : (blD bl)[at_]? = some (.tup [.str (tx bl[at_].1), .int bl[at_].2]) := by unfold blD; rw [List.getElem?_map, List.getElem?_eq_getElem h3]; rfl
          have es : ∀ w v, (blD bl).set at_ (D.tup [.str (tx w), .int v]) = blD (bl.set at_ (w, v)) := fun w v => by unfold blD; rw [List.map_set]
          have hm : ∀ w v, smT w → ∀ b ∈ bl.set at_ (w, v), smT b.1 := fun w v hw b hb1 => (List.mem_or_eq_of_mem_set hb1).elim (hb b) fun z => by rw [z]; exact hw
          have hb0 := hb bl[at_] (List.getElem_mem h3)
          by_cases h4 : kind = 1
          · rw [if_pos h4]
            refine ⟨_, e, ?_⟩
            simp! only [es]
            exact hk1 _ ⟨bl.set at_ (odd, bl[at_].2), ring, rfl, by rw [List.length_set]; exact hbl, hm _ _ hod, hrg⟩
          · rw [if_neg h4]
            refine ⟨_, e, ?_⟩
            simp! only [es]
            exact hk1 _ ⟨bl.set at_ (bl[at_].1, often), ring, rfl, by rw [List.length_set]; exact hbl, hm _ _ hb0, hrg⟩
        · rw [if_neg (by omega)]
          exact hk1 _ ⟨bl, ring, rfl, hbl, hb, hrg⟩
      · rw [if_neg h2]
        exact hk1 _ ⟨bl, ring, rfl, hbl, hb, hrg⟩
    clear hrg hbl hb
    rintro ρ ⟨bl, ring, rfl, hbl, hb, hr⟩
    refine seq_mid (fun ρ => ρ = [some s0, some d, some t, some (.lst (blD bl)), some (.str (tx ring)), some (.str (tx odd)), some (.int often), some (.int kind), some (.int (at_ : Nat)), some (.lst ((ring :: bl.map Prod.fst).map rD)), x10, x11, x12, x13, x14, x15, some .non]) ?_ ?_
    · intro k1 hk1
      simp! only []
      refine wLcL_mapT (fun b : List Nat × Int => D.tup [.str (tx b.1), .int b.2]) (fun b => rD b.1) bl [] ?_ (by simp [PySem.sizeLine_eq]; omega) ?_
      · intro b _ k2 hk2
        simp! only []
        exact hk2 _ rfl
      · rw [List.nil_append]
        refine ⟨by rw [List.length_map]; omega, ?_⟩
        have e : bl.map (fun b => rD b.1) = (bl.map Prod.fst).map rD := by rw [List.map_map]; rfl
        rw [e]
        exact hk1 _ rfl
    rintro ρ rfl
    refine seq_mid (fun ρ => ∃ g, ρ = [some s0, some d, some t, some (.lst (blD bl)), some (.str (tx ring)), some (.str (tx odd)), some (.int often), some (.int kind), some (.int (at_ : Nat)), some (.lst ((ring :: bl.map Prod.fst).map rD)), some (.bl g), x11, x12, x13, x14, x15, some .non] ∧ g = (decide (bl.length < 9) && (ring :: bl.map Prod.fst).all wdB)) ?_ ?_
    · intro k1 hk1
      simp! only []
      rw [show (blD bl).length = bl.length from List.length_map ..]
      by_cases h1 : bl.length < 9
      · rw [if_pos (by omega)]
        rw [show rD ring :: List.map rD (List.map Prod.fst bl) = (ring :: bl.map Prod.fst).map rD from rfl]
        refine wLcL_mapT rD (fun w => .bl (wdB w)) (ring :: bl.map Prod.fst) [] ?_ (by simp [PySem.sizeLine_eq]; omega) ?_
        · intro w hw k2 hk2
          have hsw : smT w := by
            rcases List.mem_cons.mp hw with rfl | hw
            · exact hr
            · obtain ⟨b, hb1, rfl⟩ := List.mem_map.mp hw
              exact hb b hb1
          have hl := hsw.1
          rw [wgName_eq]
          rw [wdB_eq] at hk2
          simp! only [rD]
          refine ⟨by omega, ?_⟩
          have hm : ∀ x, D.bl x = D.bl (decide (0 < (w.length : Int)) && decide ((w.length : Int) < 13) && roomB w) → ∀ ρ3, wipeE ρ3 [13] = _ → k2 (.bl x) ρ3 := fun x e ρ3 h => e ▸ hk2 ρ3 h
          by_cases h2 : (0 : Int) < w.length
          · rw [decide_eq_true h2] at hm
            rw [if_pos h2]
            by_cases h3 : (w.length : Int) < 13
            · rw [decide_eq_true h3] at hm
              rw [if_pos h3]
              refine wLcL_mapT (fun c : Nat => D.str (tx [c])) (fun c => .bl (decide (c ∈ [76, 82]))) w [] ?_ (by simp [PySem.sizeLine_eq]; omega) ?_
              · intro c _ k4 hk4
                rw [wgName_eq]
                simp! only [show Str.ofString "LR" = tx [76, 82] from ofS _, dInW_sign]
                exact hk4 _ rfl
              · rw [List.nil_append, dAll_map]
                exact hm _ rfl _ rfl
            · rw [decide_eq_false h3] at hm
              rw [if_neg h3]
              exact hm _ rfl _ rfl
          · rw [decide_eq_false h2] at hm
            rw [if_neg h2]
            exact hm _ rfl _ rfl
        · rw [List.nil_append, dAll_map]
          refine hk1 _ ⟨_, rfl, ?_⟩
          rw [decide_eq_true h1, Bool.true_and]
      · rw [if_neg (by omega)]
        refine hk1 _ ⟨_, rfl, ?_⟩
        rw [decide_eq_false h1, Bool.false_and]
    rintro ρ ⟨g, rfl, hg⟩
    refine seq_mid (fun ρ => ρ = [some s0, some d, some t, some (.lst (blD bl)), some (.str (tx ring)), some (.str (tx odd)), some (.int often), some (.int kind), some (.int (at_ : Nat)), some (.lst ((ring :: bl.map Prod.fst).map rD)), some (.bl (gpB bl ring)), x11, x12, x13, x14, x15, some .non]) ?_ ?_
    · intro k1 hk1
      simp! only []
      have eg : gpB bl ring = (g && bl.all fun b => maB b.2) := by
        rw [hg, gpB_eq]
      cases g with
      | false =>
        rw [if_neg (by simp)]
        rw [Bool.false_and] at eg
        refine hk1 _ ?_
        rw [eg]
        rfl
      | true =>
        rw [if_pos rfl]
        refine wLcL_mapT (fun b : List Nat × Int => D.tup [.str (tx b.1), .int b.2]) (fun b => .bl (maB b.2)) bl [] ?_ (by simp [PySem.sizeLine_eq]; omega) ?_
        · intro b _ k2 hk2
          simp! only []
          rw [maB_eq] at hk2
          have hm : ∀ x, D.bl x = D.bl (decide (0 < b.2) && decide (b.2 < 10 ^ 30)) → ∀ ρ3, wipeE ρ3 [13, 14] = _ → k2 (.bl x) ρ3 := fun x e ρ3 h => e ▸ hk2 ρ3 h
          by_cases h2 : (0 : Int) < b.2
          · rw [decide_eq_true h2] at hm
            rw [if_pos h2]
            refine ⟨pw, ?_⟩
            simp! only []
            exact hm _ rfl _ rfl
          · rw [decide_eq_false h2] at hm
            rw [if_neg h2]
            exact hm _ rfl _ rfl
        · rw [List.nil_append, dAll_map]
          refine hk1 _ ?_
          rw [eg, Bool.true_and]
          rfl
    rintro ρ rfl
    simp! only [SpX_need_point]
    have hs : gpS bl ring := ⟨by omega, by have := hr.1; omega, fun b h => by have := (hb b h).1; omega⟩
    refine ⟨true, bl, ring, rfl, hs, ?_⟩
    have hnext : ∀ y12, k [some s0, some d, some t, some (.lst (blD bl)), some (.str (tx ring)), some (.str (tx odd)), some (.int often), some (.int kind), some (.int (at_ : Nat)), some (.lst ((ring :: bl.map Prod.fst).map rD)), some (.bl (gpB bl ring)), some (.lst (blD bl)), y12, x13, x14, x15, some .non] := fun y12 => hk _ ⟨d, _, _, _, _, _, _, _, _, _, _, _, _, _, _, rfl, hd.mono (by omega)⟩
    cases e : gpB bl ring with
    | true =>
      rw [e] at hnext
      rw [if_pos rfl]
      refine ⟨false, bl, ring, rfl, hs, ?_⟩
      rw [e, if_pos rfl, if_pos rfl]
      refine ⟨by omega, by omega, by decide, _, rfl, by decide +kernel, ?_⟩
      simp! only [dNe_blS fun b h => (hb b h).2]
      exact hnext _
    | false =>
      rw [e] at hnext
      have hbad : ∀ Ψ : D → Prop, Ψ (.tup [.str "no", .str "BadPoint"]) → wTold K l__law_tried (xW C_BadPoint "BadPoint") Ψ := fun Ψ h =>
        tw__law_tried _ _ ⟨_, exm2 (XS.h_ForkError.exm XS.s_BadPoint_ForkError) (XS.h_ShelfError.exm XS.s_BadPoint_ShelfError), XS.BadPoint.xf, XS.BadPoint_word, rfl, h⟩
      rw [if_neg (by simp)]
      refine hbad _ ⟨false, bl, ring, rfl, hs, ?_⟩
      rw [e, if_neg (by simp)]
      refine hbad _ ?_
      rw [if_neg (by simp)]
      refine ⟨by omega, by omega, by decide, _, rfl, by decide +kernel, ?_⟩
      simp! only [dNe_blS fun b h => (hb b h).2]
      exact hnext _
  · rintro ρ ⟨d, x2, x3, x4, x5, x6, x7, x8, x9, x10, x11, x12, x13, x14, x15, rfl, hd⟩
    simp! only [SpX_need_point]
    refine ⟨false, [], [76], by rw [ofS]; rfl, ⟨by simp, by simp, by simp⟩, ?_⟩
    rw [if_pos (by decide +kernel)]
    rfl


end
theorem all_mk {l : PySem.W.OpenLaw} {w : World} {K : PySem.W.Frag} {h : Heap} {mg : Str → Option Value} {fa : Addr} {C_BadPoint : Addr} {C_ForkError : Addr} {C_ShelfError : Addr} {nm_BadPoint q_BadPoint : Str} {N_BadPoint : Addr} {bs_BadPoint bm_BadPoint : List Value} {sn_BadPoint : List Str} {sub_BadPoint : List Value} {ab_BadPoint : Bool} {col_BadPoint : Option Bool} {dd_BadPoint : Option Addr} {m0_BadPoint m1_BadPoint m2_BadPoint m3_BadPoint m5_BadPoint : Option Value} {f0 : Addr} {od0 an0 : Option Addr} {sl0 : Array (Option Value)} {oc0 kV0 dc0 pm0 cd0 ct0 : Value} {f1 : Addr} {od1 an1 : Option Addr} {sl1 : Array (Option Value)} {oc1 kV1 dc1 pm1 cd1 ct1 : Value} {f2 : Addr} {od2 an2 : Option Addr} {sl2 : Array (Option Value)} {oc2 kV2 dc2 pm2 cd2 ct2 : Value} {f3 : Addr} {od3 an3 : Option Addr} {sl3 : Array (Option Value)} {oc3 kV3 dc3 pm3 cd3 ct3 : Value} {f4 : Addr} {od4 an4 : Option Addr} {sl4 : Array (Option Value)} {oc4 kV4 dc4 pm4 cd4 ct4 : Value} {f5 : Addr} {od5 an5 : Option Addr} {sl5 : Array (Option Value)} {oc5 kV5 dc5 pm5 cd5 ct5 : Value} {f6 : Addr} {od6 an6 : Option Addr} {sl6 : Array (Option Value)} {oc6 kV6 dc6 pm6 cd6 ct6 : Value} {f7 : Addr} {od7 an7 : Option Addr} {sl7 : Array (Option Value)} {oc7 kV7 dc7 pm7 cd7 ct7 : Value} {f8 : Addr} {od8 an8 : Option Addr} {sl8 : Array (Option Value)} {oc8 kV8 dc8 pm8 cd8 ct8 : Value} {f9 : Addr} {od9 an9 : Option Addr} {sl9 : Array (Option Value)} {oc9 kV9 dc9 pm9 cd9 ct9 : Value} {f10 : Addr} {od10 an10 : Option Addr} {sl10 : Array (Option Value)} {oc10 kV10 dc10 pm10 cd10 ct10 : Value} {f11 : Addr} {od11 an11 : Option Addr} {sl11 : Array (Option Value)} {oc11 kV11 dc11 pm11 ct11 : Value} {cL PL : Addr} {eL : Value} {ddL : Option Addr} {vsL : Array Value} {slL : Array (Option Value)} {v_BLOCKS : Value} {v_DEEP : Value} {v_FAR : Value} {v_SIGNS : Value} (X : K.In h) (G : h.Ns mainGlobals mg) (hfa : mg "law" = some (.ref fa)) (own : LamX.OwnTab K fa h)
    (aC_BadPoint : PySem.W.nsIn K mainGlobals "BadPoint" = some (some (.ref C_BadPoint))) (eb_BadPoint : PySem.W.subIn K (.ref C_BadPoint) (.type "BaseException") = some true) (hd_BadPoint : PySem.W.hasDictIn K C_BadPoint = true) (ty_BadPoint : PySem.W.typeIn K (.ref C_BadPoint) = some (.type "type"))
    (aC_ForkError : PySem.W.nsIn K mainGlobals "ForkError" = some (some (.ref C_ForkError))) (eb_ForkError : PySem.W.subIn K (.ref C_ForkError) (.type "BaseException") = some true) (hd_ForkError : PySem.W.hasDictIn K C_ForkError = true) (ty_ForkError : PySem.W.typeIn K (.ref C_ForkError) = some (.type "type"))
    (aC_ShelfError : PySem.W.nsIn K mainGlobals "ShelfError" = some (some (.ref C_ShelfError))) (eb_ShelfError : PySem.W.subIn K (.ref C_ShelfError) (.type "BaseException") = some true) (hd_ShelfError : PySem.W.hasDictIn K C_ShelfError = true) (ty_ShelfError : PySem.W.typeIn K (.ref C_ShelfError) = some (.type "type"))
    (lx_BadPoint : K.lookup C_BadPoint = some (excClassObj nm_BadPoint q_BadPoint C_BadPoint N_BadPoint bs_BadPoint bm_BadPoint true sn_BadPoint sub_BadPoint ab_BadPoint col_BadPoint dd_BadPoint m0_BadPoint m1_BadPoint m2_BadPoint m3_BadPoint m5_BadPoint "ValueError.__new__")) (rv_BadPoint : PySem.HandSPX.refsVE bm_BadPoint = true) (sa_BadPoint : PySem.W.findIn K (.ref C_BadPoint) "__setattr__" = some (some (.builtin "object.__setattr__"))) (ga_BadPoint : PySem.W.findIn K (.ref C_BadPoint) "__getattribute__" = some (some (.builtin "BaseException.__getattribute__"))) (gg_BadPoint : PySem.W.findIn K (.ref C_BadPoint) "__getattr__" = some none) (kc_BadPoint : PySem.W.keepIn K (.ref C_BadPoint) = true) (no_BadPoint_word : PySem.W.findIn K (.ref C_BadPoint) "word" = some none) (sb_BadPoint_ForkError : PySem.W.subIn K (.ref C_BadPoint) (.ref C_ForkError) = some true) (sb_BadPoint_ShelfError : PySem.W.subIn K (.ref C_BadPoint) (.ref C_ShelfError) = some false)
    (a0 : PySem.W.nsIn K mainGlobals "_law_bag" = some (some (.ref f0))) (l0 : K.lookup f0 = some ⟨oc0, od0, .func (PySem.W.fnOf "_law_bag" "_law_bag" (defArgs s__law_bag) (defBody s__law_bag) (defScope s__law_bag) .none kV0 dc0 pm0 an0 cd0 ct0), sl0⟩) (c0 : PySem.W.codeIn K cd0 "_law_bag" = true) (k0 : PySem.W.keepIn K (.ref f0) = true)
    (a1 : PySem.W.nsIn K mainGlobals "_law_pull" = some (some (.ref f1))) (l1 : K.lookup f1 = some ⟨oc1, od1, .func (PySem.W.fnOf "_law_pull" "_law_pull" (defArgs s__law_pull) (defBody s__law_pull) (defScope s__law_pull) .none kV1 dc1 pm1 an1 cd1 ct1), sl1⟩) (c1 : PySem.W.codeIn K cd1 "_law_pull" = true) (k1 : PySem.W.keepIn K (.ref f1) = true)
    (a2 : PySem.W.nsIn K mainGlobals "_law_of" = some (some (.ref f2))) (l2 : K.lookup f2 = some ⟨oc2, od2, .func (PySem.W.fnOf "_law_of" "_law_of" (defArgs s__law_of) (defBody s__law_of) (defScope s__law_of) .none kV2 dc2 pm2 an2 cd2 ct2), sl2⟩) (c2 : PySem.W.codeIn K cd2 "_law_of" = true) (k2 : PySem.W.keepIn K (.ref f2) = true)
    (a3 : PySem.W.nsIn K mainGlobals "_law_word" = some (some (.ref f3))) (l3 : K.lookup f3 = some ⟨oc3, od3, .func (PySem.W.fnOf "_law_word" "_law_word" (defArgs s__law_word) (defBody s__law_word) (defScope s__law_word) .none kV3 dc3 pm3 an3 cd3 ct3), sl3⟩) (c3 : PySem.W.codeIn K cd3 "_law_word" = true) (k3 : PySem.W.keepIn K (.ref f3) = true)
    (a4 : PySem.W.nsIn K mainGlobals "_law_point" = some (some (.ref f4))) (l4 : K.lookup f4 = some ⟨oc4, od4, .func (PySem.W.fnOf "_law_point" "_law_point" (defArgs s__law_point) (defBody s__law_point) (defScope s__law_point) .none kV4 dc4 pm4 an4 cd4 ct4), sl4⟩) (c4 : PySem.W.codeIn K cd4 "_law_point" = true) (k4 : PySem.W.keepIn K (.ref f4) = true)
    (a5 : PySem.W.nsIn K mainGlobals "_law_same" = some (some (.ref f5))) (l5 : K.lookup f5 = some ⟨oc5, od5, .func (PySem.W.fnOf "_law_same" "_law_same" (defArgs s__law_same) (defBody s__law_same) (defScope s__law_same) .none kV5 dc5 pm5 an5 cd5 ct5), sl5⟩) (c5 : PySem.W.codeIn K cd5 "_law_same" = true) (k5 : PySem.W.keepIn K (.ref f5) = true)
    (a6 : PySem.W.nsIn K mainGlobals "_law_tried" = some (some (.ref f6))) (l6 : K.lookup f6 = some ⟨oc6, od6, .func (PySem.W.fnOf "_law_tried" "_law_tried" (defArgs s__law_tried) (defBody s__law_tried) (defScope s__law_tried) .none kV6 dc6 pm6 an6 cd6 ct6), sl6⟩) (c6 : PySem.W.codeIn K cd6 "_law_tried" = true) (k6 : PySem.W.keepIn K (.ref f6) = true)
    (a7 : PySem.W.findIn K (.ref C_BadPoint) "__init__" = some (some (.ref f7))) (i7 : PySem.W.typeIn K (.ref f7) = some (.type "function")) (l7 : K.lookup f7 = some ⟨oc7, od7, .func (PySem.W.fnOf "__init__" "BadPoint.__init__" (defArgs s_BadPoint___init__) (defBody s_BadPoint___init__) (defScope s_BadPoint___init__) .none kV7 dc7 pm7 an7 cd7 ct7), sl7⟩) (c7 : PySem.W.codeIn K cd7 "BadPoint.__init__" = true) (k7 : PySem.W.keepIn K (.ref f7) = true)
    (a8 : PySem.W.nsIn K mainGlobals "is_room" = some (some (.ref f8))) (l8 : K.lookup f8 = some ⟨oc8, od8, .func (PySem.W.fnOf "is_room" "is_room" (defArgs s_is_room) (defBody s_is_room) (defScope s_is_room) .none kV8 dc8 pm8 an8 cd8 ct8), sl8⟩) (c8 : PySem.W.codeIn K cd8 "is_room" = true) (k8 : PySem.W.keepIn K (.ref f8) = true)
    (a9 : PySem.W.nsIn K mainGlobals "is_word" = some (some (.ref f9))) (l9 : K.lookup f9 = some ⟨oc9, od9, .func (PySem.W.fnOf "is_word" "is_word" (defArgs s_is_word) (defBody s_is_word) (defScope s_is_word) .none kV9 dc9 pm9 an9 cd9 ct9), sl9⟩) (c9 : PySem.W.codeIn K cd9 "is_word" = true) (k9 : PySem.W.keepIn K (.ref f9) = true)
    (a10 : PySem.W.nsIn K mainGlobals "need_point" = some (some (.ref f10))) (l10 : K.lookup f10 = some ⟨oc10, od10, .func (PySem.W.fnOf "need_point" "need_point" (defArgs s_need_point) (defBody s_need_point) (defScope s_need_point) .none kV10 dc10 pm10 an10 cd10 ct10), sl10⟩) (c10 : PySem.W.codeIn K cd10 "need_point" = true) (k10 : PySem.W.keepIn K (.ref f10) = true)
    (a11 : PySem.W.nsIn K mainGlobals "law" = some (some (.ref f11))) (l11 : K.lookup f11 = some ⟨oc11, od11, .func (PySem.W.fnOf "law" "law" (defArgs s_law) (defBody s_law) (defScope s_law) .none kV11 dc11 pm11 an11 (.ref cL) ct11), sl11⟩) (c11 : PySem.W.codeIn K (.ref cL) "law" = true) (k11 : PySem.W.keepIn K (.ref f11) = true) (lcL : K.lookup cL = some ⟨eL, ddL, .fields vsL, slL⟩) (h11L : vsL[11]? = some (.ref PL)) (hdL : PySem.W.codeHdIn K cL PL = true) (noL : K.lookup PL = none)
    (z_all : PySem.W.nsIn K mainGlobals "all" = some none)
    (z_bool : PySem.W.nsIn K mainGlobals "bool" = some none)
    (z_int : PySem.W.nsIn K mainGlobals "int" = some none)
    (z_isinstance : PySem.W.nsIn K mainGlobals "isinstance" = some none)
    (z_len : PySem.W.nsIn K mainGlobals "len" = some none)
    (z_list : PySem.W.nsIn K mainGlobals "list" = some none)
    (z_range : PySem.W.nsIn K mainGlobals "range" = some none)
    (z_str : PySem.W.nsIn K mainGlobals "str" = some none)
    (z_tuple : PySem.W.nsIn K mainGlobals "tuple" = some none)
    (x_BLOCKS : PySem.W.nsIn K mainGlobals "BLOCKS" = some (some v_BLOCKS)) (r_BLOCKS : ∃ t, v_BLOCKS = .int 8 t)
    (x_DEEP : PySem.W.nsIn K mainGlobals "DEEP" = some (some v_DEEP)) (r_DEEP : ∃ t, v_DEEP = .int 12 t)
    (x_FAR : PySem.W.nsIn K mainGlobals "FAR" = some (some v_FAR)) (r_FAR : ∃ t, v_FAR = .int 1000000000000000000000000000000 t)
    (x_SIGNS : PySem.W.nsIn K mainGlobals "SIGNS" = some (some v_SIGNS)) (r_SIGNS : ∃ t, v_SIGNS = .str "LR" t) :
    LamX.LawAtS l w K CX0 8 63 "script" mg fa h := by
  have e := hfa.symm.trans (PySem.W.mg_of X G a11)
  cases e
  have T : Tx K mg := ⟨PySem.W.mg_none_of X G z_all, PySem.W.mg_none_of X G z_bool, PySem.W.mg_none_of X G z_int, PySem.W.mg_none_of X G z_isinstance, PySem.W.mg_none_of X G z_len, PySem.W.mg_none_of X G z_list, PySem.W.mg_none_of X G z_range, PySem.W.mg_none_of X G z_str, PySem.W.mg_none_of X G z_tuple, r_BLOCKS.imp fun t e => by rw [← e]; exact PySem.W.mg_of X G x_BLOCKS, r_DEEP.imp fun t e => by rw [← e]; exact PySem.W.mg_of X G x_DEEP, r_FAR.imp fun t e => by rw [← e]; exact PySem.W.mg_of X G x_FAR, r_SIGNS.imp fun t e => by rw [← e]; exact PySem.W.mg_of X G x_SIGNS⟩
  have XS : Xs K mg C_BadPoint f7 C_ForkError C_ShelfError := ⟨⟨PySem.W.mg_of X G aC_BadPoint, ⟨⟨_, _, _, _, _, _, _, _, _, _, _, _, _, _, _, lx_BadPoint, rv_BadPoint⟩, sa_BadPoint, eb_BadPoint, ty_BadPoint, kc_BadPoint⟩, ⟨ga_BadPoint, gg_BadPoint, eb_BadPoint, hd_BadPoint⟩, a7, i7⟩, no_BadPoint_word, ⟨PySem.W.mg_of X G aC_ForkError, eb_ForkError, hd_ForkError, ty_ForkError⟩, sb_BadPoint_ForkError, ⟨PySem.W.mg_of X G aC_ShelfError, eb_ShelfError, hd_ShelfError, ty_ShelfError⟩, sb_BadPoint_ShelfError⟩
  have F__law_bag := fun_mk (st := s__law_bag) l0 c0 k0
  have D__law_bag : DefAt K mg "_law_bag" s__law_bag ["script"] _ _ := ⟨F__law_bag, PySem.W.mg_of X G a0, F__law_bag.binds (ps := ["script"]) fun _ _ _ _ _ _ us hl => match us, hl with | [_], _ => rfl⟩
  have F__law_pull := fun_mk (st := s__law_pull) l1 c1 k1
  have D__law_pull : DefAt K mg "_law_pull" s__law_pull ["bag", "sides"] _ _ := ⟨F__law_pull, PySem.W.mg_of X G a1, F__law_pull.binds (ps := ["bag", "sides"]) fun _ _ _ _ _ _ us hl => match us, hl with | [_, _], _ => rfl⟩
  have F__law_of := fun_mk (st := s__law_of) l2 c2 k2
  have D__law_of : DefAt K mg "_law_of" s__law_of ["bag", "some"] _ _ := ⟨F__law_of, PySem.W.mg_of X G a2, F__law_of.binds (ps := ["bag", "some"]) fun _ _ _ _ _ _ us hl => match us, hl with | [_, _], _ => rfl⟩
  have F__law_word := fun_mk (st := s__law_word) l3 c3 k3
  have D__law_word : DefAt K mg "_law_word" s__law_word ["bag", "low", "most"] _ _ := ⟨F__law_word, PySem.W.mg_of X G a3, F__law_word.binds (ps := ["bag", "low", "most"]) fun _ _ _ _ _ _ us hl => match us, hl with | [_, _, _], _ => rfl⟩
  have F__law_point := fun_mk (st := s__law_point) l4 c4 k4
  have D__law_point : DefAt K mg "_law_point" s__law_point ["bag", "greatest"] _ _ := ⟨F__law_point, PySem.W.mg_of X G a4, F__law_point.binds (ps := ["bag", "greatest"]) fun _ _ _ _ _ _ us hl => match us, hl with | [_, _], _ => rfl⟩
  have F__law_same := fun_mk (st := s__law_same) l5 c5 k5
  have D__law_same : DefAt K mg "_law_same" s__law_same ["found", "due"] _ _ := ⟨F__law_same, PySem.W.mg_of X G a5, F__law_same.binds (ps := ["found", "due"]) fun _ _ _ _ _ _ us hl => match us, hl with | [_, _], _ => rfl⟩
  have F__law_tried := fun_mk (st := s__law_tried) l6 c6 k6
  have D__law_tried : DefAt K mg "_law_tried" s__law_tried ["ask"] _ _ := ⟨F__law_tried, PySem.W.mg_of X G a6, F__law_tried.binds (ps := ["ask"]) fun _ _ _ _ _ _ us hl => match us, hl with | [_], _ => rfl⟩
  have F_BadPoint___init__ := fun_mk (st := s_BadPoint___init__) l7 c7 k7
  have D_BadPoint___init__ : InitAt K "BadPoint.__init__" s_BadPoint___init__ ["self"] _ _ := ⟨F_BadPoint___init__, F_BadPoint___init__.binds (ps := ["self"]) fun _ _ _ _ _ _ us hl => match us, hl with | [_], _ => rfl⟩
  have F_is_room := fun_mk (st := s_is_room) l8 c8 k8
  have D_is_room : DefAt K mg "is_room" s_is_room ["text"] _ _ := ⟨F_is_room, PySem.W.mg_of X G a8, F_is_room.binds (ps := ["text"]) fun _ _ _ _ _ _ us hl => match us, hl with | [_], _ => rfl⟩
  have F_is_word := fun_mk (st := s_is_word) l9 c9 k9
  have D_is_word : DefAt K mg "is_word" s_is_word ["text"] _ _ := ⟨F_is_word, PySem.W.mg_of X G a9, F_is_word.binds (ps := ["text"]) fun _ _ _ _ _ _ us hl => match us, hl with | [_], _ => rfl⟩
  have F_need_point := fun_mk (st := s_need_point) l10 c10 k10
  have D_need_point : DefAt K mg "need_point" s_need_point ["point"] _ _ := ⟨F_need_point, PySem.W.mg_of X G a10, F_need_point.binds (ps := ["point"]) fun _ _ _ _ _ _ us hl => match us, hl with | [_], _ => rfl⟩
  have F_law := fun_mk (st := s_law) l11 c11 k11
  have D_law : DefAt K mg "law" s_law ["script"] _ _ := ⟨F_law, PySem.W.mg_of X G a11, F_law.binds (ps := ["script"]) fun _ _ _ _ _ _ us hl => match us, hl with | [_], _ => rfl⟩
  refine lawT_at X hfa G own lcL h11L hdL noL a11 l11 (fun s v => .of_eq rfl) fun base _ _ hTB => ?_
  have G__law_bag := ok__law_bag (P := l.prog) (w := w) (base := base) F__law_bag T
  have G__law_pull := ok__law_pull (P := l.prog) (w := w) (base := base) F__law_pull T
  have G__law_of := ok__law_of (P := l.prog) (w := w) (base := base) F__law_of T D__law_pull G__law_pull
  have G__law_word := ok__law_word (P := l.prog) (w := w) (base := base) F__law_word T D__law_of G__law_of D__law_pull G__law_pull
  have G__law_point := ok__law_point (P := l.prog) (w := w) (base := base) F__law_point T D__law_of G__law_of D__law_pull G__law_pull D__law_word G__law_word
  have G__law_same := ok__law_same (P := l.prog) (w := w) (base := base) F__law_same T D__law_same 6
  have G__law_tried := ok__law_tried (f := f6) T XS
  have G_BadPoint___init__ := ini1 (P := l.prog) (w := w) (mg := mg) (base := base) F_BadPoint___init__ sc_BadPoint___init__ rfl XS.BadPoint.ox XS.BadPoint_word
  have G_is_room := ok_is_room (P := l.prog) (w := w) (base := base) F_is_room T
  have G_is_word := ok_is_word (P := l.prog) (w := w) (base := base) F_is_word T D_is_room G_is_room
  have G_need_point := ok_need_point (P := l.prog) (w := w) (base := base) F_need_point T XS D_BadPoint___init__ G_BadPoint___init__ D_is_word G_is_word
  exact ok_law l11 c11 hTB T XS D__law_bag G__law_bag D__law_of G__law_of D__law_point G__law_point D__law_pull G__law_pull D__law_same G__law_same D__law_tried G__law_tried D__law_word G__law_word D_need_point G_need_point
theorem walk {l : PySem.W.OpenLaw} {q : Program} {loose : List Str} {XP : (Str → Option Value) → Heap → Prop} {YP : World → Heap → Prop} {d : DefRec} {K : Params → PySem.W.Frag} (hn : l.most = some 63) (hdf : d.params.defaults = [])
    (hrec : ((PyProof.Rows.recsOf q).any fun e => e.name == d.name) = true) (hY : ∀ (w : World) (h : Heap), YP w h → (K w.params).In h)
    (F : ∀ (w : World) (mg : Str → Option Value) (fa : Addr) (h : Heap), YP w h → (K w.params).In h → h.Ns mainGlobals mg → mg d.name = some (.ref fa) → LamX.OwnTab (K w.params) fa h → LamX.LawAtS l w (K w.params) CX0 8 63 "script" mg fa h) :
    PySem.W.WalkO q loose XP YP l.row.toRowW d [] (fun f vs => PySem.call f vs) :=
  LamX.walk_ofOwn (n := 63) (k := 8) (x := "script") (CX := fun _ => CX0) hn (by decide) hdf ⟨rfl, by decide, by decide⟩ hrec hY F fun _ _ _ _ _ z => z
end K06
open PySem PySem.W PyProof.Rows
set_option maxRecDepth 100000 in
set_option maxHeartbeats 0 in
theorem PySem.Challenge.cw_forkwander_k06_points_that_are_good_holds : PySem.Challenge.rw_forkwander_k06_points_that_are_good.Holds := by
  w_on; o_law; k_head; (case hw => w_witness2)
  k_fill
  refine K06.walk (l := PySem.Challenge.rw_forkwander_k06_points_that_are_good) rfl rfl (by decide +kernel) (fun w h Y => PySem.W.km_in_of Y) ?F
  case F =>
    intro w mg fa h YY KX G hmg own
    refine' K06.all_mk KX G hmg own ?aC_BadPoint ?eb_BadPoint ?hd_BadPoint ?ty_BadPoint ?aC_ForkError ?eb_ForkError ?hd_ForkError ?ty_ForkError ?aC_ShelfError ?eb_ShelfError ?hd_ShelfError ?ty_ShelfError ?lx_BadPoint ?rv_BadPoint ?sa_BadPoint ?ga_BadPoint ?gg_BadPoint ?kc_BadPoint ?no_BadPoint_word ?sb_BadPoint_ForkError ?sb_BadPoint_ShelfError ?a0 ?l0 ?c0 ?k0 ?a1 ?l1 ?c1 ?k1 ?a2 ?l2 ?c2 ?k2 ?a3 ?l3 ?c3 ?k3 ?a4 ?l4 ?c4 ?k4 ?a5 ?l5 ?c5 ?k5 ?a6 ?l6 ?c6 ?k6 ?a7 ?i7 ?l7 ?c7 ?k7 ?a8 ?l8 ?c8 ?k8 ?a9 ?l9 ?c9 ?k9 ?a10 ?l10 ?c10 ?k10 ?a11 ?l11 ?c11 ?k11 ?lcL ?h11L ?hdL ?noL ?z_all ?z_bool ?z_int ?z_isinstance ?z_len ?z_list ?z_range ?z_str ?z_tuple ?x_BLOCKS ?r_BLOCKS ?x_DEEP ?r_DEEP ?x_FAR ?r_FAR ?x_SIGNS ?r_SIGNS
    (case aC_BadPoint => k_is); (case eb_BadPoint => k_is); (case hd_BadPoint => k_is); (case ty_BadPoint => k_is); (case aC_ForkError => k_is); (case eb_ForkError => k_is); (case hd_ForkError => k_is); (case ty_ForkError => k_is)
    (case aC_ShelfError => k_is); (case eb_ShelfError => k_is); (case hd_ShelfError => k_is); (case ty_ShelfError => k_is); (case lx_BadPoint => k_is); (case rv_BadPoint => decide +kernel); (case sa_BadPoint => k_is); (case ga_BadPoint => k_is)
    (case gg_BadPoint => k_is); (case kc_BadPoint => k_is); (case no_BadPoint_word => k_is); (case sb_BadPoint_ForkError => k_is); (case sb_BadPoint_ShelfError => k_is); (case a0 => k_is); (case l0 => k_is); (case c0 => k_is)
    (case k0 => k_is); (case a1 => k_is); (case l1 => k_is); (case c1 => k_is); (case k1 => k_is); (case a2 => k_is); (case l2 => k_is); (case c2 => k_is)
    (case k2 => k_is); (case a3 => k_is); (case l3 => k_is); (case c3 => k_is); (case k3 => k_is); (case a4 => k_is); (case l4 => k_is); (case c4 => k_is)
    (case k4 => k_is); (case a5 => k_is); (case l5 => k_is); (case c5 => k_is); (case k5 => k_is); (case a6 => k_is); (case l6 => k_is); (case c6 => k_is)
    (case k6 => k_is); (case a7 => k_is); (case i7 => k_is); (case l7 => k_is); (case c7 => k_is); (case k7 => k_is); (case a8 => k_is); (case l8 => k_is)
    (case c8 => k_is); (case k8 => k_is); (case a9 => k_is); (case l9 => k_is); (case c9 => k_is); (case k9 => k_is); (case a10 => k_is); (case l10 => k_is)
    (case c10 => k_is); (case k10 => k_is); (case a11 => k_is); (case l11 => k_is); (case c11 => k_is); (case k11 => k_is); (case lcL => k_is); (case h11L => exact rfl)
    (case hdL => kernel_rfl); (case noL => kernel_rfl); (case z_all => k_is); (case z_bool => k_is); (case z_int => k_is); (case z_isinstance => k_is); (case z_len => k_is); (case z_list => k_is)
    (case z_range => k_is); (case z_str => k_is); (case z_tuple => k_is); (case x_BLOCKS => k_is); (case r_BLOCKS => exact ⟨_, rfl⟩); (case x_DEEP => k_is); (case r_DEEP => exact ⟨_, rfl⟩); (case x_FAR => k_is)
    (case r_FAR => exact ⟨_, rfl⟩); (case x_SIGNS => k_is); (case r_SIGNS => exact ⟨_, rfl⟩)
