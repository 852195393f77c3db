import PyProof.Rows.All
import Wide.All
import OpenK.AllK
import Wide.FinOn
import KE.KStateDown
import Lean
import HandS.ForExc
import HandS.ForMost
import HandS.More
import HandS.Defaults
import HandS.Walk
import HandS.IsInst
import HandS.Wide
import HandS.TupAny
import HandS.Deep
import HandS.Codes
import HandS.Text
import HandS.TryOnly
import HandS.Zip
import HandS.Comp
import KE.DataFind
import PyProof.StrBlock2
import HandS.Style
import KE.KRevSl
import HandS.HeadHook1
import HandS.HeadHook2
import HandS.Head0
import HandS.Head1
import HandS.Head2
import HandS.HeadEnd
import HandS.HeadHook3
import PySem.Challenge.RW_roadsall_k10_plans_let_by
set_option Elab.async false
set_option linter.all false
set_option maxRecDepth 100000
set_option maxHeartbeats 2000000
/-! DL: data over the hand layer. Values as trees; mutable things as cells of a store, named by number. -/
namespace DL
open PySem PySem.Spec PyProof.Rows L2

inductive D where
  | non | bl (b : Bool) | int (i : Int) | str (l : List Nat)
  | tup (ds : List D) | lst (ds : List D) | dic (kvs : List (D × D)) | obj (C : Nat) (fs : List (Nat × D)) | ref (n : Nat)
  /-- a list that is only read -/
  | seq (ds : List D)
inductive Cell where
  | dead | lst (ds : List D) | dic (kvs : List (D × D)) | obj (C : Nat) (fs : List (Nat × D))
/-- the written part's names -/
structure Tb where
  K : PySem.W.Frag
  cls : Nat → Addr
  fld : Nat → Str
/-- what is frozen; where the cells stand -/
structure Fz where
  F : Hp
  A : List Addr
  /-- lists in the making -/
  L : List (Addr × List V)
structure Fz.le (g g' : Fz) : Prop where
  F : Same g.F g'.F
  A : g.A <+: g'.A
  L : g.L = g'.L
theorem Fz.le.refl {g : Fz} : g.le g := ⟨fun _ _ h => h, List.prefix_refl _, rfl⟩
theorem Fz.le.trans {g g' g2 : Fz} (a : g.le g') (b : g'.le g2) : g.le g2 := ⟨a.F.trans b.F, a.A.trans b.A, a.L.trans b.L⟩
structure Fz.ls (g g' : Fz) : Prop where
  F : Same g.F g'.F
  A : g.A <+: g'.A
theorem Fz.le.ls {g g' : Fz} (e : g.le g') : g.ls g' := ⟨e.F, e.A⟩
theorem Fz.ls.get {g g' : Fz} (e : g.ls g') {n : Nat} {a : Addr} (h : g.A[n]? = some a) : g'.A[n]? = some a := by
  obtain ⟨t, q⟩ := e.A
  have hl : n < g.A.length := (List.getElem?_eq_some_iff.mp h).1
  rw [← q, List.getElem?_append_left hl]; exact h

abbrev S (l : List Nat) : Str := ⟨l.toArray⟩

mutual
inductive Rep (T : Tb) (g : Fz) : D → V → Prop
  | non : Rep T g .non .non
  | bl (b : Bool) : Rep T g (.bl b) (.bl b)
  | int (i : Int) : Rep T g (.int i) (.int i)
  | str (l : List Nat) : Rep T g (.str l) (.str (S l))
  | tup {ds : List D} {a : Addr} {vs : List V} : SqT T.K g.F a vs → RepL T g ds vs → Rep T g (.tup ds) (.ref a)
  | lst {ds : List D} {a : Addr} {vs : List V} : g.F a = some (.lst vs) → RepL T g ds vs → Rep T g (.lst ds) (.ref a)
  | dic {kvs : List (D × D)} {a : Addr} {ks : List (Key × V)} : g.F a = some (.dK ks) → RepK T g kvs ks → Rep T g (.dic kvs) (.ref a)
  | obj {C : Nat} {fs : List (Nat × D)} {a dx : Addr} {gs : List (Str × V)} : g.F a = some (.ins (T.cls C) dx gs) → g.F dx = some (.own a) → RepF T g fs gs → Rep T g (.obj C fs) (.ref a)
  | ref {n : Nat} {a : Addr} : g.A[n]? = some a → Rep T g (.ref n) (.ref a)
  | seq {ds : List D} {a : Addr} {vs : List V} : SqL T.K g.F a vs → RepL T g ds vs → Rep T g (.seq ds) (.ref a)
inductive RepL (T : Tb) (g : Fz) : List D → List V → Prop
  | nil : RepL T g [] []
  | cons {d : D} {ds : List D} {v : V} {vs : List V} : Rep T g d v → RepL T g ds vs → RepL T g (d :: ds) (v :: vs)
inductive RepK (T : Tb) (g : Fz) : List (D × D) → List (Key × V) → Prop
  | nil : RepK T g [] []
  | cons {k d : D} {kvs : List (D × D)} {x : Key} {v : V} {ks : List (Key × V)} : Rep T g k (kV x) → Rep T g d v → RepK T g kvs ks → RepK T g ((k, d) :: kvs) ((x, v) :: ks)
inductive RepF (T : Tb) (g : Fz) : List (Nat × D) → List (Str × V) → Prop
  | nil : RepF T g [] []
  | cons {f : Nat} {d : D} {fs : List (Nat × D)} {v : V} {gs : List (Str × V)} : Rep T g d v → RepF T g fs gs → RepF T g ((f, d) :: fs) ((T.fld f, v) :: gs)
end

section
variable {T : Tb} {g g' : Fz} {H H' : Hp}
theorem SqT.mono {F F' : Hp} {K : PySem.W.Frag} {a : Addr} {xs : List V} (e : Same F F') (h : SqT K F a xs) : SqT K F' a xs := by
  rcases h with (h | ⟨o, h⟩) | h
  · exact .inl (.inl (e _ _ h))
  · exact .inl (.inr ⟨o, e _ _ h⟩)
  · exact .inr h
mutual
theorem Rep.mono' (e : g.ls g') : ∀ {d : D} {v : V}, Rep T g d v → Rep T g' d v
  | _, _, .non => .non
  | _, _, .bl b => .bl b
  | _, _, .int i => .int i
  | _, _, .str l => .str l
  | _, _, .tup h r => .tup (SqT.mono e.F h) (RepL.mono' e r)
  | _, _, .lst h r => .lst (e.F _ _ h) (RepL.mono' e r)
  | _, _, .dic h r => .dic (e.F _ _ h) (RepK.mono' e r)
  | _, _, .obj h h2 r => .obj (e.F _ _ h) (e.F _ _ h2) (RepF.mono' e r)
  | _, _, .ref h => .ref (e.get h)
  | _, _, .seq h r => .seq (e.F.seq h) (RepL.mono' e r)
theorem RepL.mono' (e : g.ls g') : ∀ {ds : List D} {vs : List V}, RepL T g ds vs → RepL T g' ds vs
  | _, _, .nil => .nil
  | _, _, .cons h t => .cons (Rep.mono' e h) (RepL.mono' e t)
theorem RepK.mono' (e : g.ls g') : ∀ {kvs : List (D × D)} {ks : List (Key × V)}, RepK T g kvs ks → RepK T g' kvs ks
  | _, _, .nil => .nil
  | _, _, .cons h1 h2 t => .cons (Rep.mono' e h1) (Rep.mono' e h2) (RepK.mono' e t)
theorem RepF.mono' (e : g.ls g') : ∀ {fs : List (Nat × D)} {gs : List (Str × V)}, RepF T g fs gs → RepF T g' fs gs
  | _, _, .nil => .nil
  | _, _, .cons h t => .cons (Rep.mono' e h) (RepF.mono' e t)
end
theorem Rep.mono (e : g.le g') {d : D} {v : V} (h : Rep T g d v) : Rep T g' d v := Rep.mono' e.ls h
theorem RepL.mono (e : g.le g') {d : List D} {v : List V} (h : RepL T g d v) : RepL T g' d v := RepL.mono' e.ls h
theorem RepK.mono (e : g.le g') {d : List (D × D)} {v : List (Key × V)} (h : RepK T g d v) : RepK T g' d v := RepK.mono' e.ls h
theorem RepF.mono (e : g.le g') {d : List (Nat × D)} {v : List (Str × V)} (h : RepF T g d v) : RepF T g' d v := RepF.mono' e.ls h
theorem RepL.length : ∀ {ds : List D} {vs : List V}, RepL T g ds vs → ds.length = vs.length
  | _, _, .nil => rfl
  | _, _, .cons _ t => congrArg Nat.succ (RepL.length t)
theorem RepL.append : ∀ {ds es : List D} {vs us : List V}, RepL T g ds vs → RepL T g es us → RepL T g (ds ++ es) (vs ++ us)
  | _, _, _, _, .nil, s => s
  | _, _, _, _, .cons r t, s => .cons r (RepL.append t s)
theorem RepL.get : ∀ {ds : List D} {vs : List V} {i : Nat} {d : D}, RepL T g ds vs → ds[i]? = some d → ∃ v, vs[i]? = some v ∧ Rep T g d v
  | _, _, _, _, .nil, e => by simp at e
  | _, _, 0, _, .cons r _, e => by simp at e; subst e; exact ⟨_, rfl, r⟩
  | _, _, i + 1, d, .cons _ t, e => by
    obtain ⟨v, h1, h2⟩ := RepL.get (i := i) (d := d) t (by simpa using e)
    exact ⟨v, by simpa using h1, h2⟩
theorem RepL.get' : ∀ {ds : List D} {vs : List V} {i : Nat} {v : V}, RepL T g ds vs → vs[i]? = some v → ∃ d, ds[i]? = some d ∧ Rep T g d v
  | _, _, _, _, .nil, e => by simp at e
  | _, _, 0, _, .cons r _, e => by simp at e; subst e; exact ⟨_, rfl, r⟩
  | _, _, i + 1, v, .cons _ t, e => by
    obtain ⟨d, h1, h2⟩ := RepL.get' (i := i) (v := v) t (by simpa using e)
    exact ⟨d, by simpa using h1, h2⟩
theorem RepL.take : ∀ {ds : List D} {vs : List V} (n : Nat), RepL T g ds vs → RepL T g (ds.take n) (vs.take n)
  | _, _, 0, _ => .nil
  | _, _, _ + 1, .nil => .nil
  | _, _, n + 1, .cons r t => .cons r (RepL.take n t)
theorem RepL.drop : ∀ {ds : List D} {vs : List V} (n : Nat), RepL T g ds vs → RepL T g (ds.drop n) (vs.drop n)
  | _, _, 0, r => r
  | _, _, _ + 1, .nil => .nil
  | _, _, n + 1, .cons _ t => RepL.drop n t
theorem RepL.set {d : D} {v : V} (r : Rep T g d v) : ∀ {ds : List D} {vs : List V} (i : Nat), RepL T g ds vs → RepL T g (ds.set i d) (vs.set i v)
  | _, _, _, .nil => .nil
  | _, _, 0, .cons _ t => .cons r t
  | _, _, i + 1, .cons q t => .cons q (RepL.set r i t)
theorem RepL.reverse : ∀ {ds : List D} {vs : List V}, RepL T g ds vs → RepL T g ds.reverse vs.reverse
  | _, _, .nil => .nil
  | _, _, .cons r t => by rw [List.reverse_cons, List.reverse_cons]; exact RepL.append (RepL.reverse t) (.cons r .nil)
theorem RepL.nil_of {vs : List V} (h : RepL T g [] vs) : vs = [] := by cases h; rfl
theorem RepL.cons_of {d : D} {ds : List D} {vs : List V} (h : RepL T g (d :: ds) vs) : ∃ v us, vs = v :: us ∧ Rep T g d v ∧ RepL T g ds us := by
  cases h with
  | cons r t => exact ⟨_, _, rfl, r, t⟩
theorem Rep.int_of {i : Int} {v : V} (h : Rep T g (.int i) v) : v = .int i := by cases h; rfl
theorem Rep.str_of {l : List Nat} {v : V} (h : Rep T g (.str l) v) : v = .str (S l) := by cases h; rfl
theorem Rep.bl_of {b : Bool} {v : V} (h : Rep T g (.bl b) v) : v = .bl b := by cases h; rfl
theorem Rep.non_of {v : V} (h : Rep T g .non v) : v = .non := by cases h; rfl
theorem Rep.tup_of {ds : List D} {v : V} (h : Rep T g (.tup ds) v) : ∃ a vs, v = .ref a ∧ SqT T.K g.F a vs ∧ RepL T g ds vs := by
  cases h with | tup h r => exact ⟨_, _, rfl, h, r⟩
theorem Rep.lst_ofH {ds : List D} {v : V} (h : Rep T g (.lst ds) v) : ∃ a vs, v = .ref a ∧ g.F a = some (.lst vs) ∧ RepL T g ds vs := by
  cases h with | lst h r => exact ⟨_, _, rfl, h, r⟩
theorem Rep.lst_of {ds : List D} {v : V} (h : Rep T g (.lst ds) v) : ∃ a vs, v = .ref a ∧ SqL T.K g.F a vs ∧ RepL T g ds vs := by
  cases h with | lst h r => exact ⟨_, _, rfl, SqL.of h, r⟩
theorem Rep.seq_of {ds : List D} {v : V} (h : Rep T g (.seq ds) v) : ∃ a vs, v = .ref a ∧ SqL T.K g.F a vs ∧ RepL T g ds vs := by
  cases h with | seq h r => exact ⟨_, _, rfl, h, r⟩
theorem Rep.ref_of {n : Nat} {v : V} (h : Rep T g (.ref n) v) : ∃ a, v = .ref a ∧ g.A[n]? = some a := by
  cases h with | ref h => exact ⟨_, rfl, h⟩

/-- a cell's content at its address -/
def CRep (T : Tb) (g : Fz) (H : Hp) : Cell → Addr → Prop
  | .dead, _ => True
  | .lst ds, a => ∃ vs, H a = some (.lst vs) ∧ RepL T g ds vs
  | .dic kvs, a => ∃ ks, H a = some (.dK ks) ∧ RepK T g kvs ks
  | .obj C fs, a => ∃ dx gs, H a = some (.ins (T.cls C) dx gs) ∧ H dx = some (.own a) ∧ g.F dx = none ∧ RepF T g fs gs

structure GoodS (T : Tb) (g : Fz) (H : Hp) (μ : List Cell) : Prop where
  sub : Same g.F H
  nd : g.A.Nodup
  has : ∀ a ∈ g.A, ∃ o, H a = some o
  len : g.A.length = μ.length
  cell : ∀ (n : Nat) (a : Addr) (c : Cell), g.A[n]? = some a → μ[n]? = some c → c ≠ .dead → g.F a = none ∧ CRep T g H c a
  hold : ∀ a vs, (a, vs) ∈ g.L → H a = some (.lst vs) ∧ a ∉ g.A ∧ g.F a = none
structure Rho where
  sl : List (Option D)
  st : List Cell
structure Good (T : Tb) (g : Fz) (H : Hp) (ρ : Rho) (σ : L2.St) : Prop where
  s : GoodS T g H ρ.st
  len : ρ.sl.length = σ.length
  slot : ∀ (i : Nat) (d : D), ρ.sl[i]? = some (some d) → ∃ v, σ[i]? = some (some v) ∧ Rep T g d v
theorem CRep.mono' (e : g.ls g') (hH : Same H H') (hF : ∀ a, H a ≠ none → g.F a = none → g'.F a = none) : ∀ {c : Cell} {a : Addr}, CRep T g H c a → CRep T g' H' c a
  | .dead, _, _ => trivial
  | .lst _, _, ⟨vs, h, r⟩ => ⟨vs, hH _ _ h, RepL.mono' e r⟩
  | .dic _, _, ⟨vs, h, r⟩ => ⟨vs, hH _ _ h, RepK.mono' e r⟩
  | .obj _ _, _, ⟨dx, gs, h, h2, h3, r⟩ => ⟨dx, gs, hH _ _ h, hH _ _ h2, hF _ (by rw [h2]; exact fun q => nomatch q) h3, RepF.mono' e r⟩
theorem CRep.mono (e : g.le g') (hH : Same H H') (hF : ∀ a, H a ≠ none → g.F a = none → g'.F a = none) {c : Cell} {a : Addr} (h : CRep T g H c a) : CRep T g' H' c a := CRep.mono' e.ls hH hF h
theorem Fz_none (hs : Same g.F H) {p : Addr} (hp : H p = none) : g.F p = none := by
  cases q : g.F p with
  | none => rfl
  | some u => rw [hs p u q] at hp; cases hp
theorem upd_same' {H : Hp} {p : Addr} {o : HO} (hp : H p = none) : Same H (upd H p o) := fun b u e => by
  rw [upd_ne (ne_of_none e hp)]; exact e
abbrev Fz.up (g : Fz) (p : Addr) (o : HO) : Fz := ⟨upd g.F p o, g.A, g.L⟩
abbrev Fz.ac (g : Fz) (p : Addr) : Fz := ⟨g.F, g.A ++ [p], g.L⟩
theorem Fz.up_le {p : Addr} {o : HO} (hp : g.F p = none) : g.le (g.up p o) := ⟨upd_same' hp, List.prefix_refl _, rfl⟩
theorem Fz.ac_le {p : Addr} : g.le (g.ac p) := ⟨fun _ _ h => h, List.prefix_append _ _, rfl⟩
/-- a new frozen thing -/
theorem GoodS.new {μ : List Cell} {p : Addr} {o : HO} (gd : GoodS T g H μ) (hp : H p = none) : GoodS T (g.up p o) (upd H p o) μ ∧ g.le (g.up p o) := by
  have hF := Fz_none gd.sub hp
  refine ⟨⟨fun a u e => ?_, gd.nd, fun a h => ?_, gd.len, fun n a c h1 h2 h3 => ?_, fun a vs h => ?_⟩, Fz.up_le hF⟩
  · have e : upd g.F p o a = some u := e
    by_cases z : a = p
    · subst z; rw [upd_same] at e ⊢; exact e
    · rw [upd_ne z] at e ⊢; exact gd.sub a u e
  · obtain ⟨u, q⟩ := gd.has a h
    exact ⟨u, upd_same' hp a u q⟩
  · obtain ⟨q1, q2⟩ := gd.cell n a c h1 h2 h3
    have hne : ∀ b, H b ≠ none → b ≠ p := fun b hb z => hb (z ▸ hp)
    obtain ⟨u, hu⟩ := gd.has a (List.mem_of_getElem? h1)
    refine ⟨?_, CRep.mono (Fz.up_le hF) (upd_same' hp) (fun b hb q => ?_) q2⟩
    · show upd g.F p o a = none
      rw [upd_ne (hne a (by rw [hu]; exact fun q => nomatch q))]; exact q1
    · show upd g.F p o b = none
      rw [upd_ne (hne b hb)]; exact q
  · obtain ⟨h1, h2, h3⟩ := gd.hold a vs h
    have z : a ≠ p := ne_of_none h1 hp
    exact ⟨by rw [upd_ne z]; exact h1, h2, by show upd g.F p o a = none; rw [upd_ne z]; exact h3⟩
abbrev Fz.hold (g : Fz) (p : Addr) (vs : List V) : Fz := ⟨g.F, g.A, (p, vs) :: g.L⟩
theorem Good.new {ρ : Rho} {σ : L2.St} {p : Addr} {o : HO} (gd : Good T g H ρ σ) (hp : H p = none) : Good T (g.up p o) (upd H p o) ρ σ ∧ g.le (g.up p o) := by
  obtain ⟨a, b⟩ := gd.s.new (o := o) hp
  exact ⟨⟨a, gd.len, fun i d h => by obtain ⟨v, h1, h2⟩ := gd.slot i d h; exact ⟨v, h1, h2.mono b⟩⟩, b⟩
/-- the slots stay -/
theorem Good.st {ρ : Rho} {σ : L2.St} {μ : List Cell} (gd : Good T g H ρ σ) (s : GoodS T g' H' μ) (e : g.le g') : Good T g' H' { ρ with st := μ } σ :=
  ⟨s, gd.len, fun i d h => by obtain ⟨v, h1, h2⟩ := gd.slot i d h; exact ⟨v, h1, h2.mono e⟩⟩
theorem CRep.upd_other {c : Cell} {a b : Addr} {o o' : HO} (hb : H b = some o) (ho : ∀ y, o ≠ .own y) (hab : a ≠ b) (h : CRep T g H c a) : CRep T g (upd H b o') c a := by
  cases c with
  | dead => trivial
  | lst ds => obtain ⟨vs, h, r⟩ := h; exact ⟨vs, by rw [upd_ne hab]; exact h, r⟩
  | dic ds => obtain ⟨vs, h, r⟩ := h; exact ⟨vs, by rw [upd_ne hab]; exact h, r⟩
  | obj C fs =>
    obtain ⟨dx, gs, h, h2, h3, r⟩ := h
    refine ⟨dx, gs, by rw [upd_ne hab]; exact h, ?_, h3, r⟩
    rw [upd_ne]
    · exact h2
    · intro z; subst z; rw [hb] at h2; exact ho _ (Option.some.inj h2)
/-- a new cell -/
theorem GoodS.cellNew {μ : List Cell} {p : Addr} {o : HO} {c : Cell} (gd : GoodS T g H μ) (hp : H p = none) (hc : CRep T (g.ac p) (upd H p o) c p) : GoodS T (g.ac p) (upd H p o) (μ ++ [c]) ∧ g.le (g.ac p) := by
  have hF := Fz_none gd.sub hp
  have hA : p ∉ g.A := fun h => by obtain ⟨u, q⟩ := gd.has p h; rw [hp] at q; cases q
  have le : g.le (g.ac p) := Fz.ac_le
  refine ⟨⟨gd.sub.trans (upd_same' hp), ?_, fun a h => ?_, by simp [gd.len], fun n a c' h1 h2 h3 => ?_, fun a vs h => ?_⟩, le⟩
  · show (g.A ++ [p]).Nodup
    rw [List.nodup_append]
    exact ⟨gd.nd, by simp, fun a ha b hb => by simp at hb; subst hb; exact fun z => hA (z ▸ ha)⟩
  · rcases List.mem_append.mp h with h | h
    · obtain ⟨u, q⟩ := gd.has a h
      exact ⟨u, upd_same' hp a u q⟩
    · obtain rfl : a = p := by simpa using h
      exact ⟨o, upd_same⟩
  · by_cases hn : n < g.A.length
    · have h1 : g.A[n]? = some a := by
        have h1 : (g.A ++ [p])[n]? = some a := h1
        rw [List.getElem?_append_left hn] at h1; exact h1
      rw [List.getElem?_append_left (by rw [← gd.len]; exact hn)] at h2
      obtain ⟨q1, q2⟩ := gd.cell n a c' h1 h2 h3
      exact ⟨q1, CRep.mono le (upd_same' hp) (fun _ _ q => q) q2⟩
    · have h1 : (g.A ++ [p])[n]? = some a := h1
      have hn' : g.A.length = n := by
        have := (List.getElem?_eq_some_iff.mp h1).1
        simp at this; omega
      subst hn'
      have e1 : a = p := by simpa using h1.symm
      rw [gd.len] at h2
      have e2 : c' = c := by simpa using h2.symm
      subst e1 e2
      exact ⟨hF, hc⟩
  · obtain ⟨h1, h2, h3⟩ := gd.hold a vs h
    have z : a ≠ p := ne_of_none h1 hp
    exact ⟨by rw [upd_ne z]; exact h1, fun q => by rcases List.mem_append.mp q with q | q; exact h2 q; exact z (by simpa using q), h3⟩
/-- a cell is written -/
theorem GoodS.put {μ : List Cell} {n : Nat} {a : Addr} {o o' : HO} {c : Cell} (gd : GoodS T g H μ) (hn : g.A[n]? = some a) (hF : g.F a = none) (ho : H a = some o) (hown : ∀ y, o ≠ .own y) (hc : CRep T g (upd H a o') c a) : GoodS T g (upd H a o') (μ.set n c) := by
  refine ⟨fun b u e => ?_, gd.nd, fun b h => ?_, by simp [gd.len], fun m b c' h1 h2 h3 => ?_, fun b vs h => ?_⟩
  · rw [upd_ne]
    · exact gd.sub b u e
    · intro z; subst z; rw [hF] at e; cases e
  · obtain ⟨u, q⟩ := gd.has b h
    by_cases z : b = a
    · subst z; exact ⟨_, upd_same⟩
    · exact ⟨u, by rw [upd_ne z]; exact q⟩
  · by_cases z : n = m
    · subst z
      have hl : n < μ.length := by rw [← gd.len]; exact (List.getElem?_eq_some_iff.mp hn).1
      rw [List.getElem?_set_self hl] at h2
      rw [hn] at h1
      cases h1; cases h2
      exact ⟨hF, hc⟩
    · rw [List.getElem?_set_ne z] at h2
      obtain ⟨q1, q2⟩ := gd.cell m b c' h1 h2 h3
      refine ⟨q1, q2.upd_other ho hown ?_⟩
      intro y; subst y
      apply z
      exact (List.getElem?_inj (List.getElem?_eq_some_iff.mp hn).1 gd.nd).mp (hn.trans h1.symm)
  · obtain ⟨h1, h2, h3⟩ := gd.hold b vs h
    have z : b ≠ a := fun z => h2 (z ▸ List.mem_of_getElem? hn)
    exact ⟨by rw [upd_ne z]; exact h1, h2, h3⟩
end

/-! ### outcomes -/
structure Exn where
  C : Nat
  fs : List (Nat × D)
inductive Out (α : Type) where
  | ok (a : α) (ρ : Rho) | exc (x : Exn) (ρ : Rho) | stuck
def Out.bind {α β : Type} (o : Out α) (g : α → Rho → Out β) : Out β := match o with
  | .ok a ρ => g a ρ
  | .exc x ρ => .exc x ρ
  | .stuck => .stuck
abbrev M (α : Type) := Rho → Out α
def M.bind {α β : Type} (f : M α) (g : α → M β) : M β := fun ρ => (f ρ).bind g
def M.pure {α : Type} (a : α) : M α := fun ρ => .ok a ρ
def M.stuck {α : Type} : M α := fun _ => .stuck

def XRep (T : Tb) (g : Fz) (H : Hp) (x : Exn) (cls : Value) (dd : Option Addr) : Prop := cls = .ref (T.cls x.C) ∧ match dd with
  | none => x.fs = []
  | some d => ∃ gs, H d = some (.xd gs) ∧ RepF T g x.fs gs

section
variable {α β γ δ : Type}
def Sat (T : Tb) (W : WX) (σ : L2.St) (R : Fz → α → β → Prop) (Q : β → Hp → Prop) (g : Fz) : Out α → Prop
  | .ok a ρ' => ∀ b H' g', Good T g' H' ρ' σ → R g' a b → g.le g' → Q b H'
  | .exc x ρ' => ∀ cls dd H' g', Good T g' H' ρ' σ → XRep T g' H' x cls dd → g.le g' → W cls dd σ H'
  | .stuck => False
variable {T : Tb} {W : WX} {σ : L2.St} {R : Fz → α → β → Prop} {R' : Fz → γ → δ → Prop} {Q : β → Hp → Prop} {Q' : δ → Hp → Prop} {g g1 : Fz} {H H1 : Hp}
theorem Sat.go (e : g.le g1) : ∀ {o : Out α}, Sat T W σ R Q g o → Sat T W σ R Q g1 o
  | .ok _ _, h => fun b H' g' a1 a2 a3 => h b H' g' a1 a2 (e.trans a3)
  | .exc _ _, h => fun c d H' g' a1 a2 a3 => h c d H' g' a1 a2 (e.trans a3)
  | .stuck, h => h
theorem Sat.map {Q2 : β → Hp → Prop} (hq : ∀ b H', Q b H' → Q2 b H') : ∀ {o : Out α}, Sat T W σ R Q g o → Sat T W σ R Q2 g o
  | .ok _ _, s => fun b H' g' a1 a2 a3 => hq _ _ (s b H' g' a1 a2 a3)
  | .exc _ _, s => s
  | .stuck, s => s
/-- the reading of a denotation -/
def TM (T : Tb) (W : WX) (R : Fz → α → β → Prop) (f : M α) (σ : L2.St) (H : Hp) (Q : β → Hp → Prop) : Prop := ∃ g ρ, Good T g H ρ σ ∧ Sat T W σ R Q g (f ρ)
theorem TM.mono {f : M α} {Q2 : β → Hp → Prop} (h : TM T W R f σ H Q) (hq : ∀ b H', Q b H' → Q2 b H') : TM T W R f σ H Q2 := by
  obtain ⟨F, ρ, gd, s⟩ := h
  exact ⟨F, ρ, gd, s.map hq⟩
/-- a second part behind what a first one handed on -/
theorem TM.next {ρ1 : Rho} {f : M α} {k : α → M γ} (gd : Good T g1 H1 ρ1 σ) (h : Sat T W σ R' Q' g1 ((f.bind k) ρ1)) :
    TM T W R f σ H1 (fun b H2 => ∃ a g2 ρ2, R g2 a b ∧ g1.le g2 ∧ Good T g2 H2 ρ2 σ ∧ Sat T W σ R' Q' g2 (k a ρ2)) := by
  refine ⟨g1, ρ1, gd, ?_⟩
  unfold M.bind at h
  revert h
  cases f ρ1 with
  | ok a ρ' => exact fun h b H' g' a1 a2 a3 => ⟨a, g', ρ', a2, a3, a1, Sat.go a3 h⟩
  | exc x ρ' => exact fun h => h
  | stuck => exact fun h => h
theorem TM.start {f : M α} {k : α → M γ} (h : TM T W R' (f.bind k) σ H Q') : TM T W R f σ H (fun b H2 => ∃ a g2 ρ2, R g2 a b ∧ Good T g2 H2 ρ2 σ ∧ Sat T W σ R' Q' g2 (k a ρ2)) := by
  obtain ⟨F, ρ, gd, s⟩ := h
  exact (TM.next gd s).mono fun b H' ⟨a, F2, ρ2, r, _, g1, q⟩ => ⟨a, F2, ρ2, r, g1, q⟩
end
abbrev RD (T : Tb) : Fz → D → V → Prop := fun g d v => Rep T g d v
abbrev RA (T : Tb) : Fz → List D → List V → Prop := fun g d v => RepL T g d v
abbrev RB : Fz → Bool → Bool → Prop := fun _ a b => a = b
/-- an end without a change of the heap -/
theorem Sat.here {α β : Type} {T : Tb} {W : WX} {σ : L2.St} {R : Fz → α → β → Prop} {Q : β → Hp → Prop} {g : Fz} {H : Hp} {ρ : Rho} {a : α} {b : β} (gd : Good T g H ρ σ) (r : R g a b) (h : Sat T W σ R Q g (.ok a ρ)) : Q b H :=
  h b H g gd r .refl
/-- a new frozen object -/
theorem Sat.new {α : Type} {T : Tb} {W : WX} {σ : L2.St} {R : Fz → α → V → Prop} {Q : VK} {g : Fz} {H : Hp} {ρ : Rho} {d : α} {p : Addr} {o : HO} (gd : Good T g H ρ σ) (hp : H p = none)
    (r : g.le (g.up p o) → (g.up p o).F p = some o → R (g.up p o) d (.ref p)) (h : Sat T W σ R Q g (.ok d ρ)) : Q (.ref p) (upd H p o) := by
  obtain ⟨g1, g2⟩ := gd.new (o := o) hp
  exact h _ _ _ g1 (r g2 upd_same) g2
/-- a new list, frozen or as a cell -/
def newL (c : Bool) (ds : List D) : M D := fun ρ => if c then .ok (.ref ρ.st.length) { ρ with st := ρ.st ++ [.lst ds] } else .ok (.lst ds) ρ
theorem Sat.newL {T : Tb} {W : WX} {σ : L2.St} {Q : VK} {g : Fz} {H : Hp} {ρ : Rho} {c : Bool} {ds : List D} {vs : List V} {p : Addr} (gd : Good T g H ρ σ) (hp : H p = none) (r : RepL T g ds vs)
    (h : Sat T W σ (RD T) Q g (newL c ds ρ)) : Q (.ref p) (upd H p (.lst vs)) := by
  cases c with
  | false => exact Sat.new gd hp (fun e1 e2 => .lst e2 (r.mono e1)) h
  | true =>
    have le : g.le (g.ac p) := Fz.ac_le
    obtain ⟨g1, g2⟩ := gd.s.cellNew (o := .lst vs) (c := .lst ds) hp ⟨vs, upd_same, r.mono le⟩
    refine h _ _ _ (gd.st g1 g2) (.ref ?_) g2
    show (g.A ++ [p])[ρ.st.length]? = some p
    rw [← gd.s.len]; simp

/-! ### judgements -/
def SE (T : Tb) (X : Cx) (W : WX) (e : Expr) (f : M D) : Prop := PE X e (TM T W (RD T) f)
theorem PE_imp {X : Cx} {e : Expr} {t t' : TE} (h : PE X e t) (i : ∀ σ H Q, t' σ H Q → t σ H Q) : PE X e t' := ⟨fun pins s σ H Q I q => h.run pins s σ H Q I (i _ _ _ q)⟩
theorem PA_imp {X : Cx} {e : List Expr} {t t' : TA} (h : PA X e t) (i : ∀ σ H Q, t' σ H Q → t σ H Q) : PA X e t' := ⟨fun pos pins s σ H Q I q => h.run pos pins s σ H Q I (i _ _ _ q)⟩
theorem PT_imp {X : Cx} {e : Expr} {t t' : TT} (h : PT X e t) (i : ∀ σ H Q, t' σ H Q → t σ H Q) : PT X e t' := ⟨fun pins s σ H Q I q => h.run pins s σ H Q I (i _ _ _ q)⟩
theorem PS_imp {X : Cx} {e : Stmt} {t t' : TS} (h : PS X e t) (i : ∀ D σ H, t' D σ H → t D σ H) : PS X e t' := ⟨fun pins s σ H D I q => h.run pins s σ H D I (i _ _ _ q)⟩
theorem PSs_imp {X : Cx} {e : List Stmt} {t t' : TS} (h : PSs X e t) (i : ∀ D σ H, t' D σ H → t D σ H) : PSs X e t' := ⟨fun pins s σ H D I q => h.run pins s σ H D I (i _ _ _ q)⟩
end DL
set_option Elab.async false
set_option linter.all false
set_option maxRecDepth 100000
set_option maxHeartbeats 2000000
namespace DL
open PySem PySem.Spec PyProof.Rows L2
/-! ### data and the library's data -/
mutual
def pyOf : D → PyData
  | .non => .none
  | .bl b => .bool b
  | .int i => .int i
  | .str l => .str (S l)
  | .tup ds => .tuple (pyOfs ds)
  | .lst ds => .list (pyOfs ds)
  | .dic _ => .none
  | .obj _ _ => .none
  | .ref _ => .none
  | .seq _ => .none
def pyOfs : List D → List PyData
  | [] => []
  | d :: ds => pyOf d :: pyOfs ds
end
mutual
/-- of none, bools, ints, texts, tuples, lists alone -/
def plainD : D → Bool
  | .tup ds => plainDs ds
  | .lst ds => plainDs ds
  | .dic _ => false
  | .obj _ _ => false
  | .ref _ => false
  | .seq _ => false
  | _ => true
def plainDs : List D → Bool
  | [] => true
  | d :: ds => plainD d && plainDs ds
end
def okD (d : D) : Bool := plainD d && SeqAt.shaped (pyOf d)
def flatD : D → Bool
  | .non => true
  | .bl _ => true
  | .int _ => true
  | .str _ => true
  | _ => false
def isNonD : D → Bool
  | .non => true
  | _ => false
/-! ### operators -/
inductive BinK where
  | add | sub | mul | fdiv | mod | pow | shr
inductive CmpK where
  | eq | ne | lt | le | gt | ge | isIn | notIn | isN | notN
abbrev LIM : Nat := 16777216
def rep {α : Type} (l : List α) (n : Int) : List α := (List.replicate n.toNat l).flatten
def binD : BinK → D → D → Option D
  | .add, .int i, .int j => some (.int (i + j))
  | .add, .str a, .str b => if a.length + b.length ≤ LIM then some (.str (a ++ b)) else none
  | .add, .tup a, .tup b => if a.length + b.length ≤ LIM then some (.tup (a ++ b)) else none
  | .sub, .int i, .int j => some (.int (i - j))
  | .mul, .int i, .int j => if i.natAbs < 2 ^ 64 ∨ j.natAbs < 2 ^ 64 then some (.int (i * j)) else none
  | .fdiv, .int i, .int j => if 0 < j ∧ j.natAbs.log2 < 9000 then some (.int (i / j)) else none
  | .mod, .int i, .int j => if 0 < j then some (.int (i % j)) else none
  | .pow, .int i, .int j => if 0 ≤ j ∧ j ≤ 1000000 ∧ i.natAbs < 2 ^ 64 then some (.int (i ^ j.toNat)) else none
  | .shr, .int i, .int j => if 0 ≤ j then some (.int (i / 2 ^ j.toNat)) else none
  | _, _, _ => none
def cmpD : CmpK → D → D → Option Bool
  | .eq, a, b => if okD a && okD b then some (PyData.eqv (pyOf a) (pyOf b)) else none
  | .ne, a, b => if okD a && okD b then some (!PyData.eqv (pyOf a) (pyOf b)) else none
  | .lt, .int i, .int j => some (decide (i < j))
  | .le, .int i, .int j => some (decide (i ≤ j))
  | .gt, .int i, .int j => some (decide (j < i))
  | .ge, .int i, .int j => some (decide (j ≤ i))
  | .isIn, a, .lst ds => if okD a && okD (.lst ds) then some ((pyOfs ds).any fun z => PyData.eqv z (pyOf a)) else none
  | .notIn, a, .lst ds => if okD a && okD (.lst ds) then some (!(pyOfs ds).any fun z => PyData.eqv z (pyOf a)) else none
  | .isIn, a, .tup ds => if flatD a && ds.all flatD then some ((pyOfs ds).any fun z => PyData.eqv z (pyOf a)) else none
  | .notIn, a, .tup ds => if flatD a && ds.all flatD then some (!(pyOfs ds).any fun z => PyData.eqv z (pyOf a)) else none
  | .isIn, .str [c], .str l => some (decide (c ∈ l))
  | .notIn, .str [c], .str l => some (!decide (c ∈ l))
  | .isN, a, .non => some (isNonD a)
  | .notN, a, .non => some (!isNonD a)
  | _, _, _ => none
def idxD : D → D → Option D
  | .tup ds, .int i => atI ds i
  | .lst ds, .int i => atI ds i
  | .seq ds, .int i => atI ds i
  | .str l, .int i => if l.length ≤ LIM then (atI l i).map fun c => .str [c] else none
  | _, _ => none
/-- the heap as it was, or with one new frozen thing -/
def Adv (g : Fz) (H : Hp) (g' : Fz) (H' : Hp) : Prop := (H' = H ∧ g' = g) ∨ ∃ p o, H p = none ∧ H' = upd H p o ∧ g' = g.up p o
theorem Adv.good {T : Tb} {g g' : Fz} {H H' : Hp} {ρ : Rho} {σ : L2.St} (gd : Good T g H ρ σ) (a : Adv g H g' H') : Good T g' H' ρ σ ∧ g.le g' := by
  rcases a with ⟨rfl, rfl⟩ | ⟨p, o, hp, rfl, rfl⟩
  · exact ⟨gd, .refl⟩
  · exact gd.new hp
def opOf : BinK → Operator
  | .add => .Add | .sub => .Sub | .mul => .Mult | .fdiv => .FloorDiv | .mod => .Mod | .pow => .Pow | .shr => .RShift
def cmpOf : CmpK → CmpOp
  | .eq => .Eq | .ne => .NotEq | .lt => .Lt | .le => .LtE | .gt => .Gt | .ge => .GtE | .isIn => .In | .notIn => .NotIn | .isN => .Is | .notN => .IsNot
def rBin (T : Tb) (k : BinK) : R2 := fun x y H Q => ∃ g d e c, Same g.F H ∧ Rep T g d x ∧ Rep T g e y ∧ binD k d e = some c ∧ ∀ g' H' z, Rep T g' c z → Adv g H g' H' → Q z H'
def rCmp (T : Tb) (k : CmpK) : R2 := fun x y H Q => ∃ g d e c, Same g.F H ∧ Rep T g d x ∧ Rep T g e y ∧ cmpD k d e = some c ∧ Q (.bl c) H
section
variable {T : Tb} {X : Cx}
theorem S_app (a b : List Nat) : S a ++ S b = S (a ++ b) := SX.S_cat a b
theorem len_S (a : List Nat) : (S a).length = a.length := SX.S_len a

theorem sz : sizeLine = LIM := sizeLine_eq
/-- rI-like rules, from one of them -/
theorem opI_of {f : Value → Value → Sem Value} {C : Int → Int → Prop} {g : Int → Int → V} (h : OpR X f (rI C g)) {r : R2} (hr : ∀ x y H Q, r x y H Q → ∃ i j, x = V.int i ∧ y = V.int j ∧ C i j ∧ Q (g i j) H) : OpR X f r :=
  fun pins s σ H x y v u Q I rx ry q => h pins s σ H x y v u Q I rx ry (hr x y H Q q)
theorem OpR.imp {f : Value → Value → Sem Value} {r r' : R2} (h : OpR X f r) (i : ∀ x y H Q, r' x y H Q → r x y H Q) : OpR X f r' :=
  fun pins s σ H x y v u Q I rx ry q => h pins s σ H x y v u Q I rx ry (i x y H Q q)
theorem adv0 {g : Fz} {H : Hp} : Adv g H g H := .inl ⟨rfl, rfl⟩
theorem bin_ok (hK : T.K = X.K) : ∀ k : BinK, OpR X (binaryOp (opOf k)) (rBin T k)
  | .sub => OpR.imp op_sub fun x y H Q ⟨g, d, e, c, hs, rx, ry, hb, q⟩ => by
    cases d <;> cases e <;> try (simp [binD] at hb; done)
    rename_i i j
    obtain rfl := rx.int_of; obtain rfl := ry.int_of
    simp only [binD, Option.some.injEq] at hb; subst hb
    exact ⟨i, j, rfl, rfl, q g H _ (.int _) adv0⟩
  | .mul => OpR.imp op_mul fun x y H Q ⟨g, d, e, c, hs, rx, ry, hb, q⟩ => by
    cases d <;> cases e <;> try (simp [binD] at hb; done)
    rename_i i j
    obtain rfl := rx.int_of; obtain rfl := ry.int_of
    simp only [binD] at hb
    split at hb
    · rename_i hc
      simp only [Option.some.injEq] at hb; subst hb
      refine ⟨i, j, rfl, rfl, ?_, q g H _ (.int _) adv0⟩
      rcases hc with hc | hc
      · exact .inl ⟨by omega, by omega⟩
      · exact .inr ⟨by omega, by omega⟩
    · cases hb
  | .fdiv => OpR.imp op_fdivW fun x y H Q ⟨g, d, e, c, hs, rx, ry, hb, q⟩ => by
    cases d <;> cases e <;> try (simp [binD] at hb; done)
    rename_i i j
    obtain rfl := rx.int_of; obtain rfl := ry.int_of
    simp only [binD] at hb
    split at hb
    · rename_i hc
      simp only [Option.some.injEq] at hb; subst hb
      exact ⟨i, j, rfl, rfl, hc, q g H _ (.int _) adv0⟩
    · cases hb
  | .mod => OpR.imp op_mod fun x y H Q ⟨g, d, e, c, hs, rx, ry, hb, q⟩ => by
    cases d <;> cases e <;> try (simp [binD] at hb; done)
    rename_i i j
    obtain rfl := rx.int_of; obtain rfl := ry.int_of
    simp only [binD] at hb
    split at hb
    · rename_i hc
      simp only [Option.some.injEq] at hb; subst hb
      exact ⟨i, j, rfl, rfl, hc, q g H _ (.int _) adv0⟩
    · cases hb
  | .pow => OpR.imp op_pow fun x y H Q ⟨g, d, e, c, hs, rx, ry, hb, q⟩ => by
    cases d <;> cases e <;> try (simp [binD] at hb; done)
    rename_i i j
    obtain rfl := rx.int_of; obtain rfl := ry.int_of
    simp only [binD] at hb
    split at hb
    · rename_i hc
      simp only [Option.some.injEq] at hb; subst hb
      exact ⟨i, j, rfl, rfl, hc, q g H _ (.int _) adv0⟩
    · cases hb
  | .shr => OpR.imp op_shr fun x y H Q ⟨g, d, e, c, hs, rx, ry, hb, q⟩ => by
    cases d <;> cases e <;> try (simp [binD] at hb; done)
    rename_i i j
    obtain rfl := rx.int_of; obtain rfl := ry.int_of
    simp only [binD] at hb
    split at hb
    · rename_i hc
      simp only [Option.some.injEq] at hb; subst hb
      exact ⟨i, j, rfl, rfl, hc, q g H _ (.int _) adv0⟩
    · cases hb
  | .add => OpR.imp (op_add.or (op_add_str.or op_catA)) fun x y H Q ⟨g, d, e, c, hs, rx, ry, hb, q⟩ => by
    cases d <;> cases e <;> try (simp [binD] at hb; done)
    · rename_i i j
      obtain rfl := rx.int_of; obtain rfl := ry.int_of
      simp only [binD, Option.some.injEq] at hb; subst hb
      exact .inl ⟨i, j, rfl, rfl, q g H _ (.int _) adv0⟩
    · rename_i a b
      obtain rfl := rx.str_of; obtain rfl := ry.str_of
      simp only [binD] at hb
      split at hb
      · rename_i hc
        simp only [Option.some.injEq] at hb; subst hb
        refine .inr (.inl ⟨S a, S b, rfl, rfl, by rw [len_S, len_S, sz]; exact hc, ?_⟩)
        rw [S_app]
        exact q g H _ (.str _) adv0
      · cases hb
    · rename_i a b
      obtain ⟨p, vs, rfl, hp, rp⟩ := rx.tup_of
      obtain ⟨p', us, rfl, hp', rp'⟩ := ry.tup_of
      simp only [binD] at hb
      split at hb
      · rename_i hc
        simp only [Option.some.injEq] at hb; subst hb
        have l1 := rp.length
        have l2 := rp'.length
        refine .inr (.inr ⟨p, p', vs, us, rfl, rfl, hK ▸ SqT.mono hs hp, hK ▸ SqT.mono hs hp', by rw [sz]; omega, fun e => ?_, fun n e => ?_, fun n m r hr => ?_⟩)
        · subst e
          have ea : a = [] := List.eq_nil_of_length_eq_zero (by rw [l1]; rfl)
          subst ea
          exact q g H _ (.tup hp' rp') adv0
        · subst e
          have eb : b = [] := List.eq_nil_of_length_eq_zero (by rw [l2]; rfl)
          subst eb
          rw [List.append_nil] at q
          exact q g H _ (.tup hp rp) adv0
        · have hF : g.F r = none := by
            cases z : g.F r with
            | none => rfl
            | some u => rw [hs r u z] at hr; cases hr
          have e1 : g.le (g.up r (.tup (vs ++ us))) := Fz.up_le hF
          exact q _ _ _ (.tup (SqT.of upd_same) (RepL.append (RepL.mono e1 rp) (RepL.mono e1 rp'))) (.inr ⟨r, _, hr, rfl, rfl⟩)
      · cases hb
end
theorem op_notin_sign {X : Cx} : OpR X (compareOp .NotIn) (fun x y H Q => ∃ (c : Nat) (z : Str), x = .str ⟨#[c]⟩ ∧ y = .str z ∧ Q (.bl (!decide (c ∈ z.cps.toList))) H) := by
  intro pins s σ H x y v u Q I rx ry h
  obtain ⟨c, z, rfl, rfl, q⟩ := h
  refine op_notin_str pins s σ H _ _ v u Q I rx ry ⟨⟨#[c]⟩, z, rfl, rfl, ?_⟩
  have e := StrLaws.found_one z c
  rw [e]; exact q
/-! ### comparisons -/
section
variable {T : Tb} {X : Cx} {g : Fz} {H : Hp}
mutual
theorem Rep.dp (hs : Same g.F H) : ∀ {d : D} {v : V}, plainD d = true → Rep T g d v → Dp T.K H v (pyOf d)
  | .non, _, _, h => by obtain rfl := h.non_of; simp only [pyOf]; exact .non
  | .bl b, _, _, h => by obtain rfl := h.bl_of; simp only [pyOf]; exact .bl b
  | .int i, _, _, h => by obtain rfl := h.int_of; simp only [pyOf]; exact .int i
  | .str l, _, _, h => by obtain rfl := h.str_of; simp only [pyOf]; exact .str _
  | .tup ds, _, p, h => by
    obtain ⟨a, vs, rfl, ha, r⟩ := h.tup_of
    simp only [pyOf]
    simp only [plainD] at p
    exact .tup (SqT.mono hs ha) (RepL.dp hs p r)
  | .lst ds, _, p, h => by
    obtain ⟨a, vs, rfl, ha, r⟩ := h.lst_of
    simp only [pyOf]
    simp only [plainD] at p
    exact .lst (hs.seq ha) (RepL.dp hs p r)
  | .dic _, _, p, _ => by simp [plainD] at p
  | .obj _ _, _, p, _ => by simp [plainD] at p
  | .ref _, _, p, _ => by simp [plainD] at p
  | .seq _, _, p, _ => by simp [plainD] at p
theorem RepL.dp (hs : Same g.F H) : ∀ {ds : List D} {vs : List V}, plainDs ds = true → RepL T g ds vs → DpAll T.K H vs (pyOfs ds)
  | [], _, _, h => by cases h; simp only [pyOfs]; exact .nil
  | d :: ds, _, p, h => by
    obtain ⟨v, us, rfl, r, t⟩ := h.cons_of
    simp only [plainDs, Bool.and_eq_true] at p
    simp only [pyOfs]
    exact .cons (Rep.dp hs p.1 r) (RepL.dp hs p.2 t)
end
theorem flatV_of {d : D} {v : V} (h : flatD d = true) (r : Rep T g d v) : flatV v = true := by
  cases d <;> first | (cases h; done) | (cases r; rfl)
theorem flats_of : ∀ {ds : List D} {vs : List V}, ds.all flatD = true → RepL T g ds vs → vs.all flatV = true
  | _, _, _, .nil => rfl
  | _, _, h, .cons r t => by
    rw [List.all_cons, Bool.and_eq_true] at h ⊢
    exact ⟨flatV_of h.1 r, flats_of h.2 t⟩
theorem eqV_of {d e : D} {v u : V} (h : flatD d = true) (h' : flatD e = true) (r : Rep T g d v) (r' : Rep T g e u) : eqV v u = PyData.eqv (pyOf d) (pyOf e) := by
  cases d <;> first | (cases h; done) | skip
  all_goals (cases e <;> first | (cases h'; done) | skip)
  all_goals (cases r; cases r'; simp only [pyOf, PyData.eqv, eqV]; first | rfl | (simp only [S_beq']; done) | (rw [Bool.eq_iff_iff]; simp) | skip)

theorem inV_of {d : D} {v : V} (h : flatD d = true) (r : Rep T g d v) : ∀ (ds : List D) (vs : List V), ds.all flatD = true → RepL T g ds vs → inV v vs = (pyOfs ds).any fun z => PyData.eqv z (pyOf d)
  | [], _, _, h' => by cases h'; simp [inV, pyOfs]
  | e :: ds, _, h', h2 => by
    obtain ⟨u, us, rfl, r', t⟩ := h2.cons_of
    rw [List.all_cons, Bool.and_eq_true] at h'
    have ih := inV_of h r ds us h'.2 t
    unfold inV at ih ⊢
    rw [List.any_cons, eqV_of h'.1 h r' r, ih]
    simp only [pyOfs, List.any_cons]
theorem okD_of {d : D} (h : okD d = true) : plainD d = true ∧ SeqAt.shaped (pyOf d) = true := by
  unfold okD at h; rwa [Bool.and_eq_true] at h
theorem Rep.nonD {a : D} {x : V} (r : Rep T g a x) : isNonD a = decide (x = .non) := by
  cases r <;> simp [isNonD]
theorem cmp_ok (hK : T.K = X.K) (hu : X.A.units + 65 < cLine) : ∀ k : CmpK, OpR X (compareOp (cmpOf k)) (rCmp T k)
  | .eq => OpR.imp (op_eqD (by omega)) fun x y H Q ⟨g, d, e, c, hs, rx, ry, hb, q⟩ => by
    simp only [cmpD] at hb
    split at hb
    · rename_i hc
      simp only [Option.some.injEq] at hb; subst hb
      rw [Bool.and_eq_true] at hc
      obtain ⟨p1, s1⟩ := okD_of hc.1
      obtain ⟨p2, s2⟩ := okD_of hc.2
      exact ⟨_, _, hK ▸ Rep.dp hs p1 rx, hK ▸ Rep.dp hs p2 ry, s1, s2, q⟩
    · cases hb
  | .ne => OpR.imp (op_neD (by omega)) fun x y H Q ⟨g, d, e, c, hs, rx, ry, hb, q⟩ => by
    simp only [cmpD] at hb
    split at hb
    · rename_i hc
      simp only [Option.some.injEq] at hb; subst hb
      rw [Bool.and_eq_true] at hc
      obtain ⟨p1, s1⟩ := okD_of hc.1
      obtain ⟨p2, s2⟩ := okD_of hc.2
      exact ⟨_, _, hK ▸ Rep.dp hs p1 rx, hK ▸ Rep.dp hs p2 ry, s1, s2, q⟩
    · cases hb
  | .lt => OpR.imp op_lt fun x y H Q ⟨g, d, e, c, hs, rx, ry, hb, q⟩ => by
    cases d <;> cases e <;> try (simp [cmpD] at hb; done)
    obtain rfl := rx.int_of; obtain rfl := ry.int_of
    simp only [cmpD, Option.some.injEq] at hb; subst hb
    exact ⟨_, _, rfl, rfl, q⟩
  | .le => OpR.imp op_le fun x y H Q ⟨g, d, e, c, hs, rx, ry, hb, q⟩ => by
    cases d <;> cases e <;> try (simp [cmpD] at hb; done)
    obtain rfl := rx.int_of; obtain rfl := ry.int_of
    simp only [cmpD, Option.some.injEq] at hb; subst hb
    exact ⟨_, _, rfl, rfl, q⟩
  | .gt => OpR.imp op_gt fun x y H Q ⟨g, d, e, c, hs, rx, ry, hb, q⟩ => by
    cases d <;> cases e <;> try (simp [cmpD] at hb; done)
    obtain rfl := rx.int_of; obtain rfl := ry.int_of
    simp only [cmpD, Option.some.injEq] at hb; subst hb
    exact ⟨_, _, rfl, rfl, q⟩
  | .ge => OpR.imp op_ge fun x y H Q ⟨g, d, e, c, hs, rx, ry, hb, q⟩ => by
    cases d <;> cases e <;> try (simp [cmpD] at hb; done)
    obtain rfl := rx.int_of; obtain rfl := ry.int_of
    simp only [cmpD, Option.some.injEq] at hb; subst hb
    exact ⟨_, _, rfl, rfl, q⟩
  | .isN => OpR.imp op_isN fun x y H Q ⟨g, d, e, c, hs, rx, ry, hb, q⟩ => by
    cases e <;> try (cases d <;> simp [cmpD] at hb; done)
    obtain rfl := ry.non_of
    simp only [cmpD, Option.some.injEq] at hb; subst hb
    refine ⟨rfl, ?_⟩
    rw [← rx.nonD]; exact q
  | .notN => OpR.imp op_notN fun x y H Q ⟨g, d, e, c, hs, rx, ry, hb, q⟩ => by
    cases e <;> try (cases d <;> simp [cmpD] at hb; done)
    obtain rfl := ry.non_of
    simp only [cmpD, Option.some.injEq] at hb; subst hb
    refine ⟨rfl, ?_⟩
    rw [← rx.nonD]
    exact q
  | .isIn => OpR.imp ((op_inD hu).or (op_in_seq.or op_in_sign)) fun x y H Q ⟨g, d, e, c, hs, rx, ry, hb, q⟩ => by
    cases e with
    | lst ds =>
      have hb : (if okD d && okD (.lst ds) then some ((pyOfs ds).any fun z => PyData.eqv z (pyOf d)) else none) = some c := by cases d <;> exact hb
      split at hb
      · rename_i hc
        simp only [Option.some.injEq] at hb; subst hb
        rw [Bool.and_eq_true] at hc
        obtain ⟨p1, s1⟩ := okD_of hc.1
        obtain ⟨p2, s2⟩ := okD_of hc.2
        have e2 := Rep.dp hs p2 ry
        simp only [pyOf] at e2 s2
        exact .inl ⟨_, _, hK ▸ Rep.dp hs p1 rx, hK ▸ e2, s1, s2, q⟩
      · cases hb
    | tup ds =>
      have hb : (if flatD d && ds.all flatD then some ((pyOfs ds).any fun z => PyData.eqv z (pyOf d)) else none) = some c := by cases d <;> exact hb
      split at hb
      · rename_i hc
        simp only [Option.some.injEq] at hb; subst hb
        rw [Bool.and_eq_true] at hc
        obtain ⟨a, vs, rfl, ha, r⟩ := ry.tup_of
        refine .inr (.inl ⟨a, vs, rfl, .inr (hK ▸ SqT.mono hs ha), flatV_of hc.1 rx, flats_of hc.2 r, ?_⟩)
        simp only [Bool.false_eq_true, if_false]
        rw [inV_of hc.1 rx _ _ hc.2 r]; exact q
      · cases hb
    | str l =>
      cases d with
      | str m =>
        match m, rx, hb with
        | [k], rx, hb =>
          obtain rfl := rx.str_of
          obtain rfl := ry.str_of
          simp only [cmpD, Option.some.injEq] at hb; subst hb
          exact .inr (.inr ⟨k, S l, rfl, rfl, q⟩)
        | [], _, hb => simp [cmpD] at hb
        | _ :: _ :: _, _, hb => simp [cmpD] at hb
      | _ => simp [cmpD] at hb
    | _ => cases d <;> simp [cmpD] at hb
  | .notIn => OpR.imp ((op_notInD hu).or (op_notIn_seq.or op_notin_sign)) fun x y H Q ⟨g, d, e, c, hs, rx, ry, hb, q⟩ => by
    cases e with
    | lst ds =>
      have hb : (if okD d && okD (.lst ds) then some (!(pyOfs ds).any fun z => PyData.eqv z (pyOf d)) else none) = some c := by cases d <;> exact hb
      split at hb
      · rename_i hc
        simp only [Option.some.injEq] at hb; subst hb
        rw [Bool.and_eq_true] at hc
        obtain ⟨p1, s1⟩ := okD_of hc.1
        obtain ⟨p2, s2⟩ := okD_of hc.2
        have e2 := Rep.dp hs p2 ry
        simp only [pyOf] at e2 s2
        exact .inl ⟨_, _, hK ▸ Rep.dp hs p1 rx, hK ▸ e2, s1, s2, q⟩
      · cases hb
    | tup ds =>
      have hb : (if flatD d && ds.all flatD then some (!(pyOfs ds).any fun z => PyData.eqv z (pyOf d)) else none) = some c := by cases d <;> exact hb
      split at hb
      · rename_i hc
        simp only [Option.some.injEq] at hb; subst hb
        rw [Bool.and_eq_true] at hc
        obtain ⟨a, vs, rfl, ha, r⟩ := ry.tup_of
        refine .inr (.inl ⟨a, vs, rfl, .inr (hK ▸ SqT.mono hs ha), flatV_of hc.1 rx, flats_of hc.2 r, ?_⟩)
        simp only [if_true]
        rw [inV_of hc.1 rx _ _ hc.2 r]; exact q
      · cases hb
    | str l =>
      cases d with
      | str m =>
        match m, rx, hb with
        | [k], rx, hb =>
          obtain rfl := rx.str_of
          obtain rfl := ry.str_of
          simp only [cmpD, Option.some.injEq] at hb; subst hb
          exact .inr (.inr ⟨k, S l, rfl, rfl, q⟩)
        | [], _, hb => simp [cmpD] at hb
        | _ :: _ :: _, _, hb => simp [cmpD] at hb
      | _ => simp [cmpD] at hb
    | _ => cases d <;> simp [cmpD] at hb
end
end DL
set_option Elab.async false
set_option linter.all false
set_option maxRecDepth 100000
set_option maxHeartbeats 2000000
namespace DL
open PySem PySem.Spec PyProof.Rows L2
/-! ### readings of expressions -/
abbrev TE' (T : Tb) (W : WX) (f : M D) : TE := TM T W (RD T) f
abbrev TA' (T : Tb) (W : WX) (f : M (List D)) : TA := TM T W (RA T) f
abbrev TB' (T : Tb) (W : WX) (f : M Bool) : TT := TM T W RB f
def SA (T : Tb) (X : Cx) (W : WX) (es : List Expr) (f : M (List D)) : Prop := PA X es (TA' T W f)
def ST (T : Tb) (X : Cx) (W : WX) (e : Expr) (f : M Bool) : Prop := PT X e (TB' T W f)
def STW (T : Tb) (X : Cx) (W : WX) (e : Expr) (f : M Bool) : Prop := PW X e (TB' T W f)
def optM {α : Type} (o : Option α) : M α := fun ρ => match o with
  | some a => .ok a ρ
  | none => .stuck
theorem optM_some {α : Type} (a : α) : optM (some a) = M.pure a := rfl
section
variable {T : Tb} {X : Cx} {W : WX} {a b c : Expr} {es : List Expr} {f g k : M D} {pos : Pos} {σ : L2.St}
/-- behind the last part: one value and a heap that went on -/
theorem Sat.adv {Q : VK} {g0 g' : Fz} {H H' : Hp} {ρ : Rho} {d : D} {v : V} (gd : Good T g0 H ρ σ) (ad : Adv g0 H g' H') (r : Rep T g' d v) (h : Sat T W σ (RD T) Q g0 (.ok d ρ)) : Q v H' := by
  obtain ⟨g1, go⟩ := ad.good gd
  exact h v H' g' g1 r go
theorem Sat.opt {α β : Type} {R : Fz → α → β → Prop} {Q : β → Hp → Prop} {g0 : Fz} {o : Option α} {ρ : Rho} (h : Sat T W σ R Q g0 (optM o ρ)) : ∃ a, o = some a ∧ Sat T W σ R Q g0 (.ok a ρ) := by
  cases o with
  | none => exact h.elim
  | some a => exact ⟨a, rfl, h⟩
/-- a cell's content, one step -/
def peek (μ : List Cell) (d : D) : D := match d with
  | .ref n => match μ[n]? with
    | some (.lst ds) => .lst ds
    | some (.dic kvs) => .dic kvs
    | some (.obj C fs) => .obj C fs
    | _ => .ref n
  | d => d
abbrev Fz.at (g : Fz) (H : Hp) : Fz := ⟨H, g.A, g.L⟩
theorem pk_le {g0 : Fz} {H : Hp} {ρ : Rho} (gd : Good T g0 H ρ σ) : g0.le (g0.at H) := ⟨gd.s.sub, List.prefix_refl _, rfl⟩
theorem pk {g0 : Fz} {H : Hp} {ρ : Rho} {d : D} {v : V} (gd : Good T g0 H ρ σ) (r : Rep T g0 d v) : Rep T (g0.at H) (peek ρ.st d) v := by
  have le := pk_le gd
  cases r with
  | @ref n a h =>
    unfold peek
    cases e : ρ.st[n]? with
    | none => simp only [e]; exact .ref h
    | some c =>
      cases c with
      | dead => simp only [e]; exact .ref h
      | lst ds => simp only [e]; obtain ⟨_, vs, h1, h2⟩ := gd.s.cell n a _ h e (fun q => nomatch q); exact .lst h1 (h2.mono le)
      | dic ds => simp only [e]; obtain ⟨_, vs, h1, h2⟩ := gd.s.cell n a _ h e (fun q => nomatch q); exact .dic h1 (h2.mono le)
      | obj C fs => simp only [e]; obtain ⟨_, dx, gs, h1, h2, h3, h4⟩ := gd.s.cell n a _ h e (fun q => nomatch q); exact .obj h1 h2 (h4.mono le)
  | _ => unfold peek; exact Rep.mono le (by constructor <;> assumption)
/-! constants, names -/
theorem se_int {i : Int} {j : Nat} : SE T X W (.Constant (.int i) j pos) (M.pure (.int i)) := PE_imp pe_int fun σ H Q ⟨g0, ρ, gd, s⟩ => Sat.here gd (.int i) s
theorem se_str {x : Str} {j : Nat} : SE T X W (.Constant (.str x) j pos) (M.pure (.str x.cps.toList)) := PE_imp pe_str fun σ H Q ⟨g0, ρ, gd, s⟩ => by
  have r : Rep T g0 (.str x.cps.toList) (.str (S x.cps.toList)) := .str _
  have e : S x.cps.toList = x := rfl
  rw [e] at r
  exact Sat.here gd r s
theorem se_bool {k : Bool} {j : Nat} : SE T X W (.Constant (.bool k) j pos) (M.pure (.bl k)) := PE_imp pe_bl fun σ H Q ⟨g0, ρ, gd, s⟩ => Sat.here gd (.bl k) s
theorem se_none {j : Nat} : SE T X W (.Constant .none j pos) (M.pure .non) := PE_imp pe_non fun σ H Q ⟨g0, ρ, gd, s⟩ => Sat.here gd .non s
def varM (i : Nat) : M D := fun ρ => match ρ.sl[i]? with
  | some (some d) => .ok d ρ
  | _ => .stuck
theorem se_var {i : Nat} {x : Str} (hN : X.N[i]? = some x) (hv : Vis X.env.scope x) (hd : (x == ("__debug__" : Str)) = false) (hcd : (x == ("__classdict__" : Str)) = false) : SE T X W (.Name x pos) (varM i) :=
  PE_imp (pe_var hN hv hd hcd) fun σ H Q ⟨g0, ρ, gd, s⟩ => by
    unfold varM at s
    split at s
    · rename_i d e
      obtain ⟨v, e1, r1⟩ := gd.slot i d e
      exact ⟨v, e1, Sat.here gd r1 s⟩
    · exact s.elim
/-- a module's constant -/
theorem se_glo {x : Str} {d : D} {v : V} {u : Value} (hg : Gl X x) (hm : X.mg x = some u) (r : RelV v u) (hr : ∀ F, Rep T F d v) (hd : (x == ("__debug__" : Str)) = false) : SE T X W (.Name x pos) (M.pure d) :=
  PE_imp (pe_glob hg hm r hd) fun σ H Q ⟨g0, ρ, gd, s⟩ => Sat.here gd (hr g0) s
/-! operators -/
def binM (k : BinK) (f g : M D) : M D := f.bind fun d => g.bind fun e => optM (binD k d e)
theorem se_bin {k : BinK} (hK : T.K = X.K) (ha : SE T X W a f) (hb : SE T X W b g) : SE T X W (.BinOp a (opOf k) b pos) (binM k f g) :=
  PE_imp (pe_op (bin_ok hK k) ha hb) fun σ H Q h => (TM.start h).mono fun v H1 ⟨d, F1, ρ1, r1, g1, s1⟩ => (TM.next g1 s1).mono fun u H2 ⟨e, F2, ρ2, r2, e2, g2, s2⟩ => by
    obtain ⟨c, q, s3⟩ := Sat.opt s2
    exact ⟨F2, d, e, c, g2.s.sub, Rep.mono e2 r1, r2, q, fun F' H' z rz ad => Sat.adv g2 ad rz s3⟩
def cmpP (k : CmpK) (d e : D) : M Bool := fun ρ => optM (cmpD k (peek ρ.st d) (peek ρ.st e)) ρ
def cmpM (k : CmpK) (f g : M D) : M Bool := f.bind fun d => g.bind fun e => cmpP k d e
def M.bl (f : M Bool) : M D := f.bind fun b => M.pure (.bl b)
theorem Sat.assoc {α β γ ε : Type} {R : Fz → γ → ε → Prop} {Q : ε → Hp → Prop} {g0 : Fz} {f : M α} {g : α → M β} {h : β → M γ} {ρ : Rho} (s : Sat T W σ R Q g0 (((f.bind g).bind h) ρ)) : Sat T W σ R Q g0 ((f.bind fun a => (g a).bind h) ρ) := by
  unfold M.bind at s ⊢
  cases e : f ρ with
  | ok a ρ' => rw [e] at s; exact s
  | exc x ρ' => rw [e] at s; exact s
  | stuck => rw [e] at s; exact s
theorem TM.assoc {α β γ ε : Type} {R : Fz → γ → ε → Prop} {Q : ε → Hp → Prop} {H : Hp} {f : M α} {g : α → M β} {h : β → M γ} (s : TM T W R ((f.bind g).bind h) σ H Q) : TM T W R (f.bind fun a => (g a).bind h) σ H Q := by
  obtain ⟨F, ρ, gd, s⟩ := s
  exact ⟨F, ρ, gd, Sat.assoc s⟩
theorem Sat.cmp {α β : Type} {R : Fz → α → β → Prop} {Q : β → Hp → Prop} {g0 : Fz} {k : CmpK} {d e : D} {h : Bool → M α} {ρ : Rho} (s : Sat T W σ R Q g0 (((cmpP k d e).bind h) ρ)) : ∃ c, cmpD k (peek ρ.st d) (peek ρ.st e) = some c ∧ Sat T W σ R Q g0 (h c ρ) := by
  unfold cmpP M.bind at s
  cases q : cmpD k (peek ρ.st d) (peek ρ.st e) with
  | none => simp only [q] at s; exact s.elim
  | some c => simp only [q] at s; exact ⟨c, rfl, s⟩
theorem Sat.cmp' {Q : Bool → Hp → Prop} {g0 : Fz} {k : CmpK} {d e : D} {ρ : Rho} (s : Sat T W σ RB Q g0 (cmpP k d e ρ)) : ∃ c, cmpD k (peek ρ.st d) (peek ρ.st e) = some c ∧ Sat T W σ RB Q g0 (.ok c ρ) := Sat.opt s
theorem rcmp_of {g0 : Fz} {H : Hp} {ρ : Rho} {k : CmpK} {d e : D} {v u : V} {c : Bool} {Q : VK} (gd : Good T g0 H ρ σ) (r : Rep T g0 d v) (r' : Rep T g0 e u) (q : cmpD k (peek ρ.st d) (peek ρ.st e) = some c) (h : Q (.bl c) H) : rCmp T k v u H Q :=
  ⟨(g0.at H), _, _, c, fun _ _ z => z, pk gd r, pk gd r', q, h⟩
theorem se_cmp {k : CmpK} (hK : T.K = X.K) (hu : X.A.units + 65 < cLine) (ha : SE T X W a f) (hb : SE T X W b g) (hm : behindInMarks (cmpOf k) b = false) : SE T X W (.Compare a [cmpOf k] [b] pos) (M.bl (cmpM k f g)) :=
  PE_imp (pe_cmpR (cmp_ok hK hu k) ha hb hm) fun σ H Q h => (TM.start (TM.assoc h)).mono fun v H1 ⟨d, F1, ρ1, r1, g1, s1⟩ => (TM.next g1 (Sat.assoc s1)).mono fun u H2 ⟨e, F2, ρ2, r2, e2, g2, s2⟩ => by
    obtain ⟨c, q, s3⟩ := Sat.cmp s2
    exact rcmp_of g2 (Rep.mono e2 r1) r2 q (Sat.here g2 (.bl c) s3)
theorem st_cmp {k : CmpK} (hK : T.K = X.K) (hu : X.A.units + 65 < cLine) (ha : SE T X W a f) (hb : SE T X W b g) (hm : behindInMarks (cmpOf k) b = false) : ST T X W (.Compare a [cmpOf k] [b] pos) (cmpM k f g) :=
  PT_imp (pt_cmpR (cmp_ok hK hu k) ha hb hm) fun σ H Q h => (TM.start h).mono fun v H1 ⟨d, F1, ρ1, r1, g1, s1⟩ => (TM.next g1 s1).mono fun u H2 ⟨e, F2, ρ2, r2, e2, g2, s2⟩ => by
    obtain ⟨c, q, s3⟩ := Sat.cmp' s2
    exact rcmp_of g2 (Rep.mono e2 r1) r2 q ⟨c, rfl, Sat.here g2 rfl s3⟩
/-- one < two < three -/
def chainM (k k' : CmpK) (f g h : M D) : M Bool := f.bind fun d => g.bind fun e => (cmpP k d e).bind fun z => if z = true then h.bind fun c => cmpP k' e c else M.pure false
theorem st_chain {k k' : CmpK} {h : M D} (hK : T.K = X.K) (hu : X.A.units + 65 < cLine) (ha : SE T X W a f) (hb : SE T X W b g) (hc : SE T X W c h) (hm : lastMarks [cmpOf k, cmpOf k'] [b, c] = false) : ST T X W (.Compare a [cmpOf k, cmpOf k'] [b, c] pos) (chainM k k' f g h) :=
  PT_imp (pt_chain (cmp_ok hK hu k) (cmp_ok hK hu k') ha hb hc hm) fun σ H Q hh => (TM.start hh).mono fun v H1 ⟨d, F1, ρ1, r1, g1, s1⟩ => (TM.next g1 s1).mono fun u H2 ⟨e, F2, ρ2, r2, e2, g2, s2⟩ => by
    obtain ⟨z, q, s3⟩ := Sat.cmp s2
    refine rcmp_of g2 (Rep.mono e2 r1) r2 q ⟨z, rfl, ?_⟩
    cases z with
    | false => exact iteF ⟨false, rfl, Sat.here g2 rfl s3⟩
    | true => 
      have s3 : Sat T W σ RB (fun k H' => Q k H') F2 ((h.bind fun c => cmpP k' e c) ρ2) := s3
      refine iteT ((TM.next g2 s3).mono fun w H3 ⟨c, F3, ρ3, r3, e3, g3, s4⟩ => ?_)
      obtain ⟨y, q3, s5⟩ := Sat.cmp' s4
      exact rcmp_of g3 (Rep.mono e3 r2) r3 q3 ⟨y, rfl, Sat.here g3 rfl s5⟩
theorem se_chain {k k' : CmpK} {h : M D} (hK : T.K = X.K) (hu : X.A.units + 65 < cLine) (ha : SE T X W a f) (hb : SE T X W b g) (hc : SE T X W c h) (hm : lastMarks [cmpOf k, cmpOf k'] [b, c] = false) : SE T X W (.Compare a [cmpOf k, cmpOf k'] [b, c] pos) (M.bl (chainM k k' f g h)) :=
  PE_imp (pe_chain (cmp_ok hK hu k) (cmp_ok hK hu k') ha hb hc hm) fun σ H Q hh => (TM.start (TM.assoc hh)).mono fun v H1 ⟨d, F1, ρ1, r1, g1, s1⟩ => (TM.next g1 (Sat.assoc s1)).mono fun u H2 ⟨e, F2, ρ2, r2, e2, g2, s2⟩ => by
    have s2 := Sat.assoc s2
    obtain ⟨z, q, s3⟩ := Sat.cmp s2
    refine rcmp_of g2 (Rep.mono e2 r1) r2 q ⟨z, rfl, ?_⟩
    cases z with
    | false => exact iteF (Sat.here g2 (.bl false) s3)
    | true => 
      have s3 : Sat T W σ (RD T) Q F2 (((h.bind fun c => cmpP k' e c).bind fun b => M.pure (.bl b)) ρ2) := s3
      refine iteT ((TM.next g2 (Sat.assoc s3)).mono fun w H3 ⟨c, F3, ρ3, r3, e3, g3, s4⟩ => ?_)
      obtain ⟨y, q3, s5⟩ := Sat.cmp s4
      exact rcmp_of g3 (Rep.mono e3 r2) r3 q3 (Sat.here g3 (.bl y) s5)
end
end DL
set_option Elab.async false
set_option linter.all false
set_option maxRecDepth 100000
set_option maxHeartbeats 2000000
namespace DL
open PySem PySem.Spec PyProof.Rows L2
section
variable {T : Tb} {X : Cx} {W : WX} {a b c : Expr} {es rest : List Expr} {f g k : M D} {p q : M Bool} {pos : Pos} {σ : L2.St}
/-! and, or, not, if .. else -/
def M.tb (f : M D) : M Bool := f.bind fun d => match d with
  | .bl b => M.pure b
  | _ => M.stuck
def M.andM {α : Type} (p : M Bool) (g : M α) (z : M α) : M α := p.bind fun b => if b = true then g else z
/-- the plain form of a test -/
def plainTest : Expr → Bool
  | .UnaryOp .Not _ _ => false
  | .BoolOp _ _ _ => false
  | .IfExp _ _ _ _ => false
  | .Compare _ _ _ _ => false
  | _ => true
theorem plainTest_eq {e : Expr} {env : Env} (h : plainTest e = true) (whole : Sem Value) : isTrue e env whole = (do let v ← whole; standAt e.pos; holding [v] (truthy v)) := by
  cases e with
  | UnaryOp op x p => cases op <;> first | (simp [plainTest] at h; done) | rfl
  | BoolOp => simp [plainTest] at h
  | IfExp => simp [plainTest] at h
  | Compare => simp [plainTest] at h
  | _ => rfl
theorem st_val (h : SE T X W a f) (hp : plainTest a = true) : ST T X W a f.tb :=
  PT_imp (pt_val h (plainTest_eq hp)) fun σ H Q hh => (TM.start hh).mono fun v H1 ⟨d, F1, ρ1, r1, g1, s1⟩ => by
    cases d with
    | bl z => obtain rfl := r1.bl_of; exact ⟨z, rfl, Sat.here g1 rfl s1⟩
    | _ => exact s1.elim
theorem st_not (h : ST T X W a p) : ST T X W (.UnaryOp .Not a pos) (p.bind fun z => M.pure (!z)) :=
  PT_imp (pt_not h) fun σ H Q hh => (TM.start hh).mono fun v H1 ⟨d, F1, ρ1, r1, g1, s1⟩ => by
    obtain rfl : d = v := r1
    exact Sat.here g1 rfl s1
theorem stw_and1 (h : ST T X W a p) : STW T X W (.BoolOp .And [a] pos) p := pw_and1 h
theorem stw_or1 (h : ST T X W a p) : STW T X W (.BoolOp .Or [a] pos) p := pw_or1 h
theorem st_w (h : STW T X W a p) : ST T X W a p := PW.pt h
theorem PW_imp {X : Cx} {e : Expr} {t t' : TT} (h : PW X e t) (i : ∀ σ H Q, t' σ H Q → t σ H Q) : PW X e t' := ⟨fun w pins s σ H Q I q => h.run w pins s σ H Q I (i _ _ _ q)⟩
theorem stw_and (ha : ST T X W a p) (hb : STW T X W (.BoolOp .And (b :: rest) pos) q) : STW T X W (.BoolOp .And (a :: b :: rest) pos) (M.andM p q (M.pure false)) :=
  PW_imp (pw_and ha hb) fun σ H Q hh => (TM.start hh).mono fun v H1 ⟨d, F1, ρ1, r1, g1, s1⟩ => by
    obtain rfl : d = v := r1
    cases d with
    | true => exact iteT ⟨F1, ρ1, g1, s1⟩
    | false => exact iteF (Sat.here g1 rfl s1)
theorem stw_or (ha : ST T X W a p) (hb : STW T X W (.BoolOp .Or (b :: rest) pos) q) : STW T X W (.BoolOp .Or (a :: b :: rest) pos) (M.andM p (M.pure true) q) :=
  PW_imp (pw_or ha hb) fun σ H Q hh => (TM.start hh).mono fun v H1 ⟨d, F1, ρ1, r1, g1, s1⟩ => by
    obtain rfl : d = v := r1
    cases d with
    | true => exact iteT (Sat.here g1 rfl s1)
    | false => exact iteF ⟨F1, ρ1, g1, s1⟩
theorem Sat.tb {Q' : VK} {g0 : Fz} {f : M D} {g : Bool → M D} {ρ : Rho} (s : Sat T W σ (RD T) Q' g0 (((f.tb).bind g) ρ)) : Sat T W σ (RD T) Q' g0 ((f.bind fun d => match d with | .bl b => g b | _ => M.stuck) ρ) := by
  unfold M.tb M.bind at *
  cases e : f ρ with
  | ok a ρ' => rw [e] at s; cases a <;> exact s
  | exc x ρ' => rw [e] at s; exact s
  | stuck => rw [e] at s; exact s
theorem TM.tb {Q' : VK} {H : Hp} {f : M D} {g : Bool → M D} (s : TM T W (RD T) ((f.tb).bind g) σ H Q') : TM T W (RD T) (f.bind fun d => match d with | .bl b => g b | _ => M.stuck) σ H Q' := by
  obtain ⟨g0, ρ, gd, s⟩ := s
  exact ⟨g0, ρ, gd, Sat.tb s⟩
theorem se_one {op : BoolOp} (h : SE T X W a f) : SE T X W (.BoolOp op [a] pos) f := pe_one h
theorem se_and (ha : SE T X W a f) (hb : SE T X W (.BoolOp .And (b :: rest) pos) g) : SE T X W (.BoolOp .And (a :: b :: rest) pos) (M.andM f.tb g (M.pure (.bl false))) :=
  PE_imp (pe_and ha hb) fun σ H Q hh => (TM.start (TM.tb hh)).mono fun v H1 ⟨d, F1, ρ1, r1, g1, s1⟩ => by
    cases d with
    | bl z =>
      obtain rfl := r1.bl_of
      refine ⟨z, rfl, ?_⟩
      cases z with
      | true => exact iteT ⟨F1, ρ1, g1, s1⟩
      | false => exact iteF (Sat.here g1 (.bl false) s1)
    | _ => exact s1.elim
theorem se_or (ha : SE T X W a f) (hb : SE T X W (.BoolOp .Or (b :: rest) pos) g) : SE T X W (.BoolOp .Or (a :: b :: rest) pos) (M.andM f.tb (M.pure (.bl true)) g) :=
  PE_imp (pe_or ha hb) fun σ H Q hh => (TM.start (TM.tb hh)).mono fun v H1 ⟨d, F1, ρ1, r1, g1, s1⟩ => by
    cases d with
    | bl z =>
      obtain rfl := r1.bl_of
      refine ⟨z, rfl, ?_⟩
      cases z with
      | true => exact iteT (Sat.here g1 (.bl true) s1)
      | false => exact iteF ⟨F1, ρ1, g1, s1⟩
    | _ => exact s1.elim
theorem se_not (ha : SE T X W a f) : SE T X W (.UnaryOp .Not a pos) (f.tb.bind fun z => M.pure (.bl (!z))) :=
  PE_imp (pe_not ha) fun σ H Q hh => (TM.start (TM.tb hh)).mono fun v H1 ⟨d, F1, ρ1, r1, g1, s1⟩ => by
    cases d with
    | bl z => obtain rfl := r1.bl_of; exact ⟨z, rfl, Sat.here g1 (.bl (!z)) s1⟩
    | _ => exact s1.elim
theorem se_ife (hc : ST T X W c p) (ha : SE T X W a f) (hb : SE T X W b g) : SE T X W (.IfExp c a b pos) (M.andM p f g) :=
  PE_imp (pe_ifExp hc ha hb) fun σ H Q hh => (TM.start hh).mono fun v H1 ⟨d, F1, ρ1, r1, g1, s1⟩ => by
    obtain rfl : d = v := r1
    cases d with
    | true => exact iteT ⟨F1, ρ1, g1, s1⟩
    | false => exact iteF ⟨F1, ρ1, g1, s1⟩
def negD : D → Option D
  | .int i => some (.int (-i))
  | _ => none
theorem se_neg (ha : SE T X W a f) : SE T X W (.UnaryOp .USub a pos) (f.bind fun d => optM (negD d)) :=
  PE_imp (pe_un un_neg ha) fun σ H Q hh => (TM.start hh).mono fun v H1 ⟨d, F1, ρ1, r1, g1, s1⟩ => by
    obtain ⟨z, e, s2⟩ := Sat.opt s1
    cases d <;> try (simp [negD] at e; done)
    rename_i i
    simp only [negD, Option.some.injEq] at e; subst e
    obtain rfl := r1.int_of
    exact ⟨i, rfl, Sat.here g1 (.int _) s2⟩
/-! an item -/
def notSlice : Expr → Bool
  | .Slice _ _ _ _ => false
  | _ => true
theorem plainIx_of {b : Expr} (h : notSlice b = true) : PlainIx b := by
  intro o i
  cases b <;> first | (simp [notSlice] at h; done) | rfl
theorem atI_get {g0 : Fz} {ds : List D} {vs : List V} {i : Int} {d : D} (r : RepL T g0 ds vs) (h : atI ds i = some d) : ∃ v, atI vs i = some v ∧ Rep T g0 d v := by
  unfold atI at h ⊢
  rw [← r.length]
  cases e : ixN ds.length i with
  | none => rw [e] at h; cases h
  | some j =>
    rw [e] at h
    obtain ⟨v, h1, h2⟩ := r.get (i := j) h
    exact ⟨v, h1, h2⟩
theorem peek_tup {μ : List Cell} {d : D} {ds : List D} (h : peek μ d = .tup ds) : d = .tup ds := by
  cases d with
  | ref n =>
    unfold peek at h
    cases e : μ[n]? with
    | none => simp [e] at h
    | some c => cases c <;> simp [e] at h
  | _ => exact h
theorem peek_str {μ : List Cell} {d : D} {l : List Nat} (h : peek μ d = .str l) : d = .str l := by
  cases d with
  | ref n =>
    unfold peek at h
    cases e : μ[n]? with
    | none => simp [e] at h
    | some c => cases c <;> simp [e] at h
  | _ => exact h
theorem peek_seq {μ : List Cell} {d : D} {l : List D} (h : peek μ d = .seq l) : d = .seq l := by
  cases d with
  | ref n =>
    unfold peek at h
    cases e : μ[n]? with
    | none => simp [e] at h
    | some c => cases c <;> simp [e] at h
  | _ => exact h
/-- a list, as it stands -/
theorem pkL {g0 : Fz} {H : Hp} {ρ : Rho} {d : D} {ds : List D} {v : V} (gd : Good T g0 H ρ σ) (r : Rep T g0 d v) (h : peek ρ.st d = .lst ds) : ∃ a vs, v = .ref a ∧ H a = some (.lst vs) ∧ RepL T g0 ds vs := by
  cases r with
  | @ref n a hn =>
    unfold peek at h
    cases e : ρ.st[n]? with
    | none => simp [e] at h
    | some c =>
      cases c with
      | lst es =>
        simp only [e] at h; cases h
        obtain ⟨_, vs, h1, h2⟩ := gd.s.cell n a _ hn e (fun q => nomatch q)
        exact ⟨a, vs, rfl, h1, h2⟩
      | _ => simp [e] at h
  | @lst es a vs h1 h2 => cases h; exact ⟨a, vs, rfl, gd.s.sub _ _ h1, h2⟩
  | _ => cases h
theorem pkT {g0 : Fz} {H : Hp} {ρ : Rho} {d : D} {ds : List D} {v : V} (gd : Good T g0 H ρ σ) (r : Rep T g0 d v) (h : peek ρ.st d = .tup ds) : ∃ a vs, v = .ref a ∧ SqT T.K H a vs ∧ RepL T g0 ds vs := by
  obtain rfl := peek_tup h
  obtain ⟨a, vs, e, h1, h2⟩ := r.tup_of
  exact ⟨a, vs, e, SqT.mono gd.s.sub h1, h2⟩
def pkM {α : Type} (d : D) (k : D → M α) : M α := fun ρ => k (peek ρ.st d) ρ
def idxM (f g : M D) : M D := f.bind fun d => g.bind fun e => pkM d fun d => optM (idxD d e)
theorem idx_ok (hK : T.K = X.K) {g0 : Fz} {H : Hp} {ρ : Rho} {d e c : D} {v u : V} {Q : VK} (gd : Good T g0 H ρ σ) (r : Rep T g0 d v) (r' : Rep T g0 e u) (h : idxD (peek ρ.st d) e = some c) (q : ∀ z, Rep T g0 c z → Q z H) : rIx X.K v u H Q := by
  cases q2 : peek ρ.st d <;> rw [q2] at h <;> cases e <;> try (simp [idxD] at h; done)
  · rename_i l i
    obtain rfl := peek_str q2
    obtain rfl := r.str_of; obtain rfl := r'.int_of
    simp only [idxD] at h
    split at h
    · rename_i hl
      obtain ⟨k, hk, e1⟩ := Option.map_eq_some_iff.mp h
      subst e1
      exact .inr (.inr ⟨S l, i, k, rfl, rfl, by rw [len_S, sz]; exact hl, hk, q _ (.str [k])⟩)
    · cases h
  · rename_i ds i
    obtain ⟨p, vs, rfl, hp, rp⟩ := pkT gd r q2; obtain rfl := r'.int_of
    obtain ⟨z, e1, r1⟩ := atI_get rp h
    exact .inr (.inl ⟨p, vs, i, z, rfl, rfl, hK ▸ hp, e1, q z r1⟩)
  · rename_i ds i
    obtain ⟨p, vs, rfl, hp, rp⟩ := pkL gd r q2; obtain rfl := r'.int_of
    obtain ⟨z, e1, r1⟩ := atI_get rp h
    exact .inl ⟨p, vs, i, z, rfl, rfl, SqL.of hp, e1, q z r1⟩
  · rename_i ds i
    obtain rfl := peek_seq q2
    obtain ⟨p, vs, rfl, hp, rp⟩ := r.seq_of; obtain rfl := r'.int_of
    obtain ⟨z, e1, r1⟩ := atI_get rp h
    exact .inl ⟨p, vs, i, z, rfl, rfl, hK ▸ gd.s.sub.seq hp, e1, q z r1⟩
theorem se_idx (hK : T.K = X.K) (ha : SE T X W a f) (hb : SE T X W b g) (hp : notSlice b = true) : SE T X W (.Subscript a b pos) (idxM f g) :=
  PE_imp (pe_ix ix_seq ha hb (plainIx_of hp)) fun σ H Q h => (TM.start h).mono fun v H1 ⟨d, F1, ρ1, r1, g1, s1⟩ => (TM.next g1 s1).mono fun u H2 ⟨e, F2, ρ2, r2, e2, g2, s2⟩ => by
    obtain ⟨c, q, s3⟩ := Sat.opt s2
    exact idx_ok hK g2 (Rep.mono e2 r1) r2 q fun z rz => Sat.here g2 rz s3
/-! argument lists, tuples -/
def notStar : Expr → Bool
  | .Starred _ _ => false
  | _ => true
theorem starEach_of {e : Expr} {es : List Expr} {env : Env} (h : notStar e = true) : starEach (e :: es) env = (false, eval e env) :: starEach es env := by
  cases e <;> first | (simp [notStar] at h; done) | rfl
theorem star_any {es : List Expr} {env : Env} {pos : Pos} : es.all notStar = true → (backTo pos (starEach es env)).any (·.1) = false := by
  induction es with
  | nil => intro _; rfl
  | cons e es ih =>
    intro h
    rw [List.all_cons, Bool.and_eq_true] at h
    rw [starEach_of h.1]
    have := ih h.2
    show (false || (backTo pos (starEach es env)).any (·.1)) = false
    rw [this]; rfl
def consM (f : M D) (g : M (List D)) : M (List D) := f.bind fun d => g.bind fun ds => M.pure (d :: ds)
theorem sa_nil : SA T X W [] (M.pure []) := PA_imp pa_nil fun σ H Q ⟨g0, ρ, gd, s⟩ => Sat.here gd .nil s
theorem sa_cons {gs : M (List D)} (ha : SE T X W a f) (hs : SA T X W es gs) (hn : notStar a = true) : SA T X W (a :: es) (consM f gs) :=
  PA_imp (pa_cons ha hs (starEach_of hn)) fun σ H Q h => (TM.start h).mono fun v H1 ⟨d, F1, ρ1, r1, g1, s1⟩ => (TM.next g1 s1).mono fun u H2 ⟨e, F2, ρ2, r2, e2, g2, s2⟩ =>
    Sat.here g2 (.cons (Rep.mono e2 r1) r2) s2
def capM (ds : List D) (d : D) : M D := if ds.length ≤ LIM then M.pure d else M.stuck
def tupM (fs : M (List D)) : M D := fs.bind fun ds => capM ds (.tup ds)
theorem se_tup {gs : M (List D)} {n : Nat} (hs : SA T X W es gs) : SE T X W (.Tuple es n pos) (tupM gs) :=
  PE_imp (pe_tup hs) fun σ H Q h => (TM.start h).mono fun vs H1 ⟨ds, F1, ρ1, r1, g1, s1⟩ => by
    unfold capM at s1
    split at s1
    · rename_i hl
      exact ⟨by rw [← r1.length, sz]; exact hl, fun p hp => Sat.new g1 hp (fun e1 e2 => .tup (SqT.of e2) (RepL.mono e1 r1)) s1⟩
    · exact s1.elim
/-! lists -/
def lstM (c : Bool) (fs : M (List D)) : M D := fs.bind fun ds => if ds.length ≤ LIM then newL c ds else M.stuck
theorem se_lst {fs : M (List D)} (c : Bool) (h : SA T X W es fs) : SE T X W (.List es pos) (lstM c fs) :=
  PE_imp (pe_lst h) fun σ H Q hh => (TM.start hh).mono fun vs H1 ⟨ds, F1, ρ1, r1, g1, s1⟩ => by
    split at s1
    · rename_i hl
      exact ⟨by rw [← r1.length, sz]; exact hl, fun p hp => Sat.newL g1 hp r1 s1⟩
    · exact s1.elim
def catD (c : Bool) (d e : D) : M D := match d, e with
  | .lst ds, .lst es => if ds.length + es.length ≤ LIM then newL c (ds ++ es) else M.stuck
  | _, _ => M.stuck
def catM (c : Bool) (f g : M D) : M D := f.bind fun d => g.bind fun e => pkM d fun d => pkM e fun e => catD c d e
theorem se_cat (c : Bool) (ha : SE T X W a f) (hb : SE T X W b g) : SE T X W (.BinOp a .Add b pos) (catM c f g) :=
  PE_imp (pe_op op_cat ha hb) fun σ H Q h => (TM.start h).mono fun v H1 ⟨d, F1, ρ1, r1, g1, s1⟩ => (TM.next g1 s1).mono fun u H2 ⟨e, F2, ρ2, r2, e2, g2, s2⟩ => by
    have s2 : Sat T W σ (RD T) Q F2 (catD c (peek ρ2.st d) (peek ρ2.st e) ρ2) := s2
    cases q1 : peek ρ2.st d <;> cases q2 : peek ρ2.st e <;> rw [q1, q2] at s2 <;> try exact s2.elim
    rename_i ds es
    unfold catD at s2
    dsimp only at s2
    split at s2
    · rename_i hl
      obtain ⟨p, vs, rfl, hp, rp⟩ := pkL g2 (Rep.mono e2 r1) q1
      obtain ⟨p', us, rfl, hp', rp'⟩ := pkL g2 r2 q2
      exact ⟨p, p', vs, us, rfl, rfl, hp, hp', by rw [sz, ← rp.length, ← rp'.length]; exact hl, fun n hn => Sat.newL g2 hn (rp.append rp') s2⟩
    · exact s2.elim
end
end DL
set_option Elab.async false
set_option linter.all false
set_option maxRecDepth 100000
set_option maxHeartbeats 2000000
namespace DL
open PySem PySem.Spec PyProof.Rows L2
/-! ### statements -/
inductive SOut where
  | next (ρ : Rho) | ret (r : D) (ρ : Rho) | brk (ρ : Rho) | cont (ρ : Rho) | exc (x : Exn) (ρ : Rho) | stuck
abbrev MS := Rho → SOut
def SatS (T : Tb) (W : WX) (E : Ends) (g : Fz) : SOut → Prop
  | .next ρ' => ∀ σ' H' g', Good T g' H' ρ' σ' → g.le g' → E.nx σ' H'
  | .brk ρ' => ∀ σ' H' g', Good T g' H' ρ' σ' → g.le g' → E.bk σ' H'
  | .cont ρ' => ∀ σ' H' g', Good T g' H' ρ' σ' → g.le g' → E.ct σ' H'
  | .ret r ρ' => ∀ v σ' H' g', Good T g' H' ρ' σ' → Rep T g' r v → g.le g' → E.rt v H'
  | .exc x ρ' => ∀ cls dd σ' H' g', Good T g' H' ρ' σ' → XRep T g' H' x cls dd → g.le g' → W cls dd σ' H'
  | .stuck => False
def TSt (T : Tb) (W : WX) (f : MS) : TS := fun E σ H => ∃ g ρ, Good T g H ρ σ ∧ SatS T W E g (f ρ)
def SS (T : Tb) (X : Cx) (W : WX) (st : Stmt) (f : MS) : Prop := PS X st (TSt T W f)
def SSs (T : Tb) (X : Cx) (W : WX) (st : List Stmt) (f : MS) : Prop := PSs X st (TSt T W f)
def SOut.bind (o : SOut) (g : MS) : SOut := match o with
  | .next ρ => g ρ
  | o => o
def Out.bindS {α : Type} (o : Out α) (g : α → MS) : SOut := match o with
  | .ok a ρ => g a ρ
  | .exc x ρ => .exc x ρ
  | .stuck => .stuck
def MS.seq (f g : MS) : MS := fun ρ => (f ρ).bind g
def M.thn {α : Type} (f : M α) (g : α → MS) : MS := fun ρ => (f ρ).bindS g
section
variable {T : Tb} {X : Cx} {W : WX} {σ σ1 : L2.St} {g0 g1 : Fz} {H H1 : Hp} {E : Ends} {st : Stmt} {sts : List Stmt} {f g : MS} {pos : Pos} {e c : Expr}
theorem SatS.go (a : g0.le g1) : ∀ {o : SOut}, SatS T W E g0 o → SatS T W E g1 o
  | .next _, h => fun σ' H' g' a1 a3 => h σ' H' g' a1 (a.trans a3)
  | .brk _, h => fun σ' H' g' a1 a3 => h σ' H' g' a1 (a.trans a3)
  | .cont _, h => fun σ' H' g' a1 a3 => h σ' H' g' a1 (a.trans a3)
  | .ret _ _, h => fun v σ' H' g' a1 a2 a3 => h v σ' H' g' a1 a2 (a.trans a3)
  | .exc _ _, h => fun c d σ' H' g' a1 a2 a3 => h c d σ' H' g' a1 a2 (a.trans a3)
  | .stuck, h => h
theorem TSt.next {α β : Type} {R : Fz → α → β → Prop} {ρ1 : Rho} {f : M α} {k : α → MS} (gd : Good T g1 H1 ρ1 σ) (h : SatS T W E g1 (f.thn k ρ1)) :
    TM T W R f σ H1 (fun b H2 => ∃ a g2 ρ2, R g2 a b ∧ g1.le g2 ∧ Good T g2 H2 ρ2 σ ∧ SatS T W E g2 (k a ρ2)) := by
  refine ⟨g1, ρ1, gd, ?_⟩
  unfold M.thn at h
  revert h
  cases f ρ1 with
  | ok a ρ' => exact fun h b H' g' a1 a2 a3 => ⟨a, g', ρ', a2, a3, a1, SatS.go a3 h⟩
  | exc x ρ' => exact fun h c d H' g' a1 a2 a3 => h c d σ H' g' a1 a2 a3
  | stuck => exact fun h => h
theorem TSt.start {α β : Type} {R : Fz → α → β → Prop} {f : M α} {k : α → MS} (h : TSt T W (f.thn k) E σ H) : TM T W R f σ H (fun b H2 => ∃ a g2 ρ2, R g2 a b ∧ Good T g2 H2 ρ2 σ ∧ SatS T W E g2 (k a ρ2)) := by
  obtain ⟨F, ρ, gd, s⟩ := h
  exact (TSt.next gd s).mono fun b H' ⟨a, F2, ρ2, r, _, g1, q⟩ => ⟨a, F2, ρ2, r, g1, q⟩
def setSl (i : Nat) (d : D) (ρ : Rho) : Rho := { ρ with sl := ρ.sl.set i (some d) }
theorem Good.set {ρ : Rho} {i : Nat} {r : D} {v : V} (gd : Good T g0 H ρ σ) (o : Rep T g0 r v) : Good T g0 H (setSl i r ρ) (σ.set i (some v)) := by
  refine ⟨gd.s, by simp [setSl, gd.len], fun j d q => ?_⟩
  have q : (ρ.sl.set i (some r))[j]? = some (some d) := q
  by_cases z : i = j
  · subst z
    by_cases hl : i < ρ.sl.length
    · rw [List.getElem?_set_self hl] at q
      cases q
      exact ⟨v, by rw [List.getElem?_set_self (by rw [← gd.len]; exact hl)], o⟩
    · rw [List.set_eq_of_length_le (by omega), List.getElem?_eq_none (by omega)] at q; cases q
  · rw [List.getElem?_set_ne z] at q
    obtain ⟨u, e1, r1⟩ := gd.slot j d q
    exact ⟨u, by rw [List.getElem?_set_ne z]; exact e1, r1⟩
def setS (i : Nat) (r : D) : MS := fun ρ => .next (setSl i r ρ)
theorem SatS.set {ρ : Rho} {i : Nat} {r : D} {v : V} (gd : Good T g0 H ρ σ) (o : Rep T g0 r v) (s : SatS T W E g0 (setS i r ρ)) : E.nx (σ.set i (some v)) H := s _ _ _ (gd.set o) .refl
theorem ss_asg {i : Nat} {x : Str} {e : Expr} {f : M D} {pos pos' : Pos} (hN : X.N.Nodup) (hi : X.N[i]? = some x) (hx : Loc X.env.scope x) (he : SE T X W e f) (hs : swapsWith e (some (.Name x pos')) pos.line X.env = pure false)
    (hf : X.fn x = true ∨ X.env.scope.names.lookup x = some .local) : SS T X W (.Assign [.Name x pos'] e pos) (f.thn fun r => setS i r) :=
  PS_imp (ps_set hN hi hx he hs hf) fun D σ H hh => (TSt.start hh).mono fun v H2 ⟨r, F2, ρ2, o, g2, s⟩ => SatS.set g2 o s
theorem SatS.seq : ∀ {o : SOut}, SatS T W E g0 (o.bind g) → SatS T W { E with nx := TSt T W g E } g0 o
  | .next ρ, s => fun σ' H' g' a1 a3 => ⟨g', ρ, a1, SatS.go a3 s⟩
  | .brk _, s => s
  | .cont _, s => s
  | .ret _ _, s => s
  | .exc _ _, s => s
  | .stuck, s => s
def nextS : MS := fun ρ => .next ρ
theorem ss_nil : SSs T X W [] nextS := PSs_imp pss_nil fun D σ H ⟨F, ρ, gd, s⟩ => s σ H F gd .refl
theorem ss_cons (h1 : SS T X W st f) (h2 : SSs T X W sts g) : SSs T X W (st :: sts) (f.seq g) :=
  PSs_imp (pss_cons h1 h2) fun D σ H ⟨F, ρ, gd, s⟩ => ⟨F, ρ, gd, SatS.seq (o := f ρ) s⟩
theorem ss_one (h1 : SS T X W st f) : SSs T X W [st] f := pss_one h1
theorem ss_pass : SS T X W (.Pass pos) nextS := PS_imp ps_pass fun D σ H ⟨F, ρ, gd, s⟩ => s σ H F gd .refl
theorem ss_break : SS T X W (.Break pos) (fun ρ => .brk ρ) := PS_imp ps_break fun D σ H ⟨F, ρ, gd, s⟩ => s σ H F gd .refl
theorem ss_cont : SS T X W (.Continue pos) (fun ρ => .cont ρ) := PS_imp ps_continue fun D σ H ⟨F, ρ, gd, s⟩ => s σ H F gd .refl
/-- what is never come to -/
theorem ss_stuck : SS T X W st (fun _ => .stuck) := PS_imp ps_never fun D σ H ⟨F, ρ, gd, s⟩ => s
theorem sss_stuck : SSs T X W sts (fun _ => .stuck) := PSs_imp pss_never fun D σ H ⟨F, ρ, gd, s⟩ => s
theorem ss_expr {k : M DL.D} (he : SE T X W e k) (hs : swapsWith e none pos.line X.env = pure false) : SS T X W (.Expr e pos) (k.thn fun _ => nextS) :=
  PS_imp (ps_expr he hs) fun D σ H h => (TSt.start h).mono fun v H1 ⟨d, F1, ρ1, r1, g1, s1⟩ => s1 σ H1 F1 g1 .refl
theorem ss_ret {k : M DL.D} (he : SE T X W e k) : SS T X W (.Return (some e) pos) (k.thn fun r ρ => .ret r ρ) :=
  PS_imp (ps_ret he) fun D σ H h => (TSt.start h).mono fun v H1 ⟨r, F1, ρ1, o, g1, s1⟩ => s1 v σ H1 F1 g1 o .refl
theorem ss_retN : SS T X W (.Return none pos) (fun ρ => .ret .non ρ) :=
  PS_imp ps_retN fun D σ H ⟨F, ρ, gd, s⟩ => s .non σ H F gd .non .refl
def ifS (p : M Bool) (f g : MS) : MS := p.thn fun b => if b = true then f else g
theorem ss_if {p : M Bool} {a b : List Stmt} (hc : ST T X W c p) (ha : SSs T X W a f) (hb : SSs T X W b g) : SS T X W (.If c a b pos) (ifS p f g) :=
  PS_imp (ps_if hc ha hb) fun D σ H h => (TSt.start h).mono fun v H1 ⟨d, F1, ρ1, r1, g1, s1⟩ => by
    obtain rfl : d = v := r1
    cases d with
    | true => exact iteT ⟨F1, ρ1, g1, s1⟩
    | false => exact iteF ⟨F1, ρ1, g1, s1⟩
def SOut.loop (o : SOut) (g : MS) : SOut := match o with
  | .next ρ => g ρ
  | .cont ρ => g ρ
  | .brk ρ => .next ρ
  | o => o
theorem SatS.loop : ∀ {o : SOut}, SatS T W E g0 (o.loop g) → SatS T W { E with nx := TSt T W g E, ct := TSt T W g E, bk := E.nx } g0 o
  | .next ρ, s => fun σ' H' g' a1 a3 => ⟨g', ρ, a1, SatS.go a3 s⟩
  | .cont ρ, s => fun σ' H' g' a1 a3 => ⟨g', ρ, a1, SatS.go a3 s⟩
  | .brk _, s => s
  | .ret _ _, s => s
  | .exc _ _, s => s
  | .stuck, s => s
def whileN : Nat → M Bool → MS → MS
  | 0, _, _ => fun _ => .stuck
  | n + 1, p, f => p.thn fun b => if b = true then (fun ρ => (f ρ).loop (whileN n p f)) else nextS
theorem ss_while {p : M Bool} {body : List Stmt} (n : Rho → Nat) (hp : PassesOwn (model X.prog X.w) X.A X.env X.xe) (hc : ST T X W c p) (hb : SSs T X W body f) : SS T X W (.While c body [] pos) (fun ρ => whileN (n ρ) p f ρ) :=
  PS_imp (ps_while hp hc hb) fun D σ H h => by
    obtain ⟨g0, ρ0, gd0, s0⟩ := h
    refine ⟨fun m σ H => TSt T W (whileN m p f) D σ H, ⟨n ρ0, g0, ρ0, gd0, s0⟩, fun m σ H h => ?_⟩
    cases m with
    | zero => obtain ⟨F, ρ, gd, s⟩ := h; exact s.elim
    | succ m =>
      refine (TSt.start h).mono fun v H1 ⟨d, F1, ρ1, r1, g1, s1⟩ => ?_
      obtain rfl : d = v := r1
      cases d with
      | true => exact iteT ⟨TSt T W (whileN m p f) D, fun σ' H' q => ⟨m, Nat.lt_succ_self m, q⟩, ⟨F1, ρ1, g1, SatS.loop (o := f ρ1) s1⟩⟩
      | false => exact iteF (s1 σ H1 F1 g1 .refl)
/-! targets: a tuple of slots, nested -/
inductive Tg where
  | nm (i : Nat) | tp (ts : List Tg)
mutual
def Tg.go : Tg → D → Rho → Option Rho
  | .nm i, d, ρ => some (setSl i d ρ)
  | .tp ts, .tup ds, ρ => if ds.length = ts.length then Tg.gos ts ds ρ else none
  | .tp ts, .lst ds, ρ => if ds.length = ts.length then Tg.gos ts ds ρ else none
  | .tp _, _, _ => none
def Tg.gos : List Tg → List D → Rho → Option Rho
  | [], [], ρ => some ρ
  | t :: ts, d :: ds, ρ => match t.go d ρ with
    | some ρ' => Tg.gos ts ds ρ'
    | none => none
  | _, _, _ => none
end
def tgS (t : Tg) (d : D) : MS := fun ρ => match t.go d ρ with
  | some ρ' => .next ρ'
  | none => .stuck
mutual
def Tg.ix : Tg → List Nat
  | .nm i => [i]
  | .tp ts => Tg.ixs ts
def Tg.ixs : List Tg → List Nat
  | [] => []
  | t :: ts => t.ix ++ Tg.ixs ts
end
/-- only the slots of vs change -/
def Chg (vs : List Nat) (σ σ' : L2.St) : Prop := σ'.length = σ.length ∧ ∀ i, i ∉ vs → σ'[i]? = σ[i]?
theorem Chg.refl {vs : List Nat} {σ : L2.St} : Chg vs σ σ := ⟨rfl, fun _ _ => rfl⟩
/-- the slots alone change -/
def TGo (T : Tb) (t : Tg) : TG := fun v σ H Q => ∃ d g ρ ρ', Good T g H ρ σ ∧ Rep T g d v ∧ t.go d ρ = some ρ' ∧ ∀ σ', Good T g H ρ' σ' → Chg t.ix σ σ' → Q σ' H
def TGos (T : Tb) (t : List Tg) : TGs := fun vs σ H Q => ∃ ds g ρ ρ', Good T g H ρ σ ∧ RepL T g ds vs ∧ Tg.gos t ds ρ = some ρ' ∧ ∀ σ', Good T g H ρ' σ' → Chg (Tg.ixs t) σ σ' → Q σ' H
def SG (T : Tb) (X : Cx) (tg : Expr) (t : Tg) : Prop := PG X tg (TGo T t)
def SGs (T : Tb) (X : Cx) (tg : List Expr) (t : List Tg) : Prop := PGs X tg (TGos T t)
theorem PG_imp {X : Cx} {e : Expr} {t t' : TG} (h : PG X e t) (i : ∀ v σ H Q, t' v σ H Q → t v σ H Q) : PG X e t' := ⟨fun pins s σ H v u Q I r q => h.run pins s σ H v u Q I r (i _ _ _ _ q)⟩
theorem PGs_imp {X : Cx} {e : List Expr} {t t' : TGs} (h : PGs X e t) (i : ∀ v σ H Q, t' v σ H Q → t v σ H Q) : PGs X e t' := ⟨fun pins s σ H v u Q I r q => h.run pins s σ H v u Q I r (i _ _ _ _ q)⟩
theorem sg_name {i : Nat} {x : Str} (hN : X.N.Nodup) (hi : X.N[i]? = some x) (hx : Loc X.env.scope x) (hf : X.fn x = true ∨ X.env.scope.names.lookup x = some .local) : SG T X (.Name x pos) (.nm i) :=
  PG_imp (pg_name hN hi hx hf) fun v σ H Q ⟨d, F, ρ, ρ', gd, r, s, q⟩ => by
    have s : some (setSl i d ρ) = some ρ' := s
    cases s
    exact q _ (gd.set r) ⟨by simp, fun j hj => by rw [List.getElem?_set_ne (fun z => hj (by simp [Tg.ix, z]))]⟩
theorem sgs_nil : SGs T X [] [] :=
  PGs_imp pgs_nil fun vs σ H Q ⟨ds, F, ρ, ρ', gd, r, s, q⟩ => by
    cases r with
    | nil =>
      have s : some ρ = some ρ' := s
      cases s
      exact ⟨rfl, q _ gd .refl⟩
    | cons _ _ => cases s
theorem sgs_cons {es : List Expr} {t : Tg} {ts : List Tg} (h1 : SG T X e t) (h2 : SGs T X es ts) (hs : (assignEach (e :: es) X.env).map (·.2) = assign e X.env :: (assignEach es X.env).map (·.2)) :
    SGs T X (e :: es) (t :: ts) :=
  PGs_imp (pgs_cons h1 h2 hs) fun vs σ H Q ⟨ds, F, ρ, ρ', gd, r, s, q⟩ => by
    cases ds with
    | nil => cases s
    | cons d ds =>
      obtain ⟨v, vs, rfl, r1, rr⟩ := r.cons_of
      unfold Tg.gos at s
      cases z : t.go d ρ with
      | none => rw [z] at s; cases s
      | some ρ1 => rw [z] at s; exact ⟨v, vs, rfl, d, F, ρ, ρ1, gd, r1, z, fun σ1 g1 c1 => ⟨ds, F, ρ1, ρ', g1, rr, s, fun σ2 g2 c2 => q σ2 g2 ⟨c2.1.trans c1.1, fun i hi => by
        rw [Tg.ixs, List.mem_append, not_or] at hi
        exact (c2.2 i hi.2).trans (c1.2 i hi.1)⟩⟩⟩
theorem PG_or {X : Cx} {e : Expr} {t t' : TG} (h : PG X e t) (h' : PG X e t') : PG X e (fun v σ H Q => t v σ H Q ∨ t' v σ H Q) :=
  ⟨fun pins s σ H v u Q I r q => q.elim (h.run pins s σ H v u Q I r) (h'.run pins s σ H v u Q I r)⟩
theorem sg_tup {es : List Expr} {k : Nat} {ts : List Tg} (hK : T.K = X.K) (hc : X.calm = true) (h : SGs T X es ts) (hn : (assignEach es X.env).length = ts.length) (hst : (assignEach es X.env).findIdx? (·.1) = none) :
    SG T X (.Tuple es k pos) (.tp ts) :=
  PG_imp (PG_or (pg_tup hc h hn hst) (pg_lst hc h hn hst)) fun v σ H Q ⟨d, F, ρ, ρ', gd, r, s, q⟩ => by
    cases d with
    | tup ds =>
      obtain ⟨a, vs, rfl, ha, rv⟩ := r.tup_of
      unfold Tg.go at s
      split at s
      · rename_i hl
        exact .inl ⟨a, vs, rfl, hK ▸ SqT.mono gd.s.sub ha, by rw [← rv.length]; exact hl, ds, F, ρ, ρ', gd, rv, s, fun σ2 g2 c2 => q σ2 g2 (by rw [Tg.ix]; exact c2)⟩
      · cases s
    | lst ds =>
      obtain ⟨a, vs, rfl, ha, rv⟩ := r.lst_of
      unfold Tg.go at s
      split at s
      · rename_i hl
        exact .inr ⟨a, vs, rfl, hK ▸ gd.s.sub.seq ha, by rw [← rv.length]; exact hl, ds, F, ρ, ρ', gd, rv, s, fun σ2 g2 c2 => q σ2 g2 (by rw [Tg.ix]; exact c2)⟩
      · cases s
    | _ => cases s
/-- a, b = e -/
theorem ss_unpack {tg : Expr} {k : M DL.D} {t : Tg} (he : SE T X W e k) (hg : SG T X tg t) (hs : swapsWithSole [tg] e pos.line X.env = pure false) (hw : swappedStores [tg] e X.env = pure none)
    (h1 : (assignEach [tg] X.env).map (·.2) = [assign tg X.env]) : SS T X W (.Assign [tg] e pos) (k.thn (tgS t)) :=
  PS_imp (ps_asg he hg hs hw h1) fun D σ H h => (TSt.start h).mono fun v H1 ⟨d, F1, ρ1, r1, g1, s1⟩ => by
    unfold tgS at s1
    cases z : t.go d ρ1 with
    | none => rw [z] at s1; exact s1.elim
    | some ρ' => rw [z] at s1; exact ⟨d, F1, ρ1, ρ', g1, r1, z, fun σ' g' _ => s1 σ' H1 F1 g' .refl⟩
/-! ### what is walked -/
structure RWk (T : Tb) (g : Fz) (ds : List DL.D) (J : It) (n : Nat) (G : Hp → Prop) (Y : Nat → Hp → V → Hp → Prop) : Prop where
  walk : Walk J n G Y
  len : n = ds.length
  stays : ∀ H, Same g.F H → G H
  item : ∀ i H x H' g1, i < n → g.le g1 → Same g1.F H → Y i H x H' → ∃ d g2, ds[i]? = some d ∧ Rep T g2 d x ∧ Adv g1 H g2 H'
inductive Sq where
  | fro (ds : List DL.D) | cel (n : Nat)
def RW (T : Tb) (g : Fz) : Sq → It → Prop
  | .fro ds, J => ∃ n G Y, RWk T g ds J n G Y
  | .cel n, J => ∃ a, g.A[n]? = some a ∧ J = Itl T.K a
def SI (T : Tb) (X : Cx) (W : WX) (tg it : Expr) (f : M Sq) : Prop := PI X tg it (TM T W (RW T) f)
theorem PI_imp {X : Cx} {tg it : Expr} {t t' : TI} (h : PI X tg it t) (i : ∀ σ H Q, t' σ H Q → t σ H Q) : PI X tg it t' := ⟨fun pins s σ H Q I q => h.run pins s σ H Q I (i _ _ _ q)⟩
theorem PI_or {X : Cx} {tg it : Expr} {t t' : TI} (h : PI X tg it t) (h' : PI X tg it t') : PI X tg it (fun σ H R => t σ H R ∨ t' σ H R) :=
  ⟨fun pins s σ H Q I q => q.elim (h.run pins s σ H Q I) (h'.run pins s σ H Q I)⟩
theorem rw_list {ds : List DL.D} {a : Addr} {vs : List V} (ha : SqL T.K g0.F a vs) (r : RepL T g0 ds vs) : RW T g0 (.fro ds) (Itl T.K a) :=
  ⟨_, _, _, walk_list (xs := vs), r.length.symm, fun H e => e.seq ha, fun i H x H' F1 hi e _ ⟨y1, y2⟩ => by
    obtain ⟨d, h1, h2⟩ := r.get' y2
    subst y1
    exact ⟨d, F1, h1, Rep.mono e h2, adv0⟩⟩
theorem rw_tup {ds : List DL.D} {a : Addr} {vs : List V} (ha : SqT T.K g0.F a vs) (r : RepL T g0 ds vs) : RW T g0 (.fro ds) (Itt T.K a) :=
  ⟨_, _, _, walk_tup (xs := vs), r.length.symm, fun H e => SqT.mono e ha, fun i H x H' F1 hi e _ ⟨y1, y2⟩ => by
    obtain ⟨d, h1, h2⟩ := r.get' y2
    subst y1
    exact ⟨d, F1, h1, Rep.mono e h2, adv0⟩⟩
theorem rw_str {l : List Nat} : RW T g0 (.fro (l.map fun c => .str [c])) (Its (S l)) :=
  ⟨_, _, _, walk_str, by simp, fun _ _ => trivial, fun i H x H' F2 hi e _ ⟨y1, c, y2, y3⟩ => by
      subst y1 y3
      have y2 : l[i]? = some c := by simpa using y2
      exact ⟨.str [c], F2, by rw [List.getElem?_map, y2]; rfl, .str [c], adv0⟩⟩
/-- one of these, by the value -/
def itM (d : DL.D) : M Sq := fun ρ => match d with
  | .lst ds => .ok (.fro ds) ρ
  | .tup ds => .ok (.fro ds) ρ
  | .seq ds => .ok (.fro ds) ρ
  | .str l => .ok (.fro (l.map fun c => .str [c])) ρ
  | .ref n => match ρ.st[n]? with
    | some (.lst _) => .ok (.cel n) ρ
    | _ => .stuck
  | _ => .stuck
def iterM (k : M DL.D) : M Sq := k.bind itM
theorem si_it {tg : Expr} (hK : T.K = X.K) {k : M DL.D} (he : SE T X W e k) : SI T X W tg e (iterM k) :=
  PI_imp (PI_or (pi_list he) (PI_or (pi_tup he) (pi_str he))) fun σ H Q hh => by
    obtain ⟨g0, ρ, gd, s⟩ := hh
    have s : Sat T W σ (RW T) Q g0 ((k ρ).bind itM) := s
    cases z : k ρ with
    | stuck => rw [z] at s; exact s.elim
    | exc x ρ' => exact .inl ⟨g0, ρ, gd, by rw [z] at s ⊢; exact s⟩
    | ok d ρ' =>
      rw [z] at s
      have s : Sat T W σ (RW T) Q g0 (itM d ρ') := s
      cases d with
      | lst ds =>
        refine .inl ⟨g0, ρ, gd, ?_⟩
        rw [z]
        intro v H' g' a1 a2 a3
        obtain ⟨a, vs, rfl, ha, rv⟩ := a2.lst_of
        exact ⟨a, rfl, ⟨vs, hK ▸ a1.s.sub.seq ha⟩, hK ▸ s _ _ _ a1 (rw_list ha rv) a3⟩
      | seq ds =>
        refine .inl ⟨g0, ρ, gd, ?_⟩
        rw [z]
        intro v H' g' a1 a2 a3
        obtain ⟨a, vs, rfl, ha, rv⟩ := a2.seq_of
        exact ⟨a, rfl, ⟨vs, hK ▸ a1.s.sub.seq ha⟩, hK ▸ s _ _ _ a1 (rw_list ha rv) a3⟩
      | tup ds =>
        refine .inr (.inl ⟨g0, ρ, gd, ?_⟩)
        rw [z]
        intro v H' g' a1 a2 a3
        obtain ⟨a, vs, rfl, ha, rv⟩ := a2.tup_of
        exact ⟨a, rfl, ⟨vs, hK ▸ SqT.mono a1.s.sub ha⟩, hK ▸ s _ _ _ a1 (rw_tup ha rv) a3⟩
      | str l =>
        refine .inr (.inr ⟨g0, ρ, gd, ?_⟩)
        rw [z]
        intro v H' g' a1 a2 a3
        obtain rfl := a2.str_of
        exact ⟨S l, rfl, s _ _ _ a1 rw_str a3⟩
      | ref n =>
        refine .inl ⟨g0, ρ, gd, ?_⟩
        rw [z]
        intro v H' g' a1 a2 a3
        obtain ⟨a, rfl, hn⟩ := a2.ref_of
        unfold itM at s
        cases q : ρ'.st[n]? with
        | none => simp only [q] at s; exact s.elim
        | some c =>
          cases c with
          | lst ds =>
            simp only [q] at s
            obtain ⟨_, vs, h1, h2⟩ := a1.s.cell n a _ hn q (fun q => nomatch q)
            exact ⟨a, rfl, ⟨vs, SqL.of h1⟩, hK ▸ s (Itl T.K a) _ _ a1 ⟨a, hn, rfl⟩ a3⟩
          | _ => simp only [q] at s; exact s.elim
      | _ => exact s.elim
def forL : List DL.D → Tg → MS → MS
  | [], _, _ => nextS
  | d :: ds, t, f => fun ρ => ((tgS t d).seq f ρ).loop (forL ds t f)
/-- over a cell: the list is looked at anew at each turn -/
def forC : Nat → Nat → Nat → Tg → MS → MS
  | 0, _, _, _, _ => fun _ => .stuck
  | m + 1, n, i, t, f => fun ρ => match ρ.st[n]? with
    | some (.lst ds) => match ds[i]? with
      | some d => ((tgS t d).seq f ρ).loop (forC m n (i + 1) t f)
      | none => .next ρ
    | _ => .stuck
def lenC (n : Nat) (ρ : Rho) : Nat := match ρ.st[n]? with
  | some (.lst ds) => ds.length
  | _ => 0
def forQ (q : Sq) (t : Tg) (f : MS) : MS := match q with
  | .fro ds => forL ds t f
  | .cel n => fun ρ => forC (lenC n ρ + 1) n 0 t f ρ
theorem tg_body {tg : Expr} {t : Tg} {k : MS} {d : DL.D} {v : V} {ρ : Rho} {E' : Ends} (gd : Good T g0 H ρ σ) (r : Rep T g0 d v) (s : SatS T W E g0 (((tgS t d).seq f ρ).loop k))
    (hE : ∀ σ' H' g' ρ' , Good T g' H' ρ' σ' → g0.le g' → SatS T W E g' (k ρ') → E'.nx σ' H') (hE2 : ∀ σ' H' g' ρ' , Good T g' H' ρ' σ' → g0.le g' → SatS T W E g' (k ρ') → E'.ct σ' H') (hb : E'.bk = E.nx) (hr : E'.rt = E.rt) :
    TGo T t v σ H (fun σ2 H2 => TSt T W f E' σ2 H2) := by
  unfold MS.seq tgS at s
  cases z : t.go d ρ with
  | none => simp only [z] at s; exact s.elim
  | some ρ1 =>
    simp only [z] at s
    refine ⟨d, g0, ρ, ρ1, gd, r, z, fun σ1 g1 _ => ⟨g0, ρ1, g1, ?_⟩⟩
    have s : SatS T W E g0 ((f ρ1).loop k) := s
    revert s
    cases y : f ρ1 with
    | next ρ5 => exact fun s4 σ5 H5 F5 b1 b3 => hE _ _ _ _ b1 b3 (SatS.go b3 s4)
    | cont ρ5 => exact fun s4 σ5 H5 F5 b1 b3 => hE2 _ _ _ _ b1 b3 (SatS.go b3 s4)
    | brk ρ5 => exact fun s4 σ5 H5 F5 b1 b3 => by rw [hb]; exact s4 _ _ _ b1 b3
    | ret r ρ5 => exact fun s4 v σ5 H5 F5 b1 b2 b3 => by rw [hr]; exact s4 _ _ _ _ b1 b2 b3
    | exc x ρ5 => exact fun s4 => s4
    | stuck => exact fun s4 => s4
theorem ss_for {tg : Expr} {t : Tg} {body : List Stmt} {k : M Sq} (hK : T.K = X.K) (hp : PassesOwn (model X.prog X.w) X.A X.env X.xe) (hc : X.calm = true) (hi : SI T X W tg e k) (hg : SG T X tg t) (hb : SSs T X W body f)
    (hs : ∀ x, foldedSetIterable e X.env x = pure x) : SS T X W (.For tg e body [] pos) (k.thn fun q => forQ q t f) :=
  PS_imp (ps_for hp hc hi hg hb hs) fun E σ H h => (TSt.start h).mono fun J H1 ⟨q, F1, ρ1, R, g1, s1⟩ => by
    cases q with
    | fro ds =>
      obtain ⟨n, G, Y, R⟩ := R
      have hlen := R.len
      refine for_it R.walk (fun i σ' H' => ∃ F2 ρ2, F1.le F2 ∧ Good T F2 H' ρ2 σ' ∧ SatS T W E F2 (forL (ds.drop i) t f ρ2)) ⟨F1, ρ1, .refl, g1, s1⟩
        (fun i σ' H' _ ⟨F2, ρ2, e2, g2, _⟩ => R.stays H' (e2.F.trans g2.s.sub)) ?_ ?_
      · rintro i x σ2 H2 H2' hi ⟨F2, ρ2, e2, g2, s2⟩ y
        obtain ⟨d, F3, hd, r3, ad⟩ := R.item i H2 x H2' F2 hi e2 g2.s.sub y
        obtain ⟨g3, e3⟩ := ad.good g2
        have hdrop : ds.drop i = d :: ds.drop (i + 1) := by
          obtain ⟨h1, h2⟩ := List.getElem?_eq_some_iff.mp hd
          rw [List.drop_eq_getElem_cons h1, h2]
        rw [hdrop] at s2
        exact tg_body (tg := tg) (t := t) (k := forL (ds.drop (i + 1)) t f) g3 r3 (SatS.go e3 s2) (fun σ' H' g' ρ' a1 a2 a3 => ⟨g', ρ', (e2.trans e3).trans a2, a1, a3⟩) (fun σ' H' g' ρ' a1 a2 a3 => ⟨g', ρ', (e2.trans e3).trans a2, a1, a3⟩) rfl rfl
      · rintro σ2 H2 ⟨F2, ρ2, e2, g2, s2⟩
        rw [hlen, List.drop_length] at s2
        exact s2 σ2 H2 F2 g2 .refl
    | cel n =>
      obtain ⟨a, hn, rfl⟩ := R
      refine ⟨fun i m σ' H' => ∃ F2 ρ2, F1.le F2 ∧ Good T F2 H' ρ2 σ' ∧ SatS T W E F2 (forC m n i t f ρ2), ⟨_, F1, ρ1, .refl, g1, s1⟩, ?_⟩
      rintro i m σ2 H2 ⟨F2, ρ2, e2, g2, s2⟩
      cases m with
      | zero => exact s2.elim
      | succ m =>
        unfold forC at s2
        cases q : ρ2.st[n]? with
        | none => simp only [q] at s2; exact s2.elim
        | some c =>
          cases c with
          | lst ds =>
            simp only [q] at s2
            obtain ⟨_, vs, h1, h2⟩ := g2.s.cell n a _ (e2.ls.get hn) q (fun q => nomatch q)
            have hq : SqL T.K H2 a vs := SqL.of h1
            cases z : ds[i]? with
            | none =>
              simp only [z] at s2
              refine .inl ⟨⟨vs, hq, ?_⟩, s2 σ2 H2 F2 g2 .refl⟩
              rw [← h2.length]
              exact List.getElem?_eq_none_iff.mp z
            | some d =>
              simp only [z] at s2
              obtain ⟨x, hx, rx⟩ := h2.get z
              refine .inr ⟨⟨vs, x, hq, hx⟩, fun σ' H' => ∃ F3 ρ3, F1.le F3 ∧ Good T F3 H' ρ3 σ' ∧ SatS T W E F3 (forC m n (i + 1) t f ρ3), fun σ' H' w => ⟨m, Nat.lt_succ_self m, w⟩, fun x' H' y => ?_⟩
              obtain ⟨e', y⟩ := y
              subst e'
              have hx' : x' = x := by
                have := y vs hq
                rw [hx] at this; exact (Option.some.inj this).symm
              subst hx'
              exact tg_body (tg := tg) (t := t) (k := forC m n (i + 1) t f) g2 rx s2 (fun σ' H' g' ρ' a1 a2 a3 => ⟨g', ρ', e2.trans a2, a1, a3⟩) (fun σ' H' g' ρ' a1 a2 a3 => ⟨g', ρ', e2.trans a2, a1, a3⟩) rfl rfl
          | _ => simp only [q] at s2; exact s2.elim
end
end DL
set_option Elab.async false
set_option linter.all false
set_option maxRecDepth 100000
set_option maxHeartbeats 2000000
namespace DL
open PySem PySem.Spec PyProof.Rows L2 RZ
section
variable {T : Tb} {X : Cx} {W : WX} {σ σ1 : L2.St} {g0 g1 : Fz} {F H H1 : Hp} {E : Ends} {f g : M D} {pos : Pos} {tg e c a b : Expr}
def range1M (f : M D) : M Sq := f.bind fun d => match d with
  | .int j => if -(2 ^ 62) ≤ j ∧ j < 2 ^ 62 then M.pure (.fro ((List.range j.toNat).map fun i => .int (i : Nat))) else M.stuck
  | _ => M.stuck
def range2M (f g : M D) : M Sq := f.bind fun d => g.bind fun e => match d, e with
  | .int i, .int j => if (-(2 ^ 62) ≤ i ∧ i < 2 ^ 62) ∧ -(2 ^ 62) ≤ j ∧ j < 2 ^ 62 then M.pure (.fro ((List.range (j - i).toNat).map fun n => .int (i + (n : Nat)))) else M.stuck
  | _, _ => M.stuck
theorem rw_range {lo : Int} {n : Nat} : RW T g0 (.fro ((List.range n).map fun i => .int (lo + (i : Nat)))) (Itr lo n) :=
  ⟨_, _, _, walk_range, by simp, fun _ _ => trivial, fun i H x H' F1 hi e _ ⟨y1, y2⟩ => by
    subst y1 y2
    exact ⟨.int (lo + (i : Nat)), F1, by rw [List.getElem?_map, List.getElem?_range hi]; rfl, .int _, adv0⟩⟩
theorem pa1 (ha : PE X a (TM T W (RD T) f)) (hn : notStar a = true) : PA X [a] (tCons (TM T W (RD T) f) tNil) := pa_cons ha pa_nil (starEach_of hn)
theorem pa2 (ha : PE X a (TM T W (RD T) f)) (hb : PE X b (TM T W (RD T) g)) (hn : notStar a = true) (hm : notStar b = true) : PA X [a, b] (tCons (TM T W (RD T) f) (tCons (TM T W (RD T) g) tNil)) := pa_cons ha (pa_cons hb pa_nil (starEach_of hm)) (starEach_of hn)
theorem si_range1 {p : Pos} (hg : Gl X "range") (hm : X.mg "range" = none) (ha : SE T X W a f) (hn : notStar a = true) : SI T X W tg (.Call (.Name "range" p) [a] [] pos) (range1M f) :=
  PI_imp (pi_range1 hg hm (pa1 ha hn) (starEach_of hn)) fun σ H Q hh => (TM.start hh).mono fun v H1 ⟨d, F1, ρ1, r1, g1, s1⟩ => by
    cases d with
    | int j =>
      obtain rfl := r1.int_of
      dsimp only at s1
      split at s1
      · rename_i hc
        refine ⟨j, rfl, hc.1, hc.2, Sat.here g1 ?_ s1⟩
        have e := rw_range (T := T) (g0 := F1) (lo := 0) (n := j.toNat)
        simp only [Int.zero_add] at e
        exact e
      · exact s1.elim
    | _ => exact s1.elim
theorem si_range2 {p : Pos} (hg : Gl X "range") (hm : X.mg "range" = none) (ha : SE T X W a f) (hb : SE T X W b g) (hn : notStar a = true) (hn2 : notStar b = true) : SI T X W tg (.Call (.Name "range" p) [a, b] [] pos) (range2M f g) :=
  PI_imp (pi_range2 hg hm (pa2 ha hb hn hn2) (by rw [starEach_of hn, starEach_of hn2]; rfl) (by rw [starEach_of hn2]; rfl)) fun σ H Q hh => (TM.start hh).mono fun v H1 ⟨d, F1, ρ1, r1, g1, s1⟩ => (TM.next g1 s1).mono fun u H2 ⟨e, F2, ρ2, r2, e2, g2, s2⟩ => by
    cases d with
    | int i =>
      cases e with
      | int j =>
        obtain rfl := r1.int_of
        obtain rfl := r2.int_of
        dsimp only at s2
        split at s2
        · rename_i hc
          exact ⟨i, j, rfl, ⟨hc.1.1, hc.1.2, hc.2.1, hc.2.2⟩, Sat.here g2 rw_range s2⟩
        · exact s2.elim
      | _ => exact s2.elim
    | _ => exact s2.elim
theorem pair_item {F0 : Fz} {xs ys : Nat → Option V} {ps : List D} (hx : ∀ i x y, xs i = some x → ys i = some y → ∃ d e, ps[i]? = some (.tup [d, e]) ∧ Rep T F0 d x ∧ Rep T F0 e y) {n : Nat} :
    ∀ i H x H' F1, i < n → F0.le F1 → Same F1.F H → YPair xs ys i H x H' → ∃ d F2, ps[i]? = some d ∧ Rep T F2 d x ∧ Adv F1 H F2 H' := by
  intro i H v H' F1 _ e1 e2 ⟨p, x, y, h1, h2, h3, h4, h5⟩
  obtain ⟨d, e, k1, k2, k3⟩ := hx i x y h4 h5
  have hF : F1.F p = none := Fz_none e2 h2
  have m : F1.le (F1.up p (.tup [x, y])) := Fz.up_le hF
  subst h1 h3
  exact ⟨_, F1.up p (.tup [x, y]), k1, .tup (SqT.of upd_same) (.cons (Rep.mono (e1.trans m) k2) (.cons (Rep.mono (e1.trans m) k3) .nil)), .inr ⟨p, _, h2, rfl, rfl⟩⟩
def enumD (ds : List D) : List D := ds.mapIdx fun i d => .tup [.int (i : Nat), d]
def enumM (f : M D) : M Sq := f.bind fun d => match d with
  | .lst ds => M.pure (.fro (enumD ds))
  | _ => M.stuck
theorem si_enum {p tpos : Pos} {elts : List Expr} {kk : Nat} (hK : T.K = X.K) (hg : Gl X "enumerate") (hm : X.mg "enumerate" = none) (ha : SE T X W a f) (hn : notStar a = true) : SI T X W (.Tuple elts kk tpos) (.Call (.Name "enumerate" p) [a] [] pos) (enumM f) :=
  PI_imp (pi_enum hg hm (pa1 ha hn) (starEach_of hn)) fun σ H Q hh => (TM.start hh).mono fun v H1 ⟨d, F1, ρ1, r1, g1, s1⟩ => by
    cases d with
    | lst ds =>
      obtain ⟨a, vs, rfl, ha, rv⟩ := r1.lst_of
      refine ⟨a, vs, rfl, hK ▸ g1.s.sub.seq ha, Sat.here g1 ⟨_, _, _, walk_enum (xs := vs), by simp [enumD, rv.length], fun H e => hK ▸ e.seq ha, pair_item fun i x y h1 h2 => ?_⟩ s1⟩
      simp only [Option.some.injEq] at h1
      subst h1
      obtain ⟨d, k1, k2⟩ := rv.get' h2
      exact ⟨.int (i : Nat), d, by simp [enumD, k1], .int _, k2⟩
    | _ => exact s1.elim
def zipD (ds es : List D) : List D := (ds.zip es).map fun p => .tup [p.1, p.2]
def zipM (f g : M D) : M Sq := f.bind fun d => g.bind fun e => match d, e with
  | .lst ds, .lst es => M.pure (.fro (zipD ds es))
  | .tup ds, .tup es => M.pure (.fro (zipD ds es))
  | _, _ => M.stuck
theorem walk_zipT {K : PySem.W.Frag} {a b : Addr} {xs ys : List V} {n : Nat} (hn : n = min xs.length ys.length) : Walk (ItzT K a b) n (fun H => SqT K H a xs ∧ SqT K H b ys) (YPair (fun i => xs[i]?) (fun i => ys[i]?)) := by
  subst hn
  refine ⟨fun i _ hi q => ?_, fun _ q => ⟨xs, ys, q.1, q.2, by omega⟩, fun i H v H' _ q y => ?_⟩
  · have h1 : i < xs.length := by omega
    have h2 : i < ys.length := by omega
    exact ⟨xs, ys, xs[i], ys[i], q.1, q.2, by simp [h1], by simp [h2]⟩
  · obtain ⟨T, x, z, h1, h2, h3, h4, h5⟩ := y
    exact ⟨T, x, z, h1, h2, h3, h4 xs q.1, h5 ys q.2⟩
theorem zip_at {ds es : List D} {vs us : List V} (r : RepL T g0 ds vs) (r' : RepL T g0 es us) (i : Nat) (x y : V) (h1 : vs[i]? = some x) (h2 : us[i]? = some y) : ∃ d e, (zipD ds es)[i]? = some (.tup [d, e]) ∧ Rep T g0 d x ∧ Rep T g0 e y := by
  obtain ⟨d, k1, k2⟩ := r.get' h1
  obtain ⟨e, k3, k4⟩ := r'.get' h2
  refine ⟨d, e, ?_, k2, k4⟩
  unfold zipD
  have e0 : (ds.zip es)[i]? = some (d, e) := List.getElem?_zip_eq_some.mpr ⟨k1, k3⟩
  rw [List.getElem?_map, e0]; rfl
theorem si_zip {p tpos : Pos} {elts : List Expr} {kk : Nat} (hK : T.K = X.K) (hg : Gl X "zip") (hm : X.mg "zip" = none) (ha : SE T X W a f) (hb : SE T X W b g) (hn : notStar a = true) (hn2 : notStar b = true) : SI T X W (.Tuple elts kk tpos) (.Call (.Name "zip" p) [a, b] [] pos) (zipM f g) :=
  PI_imp (pi_zipA hg hm (pa2 ha hb hn hn2) (starEach_of hn) (by rw [starEach_of hn2]; rfl)) fun σ H Q hh => (TM.start hh).mono fun v H1 ⟨d, F1, ρ1, r1, g1, s1⟩ => (TM.next g1 s1).mono fun u H2 ⟨e, F2, ρ2, r2, e2, g2, s2⟩ => by
    have r1 := Rep.mono e2 r1
    cases d <;> cases e <;> try exact s2.elim
    · rename_i ds es
      obtain ⟨a, vs, rfl, ha, rv⟩ := r1.tup_of
      obtain ⟨b, us, rfl, hb, rv2⟩ := r2.tup_of
      exact ⟨a, b, vs, us, rfl, .inr ⟨hK ▸ SqT.mono g2.s.sub ha, hK ▸ SqT.mono g2.s.sub hb, Sat.here g2 ⟨_, _, _, walk_zipT (xs := vs) (ys := us) rfl, by simp [zipD, rv.length, rv2.length], fun H e => ⟨hK ▸ SqT.mono e ha, hK ▸ SqT.mono e hb⟩, pair_item (zip_at rv rv2)⟩ s2⟩⟩
    · rename_i ds es
      obtain ⟨a, vs, rfl, ha, rv⟩ := r1.lst_of
      obtain ⟨b, us, rfl, hb, rv2⟩ := r2.lst_of
      exact ⟨a, b, vs, us, rfl, .inl ⟨hK ▸ g2.s.sub.seq ha, hK ▸ g2.s.sub.seq hb, Sat.here g2 ⟨_, _, _, walk_zip (xs := vs) (ys := us) rfl, by simp [zipD, rv.length, rv2.length], fun H e => ⟨hK ▸ e.seq ha, hK ▸ e.seq hb⟩, pair_item (zip_at rv rv2)⟩ s2⟩⟩
end
end DL
set_option Elab.async false
set_option linter.all false
set_option maxRecDepth 100000
set_option maxHeartbeats 2000000
namespace DL
open PySem PySem.Spec PyProof.Rows L2
/-! ### comprehensions -/
abbrev W0 : WX := fun _ _ _ _ => False
def Out.noX {α : Type} : Out α → Out α
  | .exc _ _ => .stuck
  | .ok a ρ => .ok a ρ
  | .stuck => .stuck
def M.noX {α : Type} (f : M α) : M α := fun ρ => (f ρ).noX
def wipeL (sl : List (Option D)) : List Nat → List (Option D)
  | [] => sl
  | v :: vs => (wipeL sl vs).set v none
section
variable {T : Tb} {X : Cx} {W : WX} {σ σ1 : L2.St} {g g0 g1 : Fz} {F H H1 : Hp} {pos : Pos} {tg e c a b : Expr}
theorem noX_in {α β γ δ : Type} {R : Fz → α → β → Prop} {R' : Fz → γ → δ → Prop} {Q' : δ → Hp → Prop} {gb : Fz} {ρ1 : Rho} {f : M α} {k : α → M γ} {σ2 : L2.St} (gd : Good T g1 H1 ρ1 σ2) (h : Sat T W σ R' Q' gb ((f.noX.bind k) ρ1)) :
    TM T W0 R f σ2 H1 (fun b H2 => ∃ a g2 ρ2, R g2 a b ∧ g1.le g2 ∧ Good T g2 H2 ρ2 σ2 ∧ Sat T W σ R' Q' gb (k a ρ2)) := by
  refine ⟨g1, ρ1, gd, ?_⟩
  have h : Sat T W σ R' Q' gb ((f ρ1).noX.bind k) := h
  revert h
  cases f ρ1 with
  | ok a ρ' => exact fun h b H' g' a1 a2 a3 => ⟨a, g', ρ', a2, a3, a1, h⟩
  | exc x ρ' => exact fun h => False.elim h
  | stuck => exact fun h => h
theorem wipeL_length (sl : List (Option D)) : ∀ vs : List Nat, (wipeL sl vs).length = sl.length
  | [] => rfl
  | v :: vs => by unfold wipeL; rw [List.length_set, wipeL_length sl vs]
theorem wipeL_some {sl : List (Option D)} {i : Nat} {x : D} : ∀ {vs : List Nat}, (wipeL sl vs)[i]? = some (some x) → sl[i]? = some (some x) ∧ i ∉ vs
  | [], h => ⟨h, by simp⟩
  | v :: vs, h => by
    unfold wipeL at h
    by_cases hi : v = i
    · subst hi
      by_cases hv : v < (wipeL sl vs).length
      · rw [List.getElem?_set_self hv] at h; cases h
      · rw [List.getElem?_eq_none (by simpa using hv)] at h; cases h
    · rw [List.getElem?_set_ne hi] at h
      obtain ⟨h1, h2⟩ := wipeL_some h
      exact ⟨h1, by simp only [List.mem_cons, not_or]; exact ⟨fun e => hi e.symm, h2⟩⟩
theorem wipe_in {σ : L2.St} {i : Nat} : ∀ {vs : List Nat}, i ∈ vs → (wipe σ vs)[i]? = if i < σ.length then some none else none
  | [], h => by simp at h
  | v :: vs, h => by
    unfold wipe
    by_cases hi : v = i
    · subst hi
      by_cases hv : v < σ.length
      · rw [List.getElem?_set_self (by rw [wipe_length]; exact hv), if_pos hv]
      · rw [List.getElem?_eq_none (by rw [List.length_set, wipe_length]; omega), if_neg hv]
    · rw [List.getElem?_set_ne hi]
      exact wipe_in ((List.mem_cons.mp h).resolve_left fun e => hi e.symm)
theorem wipe_chg {σ σ' : L2.St} {vs ws : List Nat} (h : Chg ws (wipe σ vs) σ') (hw : ∀ i ∈ ws, i ∈ vs) : wipe σ' vs = wipe σ vs := by
  have hl : σ'.length = σ.length := h.1.trans (wipe_length _ _)
  apply List.ext_getElem?
  intro i
  by_cases hi : i ∈ vs
  · rw [wipe_in hi, wipe_in hi, hl]
  · rw [wipe_out hi, h.2 i fun q => hi (hw i q)]
theorem GoodS.holdNew {μ : List Cell} {p : Addr} (gd : GoodS T g H μ) (hp : H p = none) : GoodS T (g.hold p []) (upd H p (.lst [])) μ := by
  have e := upd_same' (o := .lst []) hp
  refine ⟨gd.sub.trans e, gd.nd, fun a h => ?_, gd.len, fun n a c h1 h2 h3 => ?_, fun a vs h => ?_⟩
  · obtain ⟨u, q⟩ := gd.has a h
    exact ⟨u, e a u q⟩
  · obtain ⟨q1, q2⟩ := gd.cell n a c h1 h2 h3
    exact ⟨q1, CRep.mono' (g := g) (g' := g.hold p []) ⟨fun _ _ z => z, List.prefix_refl _⟩ e (fun _ _ q => q) q2⟩
  · rcases List.mem_cons.mp h with h | h
    · cases h
      refine ⟨upd_same, fun q => ?_, Fz_none gd.sub hp⟩
      obtain ⟨u, z⟩ := gd.has p q
      rw [hp] at z; cases z
    · obtain ⟨h1, h2, h3⟩ := gd.hold a vs h
      exact ⟨e _ _ h1, h2, h3⟩
theorem GoodS.grow {μ : List Cell} {p : Addr} {vs us : List V} (gd : GoodS T (g.hold p vs) H μ) (hn : ∀ ws, (p, ws) ∉ g.L) : GoodS T (g.hold p us) (upd H p (.lst us)) μ := by
  obtain ⟨q1, q2, q3⟩ := gd.hold p vs (List.mem_cons_self)
  refine ⟨fun b u e => ?_, gd.nd, fun b h => ?_, gd.len, fun m b c' h1 h2 h3 => ?_, fun b ws h => ?_⟩
  · rw [upd_ne]
    · exact gd.sub b u e
    · intro z; subst z; rw [show g.F b = none from q3] at e; cases e
  · obtain ⟨u, q⟩ := gd.has b h
    by_cases z : b = p
    · subst z; exact absurd h q2
    · exact ⟨u, by rw [upd_ne z]; exact q⟩
  · obtain ⟨y1, y2⟩ := gd.cell m b c' h1 h2 h3
    refine ⟨y1, ?_⟩
    have y3 : CRep T (g.hold p vs) (upd H p (.lst us)) c' b := y2.upd_other q1 (fun y z => nomatch z) (fun z => q2 (z ▸ List.mem_of_getElem? h1))
    exact CRep.mono' (g := g.hold p vs) (g' := g.hold p us) ⟨fun _ _ z => z, List.prefix_refl _⟩ (fun _ _ z => z) (fun _ _ q => q) y3
  · rcases List.mem_cons.mp h with h | h
    · cases h; exact ⟨upd_same, q2, q3⟩
    · obtain ⟨h1, h2, h3⟩ := gd.hold b ws (List.mem_cons_of_mem _ h)
      have z : b ≠ p := fun z => hn ws (z ▸ h)
      exact ⟨by rw [upd_ne z]; exact h1, h2, h3⟩
theorem GoodS.drop {μ : List Cell} {p : Addr} {vs : List V} (gd : GoodS T (g.hold p vs) H μ) : GoodS T g H μ :=
  ⟨gd.sub, gd.nd, gd.has, gd.len, fun n a c h1 h2 h3 => by
    obtain ⟨y1, y2⟩ := gd.cell n a c h1 h2 h3
    exact ⟨y1, CRep.mono' (g := g.hold p vs) (g' := g) ⟨fun _ _ z => z, List.prefix_refl _⟩ (fun _ _ z => z) (fun _ _ q => q) y2⟩, fun a ws h => gd.hold a ws (List.mem_cons_of_mem _ h)⟩
/-- the list made is frozen -/
theorem GoodS.settle {μ : List Cell} {p : Addr} {vs : List V} (gd : GoodS T (g.hold p vs) H μ) (hn : ∀ ws, (p, ws) ∉ g.L) : GoodS T (g.up p (.lst vs)) H μ ∧ g.le (g.up p (.lst vs)) := by
  obtain ⟨q1, q2, q3⟩ := gd.hold p vs (List.mem_cons_self)
  have le : g.le (g.up p (.lst vs)) := Fz.up_le q3
  have gd' := gd.drop
  refine ⟨⟨fun a u e => ?_, gd.nd, gd.has, gd.len, fun n a c h1 h2 h3 => ?_, fun a ws h => ?_⟩, le⟩
  · have e : upd g.F p (.lst vs) a = some u := e
    by_cases z : a = p
    · subst z; rw [upd_same] at e; cases e; exact q1
    · rw [upd_ne z] at e; exact gd.sub a u e
  · obtain ⟨y1, y2⟩ := gd'.cell n a c h1 h2 h3
    have z : a ≠ p := fun z => q2 (z ▸ List.mem_of_getElem? h1)
    refine ⟨by show upd g.F p _ a = none; rw [upd_ne z]; exact y1, ?_⟩
    cases c with
    | dead => exact absurd rfl h3
    | lst ds => obtain ⟨ws, w1, w2⟩ := y2; exact ⟨ws, w1, w2.mono le⟩
    | dic ds => obtain ⟨ws, w1, w2⟩ := y2; exact ⟨ws, w1, w2.mono le⟩
    | obj C fs =>
      obtain ⟨dx, gs, w1, w2, w3, w4⟩ := y2
      refine ⟨dx, gs, w1, w2, ?_, w4.mono le⟩
      show upd g.F p _ dx = none
      rw [upd_ne]
      · exact w3
      · intro z; subst z; rw [q1] at w2; cases w2
  · obtain ⟨h1, h2, h3⟩ := gd'.hold a ws h
    have z : a ≠ p := fun z => hn ws (z ▸ h)
    exact ⟨h1, h2, by show upd g.F p _ a = none; rw [upd_ne z]; exact h3⟩
/-- or a cell -/
theorem GoodS.settleC {μ : List Cell} {p : Addr} {vs : List V} {ds : List D} (gd : GoodS T (g.hold p vs) H μ) (hn : ∀ ws, (p, ws) ∉ g.L) (r : RepL T g ds vs) : GoodS T (g.ac p) H (μ ++ [.lst ds]) ∧ g.le (g.ac p) := by
  obtain ⟨q1, q2, q3⟩ := gd.hold p vs (List.mem_cons_self)
  have gd' := gd.drop
  have le : g.le (g.ac p) := Fz.ac_le
  refine ⟨⟨gd.sub, ?_, fun a h => ?_, by have := gd.len; simp at this ⊢; exact this, fun n a c' h1 h2 h3 => ?_, fun a ws h => ?_⟩, le⟩
  · show (g.A ++ [p]).Nodup
    rw [List.nodup_append]
    exact ⟨gd.nd, by simp, fun a ha b hb => by simp at hb; subst hb; exact fun z => q2 (z ▸ ha)⟩
  · rcases List.mem_append.mp h with h | h
    · exact gd.has a h
    · obtain rfl : a = p := by simpa using h
      exact ⟨_, q1⟩
  · by_cases hn : n < g.A.length
    · have h1 : g.A[n]? = some a := by
        have h1 : (g.A ++ [p])[n]? = some a := h1
        rw [List.getElem?_append_left hn] at h1; exact h1
      rw [List.getElem?_append_left (by rw [← gd.len]; exact hn)] at h2
      obtain ⟨y1, y2⟩ := gd'.cell n a c' h1 h2 h3
      exact ⟨y1, CRep.mono le (fun _ _ z => z) (fun _ _ q => q) y2⟩
    · have h1 : (g.A ++ [p])[n]? = some a := h1
      have hn' : g.A.length = n := by
        have := (List.getElem?_eq_some_iff.mp h1).1
        simp at this; omega
      subst hn'
      have e1 : a = p := by simpa using h1.symm
      rw [show g.A.length = μ.length from gd.len] at h2
      have e2 : c' = .lst ds := by simpa using h2.symm
      subst e1 e2
      exact ⟨q3, vs, q1, r.mono le⟩
  · obtain ⟨h1, h2, h3⟩ := gd'.hold a ws h
    refine ⟨h1, fun q => ?_, h3⟩
    rcases List.mem_append.mp q with q | q
    · exact h2 q
    · obtain rfl : a = p := by simpa using q
      exact hn ws h
theorem Fz.hold_le {p : Addr} {vs : List V} {g' : Fz} (e : (g.hold p vs).le g') : ∃ g2, g' = g2.hold p vs ∧ g.le g2 := by
  obtain ⟨F', A', L'⟩ := g'
  have h : (p, vs) :: g.L = L' := e.L
  subst h
  exact ⟨⟨F', A', g.L⟩, rfl, ⟨e.F, e.A, rfl⟩⟩
theorem Fz.ls_hold {p : Addr} {vs : List V} : (g.hold p vs).ls g := ⟨fun _ _ z => z, List.prefix_refl _⟩
theorem Fz.ls_hold' {p : Addr} {vs : List V} : g.ls (g.hold p vs) := ⟨fun _ _ z => z, List.prefix_refl _⟩
theorem Adv.hold {g' : Fz} {H H' : Hp} {p : Addr} {vs : List V} (a : Adv g H g' H') : Adv (g.hold p vs) H (g'.hold p vs) H' := by
  rcases a with ⟨rfl, rfl⟩ | ⟨q, o, hp, rfl, rfl⟩
  · exact .inl ⟨rfl, rfl⟩
  · exact .inr ⟨q, o, hp, rfl, rfl⟩
/-! what a comprehension tells -/
def turnM (sw : List (Option D)) (t : Tg) (tt : M Bool) (te : M D) (d : D) (acc : List D) (k : List D → M D) : M D := fun ρ => match t.go d ⟨sw, ρ.st⟩ with
  | none => .stuck
  | some ρ1 => (tt.noX.bind fun b => if b = true then te.noX.bind fun y => if acc.length < LIM then k (acc ++ [y]) else M.stuck else k acc) ρ1
def lcL (sw : List (Option D)) (t : Tg) (tt : M Bool) (te : M D) (fin : List D → M D) : List D → List D → M D
  | [], acc => fin acc
  | d :: ds, acc => turnM sw t tt te d acc (lcL sw t tt te fin ds)
def lcC (sw : List (Option D)) (t : Tg) (tt : M Bool) (te : M D) (fin : List D → M D) (n : Nat) : Nat → Nat → List D → M D
  | 0, _, _ => M.stuck
  | m + 1, i, acc => fun ρ => match ρ.st[n]? with
    | some (.lst ds) => match ds[i]? with
      | some d => turnM sw t tt te d acc (lcC sw t tt te fin n m (i + 1)) ρ
      | none => fin acc ρ
    | _ => .stuck
def lcQ (sw : List (Option D)) (t : Tg) (tt : M Bool) (te : M D) (fin : List D → M D) (q : Sq) : M D := match q with
  | .fro ds => lcL sw t tt te fin ds []
  | .cel n => fun ρ => lcC sw t tt te fin n (lenC n ρ + 1) 0 [] ρ
def finM (c : Bool) (sl : List (Option D)) (acc : List D) : M D := fun ρ => newL c acc ⟨sl, ρ.st⟩
def lcM (c : Bool) (vs : List Nat) (t : Tg) (k : M Sq) (tt : M Bool) (te : M D) : M D := k.bind fun q => fun ρ => lcQ (wipeL ρ.sl vs) t tt te (finM c ρ.sl) q ρ
/-- the state of a comprehension's turn -/
structure LcI (T : Tb) (W : WX) (σ : L2.St) (Q : VK) (g1 : Fz) (p : Addr) (H : Hp) (k : List D → M D) : Prop where
  ex : ∃ g2 μ acc vacc sl, g1.le g2 ∧ GoodS T (g2.hold p vacc) H μ ∧ RepL T g2 acc vacc ∧ Sat T W σ (RD T) Q g1 (k acc ⟨sl, μ⟩)
theorem lc_turn {vs : List Nat} {t : Tg} {tt : M Bool} {te : M D} {d : D} {x : V} {Q : VK} {p : Addr} {sl0 : List (Option D)} {k : List D → M D} {ρ : Rho} {acc : List D} {vacc : List V}
    (hw : ∀ i ∈ t.ix, i ∈ vs) (hn : ∀ ws, (p, ws) ∉ g1.L) (hsl : sl0.length = σ.length) (hslot : ∀ (i : Nat) (d : D), sl0[i]? = some (some d) → ∃ v, σ[i]? = some (some v) ∧ Rep T g1 d v)
    (e3 : g1.le g) (g3 : GoodS T (g.hold p vacc) H ρ.st) (rx : Rep T g d x) (ra : RepL T g acc vacc) (s : Sat T W σ (RD T) Q g1 (turnM (wipeL sl0 vs) t tt te d acc k ρ)) :
    TGo T t x (wipe σ vs) H (fun σ2 H2 => wipe σ2 vs = wipe σ vs ∧ TM T W0 RB tt σ2 H2 fun b H3 =>
      if b = true then TM T W0 (RD T) te σ2 H3 fun y H4 => ∃ acc, H4 p = some (.lst acc) ∧ acc.length < sizeLine ∧ LcI T W σ Q g1 p (upd H4 p (.lst (acc ++ [y]))) k else LcI T W σ Q g1 p H3 k) := by
  unfold turnM at s
  cases z : t.go d ⟨wipeL sl0 vs, ρ.st⟩ with
  | none => simp only [z] at s; exact s.elim
  | some ρ1 =>
    simp only [z] at s
    have gw : Good T (g.hold p vacc) H ⟨wipeL sl0 vs, ρ.st⟩ (wipe σ vs) := ⟨g3, by rw [wipeL_length, wipe_length]; exact hsl, fun i d' h => by
      obtain ⟨h1, h2⟩ := wipeL_some h
      obtain ⟨v, h3, h4⟩ := hslot i d' h1
      exact ⟨v, by rw [wipe_out h2]; exact h3, Rep.mono' Fz.ls_hold' (h4.mono e3)⟩⟩
    refine ⟨d, g.hold p vacc, _, ρ1, gw, Rep.mono' Fz.ls_hold' rx, z, fun σ2 gσ c => ⟨wipe_chg c hw, ?_⟩⟩
    refine (noX_in gσ s).mono fun b H3 ⟨b', F3, ρ3, rb, l3q, g4, s4⟩ => ?_
    obtain rfl : b' = b := rb
    obtain ⟨F3, rfl, l3⟩ := Fz.hold_le l3q
    cases b' with
    | false => exact iteF ⟨F3, ρ3.st, acc, vacc, ρ3.sl, e3.trans l3, g4.s, ra.mono l3, s4⟩
    | true =>
      have s4 : Sat T W σ (RD T) Q g1 ((te.noX.bind fun y => if acc.length < LIM then k (acc ++ [y]) else M.stuck) ρ3) := s4
      refine iteT ((noX_in g4 s4).mono fun y H4 ⟨dy, F4, ρ4, ry, l4q, g5, s5⟩ => ?_)
      obtain ⟨F4, rfl, l4⟩ := Fz.hold_le l4q
      split at s5
      · rename_i hl
        have l5 := (e3.trans l3).trans l4
        have hn4 : ∀ ws, (p, ws) ∉ F4.L := fun ws q => hn ws (by rw [l5.L]; exact q)
        have ra4 : RepL T F4 acc vacc := ra.mono (l3.trans l4)
        refine ⟨vacc, (g5.s.hold p vacc List.mem_cons_self).1, by rw [sz, ← ra.length]; exact hl, ⟨F4, ρ4.st, acc ++ [dy], vacc ++ [y], ρ4.sl, l5, g5.s.grow hn4, ra4.append (.cons (Rep.mono' Fz.ls_hold ry) .nil), s5⟩⟩
      · exact s5.elim
theorem lc_end {Q : VK} {p : Addr} {sl0 sl : List (Option D)} {c : Bool} {μ : List Cell} {acc : List D} {vacc : List V} (hn : ∀ ws, (p, ws) ∉ g1.L) (hsl : sl0.length = σ.length) (hslot : ∀ (i : Nat) (d : D), sl0[i]? = some (some d) → ∃ v, σ[i]? = some (some v) ∧ Rep T g1 d v)
    (e2 : g1.le g) (g3 : GoodS T (g.hold p vacc) H μ) (ra : RepL T g acc vacc) (s : Sat T W σ (RD T) Q g1 (finM c sl0 acc ⟨sl, μ⟩)) : Q (.ref p) H := by
  have hn2 : ∀ ws, (p, ws) ∉ g.L := fun ws q => hn ws (by rw [e2.L]; exact q)
  unfold finM newL at s
  cases c with
  | false =>
    obtain ⟨y1, y2⟩ := g3.settle hn2
    exact s (.ref p) H _ ⟨y1, hsl, fun i d h => by obtain ⟨v, h1, h2⟩ := hslot i d h; exact ⟨v, h1, (h2.mono e2).mono y2⟩⟩ (.lst upd_same (ra.mono y2)) (e2.trans y2)
  | true =>
    obtain ⟨y1, y2⟩ := g3.settleC hn2 ra
    refine s (.ref p) H _ ⟨y1, hsl, fun i d h => by obtain ⟨v, h1, h2⟩ := hslot i d h; exact ⟨v, h1, (h2.mono e2).mono y2⟩⟩ (.ref ?_) (e2.trans y2)
    show (g.A ++ [p])[μ.length]? = some p
    have : g.A.length = μ.length := g3.len
    rw [← this]; simp
theorem lc_ok {vs : List Nat} {t : Tg} {tt : M Bool} {te : M D} {k : M Sq} {cc : Bool} {Q : VK} (hw : ∀ i ∈ t.ix, i ∈ vs) (h : TM T W (RD T) (lcM cc vs t k tt te) σ H Q) :
    tLc (TM T W (RW T) k) (TGo T t) (TM T W0 RB tt) (TM T W0 (RD T) te) vs σ H Q :=
  (TM.start h).mono fun J H1 ⟨q, F1, ρ1, R, g1, s1⟩ p hp => by
    have hn : ∀ ws, (p, ws) ∉ F1.L := fun ws z => by have := (g1.s.hold p ws z).1; rw [hp] at this; cases this
    have start : GoodS T (F1.hold p []) (upd H1 p (.lst [])) ρ1.st := g1.s.holdNew hp
    cases q with
    | fro ds =>
      obtain ⟨n, G, Y, R⟩ := R
      have hlen := R.len
      refine lc_it R.walk (fun i H' => LcI T W σ Q F1 p H' (lcL (wipeL ρ1.sl vs) t tt te (finM cc ρ1.sl) (ds.drop i))) ⟨F1, ρ1.st, [], [], ρ1.sl, .refl, start, .nil, s1⟩
        (fun i H' _ ⟨⟨g2, μ, acc, vacc, sl, l2, y1, _⟩⟩ => R.stays H' (l2.F.trans y1.sub)) ?_ ?_
      · rintro i x H2 H2' hi ⟨⟨g2, μ, acc, vacc, sl, l2, y1, y2, y3⟩⟩ y
        obtain ⟨d, g3, hd, r3, ad⟩ := R.item i H2 x H2' g2 hi l2 y1.sub y
        have hdrop : ds.drop i = d :: ds.drop (i + 1) := by
          obtain ⟨h1, h2⟩ := List.getElem?_eq_some_iff.mp hd
          rw [List.drop_eq_getElem_cons h1, h2]
        rw [hdrop] at y3
        have gg : GoodS T (g3.hold p vacc) H2' μ ∧ g2.le g3 := by
          rcases ad with ⟨rfl, rfl⟩ | ⟨b, o, hb, rfl, rfl⟩
          · exact ⟨y1, .refl⟩
          · exact ⟨(y1.new hb).1, Fz.up_le (Fz_none y1.sub hb)⟩
        exact lc_turn (ρ := ⟨sl, μ⟩) hw hn g1.len g1.slot (l2.trans gg.2) gg.1 r3 (y2.mono gg.2) y3
      · rintro H2 ⟨⟨g2, μ, acc, vacc, sl, l2, y1, y2, y3⟩⟩
        rw [hlen, List.drop_length] at y3
        exact lc_end hn g1.len g1.slot l2 y1 y2 y3
    | cel n =>
      obtain ⟨a, hna, rfl⟩ := R
      refine ⟨fun i m H' => LcI T W σ Q F1 p H' (lcC (wipeL ρ1.sl vs) t tt te (finM cc ρ1.sl) n m i), ⟨_, ⟨F1, ρ1.st, [], [], ρ1.sl, .refl, start, .nil, s1⟩⟩, ?_⟩
      rintro i m H2 ⟨⟨g2, μ, acc, vacc, sl, l2, y1, y2, y3⟩⟩
      cases m with
      | zero => exact y3.elim
      | succ m =>
        unfold lcC at y3
        cases q : μ[n]? with
        | none => simp only [q] at y3; exact y3.elim
        | some c =>
          cases c with
          | lst ds =>
            simp only [q] at y3
            obtain ⟨_, vs', h1, h2⟩ := y1.cell n a _ (l2.ls.get hna) q (fun q => nomatch q)
            have hq : SqL T.K H2 a vs' := SqL.of h1
            cases z : ds[i]? with
            | none =>
              simp only [z] at y3
              refine .inl ⟨⟨vs', hq, ?_⟩, lc_end hn g1.len g1.slot l2 y1 y2 y3⟩
              rw [← h2.length]
              exact List.getElem?_eq_none_iff.mp z
            | some d =>
              simp only [z] at y3
              obtain ⟨x, hx, rx⟩ := h2.get z
              refine .inr ⟨⟨vs', x, hq, hx⟩, fun H' => LcI T W σ Q F1 p H' (lcC (wipeL ρ1.sl vs) t tt te (finM cc ρ1.sl) n m (i + 1)), fun H' w => ⟨m, Nat.lt_succ_self m, w⟩, fun x' H' y => ?_⟩
              obtain ⟨e', y⟩ := y
              subst e'
              have hx' : x' = x := by
                have := y vs' hq
                rw [hx] at this; exact (Option.some.inj this).symm
              subst hx'
              exact lc_turn (ρ := ⟨sl, μ⟩) hw hn g1.len g1.slot l2 y1 (Rep.mono' Fz.ls_hold rx) y2 y3
          | _ => simp only [q] at y3; exact y3.elim
/-- the block's contexts -/
def Blk (X : Cx) (scope : Scope) (Y : Cx) : Prop := ∃ (s : Shared) (H : Hp) (C : Addr) (cl : List (Str × Addr)) (fp : List Addr), Y = X.blk s H scope (compEnvC scope cl C X.env) fp
def SIfs (T : Tb) (X : Cx) (W : WX) (ifs : List Expr) (p : M Bool) : Prop := PTs X ifs (TM T W RB p)
theorem sifs_nil : SIfs T X W [] (M.pure true) := ⟨fun pins s σ H Q I ⟨g0, ρ, gd, s'⟩ => pts_nil.run pins s σ H Q I (Sat.here (R := RB) gd rfl s')⟩
theorem sifs_one {p : M Bool} (h : ST T X W c p) : SIfs T X W [c] p := pts_one h
theorem se_lc {elt iter : Expr} {ifs : List Expr} {scope : Scope} {own : List (Str × Nat)} {t : Tg} {tt : M Bool} {te : M D} {k : M Sq} (cc : Bool) (hc : X.calm = true) (hN : X.N.Nodup) (hi : SI T X W tg iter k) (ok : BlkOk X.N X.env.scope scope own)
    (hg : ∀ Y, Blk X scope Y → SG T Y tg t) (ht : ∀ Y, Blk X scope Y → SIfs T Y W0 ifs tt) (he : ∀ Y, Blk X scope Y → SE T Y W0 elt te) (hw : ∀ i ∈ t.ix, i ∈ own.map (·.2)) (hs : ∀ x, foldedSetIterable iter X.env x = pure x) :
    SE T X W (.ListComp elt [⟨tg, iter, ifs, 0⟩] scope pos) (lcM cc (own.map (·.2)) t k tt te) :=
  PE_imp (pe_lc hc hN hi ok (fun s H C cl fp => hg _ ⟨s, H, C, cl, fp, rfl⟩) (fun s H C cl fp => ht _ ⟨s, H, C, cl, fp, rfl⟩) (fun s H C cl fp => he _ ⟨s, H, C, cl, fp, rfl⟩) hs) fun σ H Q h => lc_ok hw h
theorem ss_setLc {i : Nat} {y : Str} {py spos : Pos} {elt iter : Expr} {ifs : List Expr} {scope : Scope} {own : List (Str × Nat)} {t : Tg} {tt : M Bool} {te : M D} {k : M Sq} (cc : Bool) (hc : X.calm = true) (hN : X.N.Nodup) (hy : X.N[i]? = some y) (hyl : X.env.scope.names.lookup y = some .local)
    (hsw : swapsWith (.ListComp elt [⟨tg, iter, ifs, 0⟩] scope pos) (some (.Name y py)) spos.line X.env = pure true) (hi : SI T X W tg iter k) (ok : BlkOk X.N X.env.scope scope own)
    (hg : ∀ Y, Blk X scope Y → SG T Y tg t) (ht : ∀ Y, Blk X scope Y → SIfs T Y W0 ifs tt) (he : ∀ Y, Blk X scope Y → SE T Y W0 elt te) (hw : ∀ i ∈ t.ix, i ∈ own.map (·.2)) (hs : ∀ x, foldedSetIterable iter X.env x = pure x) :
    SS T X W (.Assign [.Name y py] (.ListComp elt [⟨tg, iter, ifs, 0⟩] scope pos) spos) ((lcM cc (own.map (·.2)) t k tt te).thn fun r => setS i r) :=
  PS_imp (ps_setLc hc hN hy hyl hsw hi ok (fun s H C cl fp => hg _ ⟨s, H, C, cl, fp, rfl⟩) (fun s H C cl fp => ht _ ⟨s, H, C, cl, fp, rfl⟩) (fun s H C cl fp => he _ ⟨s, H, C, cl, fp, rfl⟩) hs) fun D σ H h =>
    lc_ok hw ((TSt.start h).mono fun v H2 ⟨r, F2, ρ2, o, g2, s⟩ => SatS.set g2 o s)
end
end DL
set_option Elab.async false
set_option linter.all false
set_option maxRecDepth 100000
set_option maxHeartbeats 2000000
namespace DL
open PySem PySem.Spec PyProof.Rows L2
/-! ### built-ins -/
def rCountD (K : PySem.W.Frag) : V → List V → Hp → VK → Prop := fun x xs H Q => ∃ (a : Addr) (y : V) (d : PyData) (ds : List PyData), x = V.ref a ∧ xs = [y] ∧ Dp K H (V.ref a) (.list ds) ∧ Dp K H y d ∧
  SeqAt.shaped (.list ds) = true ∧ SeqAt.shaped d = true ∧ Q (.int ((ds.countP fun y => PyData.eqv y d : Nat) : Int)) H
theorem mt_countD {X : Cx} (hu : X.A.units + 65 < cLine) : MtR X "list.count" (rCountD X.K) := by
  intro pins s σ H x xs v us Q I rx rxs h
  obtain ⟨a, y, d, ds, rfl, rfl, hl, hy, sl, sd, q⟩ := h
  cases rx
  cases rxs with
  | cons ry rt =>
    rename_i uy ut
    cases rt
    obtain ⟨bs, r1⟩ := Dp.reads I d y uy hy ry
    have hxs : PyData.canLayAll0 ds = true := SeqAt.canLay_of_shaped sl
    have hroom : X.A.units + 1 + min (PyData.depthAll ds) d.depth < cLine := room_in_shaped sd hu
    cases hl with
    | lst hs ha =>
      obtain ⟨its, rv, ⟨⟨cls, dd, data, sls⟩, n, ho, hc, hdn, hdt⟩, hlen⟩ := I.list hs
      simp only at hc hdt
      subst hc hdt
      obtain ⟨as, h4⟩ := Dp.readsAll I ds _ its ha rv
      have hmap : its.map (SeqAt.readOf s.heap) = ds := SeqAt.readsAll_map ds its as hxs h4
      have hcnt : its.toArray.toList.countP (fun y => PyData.eqv (SeqAt.readOf s.heap y) d) = ds.countP fun y => PyData.eqv y d := by
        rw [← hmap, List.countP_map]; rfl
      refine call_meets PySem.F.slot_list_count ⟨_, ho, rfl⟩ PySem.F.entry_list_count (PySem.F.args_list_count_2 _ _)
        (SeqAt.list_countAt a its.toArray n dd sls uy (fun u => PyData.eqv (SeqAt.readOf s.heap u) d)) ⟨ho, SeqAt.items_eqAt (vs := its.toArray) (show ReadsAll s.heap its.toArray.toList ds as from h4) r1 hxs (SeqAt.canLay_of_shaped sd) hroom, ?_⟩
      rw [hcnt]
      exact ⟨.int _, H, I.tok _, ⟨_, rfl⟩, q⟩
/-! texts times a number -/
def rMulS : R2 := fun x y H Q => ∃ z n, x = V.str z ∧ y = .int n ∧ -(2 ^ 62) ≤ n ∧ n < 2 ^ 62 ∧ z.length * n.toNat ≤ LIM ∧ Q (.str (Txt.mul z n)) H
theorem op_mulS {X : Cx} : OpR X (binaryOp .Mult) rMulS := by
  intro pins s σ H x y v u Q I rx ry h
  obtain ⟨z, n, rfl, rfl, h1, h2, h3, q⟩ := h
  obtain ⟨t, rfl⟩ := rx
  obtain ⟨t', rfl⟩ := ry
  have h4 : LIM ≤ 2 ^ 24 := by decide
  refine SB.mul ⟨?_, ?_, ?_⟩ fun t' k => ⟨.str _, H, I.tok k, ⟨t', rfl⟩, q⟩
  · have e1 : ¬ n < -(2 ^ 63 : Int) := by omega
    have e2 : ¬ n ≥ 2 ^ 63 := by omega
    rw [decide_eq_false e1, decide_eq_false e2]; rfl
  · intro e1 _ e2
    have e3 : 1 ≤ n := by omega
    have e4 : (2 ^ 63 - 1) / n < z.length := e2
    have e5 : (2 ^ 63 - 1 : Int) < (z.length : Int) * n := by
      have := Int.ediv_lt_iff_lt_mul (by omega : 0 < n) |>.mp e4
      omega
    have e6 : ((z.length * n.toNat : Nat) : Int) = z.length * n := by
      rw [Int.natCast_mul, Int.toNat_of_nonneg (by omega)]
    have e7 : (z.length : Int) * n ≤ 2 ^ 24 := by rw [← e6]; exact_mod_cast Nat.le_trans h3 h4
    omega
  · intro _ _
    show decide (_ > sizeLine) = false
    rw [decide_eq_false]
    rw [sizeLine_eq]
    unfold LIM at h3
    omega
theorem mul_S (l : List Nat) (n : Int) : Txt.mul (S l) n = S (rep l n) := by
  have key : ∀ (m : Nat) (acc : Array Nat), ((List.replicate m l.toArray).foldl (· ++ ·) acc) = acc ++ (List.replicate m l).flatten.toArray := by
    intro m
    induction m with
    | zero => intro acc; simp
    | succ m ih => intro acc; rw [List.replicate_succ, List.foldl_cons, ih, List.replicate_succ, List.flatten_cons]; simp
  unfold Txt.mul rep
  split
  · have : n.toNat = 0 := by omega
    rw [this]; rfl
  · split
    · rename_i h1 h2
      simp only [Bool.or_eq_true, beq_iff_eq] at h2
      rcases h2 with h2 | h2
      · subst h2; simp
      · have h3 : l = [] := List.eq_nil_of_length_eq_zero (by rw [len_S] at h2; exact h2)
        subst h3
        have : (List.replicate n.toNat ([] : List Nat)).flatten = [] := by
          rw [List.flatten_eq_nil_iff]; intro l hl; exact (List.eq_of_mem_replicate hl)
        rw [this]
    · show (⟨_⟩ : Str) = ⟨_⟩
      congr 1
      rw [key]; simp
section
variable {T : Tb} {X : Cx} {W : WX} {σ σ1 : L2.St} {g0 g1 : Fz} {F H H1 : Hp} {E : Ends} {f g : M D} {pos p : Pos} {tg e c a b : Expr} {es : List Expr}
theorem plain_args {es : List Expr} {env : Env} (h : es.all notStar = true) : (backTo pos (starEach es env)).any (·.1) = false := star_any h
theorem star_one (hn : notStar a = true) {env : Env} : starEach (a :: es) env = (false, eval a env) :: starEach es env := starEach_of hn
theorem bt_len : bootBuiltins "len" = some (.builtin "len") := by decide +kernel
theorem bt_max : bootBuiltins "max" = some (.builtin "max") := by decide +kernel
theorem bt_min : bootBuiltins "min" = some (.builtin "min") := by decide +kernel
theorem bt_sum : bootBuiltins "sum" = some (.builtin "sum") := by decide +kernel
theorem bt_isi : bootBuiltins "isinstance" = some (.builtin "isinstance") := by decide +kernel
theorem bt_list : bootBuiltins "list" = some (.type "list") := by decide +kernel
theorem bt_tuple : bootBuiltins "tuple" = some (.type "tuple") := by decide +kernel
/-- one argument -/
theorem pe_call1 {id : String} {x : Str} {r : List V → Hp → VK → Prop} {ta : TE} (hc : CallR X (.builtin id) r) (hg : Gl X x) (hm : X.mg x = none) (hv : bootBuiltins x = some (.builtin id)) (ha : PE X a ta) (hn : notStar a = true) (h1 : x ≠ "__name__") (h2 : (x == ("__debug__" : Str)) = false) :
    PE X (.Call (.Name x p) [a] [] pos) (fun σ H Q => ta σ H fun v H1 => r [v] H1 Q) :=
  PE_imp (pe_callB hc hg hm hv (pa_cons ha pa_nil (starEach_of hn)) h1 h2 (starEach_of hn) (star_any rfl)) fun σ H Q h => h
theorem pe_call2 {id : String} {x : Str} {r : List V → Hp → VK → Prop} {ta tb : TE} (hc : CallR X (.builtin id) r) (hg : Gl X x) (hm : X.mg x = none) (hv : bootBuiltins x = some (.builtin id)) (ha : PE X a ta) (hb : PE X b tb) (hn : notStar a = true) (hn2 : notStar b = true) (h1 : x ≠ "__name__") (h2 : (x == ("__debug__" : Str)) = false) :
    PE X (.Call (.Name x p) [a, b] [] pos) (fun σ H Q => ta σ H fun v H1 => tb σ H1 fun u H2 => r [v, u] H2 Q) :=
  PE_imp (pe_callB hc hg hm hv (pa_cons ha (pa_cons hb pa_nil (starEach_of hn2)) (starEach_of hn)) h1 h2 (starEach_of hn) (star_any (by simp [hn2]))) fun σ H Q h => h
theorem pe_callT1 {id : String} {x : Str} {r : List V → Hp → VK → Prop} {ta : TE} (hc : CallR X (.type id) r) (hg : Gl X x) (hm : X.mg x = none) (hv : bootBuiltins x = some (.type id)) (ha : PE X a ta) (hn : notStar a = true) (h1 : x ≠ "__name__") (h2 : (x == ("__debug__" : Str)) = false) :
    PE X (.Call (.Name x p) [a] [] pos) (fun σ H Q => ta σ H fun v H1 => r [v] H1 Q) :=
  PE_imp (pe_callTy hc hg hm hv (pa_cons ha pa_nil (starEach_of hn)) h1 h2 (starEach_of hn) (star_any rfl)) fun σ H Q h => h
def lenD : D → Option Nat
  | .str l => if l.length ≤ LIM then some l.length else none
  | .lst ds => some ds.length
  | .tup ds => some ds.length
  | .seq ds => some ds.length
  | _ => none
def lenM (f : M D) : M D := f.bind fun d => pkM d fun d => (optM (lenD d)).bind fun n => M.pure (.int (n : Nat))
theorem Sat.optB {α β γ : Type} {R : Fz → γ → β → Prop} {Q : β → Hp → Prop} {o : Option α} {k : α → M γ} {ρ : Rho} (h : Sat T W σ R Q g0 (((optM o).bind k) ρ)) : ∃ a, o = some a ∧ Sat T W σ R Q g0 (k a ρ) := by
  cases o with
  | none => exact h.elim
  | some a => exact ⟨a, rfl, h⟩
theorem se_len (hK : T.K = X.K) (hg : Gl X "len") (hm : X.mg "len" = none) (ha : SE T X W a f) (hn : notStar a = true) : SE T X W (.Call (.Name "len" p) [a] [] pos) (lenM f) :=
  PE_imp (pe_call1 call_len hg hm bt_len ha hn (by decide) (by decide)) fun σ H Q h => (TM.start h).mono fun v H1 ⟨d, F1, ρ1, r1, g1, s1⟩ => by
    obtain ⟨n, e, s2⟩ := Sat.optB s1
    cases q : peek ρ1.st d <;> rw [q] at e <;> try (simp [lenD] at e; done)
    · rename_i l
      obtain rfl := peek_str q
      obtain rfl := r1.str_of
      simp only [lenD] at e
      split at e
      · rename_i hl
        cases e
        refine ⟨_, _, rfl, ⟨by rw [len_S, sz]; exact hl, rfl⟩, ?_⟩
        rw [len_S]
        exact Sat.here g1 (.int _) s2
      · cases e
    · rename_i ds
      obtain ⟨a, vs, rfl, h1, h2⟩ := pkT g1 r1 q
      simp only [lenD, Option.some.injEq] at e; subst e
      exact ⟨_, _, rfl, .inr ⟨vs, hK ▸ h1, rfl⟩, by rw [← h2.length]; exact Sat.here g1 (.int _) s2⟩
    · rename_i ds
      obtain ⟨a, vs, rfl, h1, h2⟩ := pkL g1 r1 q
      simp only [lenD, Option.some.injEq] at e; subst e
      exact ⟨_, _, rfl, .inl ⟨vs, SqL.of h1, rfl⟩, by rw [← h2.length]; exact Sat.here g1 (.int _) s2⟩
    · rename_i ds
      obtain rfl := peek_seq q
      obtain ⟨a, vs, rfl, h1, h2⟩ := r1.seq_of
      simp only [lenD, Option.some.injEq] at e; subst e
      exact ⟨_, _, rfl, .inl ⟨vs, hK ▸ g1.s.sub.seq h1, rfl⟩, by rw [← h2.length]; exact Sat.here g1 (.int _) s2⟩
def maxD : D → D → Option D
  | .int i, .int j => some (.int (if j > i then j else i))
  | _, _ => none
def minD : D → D → Option D
  | .int i, .int j => some (.int (if j < i then j else i))
  | _, _ => none
def bin2M (k : D → D → Option D) (f g : M D) : M D := f.bind fun d => g.bind fun e => optM (k d e)
theorem se_max2 (hc : X.calm = true) (hg : Gl X "max") (hm : X.mg "max" = none) (ha : SE T X W a f) (hb : SE T X W b g) (hn : notStar a = true) (hn2 : notStar b = true) : SE T X W (.Call (.Name "max" p) [a, b] [] pos) (bin2M maxD f g) :=
  PE_imp (pe_call2 (call_max2 hc) hg hm bt_max ha hb hn hn2 (by decide) (by decide)) fun σ H Q h => (TM.start h).mono fun v H1 ⟨d, F1, ρ1, r1, g1, s1⟩ => (TM.next g1 s1).mono fun u H2 ⟨e, F2, ρ2, r2, e2, g2, s2⟩ => by
    obtain ⟨z, q, s3⟩ := Sat.opt s2
    cases d <;> cases e <;> try (simp [maxD] at q; done)
    simp only [maxD, Option.some.injEq] at q; subst q
    obtain rfl := r1.int_of; obtain rfl := r2.int_of
    exact ⟨_, _, rfl, Sat.here g2 (.int _) s3⟩
theorem se_min2 (hc : X.calm = true) (hg : Gl X "min") (hm : X.mg "min" = none) (ha : SE T X W a f) (hb : SE T X W b g) (hn : notStar a = true) (hn2 : notStar b = true) : SE T X W (.Call (.Name "min" p) [a, b] [] pos) (bin2M minD f g) :=
  PE_imp (pe_call2 (call_min2 hc) hg hm bt_min ha hb hn hn2 (by decide) (by decide)) fun σ H Q h => (TM.start h).mono fun v H1 ⟨d, F1, ρ1, r1, g1, s1⟩ => (TM.next g1 s1).mono fun u H2 ⟨e, F2, ρ2, r2, e2, g2, s2⟩ => by
    obtain ⟨z, q, s3⟩ := Sat.opt s2
    cases d <;> cases e <;> try (simp [minD] at q; done)
    simp only [minD, Option.some.injEq] at q; subst q
    obtain rfl := r1.int_of; obtain rfl := r2.int_of
    exact ⟨_, _, rfl, Sat.here g2 (.int _) s3⟩
/-- the ints of a list -/
def intsD : List D → Option (List Int)
  | [] => some []
  | .int i :: ds => (intsD ds).map (i :: ·)
  | _ :: _ => none
theorem ints_rep : ∀ {ds : List D} {vs : List V} {ns : List Int}, RepL T g0 ds vs → intsD ds = some ns → vs = ns.map V.int
  | [], _, _, r, h => by cases r; cases h; rfl
  | d :: ds, _, ns, r, h => by
    obtain ⟨v, us, rfl, r1, r2⟩ := r.cons_of
    cases d <;> try (simp [intsD] at h; done)
    rename_i i
    simp only [intsD, Option.map_eq_some_iff] at h
    obtain ⟨ms, h1, rfl⟩ := h
    obtain rfl := r1.int_of
    rw [ints_rep r2 h1, List.map_cons]
def sumD : D → Option D
  | .lst ds => (intsD ds).map fun ns => .int ns.sum
  | _ => none
def un1M (k : D → Option D) (f : M D) : M D := f.bind fun d => pkM d fun d => optM (k d)
theorem se_sum (hc : X.calm = true) (hg : Gl X "sum") (hm : X.mg "sum" = none) (ha : SE T X W a f) (hn : notStar a = true) : SE T X W (.Call (.Name "sum" p) [a] [] pos) (un1M sumD f) :=
  PE_imp (pe_call1 (cr_sum hc) hg hm bt_sum ha hn (by decide) (by decide)) fun σ H Q h => (TM.start h).mono fun v H1 ⟨d, F1, ρ1, r1, g1, s1⟩ => by
    obtain ⟨z, e, s2⟩ := Sat.opt s1
    cases q : peek ρ1.st d <;> rw [q] at e <;> try (simp [sumD] at e; done)
    rename_i ds
    obtain ⟨a, vs, rfl, h1, h2⟩ := pkL g1 r1 q
    simp only [sumD, Option.map_eq_some_iff] at e
    obtain ⟨ns, e1, rfl⟩ := e
    obtain rfl := ints_rep h2 e1
    exact ⟨a, ns, rfl, SqL.of h1, Sat.here g1 (.int _) s2⟩
/-- list(xs), tuple(xs) -/
def listM (c : Bool) (f : M D) : M D := f.bind fun d => pkM d fun d => match d with
  | .lst ds => newL c ds
  | .tup ds => newL c ds
  | _ => M.stuck
theorem se_list (c : Bool) (hK : T.K = X.K) (hg : Gl X "list") (hm : X.mg "list" = none) (ha : SE T X W a f) (hn : notStar a = true) : SE T X W (.Call (.Name "list" p) [a] [] pos) (listM c f) :=
  PE_imp (pe_callT1 call_list_of hg hm bt_list ha hn (by decide) (by decide)) fun σ H Q h => (TM.start h).mono fun v H1 ⟨d, F1, ρ1, r1, g1, s1⟩ => by
    unfold pkM at s1
    cases q : peek ρ1.st d <;> rw [q] at s1 <;> try exact s1.elim
    · rename_i ds
      obtain ⟨a, vs, rfl, h1, h2⟩ := pkT g1 r1 q
      exact ⟨a, vs, rfl, .inr (hK ▸ h1), fun l hl => Sat.newL g1 hl h2 s1⟩
    · rename_i ds
      obtain ⟨a, vs, rfl, h1, h2⟩ := pkL g1 r1 q
      exact ⟨a, vs, rfl, .inl (SqL.of h1), fun l hl => Sat.newL g1 hl h2 s1⟩
def tupD : D → Option D
  | .lst ds => some (.tup ds)
  | .tup ds => some (.tup ds)
  | _ => none
theorem se_tuple (hK : T.K = X.K) (hg : Gl X "tuple") (hm : X.mg "tuple" = none) (ha : SE T X W a f) (hn : notStar a = true) : SE T X W (.Call (.Name "tuple" p) [a] [] pos) (un1M tupD f) :=
  PE_imp (pe_callT1 call_tuple_of hg hm bt_tuple ha hn (by decide) (by decide)) fun σ H Q h => (TM.start h).mono fun v H1 ⟨d, F1, ρ1, r1, g1, s1⟩ => by
    obtain ⟨z, e, s2⟩ := Sat.opt s1
    cases q : peek ρ1.st d <;> rw [q] at e <;> try (simp [tupD] at e; done)
    · rename_i ds
      simp only [tupD, Option.some.injEq] at e; subst e
      obtain rfl := peek_tup q
      obtain ⟨a, vs, rfl, h1, h2⟩ := r1.tup_of
      exact ⟨a, vs, rfl, .inr ⟨hK ▸ SqT.mono g1.s.sub h1, Sat.here g1 (.tup h1 h2) s2⟩⟩
    · rename_i ds
      simp only [tupD, Option.some.injEq] at e; subst e
      obtain ⟨a, vs, rfl, h1, h2⟩ := pkL g1 r1 q
      exact ⟨a, vs, rfl, .inl ⟨SqL.of h1, fun l hl => Sat.new g1 hl (fun e1 e2 => .tup (SqT.of e2) (h2.mono e1)) s2⟩⟩
def isTupD : D → Option D
  | .tup _ => some (.bl true)
  | .str _ => some (.bl false)
  | .int _ => some (.bl false)
  | .non => some (.bl false)
  | _ => none
theorem tyX_tup {K : PySem.W.Frag} {a : Addr} {vs : List V} (h : SqT K H a vs) : TyX K H (.ref a) (.type "tuple") := by
  rcases h with (h | ⟨o, h⟩) | ⟨o, its, n, hk, hc, _⟩
  · exact .base (.tup h)
  · exact .fTuple h
  · exact .kTuple hk hc
theorem se_isTup (hK : T.K = X.K) (hg : Gl X "isinstance") (hm : X.mg "isinstance" = none) (hg2 : Gl X "tuple") (hm2 : X.mg "tuple" = none) (ha : SE T X W a f) (hn : notStar a = true) {p2 : Pos} : SE T X W (.Call (.Name "isinstance" p) [a, .Name "tuple" p2] [] pos) (f.bind fun d => optM (isTupD d)) :=
  PE_imp (pe_call2 call_isi hg hm bt_isi ha (pe_bltn (v := .ty "tuple") hg2 hm2 bt_tuple rfl) hn rfl (by decide) (by decide)) fun σ H Q h => (TM.start h).mono fun v H1 ⟨d, F1, ρ1, r1, g1, s1⟩ => by
    obtain ⟨z, e, s2⟩ := Sat.opt s1
    cases d <;> try (simp [isTupD] at e; done)
    all_goals (simp only [isTupD, Option.some.injEq] at e; subst e)
    · obtain rfl := r1.non_of
      exact ⟨_, _, _, _, false, rfl, .ty "tuple", .base .non, by rfl, Sat.here g1 (.bl _) s2⟩
    · obtain rfl := r1.int_of
      exact ⟨_, _, _, _, false, rfl, .ty "tuple", .base (.int _), by rfl, Sat.here g1 (.bl _) s2⟩
    · obtain rfl := r1.str_of
      exact ⟨_, _, _, _, false, rfl, .ty "tuple", .base (.str _), by rfl, Sat.here g1 (.bl _) s2⟩
    · obtain ⟨a, vs, rfl, h1, h2⟩ := r1.tup_of
      exact ⟨_, _, _, _, true, rfl, .ty "tuple", tyX_tup (hK ▸ SqT.mono g1.s.sub h1), by rfl, Sat.here g1 (.bl _) s2⟩
/-! texts times -/
def mulS : D → D → Option D
  | .str l, .int n => if (-(2 ^ 62) ≤ n ∧ n < 2 ^ 62) ∧ l.length * n.toNat ≤ LIM then some (.str (rep l n)) else none
  | _, _ => none
theorem se_mulS (ha : SE T X W a f) (hb : SE T X W b g) : SE T X W (.BinOp a .Mult b pos) (bin2M mulS f g) :=
  PE_imp (pe_op op_mulS ha hb) fun σ H Q h => (TM.start h).mono fun v H1 ⟨d, F1, ρ1, r1, g1, s1⟩ => (TM.next g1 s1).mono fun u H2 ⟨e, F2, ρ2, r2, e2, g2, s2⟩ => by
    obtain ⟨z, q, s3⟩ := Sat.opt s2
    cases d <;> cases e <;> try (simp [mulS] at q; done)
    rename_i l n
    simp only [mulS] at q
    split at q
    · rename_i hc
      simp only [Option.some.injEq] at q; subst q
      obtain rfl := r1.str_of; obtain rfl := r2.int_of
      refine ⟨S _, _, rfl, rfl, hc.1.1, hc.1.2, by rw [len_S]; exact hc.2, ?_⟩
      rw [mul_S]
      exact Sat.here g2 (.str _) s3
    · cases q
/-! slices -/
def partM (o : Option (M D)) : M (Option Int) := match o with
  | none => M.pure none
  | some f => f.bind fun d => match d with
    | .int i => M.pure (some i)
    | _ => M.stuck
abbrev RO : Fz → Option Int → Option Int → Prop := fun _ a b => a = b
def SPt (T : Tb) (X : Cx) (W : WX) (e : Option Expr) (f : M (Option Int)) : Prop := PO X e (TM T W RO f)
theorem PO_imp {X : Cx} {e : Option Expr} {t t' : TO} (h : PO X e t) (i : ∀ σ H Q, t' σ H Q → t σ H Q) : PO X e t' := ⟨fun pins s σ H Q I q => h.run pins s σ H Q I (i _ _ _ q)⟩
theorem sp_none : SPt T X W none (partM none) := PO_imp po_none fun σ H Q ⟨g0, ρ, gd, s⟩ => Sat.here (R := RO) gd rfl s
theorem sp_some (h : SE T X W a f) : SPt T X W (some a) (partM (some f)) := PO_imp (po_some h) fun σ H Q hh => (TM.start hh).mono fun v H1 ⟨d, F1, ρ1, r1, g1, s1⟩ => by
  cases d with
  | int i => obtain rfl := r1.int_of; exact ⟨i, rfl, Sat.here (R := RO) g1 rfl s1⟩
  | _ => exact s1.elim
def cutL {α : Type} (xs : List α) (lo hi : Option Int) : List α := (xs.drop (HT.sIx xs.length 0 lo)).take (HT.sIx xs.length xs.length hi - HT.sIx xs.length 0 lo)
theorem cut_rep {ds : List D} {vs : List V} {lo hi : Option Int} (r : RepL T g0 ds vs) : RepL T g0 (cutL ds lo hi) (cutV vs lo hi) := by
  unfold cutL cutV
  rw [r.length]
  exact (r.drop _).take _
theorem cut_whole {ds : List D} {lo hi : Option Int} (h : HT.sIx ds.length 0 lo = 0 ∧ HT.sIx ds.length ds.length hi = ds.length) : cutL ds lo hi = ds := by
  unfold cutL
  rw [h.1, h.2]; simp
def sliceM (c : Bool) (f : M D) (lo hi : M (Option Int)) : M D := f.bind fun d => lo.bind fun l => hi.bind fun h => pkM d fun d => match d with
  | .lst ds => newL c (cutL ds l h)
  | .tup ds => M.pure (.tup (cutL ds l h))
  | _ => M.stuck
theorem SlR_or {r r' : V → Option Int → Option Int → Hp → VK → Prop} (h : SlR X r) (h' : SlR X r') : SlR X (fun x l u H Q => r x l u H Q ∨ r' x l u H Q) := by
  intro pins s σ H x v vl vu lo hi sl Q I rx hs pl pu q
  rcases q with q | q
  · exact h pins s σ H x v vl vu lo hi sl Q I rx hs pl pu q
  · exact h' pins s σ H x v vl vu lo hi sl Q I rx hs pl pu q
theorem se_slice {lo hi : Option Expr} {l h : M (Option Int)} {p2 : Pos} (c : Bool) (hK : T.K = X.K) (ha : SE T X W a f) (hl : SPt T X W lo l) (hu : SPt T X W hi h) : SE T X W (.Subscript a (.Slice lo hi none p2) pos) (sliceM c f l h) :=
  PE_imp (pe_slice (SlR_or sl_list sl_tupA) ha hl hu) fun σ H Q hh => (TM.start hh).mono fun v H1 ⟨d, F1, ρ1, r1, g1, s1⟩ => (TM.next g1 s1).mono fun u H2 ⟨x, F2, ρ2, r2, e2, g2, s2⟩ => (TM.next g2 s2).mono fun w H3 ⟨y, F3, ρ3, r3, e3, g3, s3⟩ => by
    obtain rfl : x = u := r2
    obtain rfl : y = w := r3
    unfold pkM at s3
    have r1 := (r1.mono e2).mono e3
    cases q : peek ρ3.st d <;> rw [q] at s3 <;> try exact s3.elim
    · rename_i ds
      obtain ⟨a, vs, rfl, h1, h2⟩ := pkT g3 r1 q
      refine .inr ⟨a, vs, rfl, hK ▸ h1, fun hw => ?_, fun hw n hn => ?_⟩
      · rw [← h2.length] at hw
        have s3 : Sat T W σ (RD T) Q F3 (.ok (.tup (cutL ds x y)) ρ3) := s3
        rw [cut_whole hw] at s3
        obtain rfl := peek_tup q
        exact Sat.here g3 r1 s3
      · exact Sat.new g3 hn (fun e1 e2 => .tup (SqT.of e2) ((cut_rep h2).mono e1)) s3
    · rename_i ds
      obtain ⟨a, vs, rfl, h1, h2⟩ := pkL g3 r1 q
      exact .inl ⟨a, vs, rfl, SqL.of h1, fun n hn => Sat.newL g3 hn (cut_rep h2) s3⟩
end
end DL
set_option Elab.async false
set_option linter.all false
set_option maxRecDepth 100000
set_option maxHeartbeats 2000000
namespace DL
open PySem PySem.Spec PyProof.Rows L2
section
variable {T : Tb} {X : Cx} {W : WX} {σ σ1 : L2.St} {g0 g1 : Fz} {F H H1 : Hp} {E : Ends} {f g : M D} {pos p apos : Pos} {tg e c a b o i : Expr} {es : List Expr}
/-! ### a cell is changed -/
def putC (n : Nat) (c : Cell) (ρ : Rho) : Rho := { ρ with st := ρ.st.set n c }
/-- a list cell gets other items -/
theorem put_list {d : D} {v : V} {n : Nat} {ds es : List D} {ρ : Rho} (gd : Good T g0 H ρ σ) (r : Rep T g0 (.ref n) v) (h : ρ.st[n]? = some (.lst ds)) :
    ∃ a vs, v = .ref a ∧ H a = some (.lst vs) ∧ RepL T g0 ds vs ∧ ∀ us, RepL T g0 es us → Good T g0 (upd H a (.lst us)) (putC n (.lst es) ρ) σ := by
  obtain ⟨a, rfl, hn⟩ := r.ref_of
  obtain ⟨hF, vs, h1, h2⟩ := gd.s.cell n a _ hn h (fun q => nomatch q)
  refine ⟨a, vs, rfl, h1, h2, fun us ru => ⟨?_, gd.len, gd.slot⟩⟩
  exact gd.s.put hn hF h1 (fun y z => nomatch z) ⟨us, upd_same, ru⟩
def appM (f g : M D) : M D := f.bind fun d => g.bind fun e => fun ρ => match d with
  | .ref n => match ρ.st[n]? with
    | some (.lst ds) => if ds.length < LIM then .ok .non (putC n (.lst (ds ++ [e])) ρ) else .stuck
    | _ => .stuck
  | _ => .stuck
theorem few_of {es : List Expr} {env : Env} {cpos : Pos} (h : es.all notStar = true) (h2 : es.length < 29) : ((backTo cpos (starEach es env)).all (fun x => !x.1) && (backToKw cpos (keywordEach [] env)).all (fun x => x.1.isSome)
      && decide (es.length + ([] : List Keyword).length + (if ([] : List Keyword).isEmpty then 0 else 1) < 30)) = true := by
  have h1 : (backTo cpos (starEach es env)).any (·.1) = false := star_any h
  have h3 : (backTo cpos (starEach es env)).all (fun x => !x.1) = true := by
    rw [List.all_eq_true]
    intro x hx
    have := List.any_eq_false.mp h1 x hx
    simpa using this
  rw [h3]
  have h4 : (backToKw cpos (keywordEach [] env)).all (fun x => x.1.isSome) = true := rfl
  rw [h4]
  simp; omega
theorem pe_bm1 {Ty id : String} {name : Str} {r : V → List V → Hp → VK → Prop} {to ta : TE} (pa : PlainAttrs Ty) (slot : Slot Ty name id) (hty : typeOf (.builtin id) = pure (.type "method_descriptor")) (hm : MtR X id r) (ho : PE X o to) (ha : PE X a ta) (hn : notStar a = true)
    (hbase : attributeBase o name X.env (eval o X.env) = eval o X.env) (hline : (apos.endLine == pos.line) = true) :
    PE X (.Call (.Attribute o name apos) [a] [] pos) (fun σ H Q => to σ H fun x H1 => tyV X.K Ty x H1 ∧ ta σ H1 fun y H2 => r x [y] H2 Q) :=
  PE_imp (pe_bm pa slot hty hm ho (pa_cons ha pa_nil (starEach_of hn)) hbase (few_of (by simp [hn]) (by show 1 < 29; decide)) hline (starEach_of hn) (star_any rfl)) fun σ H Q h => h
/-- xs.append(e); xs may be any expression that names a cell (looked at ahead of e) -/
def isCell (d : D) : M D := fun ρ => match d with
  | .ref n => match ρ.st[n]? with
    | some (.lst _) => .ok d ρ
    | _ => .stuck
  | _ => .stuck
theorem Sat.isCell {Q : VK} {d : D} {k : D → M D} {ρ : Rho} (s : Sat T W σ (RD T) Q g0 (((isCell d).bind k) ρ)) : ∃ n ds, d = .ref n ∧ ρ.st[n]? = some (.lst ds) ∧ Sat T W σ (RD T) Q g0 (k d ρ) := by
  unfold DL.isCell M.bind at s
  cases d with
  | ref n =>
    cases q : ρ.st[n]? with
    | none => simp only [q] at s; exact s.elim
    | some c =>
      cases c with
      | lst ds => simp only [q] at s; exact ⟨n, ds, rfl, q, s⟩
      | _ => simp only [q] at s; exact s.elim
  | _ => exact s.elim
def appendM (f g : M D) : M D := f.bind fun d => (isCell d).bind fun d => g.bind fun e => fun ρ => match d with
  | .ref n => match ρ.st[n]? with
    | some (.lst ds) => if ds.length < LIM then .ok .non (putC n (.lst (ds ++ [e])) ρ) else .stuck
    | _ => .stuck
  | _ => .stuck
theorem se_append (ha : SE T X W o f) (hb : SE T X W a g) (hn : notStar a = true) (hbase : attributeBase o "append" X.env (eval o X.env) = eval o X.env) (hline : (apos.endLine == pos.line) = true) :
    SE T X W (.Call (.Attribute o "append" apos) [a] [] pos) (appendM f g) :=
  PE_imp (pe_bm1 PySem.F.plainAttrs_list PySem.F.slot_list_append PySem.F.type_list_append mt_append ha hb hn hbase hline) fun σ H Q h => (TM.start h).mono fun v H1 ⟨d, F1, ρ1, r1, g1, s1⟩ => by
    obtain ⟨n, ds, rfl, hst, s2⟩ := Sat.isCell s1
    obtain ⟨a, rfl, hA⟩ := r1.ref_of
    obtain ⟨_, vs, h1, _⟩ := g1.s.cell n a _ hA hst (fun q => nomatch q)
    refine ⟨.inl ⟨rfl, vs, SqL.of h1⟩, (TM.next g1 s2).mono fun u H2 ⟨e, F2, ρ2, r2, e2, g2, s3⟩ => ?_⟩
    dsimp only at s3
    cases q : ρ2.st[n]? with
    | none => simp only [q] at s3; exact s3.elim
    | some c =>
      cases c with
      | lst ds2 =>
        simp only [q] at s3
        split at s3
        · rename_i hl
          obtain ⟨a', vs', ea, y1, y2, y3⟩ := put_list (es := ds2 ++ [e]) (d := .non) g2 (r1.mono e2) q
          cases ea
          exact ⟨a, vs', u, rfl, rfl, y1, by rw [sz, ← y2.length]; exact hl, s3 _ _ _ (y3 _ (y2.append (.cons r2 .nil))) .non .refl⟩
        · exact s3.elim
      | _ => simp only [q] at s3; exact s3.elim
/-! count, index -/
def countD : D → D → Option D
  | .lst ds, d => if okD (.lst ds) && okD d then some (.int (((pyOfs ds).countP fun y => PyData.eqv y (pyOf d) : Nat) : Int)) else none
  | _, _ => none
def indexD : D → D → Option D
  | .lst ds, d => if okD (.lst ds) && okD d then ((pyOfs ds).findIdx? fun y => PyData.eqv y (pyOf d)).map fun j => .int (j : Nat) else none
  | _, _ => none
def isLst (d : D) : M D := fun ρ => match peek ρ.st d with
  | .lst _ => .ok d ρ
  | _ => .stuck
theorem Sat.isLst {Q : VK} {d : D} {k : D → M D} {ρ : Rho} (s : Sat T W σ (RD T) Q g0 (((isLst d).bind k) ρ)) : ∃ ds, peek ρ.st d = .lst ds ∧ Sat T W σ (RD T) Q g0 (k d ρ) := by
  unfold DL.isLst M.bind at s
  cases q : peek ρ.st d with
  | lst ds => simp only [q] at s; exact ⟨ds, rfl, s⟩
  | _ => simp only [q] at s; exact s.elim
def meth1M (k : D → D → Option D) (f g : M D) : M D := f.bind fun d => (isLst d).bind fun d => g.bind fun e => pkM d fun d => optM (k d e)
theorem dp_list {K : PySem.W.Frag} {a : Addr} {vs : List V} {xs : List PyData} (h : H a = some (.lst vs)) (r : DpAll K H vs xs) : Dp K H (.ref a) (.list xs) := .lst (SqL.of h) r
theorem se_count (hK : T.K = X.K) (hu : X.A.units + 65 < cLine) (ha : SE T X W o f) (hb : SE T X W a g) (hn : notStar a = true) (hbase : attributeBase o "count" X.env (eval o X.env) = eval o X.env) (hline : (apos.endLine == pos.line) = true) :
    SE T X W (.Call (.Attribute o "count" apos) [a] [] pos) (meth1M countD f g) :=
  PE_imp (pe_bm1 PySem.F.plainAttrs_list PySem.F.slot_list_count PySem.F.type_list_count (mt_countD hu) ha hb hn hbase hline) fun σ H Q h => (TM.start h).mono fun v H1 ⟨d, F1, ρ1, r1, g1, s1⟩ => by
    obtain ⟨ds, q1, s2⟩ := Sat.isLst s1
    obtain ⟨a, vs, rfl, h1, _⟩ := pkL g1 r1 q1
    refine ⟨.inl ⟨rfl, vs, SqL.of h1⟩, (TM.next g1 s2).mono fun u H2 ⟨e, F2, ρ2, r2, e2, g2, s3⟩ => ?_⟩
    have s3 : Sat T W σ (RD T) Q F2 (optM (countD (peek ρ2.st d) e) ρ2) := s3
    obtain ⟨z, q3, s4⟩ := Sat.opt s3
    cases q2 : peek ρ2.st d <;> rw [q2] at q3 <;> try (simp [countD] at q3; done)
    rename_i ds2
    simp only [countD] at q3
    split at q3
    · rename_i hc
      simp only [Option.some.injEq] at q3; subst q3
      rw [Bool.and_eq_true] at hc
      obtain ⟨p1, sh1⟩ := okD_of hc.1
      obtain ⟨p2, sh2⟩ := okD_of hc.2
      have dl := Rep.dp (g := F2.at H2) (H := H2) (fun _ _ z => z) p1 (q2 ▸ pk g2 (r1.mono e2))
      have dd := Rep.dp (g := F2) (H := H2) g2.s.sub p2 r2
      simp only [pyOf] at dl sh1
      exact ⟨a, u, _, _, rfl, rfl, hK ▸ dl, hK ▸ dd, sh1, sh2, Sat.here g2 (.int _) s4⟩
    · cases q3
theorem se_index (hK : T.K = X.K) (hu : X.A.units + 65 < cLine) (ha : SE T X W o f) (hb : SE T X W a g) (hn : notStar a = true) (hbase : attributeBase o "index" X.env (eval o X.env) = eval o X.env) (hline : (apos.endLine == pos.line) = true) :
    SE T X W (.Call (.Attribute o "index" apos) [a] [] pos) (meth1M indexD f g) :=
  PE_imp (pe_bm1 PySem.F.plainAttrs_list PySem.F.slot_list_index PySem.F.type_list_index (mt_indexD hu) ha hb hn hbase hline) fun σ H Q h => (TM.start h).mono fun v H1 ⟨d, F1, ρ1, r1, g1, s1⟩ => by
    obtain ⟨ds, q1, s2⟩ := Sat.isLst s1
    obtain ⟨a, vs, rfl, h1, _⟩ := pkL g1 r1 q1
    refine ⟨.inl ⟨rfl, vs, SqL.of h1⟩, (TM.next g1 s2).mono fun u H2 ⟨e, F2, ρ2, r2, e2, g2, s3⟩ => ?_⟩
    have s3 : Sat T W σ (RD T) Q F2 (optM (indexD (peek ρ2.st d) e) ρ2) := s3
    obtain ⟨z, q3, s4⟩ := Sat.opt s3
    cases q2 : peek ρ2.st d <;> rw [q2] at q3 <;> try (simp [indexD] at q3; done)
    rename_i ds2
    simp only [indexD] at q3
    split at q3
    · rename_i hc
      obtain ⟨j, hj, e1⟩ := Option.map_eq_some_iff.mp q3
      subst e1
      rw [Bool.and_eq_true] at hc
      obtain ⟨p1, sh1⟩ := okD_of hc.1
      obtain ⟨p2, sh2⟩ := okD_of hc.2
      have dl := Rep.dp (g := F2.at H2) (H := H2) (fun _ _ z => z) p1 (q2 ▸ pk g2 (r1.mono e2))
      have dd := Rep.dp (g := F2) (H := H2) g2.s.sub p2 r2
      simp only [pyOf] at dl sh1
      obtain ⟨j1, j2, j3⟩ := List.findIdx?_eq_some_iff_getElem.mp hj
      refine ⟨a, u, _, _, j, _, rfl, rfl, hK ▸ dl, hK ▸ dd, sh1, sh2, List.getElem?_eq_getElem j1, j2, fun m z' hm hz => ?_, Sat.here g2 (.int _) s4⟩
      have hmd : m < (pyOfs ds2).length := by omega
      rw [List.getElem?_eq_getElem hmd] at hz
      cases hz
      have := j3 m hm
      simpa using this
    · cases q3
/-! x[i] = e -/
def setIx (d e v : D) : MS := fun ρ => match d, e with
  | .ref n, .int k => match ρ.st[n]? with
    | some (.lst ds) => match ixN ds.length k with
      | some j => .next (putC n (.lst (ds.set j v)) ρ)
      | none => .stuck
    | _ => .stuck
  | _, _ => .stuck
def setIxS (k f g : M D) : MS := k.thn fun v => f.thn fun d => g.thn fun e => setIx d e v
theorem ss_setIx {k : M D} (he : SE T X W e k) (ho : SE T X W o f) (hi : SE T X W i g) {pos' : Pos}
    (hasg : ∀ v, assign (.Subscript o i pos') X.env v = (do
      let ov ← holding [v] (eval o X.env)
      let iv ← holding [v, ov] (eval i X.env)
      standAt pos'
      holding [v, ov, iv] (setItem ov iv v)
      release [v, ov, iv] [])) (hs : swapsWithSole [.Subscript o i pos'] e pos.line X.env = pure false) (hw : swappedStores [.Subscript o i pos'] e X.env = pure none) (h1 : (assignEach [.Subscript o i pos'] X.env).map (·.2) = [assign (.Subscript o i pos') X.env]) :
    SS T X W (.Assign [.Subscript o i pos'] e pos) (setIxS k f g) :=
  PS_imp (ps_asg he (pg_sub ho hi set_list hasg) hs hw h1) fun D σ H h => (TSt.start h).mono fun v H1 ⟨dv, F1, ρ1, r1, g1, s1⟩ => (TSt.next g1 s1).mono fun x H2 ⟨d, F2, ρ2, r2, e2, g2, s2⟩ => (TSt.next g2 s2).mono fun y H3 ⟨ei, F3, ρ3, r3, e3, g3, s3⟩ => by
    unfold setIx at s3
    cases ei <;> try (cases d <;> exact s3.elim)
    rename_i kk
    obtain rfl := r3.int_of
    cases d with
    | ref n =>
      dsimp only at s3
      cases q : ρ3.st[n]? with
      | none => simp only [q] at s3; exact s3.elim
      | some c =>
        cases c with
        | lst ds =>
          simp only [q] at s3
          cases z : ixN ds.length kk with
          | none => simp only [z] at s3; exact s3.elim
          | some j =>
            simp only [z] at s3
            obtain ⟨a, vs, rfl, y1, y2, y3⟩ := put_list (es := ds.set j dv) (d := .non) g3 (r2.mono e3) q
            refine ⟨a, vs, kk, j, rfl, rfl, y1, by rw [← y2.length]; exact z, ?_⟩
            exact s3 _ _ _ (y3 _ (RepL.set ((r1.mono e2).mono e3) j y2)) .refl
        | _ => simp only [q] at s3; exact s3.elim
    | _ => exact s3.elim
/-! xs[::k], k one or minus one -/
theorem pe_step {te tk : TE} {p2 : Pos} (he : PE X a te) (hk : PE X b tk) : PE X (.Subscript a (.Slice none none (some b) p2) pos) (fun σ H Q => te σ H fun x H1 => tk σ H1 fun y H2 => ∃ a xs k, x = .ref a ∧ y = .int k ∧ SqL X.K H2 a xs ∧
    ((k = 1 ∧ ∀ p, H2 p = none → Q (.ref p) (upd H2 p (.lst xs))) ∨ (k = -1 ∧ ∀ p, H2 p = none → Q (.ref p) (upd H2 p (.lst xs.reverse))))) := by
  refine ⟨fun pins s σ H Q I h => ?_⟩
  refine Subscript_ (thn (he.run pins s σ H _ I h) fun v s1 ⟨x, H1, I1, r1, q1⟩ => ?_)
  refine wpAny_Slice (thn (po_none.run pins s1 σ H1 (fun o H2 => o = none ∧ H2 = H1) I1 ⟨rfl, rfl⟩) fun vl s2 ⟨l, H2, I2, pl, el, e2⟩ => ?_)
  subst el e2
  refine thn (po_none.run pins s2 σ H2 (fun o H3 => o = none ∧ H3 = H2) I2 ⟨rfl, rfl⟩) fun vu s3 ⟨u, H3, I3, pu, eu, e3⟩ => ?_
  subst eu e3
  rw [evalPart_some]
  refine thn (hk.run pins s3 σ H3 _ I3 q1) fun vs s4 ⟨y, H4, I4, ps, a, xs, k, ex, ey, hx, q⟩ => ?_
  subst ex ey
  obtain ⟨tk, rfl⟩ := ps
  cases r1
  have I5 : Inv X pins σ H4 { s4 with heap := s4.heap.push { cls := .type "slice", data := .fields #[vl, vu, .int k tk] } } := I4.kept (t' := s4.toks) fun b ob q => Heap.get?_push_of_some _ q
  obtain ⟨its, r, ht, hz⟩ := I5.list hx
  have hlen := r.length
  show wpAny (model X.prog X.w) X.A (subscriptTail _ (.Slice none none (some b) p2) (.ref a) (.ref s4.heap.objs.size)) (EP X pins σ Q) X.xe { s4 with heap := s4.heap.push { cls := .type "slice", data := .fields #[vl, vu, .int k tk] } }
  refine tail_any (ops := [.ref a, .ref s4.heap.objs.size]) ht.isList.typeIs (PySem.slot_list_getitem.lookup) ?_ (by with_unfolding_all rfl)
  rcases q with ⟨rfl, q⟩ | ⟨rfl, q⟩
  · refine wpAny_getItem_list_slice ht.isList (Heap.IsSliceOf.new _ vl vu _) pl pu (.int 1 tk) (by decide) ?_ (by rw [List.size_toArray]; omega)
    have e1 : slicePick its.toArray none none (some 1) = its.toArray := by
      have := slicePick_cut its none none
      have e2 : slicePick its.toArray none none (some 1) = slicePick its.toArray none none none := rfl
      rw [e2, this]
      simp [HT.sIx]
    rw [e1]
    refine ⟨.ref _, _, I5.laid (t' := s4.toks) (o := .lst xs) (fun b ob q => Heap.get?_push_of_some _ q) (Nat.le_refl _) ?_, rfl, q _ (I5.hok.fresh (Nat.le_refl _))⟩
    exact ⟨hz, _, 0, r, Heap.get?_push_size _ rfl⟩
  · refine wpAny_getItem_list_slice ht.isList (Heap.IsSliceOf.new _ vl vu _) pl pu (.int (-1) tk) (by decide) ?_ (by rw [List.size_toArray]; omega)
    rw [PySem.W.krv_pick]
    refine ⟨.ref _, _, I5.laid (t' := s4.toks) (o := .lst xs.reverse) (fun b ob q => Heap.get?_push_of_some _ q) (Nat.le_refl _) ?_, rfl, q _ (I5.hok.fresh (Nat.le_refl _))⟩
    exact ⟨by rw [List.length_reverse]; exact hz, _, 0, r.reverse, Heap.get?_push_size _ rfl⟩
def stepM (c : Bool) (f g : M D) : M D := f.bind fun d => g.bind fun e => pkM d fun d => match d, e with
  | .lst ds, .int k => if k = 1 then newL c ds else if k = -1 then newL c ds.reverse else M.stuck
  | _, _ => M.stuck
theorem se_step (c : Bool) {p2 : Pos} (ha : SE T X W a f) (hb : SE T X W b g) : SE T X W (.Subscript a (.Slice none none (some b) p2) pos) (stepM c f g) :=
  PE_imp (pe_step ha hb) fun σ H Q h => (TM.start h).mono fun v H1 ⟨d, F1, ρ1, r1, g1, s1⟩ => (TM.next g1 s1).mono fun u H2 ⟨e, F2, ρ2, r2, e2, g2, s2⟩ => by
    unfold pkM at s2
    cases q : peek ρ2.st d <;> rw [q] at s2 <;> try exact s2.elim
    rename_i ds
    cases e <;> try exact s2.elim
    rename_i k
    obtain rfl := r2.int_of
    obtain ⟨a, vs, rfl, h1, h2⟩ := pkL g2 (r1.mono e2) q
    refine ⟨a, vs, k, rfl, rfl, SqL.of h1, ?_⟩
    dsimp only at s2
    split at s2
    · rename_i hk; exact .inl ⟨hk, fun p hp => Sat.newL g2 hp h2 s2⟩
    · split at s2
      · rename_i hk; exact .inr ⟨hk, fun p hp => Sat.newL g2 hp h2.reverse s2⟩
      · exact s2.elim
end
end DL
set_option Elab.async false
set_option linter.all false
set_option maxRecDepth 100000
set_option maxHeartbeats 2000000
namespace DL
open PySem PySem.Spec PyProof.Rows L2
/-! ### which cells a value names -/
mutual
def blw (k : Nat) : D → Bool
  | .ref n => decide (n < k)
  | .tup ds => blws k ds
  | .lst ds => blws k ds
  | .dic kvs => blwK k kvs
  | .obj _ fs => blwF k fs
  | .seq ds => blws k ds
  | _ => true
def blws (k : Nat) : List D → Bool
  | [] => true
  | d :: ds => blw k d && blws k ds
def blwK (k : Nat) : List (D × D) → Bool
  | [] => true
  | (a, b) :: ds => blw k a && (blw k b && blwK k ds)
def blwF (k : Nat) : List (Nat × D) → Bool
  | [] => true
  | (_, b) :: ds => blw k b && blwF k ds
end
def Cell.blw (k : Nat) : Cell → Bool
  | .dead => true
  | .lst ds => blws k ds
  | .dic kvs => blwK k kvs
  | .obj _ fs => blwF k fs
section
variable {T : Tb} {X : Cx} {W : WX} {σ σ1 : L2.St} {g g' g0 g1 : Fz} {F H H1 H' : Hp} {pos p : Pos} {e a : Expr} {es : List Expr}
def Fz.tk (g : Fz) (k : Nat) : Fz := ⟨g.F, g.A.take k, g.L⟩
theorem tk_get {k n : Nat} {a : Addr} (h : g.A[n]? = some a) (hk : n < k) : (g.tk k).A[n]? = some a := by
  show (g.A.take k)[n]? = some a
  rw [List.getElem?_take_of_lt hk]; exact h
mutual
theorem Rep.tk {k : Nat} : ∀ {d : D} {v : V}, Rep T g d v → blw k d = true → Rep T (g.tk k) d v
  | _, _, .non, _ => .non
  | _, _, .bl b, _ => .bl b
  | _, _, .int i, _ => .int i
  | _, _, .str l, _ => .str l
  | _, _, .tup h r, b => .tup h (RepL.tk r (by rw [blw] at b; exact b))
  | _, _, .lst h r, b => .lst h (RepL.tk r (by rw [blw] at b; exact b))
  | _, _, .dic h r, b => .dic h (RepK.tk r (by rw [blw] at b; exact b))
  | _, _, .obj h h2 r, b => .obj h h2 (RepF.tk r (by rw [blw] at b; exact b))
  | _, _, .ref h, b => .ref (tk_get h (by rw [blw, decide_eq_true_eq] at b; exact b))
  | _, _, .seq h r, b => .seq h (RepL.tk r (by rw [blw] at b; exact b))
theorem RepL.tk {k : Nat} : ∀ {ds : List D} {vs : List V}, RepL T g ds vs → blws k ds = true → RepL T (g.tk k) ds vs
  | _, _, .nil, _ => .nil
  | _, _, .cons h t, b => by
    rw [blws, Bool.and_eq_true] at b
    exact .cons (Rep.tk h b.1) (RepL.tk t b.2)
theorem RepK.tk {k : Nat} : ∀ {ds : List (D × D)} {vs : List (Key × V)}, RepK T g ds vs → blwK k ds = true → RepK T (g.tk k) ds vs
  | _, _, .nil, _ => .nil
  | _, _, .cons h h2 t, b => by
    rw [blwK, Bool.and_eq_true, Bool.and_eq_true] at b
    exact .cons (Rep.tk h b.1) (Rep.tk h2 b.2.1) (RepK.tk t b.2.2)
theorem RepF.tk {k : Nat} : ∀ {ds : List (Nat × D)} {vs : List (Str × V)}, RepF T g ds vs → blwF k ds = true → RepF T (g.tk k) ds vs
  | _, _, .nil, _ => .nil
  | _, _, .cons h t, b => by
    rw [blwF, Bool.and_eq_true] at b
    exact .cons (Rep.tk h b.1) (RepF.tk t b.2)
end
mutual
theorem Rep.blw : ∀ {d : D} {v : V}, Rep T g d v → blw g.A.length d = true
  | _, _, .non => rfl
  | _, _, .bl b => rfl
  | _, _, .int i => rfl
  | _, _, .str l => rfl
  | _, _, .tup h r => by rw [DL.blw]; exact RepL.blws r
  | _, _, .lst h r => by rw [DL.blw]; exact RepL.blws r
  | _, _, .dic h r => by rw [DL.blw]; exact RepK.blws r
  | _, _, .obj h h2 r => by rw [DL.blw]; exact RepF.blws r
  | _, _, .ref h => by rw [DL.blw]; exact decide_eq_true (List.getElem?_eq_some_iff.mp h).1
  | _, _, .seq h r => by rw [DL.blw]; exact RepL.blws r
theorem RepL.blws : ∀ {ds : List D} {vs : List V}, RepL T g ds vs → blws g.A.length ds = true
  | _, _, .nil => rfl
  | _, _, .cons h t => by rw [DL.blws, Rep.blw h, RepL.blws t]; rfl
theorem RepK.blws : ∀ {ds : List (D × D)} {vs : List (Key × V)}, RepK T g ds vs → blwK g.A.length ds = true
  | _, _, .nil => rfl
  | _, _, .cons h h2 t => by rw [DL.blwK, Rep.blw h, Rep.blw h2, RepK.blws t]; rfl
theorem RepF.blws : ∀ {ds : List (Nat × D)} {vs : List (Str × V)}, RepF T g ds vs → blwF g.A.length ds = true
  | _, _, .nil => rfl
  | _, _, .cons h t => by rw [DL.blwF, Rep.blw h, RepF.blws t]; rfl
end
theorem CRep.tk {k : Nat} {c : Cell} {a : Addr} (h : CRep T g H c a) (b : c.blw k = true) : CRep T (g.tk k) H c a := by
  cases c with
  | dead => trivial
  | lst ds => obtain ⟨vs, h, r⟩ := h; exact ⟨vs, h, r.tk b⟩
  | dic ds => obtain ⟨vs, h, r⟩ := h; exact ⟨vs, h, r.tk b⟩
  | obj C fs => obtain ⟨dx, gs, h, h2, h3, r⟩ := h; exact ⟨dx, gs, h, h2, h3, r.tk b⟩
theorem CRep.blw {c : Cell} {a : Addr} (h : CRep T g H c a) : c.blw g.A.length = true := by
  cases c with
  | dead => rfl
  | lst ds => obtain ⟨vs, h, r⟩ := h; exact r.blws
  | dic ds => obtain ⟨vs, h, r⟩ := h; exact r.blws
  | obj C fs => obtain ⟨dx, gs, h, h2, h3, r⟩ := h; exact r.blws
theorem GoodS.blw {μ : List Cell} (gd : GoodS T g H μ) {n : Nat} {c : Cell} (h : μ[n]? = some c) : c.blw g.A.length = true := by
  by_cases hd : c = .dead
  · subst hd; rfl
  · have hl : n < g.A.length := by rw [gd.len]; exact (List.getElem?_eq_some_iff.mp h).1
    exact (gd.cell n _ c (List.getElem?_eq_getElem hl) h hd).2.blw
theorem GoodS.tk {μ : List Cell} {k : Nat} (gd : GoodS T g H μ) (hb : ∀ n c, n < k → μ[n]? = some c → c.blw k = true) : GoodS T (g.tk k) H (μ.take k) := by
  refine ⟨gd.sub, gd.nd.sublist (List.take_sublist _ _), fun a h => gd.has a (List.mem_of_mem_take h), ?_, fun n a c h1 h2 h3 => ?_, fun a vs h => ?_⟩
  · show (g.A.take k).length = _
    rw [List.length_take, List.length_take, gd.len]
  · have h1 : (g.A.take k)[n]? = some a := h1
    have hn : n < k := by
      have := (List.getElem?_eq_some_iff.mp h1).1
      rw [List.length_take] at this; omega
    rw [List.getElem?_take_of_lt hn] at h1 h2
    obtain ⟨y1, y2⟩ := gd.cell n a c h1 h2 h3
    exact ⟨y1, y2.tk (hb n c hn h2)⟩
  · obtain ⟨h1, h2, h3⟩ := gd.hold a vs h
    exact ⟨h1, fun q => h2 (List.mem_of_mem_take q), h3⟩
/-! ### freezing, deep -/
theorem GoodS.kill {μ : List Cell} {n : Nat} {a : Addr} {ds : List D} (gd : GoodS T g H μ) (hn : g.A[n]? = some a) (h : μ[n]? = some (.lst ds)) :
    ∃ vs, GoodS T (g.up a (.lst vs)) H (μ.set n .dead) ∧ g.le (g.up a (.lst vs)) ∧ RepL T g ds vs := by
  obtain ⟨hF, vs, h1, h2⟩ := gd.cell n a _ hn h (fun q => nomatch q)
  have le : g.le (g.up a (.lst vs)) := Fz.up_le hF
  refine ⟨vs, ⟨fun b u e => ?_, gd.nd, gd.has, by rw [List.length_set]; exact gd.len, fun m b c y1 y2 y3 => ?_, fun b ws hb => ?_⟩, le, h2⟩
  · have e : upd g.F a (.lst vs) b = some u := e
    by_cases z : b = a
    · subst z; rw [upd_same] at e; cases e; exact h1
    · rw [upd_ne z] at e; exact gd.sub b u e
  · have y1 : g.A[m]? = some b := y1
    by_cases z : n = m
    · subst z
      rw [List.getElem?_set_self (List.getElem?_eq_some_iff.mp h).1] at y2
      cases y2; exact absurd rfl y3
    · rw [List.getElem?_set_ne z] at y2
      obtain ⟨q1, q2⟩ := gd.cell m b c y1 y2 y3
      have hb : b ≠ a := fun y => z ((List.getElem?_inj (List.getElem?_eq_some_iff.mp hn).1 gd.nd).mp (hn.trans (y ▸ y1).symm))
      refine ⟨by show upd g.F a _ b = none; rw [upd_ne hb]; exact q1, ?_⟩
      cases c with
      | dead => exact absurd rfl y3
      | lst ds => obtain ⟨ws, w1, w2⟩ := q2; exact ⟨ws, w1, w2.mono le⟩
      | dic ds => obtain ⟨ws, w1, w2⟩ := q2; exact ⟨ws, w1, w2.mono le⟩
      | obj C fs =>
        obtain ⟨dx, gs, w1, w2, w3, w4⟩ := q2
        refine ⟨dx, gs, w1, w2, ?_, w4.mono le⟩
        show upd g.F a _ dx = none
        rw [upd_ne]
        · exact w3
        · intro z; subst z; rw [h1] at w2; cases w2
  · obtain ⟨q1, q2, q3⟩ := gd.hold b ws hb
    have z : b ≠ a := fun z => q2 (z ▸ List.mem_of_getElem? hn)
    exact ⟨q1, q2, by show upd g.F a _ b = none; rw [upd_ne z]; exact q3⟩
mutual
def frzD : Nat → D → List Cell → Option (D × List Cell)
  | 0, _, _ => none
  | k + 1, d, μ => if blw 0 d then some (d, μ) else match d with
    | .ref n => match μ[n]? with
      | some (.lst ds) => (frzL k ds (μ.set n .dead)).map fun r => (.lst r.1, r.2)
      | _ => none
    | .tup ds => (frzL k ds μ).map fun r => (.tup r.1, r.2)
    | .lst ds => (frzL k ds μ).map fun r => (.lst r.1, r.2)
    | _ => none
def frzL : Nat → List D → List Cell → Option (List D × List Cell)
  | 0, _, _ => none
  | _ + 1, [], μ => some ([], μ)
  | k + 1, d :: ds, μ => match frzD k d μ with
    | none => none
    | some (d', μ') => (frzL k ds μ').map fun r => (d' :: r.1, r.2)
end
mutual
theorem frzD_ok : ∀ (k : Nat) {d d' : D} {μ μ' : List Cell} {g : Fz} {v : V}, GoodS T g H μ → Rep T g d v → frzD k d μ = some (d', μ') → ∃ g', GoodS T g' H μ' ∧ g.le g' ∧ Rep T g' d' v
  | 0, _, _, _, _, _, _, _, _, h => by simp [frzD] at h
  | k + 1, d, d', μ, μ', g, v, gd, r, h => by
    unfold frzD at h
    split at h
    · cases h; exact ⟨g, gd, .refl, r⟩
    · cases d with
      | ref n =>
        obtain ⟨a, rfl, hn⟩ := r.ref_of
        dsimp only at h
        cases q : μ[n]? with
        | none => simp [q] at h
        | some c =>
          cases c with
          | lst ds =>
            simp only [q, Option.map_eq_some_iff] at h
            obtain ⟨⟨es, μ2⟩, h1, h2⟩ := h
            cases h2
            obtain ⟨vs, y1, y2, y3⟩ := gd.kill hn q
            obtain ⟨g2, z1, z2, z3⟩ := frzL_ok k y1 (y3.mono y2) h1
            exact ⟨g2, z1, y2.trans z2, .lst (z2.F _ _ upd_same) z3⟩
          | _ => simp [q] at h
      | tup ds =>
        obtain ⟨a, vs, rfl, ha, rv⟩ := r.tup_of
        simp only [Option.map_eq_some_iff] at h
        obtain ⟨⟨es, μ2⟩, h1, h2⟩ := h
        cases h2
        obtain ⟨g2, z1, z2, z3⟩ := frzL_ok k gd rv h1
        exact ⟨g2, z1, z2, .tup (SqT.mono z2.F ha) z3⟩
      | lst ds =>
        obtain ⟨a, vs, rfl, ha, rv⟩ := r.lst_ofH
        simp only [Option.map_eq_some_iff] at h
        obtain ⟨⟨es, μ2⟩, h1, h2⟩ := h
        cases h2
        obtain ⟨g2, z1, z2, z3⟩ := frzL_ok k gd rv h1
        exact ⟨g2, z1, z2, .lst (z2.F _ _ ha) z3⟩
      | _ => simp at h
theorem frzL_ok : ∀ (k : Nat) {ds ds' : List D} {μ μ' : List Cell} {g : Fz} {vs : List V}, GoodS T g H μ → RepL T g ds vs → frzL k ds μ = some (ds', μ') → ∃ g', GoodS T g' H μ' ∧ g.le g' ∧ RepL T g' ds' vs
  | 0, _, _, _, _, _, _, _, _, h => by simp [frzL] at h
  | k + 1, [], ds', μ, μ', g, vs, gd, r, h => by
    simp only [frzL, Option.some.injEq, Prod.mk.injEq] at h
    obtain ⟨rfl, rfl⟩ := h
    exact ⟨g, gd, .refl, r⟩
  | k + 1, d :: ds, ds', μ, μ', g, vs, gd, r, h => by
    obtain ⟨v, us, rfl, r1, r2⟩ := r.cons_of
    unfold frzL at h
    cases q : frzD k d μ with
    | none => simp [q] at h
    | some z =>
      obtain ⟨d', μ1⟩ := z
      simp only [q, Option.map_eq_some_iff] at h
      obtain ⟨⟨es, μ2⟩, h1, h2⟩ := h
      cases h2
      obtain ⟨g1, y1, y2, y3⟩ := frzD_ok k gd r1 q
      obtain ⟨g2, z1, z2, z3⟩ := frzL_ok k y1 (r2.mono y2) h1
      exact ⟨g2, z1, y2.trans z2, .cons (y3.mono z2) z3⟩
end
def frzM (d : D) : M D := fun ρ => match frzD 64 d ρ.st with
  | some (d', μ) => .ok d' ⟨ρ.sl, μ⟩
  | none => .stuck
def M.frz (f : M D) : M D := f.bind frzM
/-- a value that is frozen as it is read: nothing runs -/
theorem se_frz {f : M D} (h : SE T X W e f) : SE T X W e f.frz := PE_imp h fun σ H Q hh => by
  have := TM.start (R := RD T) hh
  refine this.mono fun v H1 ⟨d, F1, ρ1, r1, g1, s1⟩ => ?_
  unfold frzM at s1
  cases q : frzD 64 d ρ1.st with
  | none => simp only [q] at s1; exact s1.elim
  | some z =>
    obtain ⟨d', μ⟩ := z
    simp only [q] at s1
    obtain ⟨g2, z1, z2, z3⟩ := frzD_ok 64 g1.s r1 q
    exact s1 _ _ _ (g1.st z1 z2) z3 z2
/-! ### calls -/
inductive COut where
  | ok (d : D) (μ : List Cell) | exc (x : Exn) (μ : List Cell) | stuck
def SatC (T : Tb) (Q : VK) (E : XK) (g : Fz) : COut → Prop
  | .ok d μ' => ∀ v H' g', GoodS T g' H' μ' → Rep T g' d v → g.le g' → Q v H'
  | .exc x μ' => ∀ cls dd H' g', GoodS T g' H' μ' → XRep T g' H' x cls dd → g.le g' → E cls dd H'
  | .stuck => False
abbrev Fun := List D → List Cell → COut
def spI (T : Tb) (np : Nat) (f : Fun) : Sp := fun vs H Q E => ∃ g μ ds, GoodS T g H μ ∧ RepL T g ds vs ∧ ds.length = np ∧ SatC T Q E g (f ds μ)
theorem spI_len {np : Nat} {f : Fun} {ps : List Str} (h : ps.length = np) : ∀ vs H Q E, spI T np f vs H Q E → vs.length = ps.length := fun vs H Q E ⟨g, μ, ds, _, r, l, _⟩ => by rw [← r.length, l, h]
def callM (f : Fun) (np : Nat) (fs : M (List D)) : M D := fs.bind fun ds ρ => if ds.length = np then match f ds ρ.st with
  | .ok d μ => .ok d ⟨ρ.sl, μ⟩
  | .exc x μ => .exc x ⟨ρ.sl, μ⟩
  | .stuck => .stuck
  else .stuck
theorem se_call {k : Nat} {fa : Addr} {fd : FuncData} {ps : List Str} {np : Nat} {f : Fun} {fs : M (List D)} {x : Str} (Fk : FnOk X.prog X.w X.K X.mg X.base (L2.CX X.prog X.w) k fa fd ps (spI T np f)) (hr : Room k X.A) (hg : Gl X x) (hm : X.mg x = some (.ref fa)) (hk : PySem.W.keepIn X.K (.ref fa) = true)
    (hb : Binds X.K fd ps []) (tk : Takes X W) (ha : SA T X W (a :: es) fs) (hdb : (x == ("__debug__" : Str)) = false) (hn : (a :: es).all notStar = true) : SE T X W (.Call (.Name x p) (a :: es) [] pos) (callM f np fs) := by
  rw [List.all_cons, Bool.and_eq_true] at hn
  refine ⟨fun pins s σ H Q I h => ?_⟩
  refine wpAny_Call_Name_kw (ld_glob I hg hm ?_ hdb)
  refine PySem.W.callWith_K (h₀ := X.base) I.ok.mod.kin hk (thn (ha.run pos pins s σ H _ I (TM.start h)) fun us s1 ⟨vs, H1, I1, r, ds, g1, ρ1, rd, gd, s2⟩ => ⟨I1.kIn, ?_⟩) (starEach_of hn.1) (star_any hn.2)
  split at s2
  · rename_i hl
    have hsp : spI T np f vs H1 Q (fun cls d H' => W cls d σ H') := by
      refine ⟨g1, ρ1.st, ds, gd.s, rd, hl, ?_⟩
      revert s2
      cases f ds ρ1.st with
      | ok d μ => exact fun s2 v H' g' a1 a2 a3 => s2 v H' g' (gd.st a1 a3) a2 a3
      | exc x μ => exact fun s2 cls dd H' g' a1 a2 a3 => s2 cls dd H' g' (gd.st a1 a3) a2 a3
      | stuck => exact fun s2 => s2
    have hlen : us.length = ps.length := by rw [← r.length]; exact Fk.len _ _ _ _ hsp
    refine wpAny_call (codeAny_mono (Fk.run X.A X.stack s1 H1 ⟨us, []⟩ us vs Q _ hr I1.env0 (by have := hb s1 us I1.kIn (by rw [List.append_nil]; exact hlen); rw [List.append_nil] at this; exact this) r hsp) fun r s' hq => ?_)
    cases r with
    | error e => exact tk _ _ (XE.of_call I1 (fun cls d H' h => h) hq)
    | ok fl =>
      cases fl with
      | ret u => exact I1.after hq
      | next => exact False.elim hq
      | brk => exact False.elim hq
      | cont => exact False.elim hq
  · exact s2.elim
/-! ### a body as a function -/
open Classical in
/-- cells that nobody outside names are forgotten -/
noncomputable def truncO (μ0 : List Cell) : COut → COut
  | .ok d μ => if blw μ0.length d = true ∧ (∀ n c, n < μ0.length → μ[n]? = some c → μ0[n]? = some c ∨ c.blw μ0.length = true) then .ok d (μ.take μ0.length) else .ok d μ
  | o => o
def startSl (n : Nat) (ds : List D) : List (Option D) := ds.map some ++ List.replicate (n - ds.length) none
def runB (n : Nat) (b : MS) : Fun := fun ds μ => match b ⟨startSl n ds, μ⟩ with
  | .next ρ => .ok .non ρ.st
  | .ret d ρ => .ok d ρ.st
  | .exc x ρ => .exc x ρ.st
  | _ => .stuck
noncomputable def runF (n : Nat) (b : MS) : Fun := fun ds μ => truncO μ (runB n b ds μ)
theorem trunc_ok {Q : VK} {E : XK} {g : Fz} {μ0 : List Cell} {H0 : Hp} {o : COut} (g0 : GoodS T g H0 μ0) (s : SatC T Q E g (truncO μ0 o)) : SatC T Q E g o := by
  cases o with
  | exc x μ => exact s
  | stuck => exact s
  | ok d μ =>
    unfold truncO at s
    by_cases h : blw μ0.length d = true ∧ (∀ n c, n < μ0.length → μ[n]? = some c → μ0[n]? = some c ∨ c.blw μ0.length = true)
    · simp only [if_pos h] at s
      intro v H' g' a1 a2 a3
      have hl : g.A.length = μ0.length := g0.len
      have hA : (g'.tk μ0.length).A = g.A := by
        obtain ⟨t, q⟩ := a3.A
        show g'.A.take μ0.length = g.A
        rw [← q, ← hl, List.take_left']
        rfl
      refine s v H' (g'.tk μ0.length) (a1.tk fun n c hn hc => ?_) (a2.tk h.1) ⟨a3.F, by rw [hA]; exact List.prefix_refl _, a3.L⟩
      rcases h.2 n c hn hc with q | q
      · have := g0.blw q
        rwa [hl] at this
      · exact q
    · simp only [if_neg h] at s; exact s
abbrev WE (E : XK) : WX := fun cls d _ H => E cls d H
theorem good_start {N : List Str} {g : Fz} {μ : List Cell} {ds : List D} {vs : List V} {H : Hp} (gd : GoodS T g H μ) (r : RepL T g ds vs) (hl : ds.length ≤ N.length) : Good T g H ⟨startSl N.length ds, μ⟩ (L2.start N vs) := by
  refine ⟨gd, ?_, fun i d h => ?_⟩
  · unfold startSl L2.start
    rw [List.length_append, List.length_append, List.length_map, List.length_map, List.length_replicate, List.length_replicate, r.length]
  · have h : (ds.map some ++ List.replicate (N.length - ds.length) none)[i]? = some (some d) := h
    have hi : i < ds.length := by
      by_cases hi : i < ds.length
      · exact hi
      · rw [List.getElem?_append_right (by simpa using hi), List.getElem?_replicate] at h
        split at h <;> cases h
    rw [List.getElem?_append_left (by simpa using hi), List.getElem?_map] at h
    cases q : ds[i]? with
    | none => rw [q] at h; cases h
    | some d' =>
      rw [q] at h; cases h
      obtain ⟨v, h1, h2⟩ := r.get q
      refine ⟨v, ?_, h2⟩
      unfold L2.start
      rw [List.getElem?_append_left (by rw [List.length_map, ← r.length]; exact hi), List.getElem?_map, h1]; rfl
/-- THE RULE of a def -/
theorem fn_ok {P : Program} {w : World} {K : PySem.W.Frag} {mg : Str → Option Value} {base : Heap} {x qual : Str} {params : Arguments} {body : List Stmt} {scope : Scope} {fa : Addr} {fd : FuncData} {N ps : List Str} {k np : Nat} {b : MS}
    (F : FunD K x qual params body scope [] [] fa fd) (S : FnScope N ps scope) (hnp : ps.length = np)
    (hb : ∀ (cdv : Value) (A : Around) (outer : List Env) (s : Shared) (H : Hp) (E : XK), Room k (A.deeper (envOfC qual scope s.heap.objs.size fa cdv)) → SSs T (cxOf (L2.CX P w) P w K mg base N qual scope fa cdv A outer s H E) (WE E) body b) :
    FnOk P w K mg base (L2.CX P w) (k + 1) fa fd ps (spI T np (runF N.length b)) :=
  F.ok S (spI_len hnp) fun cdv A outer s H vs Q E hr ⟨g, μ, ds, gd, r, hl, sc⟩ => by
    refine ⟨_, hb cdv A outer s H E hr, g, ⟨startSl N.length ds, μ⟩, good_start gd r ?_, ?_⟩
    · have := congrArg List.length S.pre
      rw [List.length_take] at this
      rw [hl, ← hnp]; omega
    · have s2 := trunc_ok gd sc
      unfold runB at s2
      revert s2
      cases b ⟨startSl N.length ds, μ⟩ with
      | next ρ => exact fun s2 σ' H' g' a1 a3 => s2 _ _ _ a1.s .non a3
      | ret d ρ => exact fun s2 v σ' H' g' a1 a2 a3 => s2 _ _ _ a1.s a2 a3
      | exc x ρ => exact fun s2 cls dd σ' H' g' a1 a2 a3 => s2 _ _ _ _ a1.s a2 a3
      | brk ρ => exact fun s2 => s2.elim
      | cont ρ => exact fun s2 => s2.elim
      | stuck => exact fun s2 => s2.elim
theorem fn_zero {P : Program} {w : World} {K : PySem.W.Frag} {mg : Str → Option Value} {base : Heap} {fa : Addr} {fd : FuncData} {ps : List Str} {k np : Nat} : FnOk P w K mg base (L2.CX P w) k fa fd ps (spI T np (fun _ _ => .stuck)) :=
  ⟨fun _ _ _ _ ⟨_, _, _, _, _, _, h⟩ => h.elim, fun _ _ _ _ _ _ _ _ _ _ _ _ _ ⟨_, _, _, _, _, _, h⟩ => h.elim⟩
end
end DL
set_option Elab.async false
set_option linter.all false
set_option maxRecDepth 100000
set_option maxHeartbeats 2000000
namespace DL
open PySem PySem.Spec PyProof.Rows L2
/-- the module as it stands: defs (name, number of parameters), constants, built-in names that are free -/
structure Bs (T : Tb) (P : Program) (w : World) (K : PySem.W.Frag) (mg : Str → Option Value) (base : Heap) (n : Nat) (fns : List (Str × Nat)) (cal : Nat → Fun) (csts : List (Str × D)) (frs : List Str) : Prop where
  hK : T.K = K
  free : ∀ (k : Nat) (x : Str), frs[k]? = some x → mg x = none
  con : ∀ (k : Nat) (x : Str) (d : D), csts[k]? = some (x, d) → ∃ v u, mg x = some u ∧ RelV v u ∧ (∀ g, Rep T g d v) ∧ (x == ("__debug__" : Str)) = false
  call : ∀ (fid : Nat) (x : Str) (np : Nat), fns[fid]? = some (x, np) → ∃ fa fd ps, FnOk P w K mg base (L2.CX P w) n fa fd ps (spI T np (cal fid)) ∧ mg x = some (.ref fa) ∧ PySem.W.keepIn K (.ref fa) = true ∧ Binds K fd ps [] ∧ (x == ("__debug__" : Str)) = false
structure Cw (T : Tb) (X : Cx) (W : WX) (n : Nat) (fns : List (Str × Nat)) (cal : Nat → Fun) (csts : List (Str × D)) (frs : List Str) : Prop where
  bs : Bs T X.prog X.w X.K X.mg X.base n fns cal csts frs
  room : Room n X.A
  calm : X.calm = true
  tk : Takes X W
structure Sw (X : Cx) (sc : Scope) (N : List Str) (V L : List Nat) (G : List Str) : Prop where
  n : X.N = N
  nd : N.Nodup
  es : X.env.scope = sc
  v : ∀ (i : Nat) (x : Str), V.contains i = true → N[i]? = some x → Vis sc x ∧ (x == ("__debug__" : Str)) = false ∧ (x == ("__classdict__" : Str)) = false
  l : ∀ (i : Nat) (x : Str), L.contains i = true → N[i]? = some x → L2.Loc sc x ∧ (X.fn x = true ∨ sc.names.lookup x = some .local)
  g : ∀ (k : Nat) (x : Str), G[k]? = some x → sc.names.lookup x = some .globalImplicit
def visB (sc : Scope) (x : Str) : Bool := match sc.names.lookup x with
  | some .local => true
  | some .cell => true
  | some .free => true
  | _ => false
def locB (sc : Scope) (x : Str) : Bool := match sc.names.lookup x with
  | some .local => true
  | some .cell => true
  | _ => false
def lclB (sc : Scope) (x : Str) : Bool := match sc.names.lookup x with
  | some .local => true
  | _ => false
def gloB (sc : Scope) (x : Str) : Bool := match sc.names.lookup x with
  | some .globalImplicit => true
  | _ => false
def okN (x : Str) : Bool := !(x == ("__debug__" : Str)) && !(x == ("__classdict__" : Str))
def atN (N : List Str) (i : Nat) (p : Str → Bool) : Bool := match N[i]? with
  | some x => p x
  | none => true
def ndB (N : List Str) : Bool := decide N.Nodup
def swC (sc : Scope) (N : List Str) (V L : List Nat) (G : List Str) : Bool :=
  ndB N && (V.all (fun i => atN N i fun x => visB sc x && okN x) && (L.all (fun i => atN N i (locB sc)) && G.all (gloB sc)))
def swC2 (sc : Scope) (N : List Str) (V L : List Nat) (G : List Str) : Bool :=
  V.all (fun i => atN N i fun x => visB sc x && okN x) && (L.all (fun i => atN N i (lclB sc)) && G.all (gloB sc))
theorem visB_ok {sc : Scope} {x : Str} (h : visB sc x = true) : Vis sc x := by
  unfold visB at h
  unfold Vis
  split at h <;> first | (rename_i q; rw [q]; simp; done) | cases h
theorem locB_ok {sc : Scope} {x : Str} (h : locB sc x = true) : L2.Loc sc x := by
  unfold locB at h
  unfold L2.Loc
  split at h <;> first | (rename_i q; rw [q]; simp; done) | cases h
theorem lclB_ok {sc : Scope} {x : Str} (h : lclB sc x = true) : sc.names.lookup x = some .local := by
  unfold lclB at h
  split at h
  · assumption
  · cases h
theorem gloB_ok {sc : Scope} {x : Str} (h : gloB sc x = true) : sc.names.lookup x = some .globalImplicit := by
  unfold gloB at h
  split at h
  · assumption
  · cases h
theorem okN_ok {x : Str} (h : okN x = true) : (x == ("__debug__" : Str)) = false ∧ (x == ("__classdict__" : Str)) = false := by
  unfold okN at h
  rw [Bool.and_eq_true] at h
  exact ⟨by simpa using h.1, by simpa using h.2⟩
theorem atN_ok {N : List Str} {V : List Nat} {p : Str → Bool} {i : Nat} {x : Str} (h : V.all (fun i => atN N i p) = true) (hi : V.contains i = true) (hx : N[i]? = some x) : p x = true := by
  have h1 := List.all_eq_true.mp h i (by simpa using hi)
  unfold atN at h1
  rw [hx] at h1
  exact h1
section
variable {T : Tb} {X : Cx} {W : WX} {n : Nat} {fns : List (Str × Nat)} {cal : Nat → Fun} {csts : List (Str × D)} {frs : List Str} {sc : Scope} {N : List Str} {V L : List Nat} {G : List Str} {p pos : Pos} {a tgt e : Expr} {es : List Expr}
theorem sw_of (h : swC sc N V L G = true) (hn : X.N = N) (hs : X.env.scope = sc) (hf : ∀ x, X.fn x = true) : Sw X sc N V L G := by
  unfold swC at h
  simp only [Bool.and_eq_true] at h
  obtain ⟨h0, h1, h2, h3⟩ := h
  subst hs
  refine ⟨hn, of_decide_eq_true h0, rfl, fun i x hi hx => ?_, fun i x hi hx => ⟨locB_ok (atN_ok h2 hi hx), .inl (hf x)⟩, fun k x hx => gloB_ok (List.all_eq_true.mp h3 x (List.mem_of_getElem? hx))⟩
  have := atN_ok h1 hi hx
  rw [Bool.and_eq_true] at this
  exact ⟨visB_ok this.1, okN_ok this.2⟩
theorem rel_keep {sc scope : Scope} {x : Str} {k : NameKind} (hk : k ≠ .free) (h : scope.names.lookup x = some k) : (relS scope sc).names.lookup x = some k := lookup_relS_keep hk h
theorem vis_rel {sc scope : Scope} {x : Str} (h : Vis scope x) : Vis (relS scope sc) x := by
  rcases h with h | h | h
  · exact .inl (rel_keep (by decide) h)
  · exact .inr (.inl (rel_keep (by decide) h))
  · have key : ∀ {names : List (Str × NameKind)}, names.lookup x = some .free →
        (names.map fun (n, k) => if (k == NameKind.free && sc.kind == .function && sc.names.lookup n == some .cell) then (n, NameKind.cell) else (n, k)).lookup x = some .cell ∨
        (names.map fun (n, k) => if (k == NameKind.free && sc.kind == .function && sc.names.lookup n == some .cell) then (n, NameKind.cell) else (n, k)).lookup x = some .free := by
      intro names
      induction names with
      | nil => intro h; simp at h
      | cons q r ih =>
        obtain ⟨n, k₀⟩ := q
        intro h
        rw [List.map_cons]
        dsimp only
        cases hx : x == n with
        | true =>
          simp only [List.lookup_cons, hx] at h
          cases h
          split
          · left; simp only [List.lookup_cons, hx]
          · right; simp only [List.lookup_cons, hx]
        | false =>
          simp only [List.lookup_cons, hx] at h
          split
          · simp only [List.lookup_cons, hx]; exact ih h
          · simp only [List.lookup_cons, hx]; exact ih h
    rcases key h with q | q
    · exact .inr (.inl q)
    · exact .inr (.inr q)
theorem sw_blk {scope : Scope} {V' L' : List Nat} {G' : List Str} {Y : Cx} (S : Sw X sc N V L G) (hY : Blk X scope Y) (h : swC2 scope N V' L' G' = true) : Sw Y (relS scope sc) N V' L' G' := by
  obtain ⟨s, H, C, cl, fp, rfl⟩ := hY
  unfold swC2 at h
  simp only [Bool.and_eq_true] at h
  obtain ⟨h1, h2, h3⟩ := h
  refine ⟨S.n, S.nd, ?_, fun i x hi hx => ?_, fun i x hi hx => ?_, fun k x hx => rel_keep (by decide) (gloB_ok (List.all_eq_true.mp h3 x (List.mem_of_getElem? hx)))⟩
  · have hs := S.es
    subst hs
    rfl
  · have := atN_ok h1 hi hx
    rw [Bool.and_eq_true] at this
    exact ⟨vis_rel (visB_ok this.1), okN_ok this.2⟩
  · have := lclB_ok (atN_ok h2 hi hx)
    have q := rel_keep (sc := sc) (by decide) this
    exact ⟨.inl q, .inr q⟩
theorem cw_blk {scope : Scope} {Y : Cx} (C : Cw T X W n fns cal csts frs) (hY : Blk X scope Y) : Cw T Y W0 n fns cal csts frs := by
  obtain ⟨s, H, c, cl, fp, rfl⟩ := hY
  exact ⟨C.bs, C.room, C.calm, fun u s' ⟨_, _, _, _, _, _, _, _, _, _, _, _, _, _, _, _, h⟩ => h.elim⟩
theorem Sw.var (S : Sw X sc N V L G) (i : Nat) {x : Str} (h1 : N[i]? = some x) (h2 : V.contains i = true) : SE T X W (.Name x p) (varM i) := by
  obtain ⟨q1, q2, q3⟩ := S.v i x h2 h1
  exact se_var (by rw [S.n]; exact h1) (by rw [S.es]; exact q1) q2 q3
theorem Sw.gl (S : Sw X sc N V L G) (k : Nat) {x : Str} (h : G[k]? = some x) : Gl X x := by
  have q := S.g k x h
  rw [← S.es] at q
  exact q
theorem Sw.tg (S : Sw X sc N V L G) (i : Nat) {x : Str} (h1 : N[i]? = some x) (h2 : L.contains i = true) : SG T X (.Name x p) (.nm i) := by
  obtain ⟨q1, q2⟩ := S.l i x h2 h1
  exact sg_name (by rw [S.n]; exact S.nd) (by rw [S.n]; exact h1) (by rw [S.es]; exact q1) (by rw [S.es]; exact q2)
theorem Sw.asg {f : M D} {p' : Pos} (S : Sw X sc N V L G) (i : Nat) {x : Str} (h1 : N[i]? = some x) (h2 : L.contains i = true) (he : SE T X W e f) (hs : swapsWith e (some (.Name x p')) pos.line X.env = pure false) : SS T X W (.Assign [.Name x p'] e pos) (f.thn fun r => setS i r) := by
  obtain ⟨q1, q2⟩ := S.l i x h2 h1
  exact ss_asg (by rw [S.n]; exact S.nd) (by rw [S.n]; exact h1) (by rw [S.es]; exact q1) he hs (by rw [S.es]; exact q2)
theorem Cw.hK (C : Cw T X W n fns cal csts frs) : T.K = X.K := C.bs.hK
theorem Cw.hu (C : Cw T X W n fns cal csts frs) : X.A.units + 65 < cLine := by have := C.room.un; omega
theorem Cw.con (C : Cw T X W n fns cal csts frs) (k : Nat) {x : Str} {d : D} (h : csts[k]? = some (x, d)) (hg : Gl X x) : SE T X W (.Name x p) (M.pure d) := by
  obtain ⟨v, u, h1, h2, h3, h4⟩ := C.bs.con k x d h
  exact se_glo hg h1 h2 h3 h4
theorem Cw.call (C : Cw T X W n fns cal csts frs) (fid : Nat) {x : Str} {np : Nat} {fs : M (List D)} (h : fns[fid]? = some (x, np)) (hg : Gl X x) (ha : SA T X W (a :: es) fs) (hn : (a :: es).all notStar = true) : SE T X W (.Call (.Name x p) (a :: es) [] pos) (callM (cal fid) np fs) := by
  obtain ⟨fa, fd, ps, h1, h2, h3, h4, h5⟩ := C.bs.call fid x np h
  exact se_call h1 C.room hg h2 h3 h4 C.tk ha h5 hn
/-- a comprehension -/
theorem lcX {elt iter : Expr} {ifs : List Expr} {scope : Scope} {t : Tg} {tt : M Bool} {te : M D} {k : M Sq} (cc : Bool) (C : Cw T X W n fns cal csts frs) (S : Sw X sc N V L G) (own : List (Str × Nat)) (V' L' : List Nat) (G' : List Str) (hi : SI T X W tgt iter k)
    (hb : blkC N sc scope own = true) (h2 : swC2 scope N V' L' G' = true) (hw : t.ix.all (fun i => (own.map (·.2)).contains i) = true)
    (hall : ∀ Y, Cw T Y W0 n fns cal csts frs → Sw Y (relS scope sc) N V' L' G' → SG T Y tgt t ∧ SIfs T Y W0 ifs tt ∧ SE T Y W0 elt te) (hs : ∀ x, foldedSetIterable iter X.env x = pure x) :
    SE T X W (.ListComp elt [⟨tgt, iter, ifs, 0⟩] scope pos) (lcM cc (own.map (·.2)) t k tt te) :=
  se_lc cc C.calm (by rw [S.n]; exact S.nd) hi (by rw [S.n, S.es]; exact blkOk_by hb) (fun Y hY => (hall Y (cw_blk C hY) (sw_blk S hY h2)).1) (fun Y hY => (hall Y (cw_blk C hY) (sw_blk S hY h2)).2.1) (fun Y hY => (hall Y (cw_blk C hY) (sw_blk S hY h2)).2.2)
    (fun i hi => by have := List.all_eq_true.mp hw i hi; simpa using this) hs
/-- x = [..] on one line, x a plain local -/
theorem setLcX {elt iter : Expr} {ifs : List Expr} {scope : Scope} {t : Tg} {tt : M Bool} {te : M D} {k : M Sq} {y : Str} {py spos : Pos} (cc : Bool) (C : Cw T X W n fns cal csts frs) (S : Sw X sc N V L G) (i : Nat) (hy : N[i]? = some y) (hyl : lclB sc y = true) (own : List (Str × Nat)) (V' L' : List Nat) (G' : List Str) (hi : SI T X W tgt iter k)
    (hsw : swapsWith (.ListComp elt [⟨tgt, iter, ifs, 0⟩] scope pos) (some (.Name y py)) spos.line X.env = pure true)
    (hb : blkC N sc scope own = true) (h2 : swC2 scope N V' L' G' = true) (hw : t.ix.all (fun i => (own.map (·.2)).contains i) = true)
    (hall : ∀ Y, Cw T Y W0 n fns cal csts frs → Sw Y (relS scope sc) N V' L' G' → SG T Y tgt t ∧ SIfs T Y W0 ifs tt ∧ SE T Y W0 elt te) (hs : ∀ x, foldedSetIterable iter X.env x = pure x) :
    SS T X W (.Assign [.Name y py] (.ListComp elt [⟨tgt, iter, ifs, 0⟩] scope pos) spos) ((lcM cc (own.map (·.2)) t k tt te).thn fun r => setS i r) :=
  ss_setLc cc C.calm (by rw [S.n]; exact S.nd) (by rw [S.n]; exact hy) (by rw [S.es]; exact lclB_ok hyl) hsw hi (by rw [S.n, S.es]; exact blkOk_by hb) (fun Y hY => (hall Y (cw_blk C hY) (sw_blk S hY h2)).1) (fun Y hY => (hall Y (cw_blk C hY) (sw_blk S hY h2)).2.1) (fun Y hY => (hall Y (cw_blk C hY) (sw_blk S hY h2)).2.2)
    (fun i hi => by have := List.all_eq_true.mp hw i hi; simpa using this) hs
end
/-! ### the head's hook with one more check -/
section
open He
abbrev AlX : Type := AlD × Bool
def obsX (fa : List Fa) (fn : List DefD) (ex : PySem.W.Frag → Bool) (K : PySem.W.Frag) : AlX := (obsD fa fn K, ex K)
def obsXG (n : Nat) (fa : List Fa) (fn : List DefD) (ex : PySem.W.Frag → Bool) (g : Addr → Option Obj) : AlX := obsX fa fn ex (frG g (asD g n))
def SaysX (fa : List Fa) (fn : List DefD) (ex : PySem.W.Frag → Bool) (K : PySem.W.Frag) : Prop := obsX fa fn ex K = (valD fn, true)
def hookX (n : Nat) (fa : List Fa) (fn : List DefD) (ex : PySem.W.Frag → Bool) : PySem.W.Hook where
  α := AlX
  obs := fun s => obsXG n fa fn ex s.heap.get?
  val := fun _ => (valD fn, true)
  says := fun _ h => ∃ K : PySem.W.Frag, K.In h ∧ SaysX fa fn ex K
  of := fun _ _ e => ⟨_, frG_in, e⟩
  keeps := fun _ _ _ ⟨K, hK, c⟩ k => ⟨K, PySem.W.Frag.In.keeps hK k, c⟩
theorem obsXG_eq {n : Nat} {fa : List Fa} {fn : List DefD} {ex : PySem.W.Frag → Bool} {g : Addr → Option Obj} {s : Shared} (h : ∀ a, g a = s.heap.get? a) : obsXG n fa fn ex g = (hookX n fa fn ex).obs s := by
  have e : g = s.heap.get? := funext h
  rw [e] <;> rfl
theorem SaysX.d {fa : List Fa} {fn : List DefD} {ex : PySem.W.Frag → Bool} {K : PySem.W.Frag} (c : SaysX fa fn ex K) : SaysD fa fn K := congrArg (fun z : AlX => z.1) c
theorem SaysX.x {fa : List Fa} {fn : List DefD} {ex : PySem.W.Frag → Bool} {K : PySem.W.Frag} (c : SaysX fa fn ex K) : ex K = true := congrArg (fun z : AlX => z.2) c
end
end DL
set_option Elab.async false
set_option linter.all false
set_option maxRecDepth 100000
set_option maxHeartbeats 2000000
namespace DL
open PySem PySem.Spec PyProof.Rows L2
abbrev cs (x : Str) : List Nat := x.cps.toList
def celB (sc : Scope) (x : Str) : Bool := match sc.names.lookup x with
  | some .cell => true
  | _ => false
theorem celB_ok {sc : Scope} {x : Str} (h : celB sc x = true) : sc.names.lookup x = some .cell := by
  unfold celB at h
  split at h
  · assumption
  · cases h
theorem sw_cell {elt : Expr} {gs : List Comprehension} {scope : Scope} {pos py : Pos} {y : Str} {l : Nat} {env : Env} (hy : env.scope.names.lookup y = some .cell) : swapsWith (.ListComp elt gs scope pos) (some (.Name y py)) l env = pure false := by
  have ky : env.kindOf y = some .cell := hy
  unfold swapsWith
  simp only [ky]
  have : (some NameKind.cell == some NameKind.local) = false := rfl
  rw [this, Bool.and_false, Bool.false_and, Bool.false_and]
section
variable {T : Tb} {X : Cx} {W : WX} {σ σ1 : L2.St} {g0 g1 : Fz} {F H H1 : Hp} {f g : M D} {pos p : Pos} {a b : Expr}
theorem OpR.or' {fo : Value → Value → Sem Value} {r r' : R2} (h : OpR X fo r) (h' : OpR X fo r') : OpR X fo (fun x y H Q => r x y H Q ∨ r' x y H Q) :=
  fun pins s σ H x y v u Q I rx ry q => q.elim (h pins s σ H x y v u Q I rx ry) (h' pins s σ H x y v u Q I rx ry)
/-- + of ints, texts, tuples, lists -/
def addD (c : Bool) (d e : D) : M D := fun ρ => match peek ρ.st d, peek ρ.st e with
  | .lst ds, .lst es => if ds.length + es.length ≤ LIM then newL c (ds ++ es) ρ else .stuck
  | d, e => optM (binD .add d e) ρ
def addM (c : Bool) (f g : M D) : M D := f.bind fun d => g.bind fun e => addD c d e
theorem peek_flat {g1 : Fz} {H : Hp} {ρ : Rho} {d : D} {v : V} (gd : Good T g1 H ρ σ) (r : Rep T g1 d v) (h : (∀ ds, peek ρ.st d ≠ .lst ds) ∧ (∀ ds, peek ρ.st d ≠ .dic ds) ∧ (∀ C fs, peek ρ.st d ≠ .obj C fs)) : peek ρ.st d = d := by
  cases d with
  | ref n =>
    unfold peek at h ⊢
    cases e : ρ.st[n]? with
    | none => simp only [e]
    | some c =>
      cases c with
      | dead => simp only [e]
      | lst ds => simp only [e] at h; exact absurd rfl (h.1 ds)
      | dic ds => simp only [e] at h; exact absurd rfl (h.2.1 ds)
      | obj C fs => simp only [e] at h; exact absurd rfl (h.2.2 C fs)
  | _ => rfl
theorem binD_add {d e c : D} (h : binD .add d e = some c) : (∀ ds, d ≠ .lst ds) ∧ (∀ ds, d ≠ .dic ds) ∧ (∀ C fs, d ≠ .obj C fs) ∧ (∀ ds, e ≠ .lst ds) ∧ (∀ ds, e ≠ .dic ds) ∧ (∀ C fs, e ≠ .obj C fs) := by
  cases d <;> cases e <;> simp [binD] at h ⊢
theorem se_add (c : Bool) (hK : T.K = X.K) (ha : SE T X W a f) (hb : SE T X W b g) : SE T X W (.BinOp a .Add b pos) (addM c f g) :=
  PE_imp (pe_op (OpR.or' op_cat (bin_ok hK .add)) ha hb) fun σ H Q h => (TM.start h).mono fun v H1 ⟨d, F1, ρ1, r1, g1, s1⟩ => (TM.next g1 s1).mono fun u H2 ⟨e, F2, ρ2, r2, e2, g2, s2⟩ => by
    have r1 := r1.mono e2
    unfold addD at s2
    split at s2
    · rename_i ds es q1 q2
      split at s2
      · rename_i hl
        obtain ⟨p, vs, rfl, hp, rp⟩ := pkL g2 r1 q1
        obtain ⟨p', us, rfl, hp', rp'⟩ := pkL g2 r2 q2
        exact .inl ⟨p, p', vs, us, rfl, rfl, hp, hp', by rw [sz, ← rp.length, ← rp'.length]; exact hl, fun n hn => Sat.newL g2 hn (rp.append rp') s2⟩
      · exact s2.elim
    · obtain ⟨z, q, s3⟩ := Sat.opt s2
      obtain ⟨h1, h2, h3, h4, h5, h6⟩ := binD_add q
      rw [peek_flat g2 r1 ⟨h1, h2, h3⟩, peek_flat g2 r2 ⟨h4, h5, h6⟩] at q
      exact .inr ⟨F2, d, e, z, g2.s.sub, r1, r2, q, fun F' H' z' rz ad => Sat.adv g2 ad rz s3⟩
/-- * of ints, of a text and an int -/
def mulD : D → D → Option D
  | .str l, e => mulS (.str l) e
  | d, e => binD .mul d e
theorem se_mul (hK : T.K = X.K) (ha : SE T X W a f) (hb : SE T X W b g) : SE T X W (.BinOp a .Mult b pos) (bin2M mulD f g) :=
  PE_imp (pe_op (OpR.or' op_mulS (bin_ok hK .mul)) ha hb) fun σ H Q h => (TM.start h).mono fun v H1 ⟨d, F1, ρ1, r1, g1, s1⟩ => (TM.next g1 s1).mono fun u H2 ⟨e, F2, ρ2, r2, e2, g2, s2⟩ => by
    have r1 := r1.mono e2
    obtain ⟨z, q, s3⟩ := Sat.opt s2
    unfold mulD at q
    split at q
    · cases e <;> try (simp [mulS] at q; done)
      simp only [mulS] at q
      split at q
      · rename_i hc
        simp only [Option.some.injEq] at q; subst q
        obtain rfl := r1.str_of; obtain rfl := r2.int_of
        refine .inl ⟨S _, _, rfl, rfl, hc.1.1, hc.1.2, by rw [len_S]; exact hc.2, ?_⟩
        rw [mul_S]
        exact Sat.here g2 (.str _) s3
      · cases q
    · exact .inr ⟨F2, _, e, z, g2.s.sub, r1, r2, q, fun F' H' z' rz ad => Sat.adv g2 ad rz s3⟩
end
theorem rep_cs {T : Tb} {g : Fz} {x : Str} : Rep T g (.str (cs x)) (.str x) := by
  have r : Rep T g (.str (cs x)) (.str (S (cs x))) := .str _
  have e : S (cs x) = x := rfl
  rw [e] at r
  exact r
/-- the end -/
theorem walk_dl {l : PySem.W.OpenLaw} {n k : Nat} {q : Program} {loose : List Str} {XP : (Str → Option Value) → Heap → Prop} {YP : World → Heap → Prop} {d : DefRec} {x : Str}
    (hn : l.most = some n) (hn2 : n ≤ sizeLine) (hdf : d.params.defaults = []) (hr : Room k callerA)
    (F : ∀ (w : World) (mg : Str → Option Value) (fa : Addr) (h : Heap), YP w h → h.Ns mainGlobals mg → mg d.name = some (.ref fa) →
      ∃ (T : Tb) (fd : FuncData) (f : Fun), T.K.In h ∧ (∀ (s : Shared) (u : Value), BindsTo s fd ⟨[u], []⟩ [(x, u)]) ∧ (∀ ns : List Int, ns.length ≤ n → ∃ μ, f [.seq (ns.map D.int)] [] = .ok (.bl true) μ) ∧
        ∀ base : Heap, FnOk l.prog w T.K mg base (L2.CX l.prog w) k fa fd [x] (spI T 1 f)) :
    PySem.W.WalkO q loose XP YP l.row.toRowW d [] (fun f vs => PySem.call f vs) := by
  refine Att.attach_call hn hdf fun w s₀ s₁ mg mb fa o pm cd doc a vs ns G Y ho hd hcd hmg hobj hints hlen hg => ?_
  obtain ⟨T, fd, f, KX, hb, hsp, hF⟩ := F w mg fa _ Y G.T.g hmg
  refine law_call KX G.T.g G.T.b G.T.builtins G.T.nolimit hg hobj hints (Nat.le_trans hlen hn2) hr (fun base _ _ => hF base) hb (fun H hO hS => ?_) fun H e s' ⟨_, _, _, _, _, _, _, _, _, _, _, _, h⟩ => h
  obtain ⟨μ, e⟩ := hsp ns hlen
  have rl : ∀ ns : List Int, RepL T ⟨H, [], []⟩ (ns.map D.int) (ns.map V.int) := fun ns => by
    induction ns with
    | nil => exact .nil
    | cons n ns ih => exact .cons (.int n) ih
  refine ⟨⟨H, [], []⟩, [], [.seq (ns.map D.int)], ⟨fun _ _ z => z, List.nodup_nil, fun a z => (List.not_mem_nil z).elim, rfl, fun n a c z => by simp at z, fun a vs z => (List.not_mem_nil z).elim⟩, .cons (.seq hS (rl ns)) .nil, rfl, ?_⟩
  rw [e]
  exact fun v H' g' _ r _ => r.bl_of
end DL
set_option Elab.async false
set_option linter.all false
set_option maxRecDepth 100000
set_option maxHeartbeats 0
namespace K10
open PySem PySem.Spec PyProof.Rows L2 DL
def top (i : Nat) : Stmt := PySem.Challenge.pw_roadsall_k10_plans_let_by.main.body.getD i (.Pass ⟨0, 0, 0, 0⟩)
def c0 : DL.D := (.str (cs "abcdefghijklmnopqrstuvwxyz"))
def c1 : DL.D := (.int 10)
def c2 : DL.D := (.tup [(.str (cs "or")), (.str (cs "and")), (.str (cs "not")), (.str (cs "true"))])
def c3 : DL.D := (.tup [(.str (cs "row")), (.str (cs "heap"))])
def c4 : DL.D := (.tup [(.str (cs "weak")), (.str (cs "strong"))])
def c5 : DL.D := (.tup [(.str (cs "who")), (.str (cs "all")), (.str (cs "any"))])
def csts : List (Str × DL.D) := [("LETTERS", c0), ("LONGEST", c1), ("NEVER", c2), ("KINDS", c3), ("WISHES", c4), ("WAYS", c5)]
def fns : List (Str × Nat) := [("is_name", 1), ("need", 1), ("need_names", 1), ("firsts", 1), ("names_in", 1), ("need_spoken", 2), ("leads", 3), ("check_take", 3), ("check_step", 3), ("check_family", 2), ("check_plan", 1), ("_law_at", 2), ("_law_mix", 2), ("_law_named", 2), ("_law_next", 2), ("_law_leaf", 2), ("_law_small", 3), ("_law_when", 3), ("_law_cells", 2), ("_law_first", 3), ("_law_roads", 3), ("_law_sends", 5), ("_law_step", 5), ("_law_plan", 2), ("_law_copy", 1), ("law", 1)]
def frs : List Str := ["len", "max", "min", "sum", "isinstance", "list", "tuple", "range", "enumerate"]
def b0_l0 (cal : Nat → Fun) : MS := (MS.seq (ifS (cmpM .notIn (varM 1) (M.pure c0)) (MS.seq (M.thn (M.pure (.bl false)) fun r ρ => .ret r ρ) nextS) nextS) nextS)
/-- is_name -/
def b0 (cal : Nat → Fun) : MS := (MS.seq (ifS (M.andM (cmpM .lt (lenM (varM 0)) (M.pure (.int 1))) (M.pure true) (M.andM (cmpM .gt (lenM (varM 0)) (M.pure c1)) (M.pure true) (cmpM .isIn (varM 0) (M.pure c2)))) (MS.seq (M.thn (M.pure (.bl false)) fun r ρ => .ret r ρ) nextS) nextS) (MS.seq (M.thn (iterM (varM 0)) fun q => forQ q (.nm 1) (b0_l0 cal)) (MS.seq (M.thn (M.pure (.bl true)) fun r ρ => .ret r ρ) nextS)))
def N0 : List Str := ["text", "sign"]
def P0 : List Str := ["text"]
def V0 : List Nat := [0, 1]
def G0 : List Str := ["LETTERS", "len", "LONGEST", "NEVER"]
/-- need -/
def b1 (cal : Nat → Fun) : MS := (MS.seq (ifS (M.bind (M.tb (varM 0)) fun z => M.pure (!z)) (MS.seq (fun _ => SOut.stuck) nextS) nextS) nextS)
def N1 : List Str := ["good"]
def P1 : List Str := ["good"]
def V1 : List Nat := [0]
def G1 : List Str := []
def b2_l0 (cal : Nat → Fun) : MS := (MS.seq (M.thn (callM (cal 1) 1 (consM (M.andM (M.tb (callM (cal 0) 1 (consM (varM 2) (M.pure [])))) (M.bl (cmpM .notIn (varM 2) (sliceM false (varM 0) (partM none) (partM (some (varM 1)))))) (M.pure (.bl false))) (M.pure []))) fun _ => nextS) nextS)
/-- need_names -/
def b2 (cal : Nat → Fun) : MS := (MS.seq (M.thn (enumM (varM 0)) fun q => forQ q (.tp [(.nm 1), (.nm 2)]) (b2_l0 cal)) nextS)
def N2 : List Str := ["names", "place", "name"]
def P2 : List Str := ["names"]
def V2 : List Nat := [0, 1, 2]
def G2 : List Str := ["enumerate", "is_name", "need"]
def b3_e0 (cal : Nat → Fun) : M DL.D := (idxM (varM 1) (M.pure (.int 0)))
def b3_c1 (cal : Nat → Fun) : M DL.D := (lcM false [1] (.nm 1) (iterM (varM 0)) (M.pure true) (b3_e0 cal))
/-- firsts -/
def b3 (cal : Nat → Fun) : MS := (MS.seq (M.thn (b3_c1 cal) fun r ρ => .ret r ρ) nextS)
def N3 : List Str := ["things", "thing"]
def P3 : List Str := ["things"]
def V3 : List Nat := [0]
def G3 : List Str := []
def b4_l0 (cal : Nat → Fun) : MS := (MS.seq (ifS (M.tb (M.bind (varM 2) fun d => optM (isTupD d))) (MS.seq (M.thn (addM false (varM 1) (callM (cal 4) 1 (consM (varM 2) (M.pure [])))) fun r => setS 1 r) nextS) nextS) nextS)
/-- names_in -/
def b4 (cal : Nat → Fun) : MS := (MS.seq (ifS (cmpM .eq (idxM (varM 0) (M.pure (.int 0))) (M.pure (.str (cs "name")))) (MS.seq (M.thn (lstM false (consM (idxM (varM 0) (M.pure (.int 1))) (M.pure []))) fun r ρ => .ret r ρ) nextS) nextS) (MS.seq (M.thn (lstM false (M.pure [])) fun r => setS 1 r) (MS.seq (M.thn (iterM (sliceM false (varM 0) (partM (some (M.pure (.int 1)))) (partM none))) fun q => forQ q (.nm 2) (b4_l0 cal)) (MS.seq (M.thn (varM 1) fun r ρ => .ret r ρ) nextS))))
def N4 : List Str := ["tree", "found", "part"]
def P4 : List Str := ["tree"]
def V4 : List Nat := [0, 1, 2]
def G4 : List Str := ["isinstance", "tuple", "names_in"]
def b5_l0 (cal : Nat → Fun) : MS := (MS.seq (M.thn (callM (cal 1) 1 (consM (M.bl (cmpM .isIn (varM 2) (varM 1))) (M.pure []))) fun _ => nextS) nextS)
/-- need_spoken -/
def b5 (cal : Nat → Fun) : MS := (MS.seq (M.thn (iterM (callM (cal 4) 1 (consM (varM 0) (M.pure [])))) fun q => forQ q (.nm 2) (b5_l0 cal)) nextS)
def N5 : List Str := ["tree", "names", "name"]
def P5 : List Str := ["tree", "names"]
def V5 : List Nat := [0, 1, 2]
def G5 : List Str := ["names_in", "need"]
def b6_e0 (cal : Nat → Fun) : M DL.D := (sliceM false (varM 3) (partM none) (partM (some (M.pure (.int 2)))))
def b6_c1 (cal : Nat → Fun) : M DL.D := (lcM false [3] (.nm 3) (iterM (idxM (varM 0) (M.pure (.int 1)))) (M.pure true) (b6_e0 cal))
/-- leads -/
def b6 (cal : Nat → Fun) : MS := (MS.seq (M.thn (M.bl (cmpM .isIn (tupM (consM (varM 1) (consM (varM 2) (M.pure [])))) (b6_c1 cal))) fun r ρ => .ret r ρ) nextS)
def N6 : List Str := ["plan", "one", "other", "road"]
def P6 : List Str := ["plan", "one", "other"]
def V6 : List Nat := [0, 1, 2]
def G6 : List Str := []
/-- check_take -/
def b7 (cal : Nat → Fun) : MS := (MS.seq (M.thn (varM 2) (tgS (.tp [(.nm 3), (.nm 4), (.nm 5), (.nm 6)]))) (MS.seq (M.thn (callM (cal 1) 1 (consM (M.andM (M.tb (callM (cal 0) 1 (consM (varM 3) (M.pure [])))) (M.andM (M.tb (M.bl (cmpM .isIn (varM 4) (callM (cal 3) 1 (consM (idxM (varM 0) (M.pure (.int 0))) (M.pure [])))))) (callM (cal 6) 3 (consM (varM 0) (consM (varM 4) (consM (idxM (varM 1) (M.pure (.int 0))) (M.pure []))))) (M.pure (.bl false))) (M.pure (.bl false))) (M.pure []))) fun _ => nextS) (MS.seq (M.thn (callM (cal 1) 1 (consM (M.andM (M.tb (M.bl (cmpM .eq (varM 5) (M.pure (.str (cs "")))))) (M.pure (.bl true)) (M.bl (cmpM .isIn (varM 5) (callM (cal 3) 1 (consM (idxM (varM 1) (M.pure (.int 3))) (M.pure [])))))) (M.pure []))) fun _ => nextS) (MS.seq (M.thn (callM (cal 1) 1 (consM (M.andM (M.tb (M.bl (cmpM .eq (varM 6) (M.pure (.str (cs "")))))) (M.pure (.bl true)) (M.bl (cmpM .isIn (varM 6) (idxM (varM 1) (M.pure (.int 4)))))) (M.pure []))) fun _ => nextS) nextS))))
def N7 : List Str := ["plan", "family", "take", "mark", "other", "cell", "who"]
def P7 : List Str := ["plan", "family", "take"]
def V7 : List Nat := [0, 1, 2, 3, 4, 5, 6]
def G7 : List Str := ["need", "firsts", "is_name", "leads"]
def b8_l0 (cal : Nat → Fun) : MS := (MS.seq (M.thn (callM (cal 1) 1 (consM (M.andM (M.tb (callM (cal 0) 1 (consM (varM 15) (M.pure [])))) (M.bl (cmpM .isIn (varM 16) (M.pure c5))) (M.pure (.bl false))) (M.pure []))) fun _ => nextS) (MS.seq (M.thn (callM (cal 5) 2 (consM (varM 14) (consM (varM 11) (M.pure [])))) fun _ => nextS) (MS.seq (ifS (cmpM .eq (varM 16) (M.pure (.str (cs "who")))) (MS.seq (M.thn (callM (cal 1) 1 (consM (M.bl (cmpM .isIn (varM 17) (idxM (varM 1) (M.pure (.int 4))))) (M.pure []))) fun _ => nextS) nextS) (MS.seq (M.thn (callM (cal 1) 1 (consM (M.andM (M.tb (M.bl (cmpM .isIn (varM 17) (callM (cal 3) 1 (consM (idxM (varM 0) (M.pure (.int 0))) (M.pure [])))))) (callM (cal 6) 3 (consM (varM 0) (consM (idxM (varM 1) (M.pure (.int 0))) (consM (varM 17) (M.pure []))))) (M.pure (.bl false))) (M.pure []))) fun _ => nextS) nextS)) nextS)))
def b8_l1 (cal : Nat → Fun) : MS := (MS.seq (M.thn (callM (cal 1) 1 (consM (M.andM (M.tb (M.bl (cmpM .isIn (varM 13) (varM 10)))) (M.bl (cmpM .notIn (varM 13) (varM 12))) (M.pure (.bl false))) (M.pure []))) fun _ => nextS) (MS.seq (M.thn (appendM (varM 12) (varM 13)) fun _ => nextS) (MS.seq (M.thn (callM (cal 5) 2 (consM (varM 14) (consM (varM 11) (M.pure [])))) fun _ => nextS) nextS)))
/-- check_step -/
def b8 (cal : Nat → Fun) : MS := (MS.seq (M.thn (varM 2) (tgS (.tp [(.nm 3), (.nm 4), (.nm 5), (.nm 6), (.nm 7), (.nm 8), (.nm 9)]))) (MS.seq (M.thn (callM (cal 3) 1 (consM (idxM (varM 1) (M.pure (.int 3))) (M.pure []))) fun r => setS 10 r) (MS.seq (M.thn (callM (cal 1) 1 (consM (M.andM (M.tb (M.bl (cmpM .isIn (varM 4) (idxM (varM 1) (M.pure (.int 2)))))) (M.bl (cmpM .isIn (varM 9) (idxM (varM 1) (M.pure (.int 2))))) (M.pure (.bl false))) (M.pure []))) fun _ => nextS) (MS.seq (M.thn (callM (cal 5) 2 (consM (varM 5) (consM (varM 10) (M.pure [])))) fun _ => nextS) (MS.seq (M.thn (varM 10) fun r => setS 11 r) (MS.seq (M.thn (lstM true (M.pure [])) fun r => setS 12 r) (MS.seq (ifS (cmpM .notN (varM 6) (M.pure .non)) (MS.seq (M.thn (callM (cal 7) 3 (consM (varM 0) (consM (varM 1) (consM (varM 6) (M.pure []))))) fun _ => nextS) (MS.seq (M.thn (addM false (varM 10) (lstM false (consM (M.pure (.str (cs "it"))) (M.pure [])))) fun r => setS 11 r) (MS.seq (M.thn (lstM true (consM (idxM (varM 6) (M.pure (.int 2))) (M.pure []))) fun r => setS 12 r) nextS))) nextS) (MS.seq (M.thn (iterM (varM 7)) fun q => forQ q (.tp [(.nm 13), (.nm 14)]) (b8_l1 cal)) (MS.seq (M.thn (iterM (varM 8)) fun q => forQ q (.tp [(.nm 15), (.nm 14), (.nm 16), (.nm 17)]) (b8_l0 cal)) nextS)))))))))
def N8 : List Str := ["plan", "family", "step", "name", "at", "when", "take", "changes", "sends", "go", "cells", "known", "filled", "cell", "tree", "mark", "way", "goal"]
def P8 : List Str := ["plan", "family", "step"]
def V8 : List Nat := [0, 1, 2, 3, 4, 5, 6, 7, 8, 9, 10, 11, 12, 13, 14, 15, 16, 17]
def G8 : List Str := ["need", "firsts", "leads", "need_spoken", "is_name", "WAYS", "check_take"]
def b9_l0 (cal : Nat → Fun) : MS := (MS.seq (M.thn (callM (cal 8) 3 (consM (varM 0) (consM (varM 1) (consM (varM 12) (M.pure []))))) fun _ => nextS) nextS)
def b9_l1 (cal : Nat → Fun) : MS := (MS.seq (M.thn (callM (cal 1) 1 (consM (M.andM (M.tb (M.bl (chainM .le .le (varM 9) (varM 11) (varM 10)))) (M.bl (cmpM .le (binM .sub (varM 10) (varM 9)) (M.pure (.int 9)))) (M.pure (.bl false))) (M.pure []))) fun _ => nextS) nextS)
/-- check_family -/
def b9 (cal : Nat → Fun) : MS := (MS.seq (M.thn (varM 1) (tgS (.tp [(.nm 2), (.nm 3), (.nm 4), (.nm 5), (.nm 6), (.nm 7)]))) (MS.seq (M.thn (callM (cal 1) 1 (consM (M.andM (M.tb (M.bl (cmpM .ge (varM 3) (M.pure (.int 1))))) (M.andM (M.tb (M.bl (chainM .le .le (M.pure (.int 1)) (lenM (varM 4)) (M.pure (.int 8))))) (M.andM (M.tb (M.bl (cmpM .le (lenM (varM 5)) (M.pure (.int 3))))) (M.andM (M.tb (M.bl (cmpM .le (lenM (varM 6)) (M.pure (.int 2))))) (M.bl (cmpM .le (lenM (varM 7)) (M.pure (.int 8)))) (M.pure (.bl false))) (M.pure (.bl false))) (M.pure (.bl false))) (M.pure (.bl false))) (M.pure []))) fun _ => nextS) (MS.seq (M.thn (callM (cal 2) 1 (consM (varM 4) (M.pure []))) fun _ => nextS) (MS.seq (M.thn (callM (cal 2) 1 (consM (callM (cal 3) 1 (consM (varM 7) (M.pure []))) (M.pure []))) fun _ => nextS) (MS.seq (M.thn (callM (cal 2) 1 (consM (addM false (callM (cal 3) 1 (consM (varM 5) (M.pure []))) (varM 6)) (M.pure []))) fun _ => nextS) (MS.seq (M.thn (callM (cal 1) 1 (consM (M.bl (cmpM .notIn (M.pure (.str (cs "it"))) (callM (cal 3) 1 (consM (varM 5) (M.pure []))))) (M.pure []))) fun _ => nextS) (MS.seq (M.thn (iterM (varM 5)) fun q => forQ q (.tp [(.nm 8), (.nm 9), (.nm 10), (.nm 11)]) (b9_l1 cal)) (MS.seq (M.thn (iterM (varM 7)) fun q => forQ q (.nm 12) (b9_l0 cal)) nextS))))))))
def N9 : List Str := ["plan", "family", "name", "many", "rooms", "cells", "whos", "steps", "cell", "low", "high", "start", "step"]
def P9 : List Str := ["plan", "family"]
def V9 : List Nat := [0, 1, 2, 3, 4, 5, 6, 7, 8, 9, 10, 11, 12]
def G9 : List Str := ["check_step", "need", "firsts", "need_names", "len"]
def b10_l0 (cal : Nat → Fun) : MS := (MS.seq (M.thn (callM (cal 1) 1 (consM (M.andM (M.tb (M.bl (cmpM .isIn (varM 7) (M.pure c4)))) (M.bl (cmpM .isIn (varM 8) (callM (cal 3) 1 (consM (varM 1) (M.pure []))))) (M.pure (.bl false))) (M.pure []))) fun _ => nextS) (MS.seq (M.thn (callM (cal 1) 1 (consM (M.bl (cmpM .isIn (varM 9) (callM (cal 3) 1 (consM (idxM (idxM (varM 1) (meth1M indexD (callM (cal 3) 1 (consM (varM 1) (M.pure []))) (varM 8))) (M.pure (.int 5))) (M.pure []))))) (M.pure []))) fun _ => nextS) nextS))
def b10_e1 (cal : Nat → Fun) : M DL.D := (idxM (varM 6) (M.pure (.int 1)))
def b10_c2 (cal : Nat → Fun) : M DL.D := (lcM false [6] (.nm 6) (iterM (varM 1)) (M.pure true) (b10_e1 cal))
def b10_l3 (cal : Nat → Fun) : MS := (MS.seq (M.thn (callM (cal 9) 2 (consM (varM 0) (consM (varM 6) (M.pure [])))) fun _ => nextS) nextS)
def b10_e4 (cal : Nat → Fun) : M DL.D := (sliceM false (varM 5) (partM none) (partM (some (M.pure (.int 2)))))
def b10_c5 (cal : Nat → Fun) : M DL.D := (lcM false [5] (.nm 5) (iterM (varM 2)) (M.pure true) (b10_e4 cal))
def b10_l6 (cal : Nat → Fun) : MS := (MS.seq (M.thn (callM (cal 1) 1 (consM (M.andM (M.tb (M.bl (cmpM .isIn (idxM (varM 4) (M.pure (.int 0))) (callM (cal 3) 1 (consM (varM 1) (M.pure [])))))) (M.bl (cmpM .isIn (idxM (varM 4) (M.pure (.int 1))) (callM (cal 3) 1 (consM (varM 1) (M.pure []))))) (M.pure (.bl false))) (M.pure []))) fun _ => nextS) (MS.seq (M.thn (callM (cal 1) 1 (consM (M.andM (M.tb (M.bl (cmpM .isIn (idxM (varM 4) (M.pure (.int 2))) (M.pure c3)))) (M.bl (chainM .le .le (M.pure (.int 1)) (idxM (varM 4) (M.pure (.int 3))) (M.pure (.int 3)))) (M.pure (.bl false))) (M.pure []))) fun _ => nextS) (MS.seq (M.thn (callM (cal 1) 1 (consM (M.bl (cmpM .eq (meth1M countD (b10_c5 cal) (sliceM false (varM 4) (partM none) (partM (some (M.pure (.int 2)))))) (M.pure (.int 1)))) (M.pure []))) fun _ => nextS) nextS)))
/-- check_plan -/
def b10 (cal : Nat → Fun) : MS := (MS.seq (M.thn (varM 0) (tgS (.tp [(.nm 1), (.nm 2), (.nm 3)]))) (MS.seq (M.thn (callM (cal 1) 1 (consM (M.andM (M.tb (M.bl (chainM .le .le (M.pure (.int 1)) (lenM (varM 1)) (M.pure (.int 4))))) (M.andM (M.tb (M.bl (cmpM .le (lenM (varM 2)) (M.pure (.int 8))))) (M.bl (cmpM .le (lenM (varM 3)) (M.pure (.int 6)))) (M.pure (.bl false))) (M.pure (.bl false))) (M.pure []))) fun _ => nextS) (MS.seq (M.thn (callM (cal 2) 1 (consM (callM (cal 3) 1 (consM (varM 1) (M.pure []))) (M.pure []))) fun _ => nextS) (MS.seq (M.thn (iterM (varM 2)) fun q => forQ q (.nm 4) (b10_l6 cal)) (MS.seq (M.thn (iterM (varM 1)) fun q => forQ q (.nm 6) (b10_l3 cal)) (MS.seq (M.thn (callM (cal 1) 1 (consM (M.bl (cmpM .le (un1M sumD (b10_c2 cal)) (M.pure (.int 5)))) (M.pure []))) fun _ => nextS) (MS.seq (M.thn (iterM (varM 3)) fun q => forQ q (.tp [(.nm 7), (.nm 8), (.nm 9)]) (b10_l0 cal)) nextS)))))))
def N10 : List Str := ["plan", "families", "roads", "wishes", "road", "other", "family", "kind", "name", "step"]
def P10 : List Str := ["plan"]
def V10 : List Nat := [0, 1, 2, 3, 4, 6, 7, 8, 9]
def G10 : List Str := ["firsts", "need", "WISHES", "sum", "check_family", "KINDS", "need_names", "len"]
/-- _law_at -/
def b11 (cal : Nat → Fun) : MS := (MS.seq (ifS (cmpM .lt (varM 1) (lenM (varM 0))) (MS.seq (M.thn (idxM (varM 0) (varM 1)) fun r ρ => .ret r ρ) nextS) nextS) (MS.seq (M.thn (addM false (bin2M mulD (M.pure (.int 23)) (varM 1)) (M.pure (.int 6))) fun r ρ => .ret r ρ) nextS))
def N11 : List Str := ["_law_script", "_law_k"]
def P11 : List Str := ["_law_script", "_law_k"]
def V11 : List Nat := [0, 1]
def G11 : List Str := ["len"]
def b12_l0 (cal : Nat → Fun) : MS := (MS.seq (M.thn (binM .fdiv (varM 0) (M.pure (.int 2147483648))) fun r => setS 0 r) nextS)
/-- _law_mix -/
def b12 (cal : Nat → Fun) : MS := (MS.seq (ifS (cmpM .ge (varM 0) (binM .pow (M.pure (.int 10)) (M.pure (.int 12)))) (MS.seq (M.thn (binM .sub (binM .fdiv (varM 0) (binM .pow (M.pure (.int 10)) (M.pure (.int 12)))) (M.pure (.int 1))) fun r => setS 0 r) (MS.seq (M.thn (range1M (binM .mod (varM 1) (M.pure (.int 61)))) fun q => forQ q (.nm 2) (b12_l0 cal)) (MS.seq (M.thn (binM .mod (varM 0) (M.pure (.int 2147483648))) fun r ρ => .ret r ρ) nextS))) nextS) (MS.seq (M.thn (binM .mod (bin2M mulD (addM false (addM false (binM .mod (varM 0) (M.pure (.int 2147483629))) (varM 1)) (M.pure (.int 1))) (addM false (bin2M mulD (bin2M mulD (M.pure (.int 8)) (varM 1)) (varM 1)) (M.pure (.int 48271)))) (M.pure (.int 2147483647))) fun r => setS 3 r) (MS.seq (M.thn (binM .mod (bin2M mulD (varM 3) (varM 3)) (M.pure (.int 2147483587))) fun r => setS 3 r) (MS.seq (M.thn (binM .mod (bin2M mulD (varM 3) (addM false (varM 3) (M.pure (.int 2)))) (M.pure (.int 2147483579))) fun r ρ => .ret r ρ) nextS))))
def N12 : List Str := ["_law_number", "_law_place", "_law_turn", "_law_part"]
def P12 : List Str := ["_law_number", "_law_place"]
def V12 : List Nat := [0, 1, 2, 3]
def G12 : List Str := ["range"]
/-- _law_named -/
def b13 (cal : Nat → Fun) : MS := (MS.seq (ifS (cmpM .eq (binM .mod (varM 1) (M.pure (.int 2))) (M.pure (.int 0))) (MS.seq (M.thn (addM false (bin2M mulD (idxM (M.pure (.str (cs "abcdefgh"))) (varM 0)) (addM false (M.pure (.int 1)) (binM .mod (binM .fdiv (varM 1) (M.pure (.int 2))) (M.pure (.int 9))))) (idxM (M.pure (.str (cs "xvz"))) (binM .mod (binM .fdiv (varM 1) (M.pure (.int 18))) (M.pure (.int 3))))) fun r ρ => .ret r ρ) nextS) nextS) (MS.seq (M.thn (binM .mod (binM .fdiv (varM 1) (M.pure (.int 2))) (M.pure (.int 10))) fun r => setS 2 r) (MS.seq (M.thn (addM false (addM false (bin2M mulD (M.pure (.str (cs "m"))) (varM 2)) (idxM (M.pure (.str (cs "abcdefgh"))) (varM 0))) (bin2M mulD (M.pure (.str (cs "m"))) (binM .sub (M.pure (.int 9)) (varM 2)))) fun r ρ => .ret r ρ) nextS)))
def N13 : List Str := ["_law_k", "_law_number", "_law_place"]
def P13 : List Str := ["_law_k", "_law_number"]
def V13 : List Nat := [0, 1, 2]
def G13 : List Str := []
/-- _law_next -/
def b14 (cal : Nat → Fun) : MS := (MS.seq (setIxS (addM false (idxM (varM 1) (M.pure (.int 0))) (M.pure (.int 1))) (varM 1) (M.pure (.int 0))) (MS.seq (M.thn (callM (cal 12) 2 (consM (callM (cal 11) 2 (consM (varM 0) (consM (addM false (M.pure (.int 1)) (binM .mod (idxM (varM 1) (M.pure (.int 0))) (M.pure (.int 62)))) (M.pure [])))) (consM (addM false (M.pure (.int 1)) (binM .fdiv (idxM (varM 1) (M.pure (.int 0))) (M.pure (.int 62)))) (M.pure [])))) fun r ρ => .ret r ρ) nextS))
def N14 : List Str := ["_law_script", "_law_at_here"]
def P14 : List Str := ["_law_script", "_law_at_here"]
def V14 : List Nat := [0, 1]
def G14 : List Str := ["_law_at", "_law_mix"]
/-- _law_leaf -/
def b15 (cal : Nat → Fun) : MS := (MS.seq (ifS (M.andM (cmpM .gt (binM .mod (varM 1) (M.pure (.int 3))) (M.pure (.int 0))) (cmpM .gt (lenM (varM 0)) (M.pure (.int 0))) (M.pure false)) (MS.seq (M.thn (tupM (consM (M.pure (.str (cs "name"))) (consM (idxM (varM 0) (binM .mod (binM .fdiv (varM 1) (M.pure (.int 3))) (lenM (varM 0)))) (M.pure [])))) fun r ρ => .ret r ρ) nextS) nextS) (MS.seq (M.thn (tupM (consM (M.pure (.str (cs "number"))) (consM (idxM (lstM false (consM (binM .mod (binM .fdiv (varM 1) (M.pure (.int 3))) (M.pure (.int 10))) (consM (binM .mod (binM .fdiv (varM 1) (M.pure (.int 30))) (M.pure (.int 1000))) (M.pure [])))) (binM .fdiv (binM .mod (binM .fdiv (varM 1) (M.pure (.int 3))) (M.pure (.int 4))) (M.pure (.int 3)))) (M.pure [])))) fun r ρ => .ret r ρ) nextS))
def N15 : List Str := ["_law_names", "_law_number"]
def P15 : List Str := ["_law_names", "_law_number"]
def V15 : List Nat := [0, 1]
def G15 : List Str := ["len"]
/-- _law_small -/
def b16 (cal : Nat → Fun) : MS := (MS.seq (M.thn (callM (cal 14) 2 (consM (varM 1) (consM (varM 2) (M.pure [])))) fun r => setS 3 r) (MS.seq (M.thn (callM (cal 15) 2 (consM (varM 0) (consM (binM .fdiv (varM 3) (M.pure (.int 8))) (M.pure [])))) fun r => setS 4 r) (MS.seq (ifS (cmpM .gt (binM .mod (varM 3) (M.pure (.int 8))) (M.pure (.int 2))) (MS.seq (M.thn (varM 4) fun r ρ => .ret r ρ) nextS) nextS) (MS.seq (M.thn (tupM (consM (idxM (lstM false (consM (M.pure (.str (cs "plus"))) (consM (M.pure (.str (cs "minus"))) (consM (M.pure (.str (cs "times"))) (M.pure []))))) (binM .mod (varM 3) (M.pure (.int 8)))) (consM (varM 4) (consM (callM (cal 15) 2 (consM (varM 0) (consM (binM .fdiv (varM 3) (M.pure (.int 32768))) (M.pure [])))) (M.pure []))))) fun r ρ => .ret r ρ) nextS))))
def N16 : List Str := ["_law_names", "_law_script", "_law_at_here", "_law_number", "_law_one"]
def P16 : List Str := ["_law_names", "_law_script", "_law_at_here"]
def V16 : List Nat := [0, 1, 2, 3, 4]
def G16 : List Str := ["_law_leaf", "_law_next"]
/-- _law_when -/
def b17 (cal : Nat → Fun) : MS := (MS.seq (M.thn (callM (cal 14) 2 (consM (varM 1) (consM (varM 2) (M.pure [])))) fun r => setS 3 r) (MS.seq (ifS (cmpM .eq (binM .mod (varM 3) (M.pure (.int 3))) (M.pure (.int 0))) (MS.seq (M.thn (tupM (consM (M.pure (.str (cs "true"))) (M.pure []))) fun r ρ => .ret r ρ) nextS) nextS) (MS.seq (M.thn (idxM (lstM false (consM (M.pure (.str (cs "="))) (consM (M.pure (.str (cs "!="))) (consM (M.pure (.str (cs "<"))) (consM (M.pure (.str (cs "<="))) (consM (M.pure (.str (cs ">"))) (consM (M.pure (.str (cs ">="))) (M.pure [])))))))) (binM .mod (binM .fdiv (varM 3) (M.pure (.int 3))) (M.pure (.int 6)))) fun r => setS 4 r) (MS.seq (M.thn (tupM (consM (M.pure (.str (cs "is"))) (consM (varM 4) (consM (callM (cal 16) 3 (consM (varM 0) (consM (varM 1) (consM (varM 2) (M.pure []))))) (consM (callM (cal 16) 3 (consM (varM 0) (consM (varM 1) (consM (varM 2) (M.pure []))))) (M.pure [])))))) fun r => setS 5 r) (MS.seq (ifS (cmpM .eq (binM .mod (binM .fdiv (varM 3) (M.pure (.int 18))) (M.pure (.int 4))) (M.pure (.int 0))) (MS.seq (M.thn (tupM (consM (M.pure (.str (cs "not"))) (consM (varM 5) (M.pure [])))) fun r => setS 5 r) nextS) nextS) (MS.seq (ifS (cmpM .eq (binM .mod (binM .fdiv (varM 3) (M.pure (.int 18))) (M.pure (.int 4))) (M.pure (.int 1))) (MS.seq (M.thn (tupM (consM (M.pure (.str (cs "is"))) (consM (M.pure (.str (cs "="))) (consM (callM (cal 15) 2 (consM (varM 0) (consM (binM .fdiv (varM 3) (M.pure (.int 72))) (M.pure [])))) (consM (tupM (consM (M.pure (.str (cs "number"))) (consM (binM .mod (binM .fdiv (varM 3) (M.pure (.int 720))) (M.pure (.int 10))) (M.pure [])))) (M.pure [])))))) fun r => setS 6 r) (MS.seq (M.thn (tupM (consM (idxM (lstM false (consM (M.pure (.str (cs "and"))) (consM (M.pure (.str (cs "or"))) (M.pure [])))) (binM .mod (binM .fdiv (varM 3) (M.pure (.int 7200))) (M.pure (.int 2)))) (consM (varM 5) (consM (varM 6) (M.pure []))))) fun r => setS 5 r) nextS)) nextS) (MS.seq (M.thn (varM 5) fun r ρ => .ret r ρ) nextS)))))))
def N17 : List Str := ["_law_names", "_law_script", "_law_at_here", "_law_number", "_law_word", "_law_found", "_law_other"]
def P17 : List Str := ["_law_names", "_law_script", "_law_at_here"]
def V17 : List Nat := [0, 1, 2, 3, 4, 5, 6]
def G17 : List Str := ["_law_leaf", "_law_small", "_law_next"]
def b18_l0 (cal : Nat → Fun) : MS := (MS.seq (M.thn (callM (cal 14) 2 (consM (varM 0) (consM (varM 1) (M.pure [])))) fun r => setS 5 r) (MS.seq (M.thn (idxM (lstM false (consM (binM .sub (binM .mod (binM .fdiv (varM 5) (M.pure (.int 100))) (M.pure (.int 13))) (M.pure (.int 6))) (consM (binM .sub (binM .mod (binM .fdiv (varM 5) (M.pure (.int 100))) (M.pure (.int 1980))) (M.pure (.int 990))) (M.pure [])))) (binM .fdiv (binM .mod (varM 5) (M.pure (.int 4))) (M.pure (.int 3)))) fun r => setS 6 r) (MS.seq (M.thn (addM false (varM 6) (binM .mod (binM .fdiv (varM 5) (M.pure (.int 4))) (M.pure (.int 10)))) fun r => setS 7 r) (MS.seq (M.thn (appendM (varM 2) (tupM (consM (callM (cal 13) 2 (consM (varM 4) (consM (binM .fdiv (varM 3) (M.pure (.int 4))) (M.pure [])))) (consM (varM 6) (consM (varM 7) (consM (addM false (varM 6) (binM .mod (binM .mod (binM .fdiv (varM 5) (M.pure (.int 40))) (M.pure (.int 1000))) (addM false (binM .sub (varM 7) (varM 6)) (M.pure (.int 1))))) (M.pure []))))))) fun _ => nextS) nextS))))
/-- _law_cells -/
def b18 (cal : Nat → Fun) : MS := (MS.seq (M.thn (lstM true (M.pure [])) fun r => setS 2 r) (MS.seq (M.thn (callM (cal 14) 2 (consM (varM 0) (consM (varM 1) (M.pure [])))) fun r => setS 3 r) (MS.seq (M.thn (range1M (binM .mod (varM 3) (M.pure (.int 4)))) fun q => forQ q (.nm 4) (b18_l0 cal)) (MS.seq (M.thn (M.frz (varM 2)) fun r ρ => .ret r ρ) nextS))))
def N18 : List Str := ["_law_script", "_law_at_here", "_law_cells_here", "_law_number", "_law_k", "_law_drawn", "_law_low", "_law_high"]
def P18 : List Str := ["_law_script", "_law_at_here"]
def V18 : List Nat := [0, 1, 2, 3, 4, 5, 6, 7]
def G18 : List Str := ["range", "_law_named", "_law_next"]
def b19_e0 (cal : Nat → Fun) : M DL.D := (callM (cal 13) 2 (consM (varM 10) (consM (binM .fdiv (varM 7) (M.pure (.int 4))) (M.pure []))))
def b19_c1 (cal : Nat → Fun) : M DL.D := (lcM false [10] (.nm 10) (range1M (addM false (M.pure (.int 1)) (binM .mod (binM .fdiv (varM 7) (M.pure (.int 64))) (M.pure (.int 8))))) (M.pure true) (b19_e0 cal))
def b19_l2 (cal : Nat → Fun) : MS := (MS.seq (M.thn (callM (cal 14) 2 (consM (varM 0) (consM (varM 1) (M.pure [])))) fun r => setS 7 r) (MS.seq (M.thn (addM false (M.pure (.int 1)) (binM .mod (varM 7) (M.pure (.int 3)))) fun r => setS 8 r) (MS.seq (M.thn (bin2M minD (varM 8) (binM .sub (varM 4) (binM .sub (binM .mod (varM 2) (M.pure (.int 4))) (varM 6)))) fun r => setS 8 r) (MS.seq (M.thn (binM .sub (varM 4) (varM 8)) fun r => setS 4 r) (MS.seq (M.thn (b19_c1 cal) fun r => setS 9 r) (MS.seq (M.thn (callM (cal 18) 2 (consM (varM 0) (consM (varM 1) (M.pure [])))) fun r => setS 11 r) (MS.seq (M.thn (sliceM false (idxM (lstM false (consM (lstM false (consM (M.pure (.str (cs "it"))) (consM (M.pure (.str (cs "first"))) (M.pure [])))) (consM (lstM false (consM (M.pure (.str (cs "by"))) (consM (M.pure (.str (cs "who"))) (M.pure [])))) (consM (lstM false (consM (M.pure (.str (cs "to"))) (consM (M.pure (.str (cs "from"))) (M.pure [])))) (consM (lstM false (consM (M.pure (.str (cs "at"))) (consM (M.pure (.str (cs "go"))) (M.pure [])))) (M.pure [])))))) (binM .mod (binM .fdiv (varM 7) (M.pure (.int 512))) (M.pure (.int 4)))) (partM none) (partM (some (binM .mod (binM .fdiv (varM 7) (M.pure (.int 2048))) (M.pure (.int 3)))))) fun r => setS 12 r) (MS.seq (M.thn (appendM (varM 3) (lstM false (consM (callM (cal 13) 2 (consM (varM 6) (consM (varM 5) (M.pure [])))) (consM (varM 8) (consM (varM 9) (consM (varM 11) (consM (varM 12) (consM (lstM true (M.pure [])) (M.pure []))))))))) fun _ => nextS) nextS))))))))
/-- _law_first -/
def b19 (cal : Nat → Fun) : MS := (MS.seq (M.thn (lstM true (M.pure [])) fun r => setS 3 r) (MS.seq (M.thn (M.pure (.int 5)) fun r => setS 4 r) (MS.seq (M.thn (callM (cal 14) 2 (consM (varM 0) (consM (varM 1) (M.pure [])))) fun r => setS 5 r) (MS.seq (M.thn (range1M (addM false (M.pure (.int 1)) (binM .mod (varM 2) (M.pure (.int 4))))) fun q => forQ q (.nm 6) (b19_l2 cal)) (MS.seq (M.thn (varM 3) fun r ρ => .ret r ρ) nextS)))))
def N19 : List Str := ["_law_script", "_law_at_here", "_law_many", "_law_families", "_law_left", "_law_kinds", "_law_k", "_law_number", "_law_hands", "_law_rooms", "_law_j", "_law_cells_here", "_law_whos"]
def P19 : List Str := ["_law_script", "_law_at_here", "_law_many"]
def V19 : List Nat := [0, 1, 2, 3, 4, 5, 6, 7, 8, 9, 11, 12]
def G19 : List Str := ["range", "_law_named", "_law_cells", "min", "_law_next"]
def b20_e0 (cal : Nat → Fun) : M DL.D := (sliceM false (varM 11) (partM none) (partM (some (M.pure (.int 2)))))
def b20_c1 (cal : Nat → Fun) : M DL.D := (lcM false [11] (.nm 11) (iterM (varM 3)) (M.pure true) (b20_e0 cal))
def b20_l2 (cal : Nat → Fun) : MS := (MS.seq (M.thn (callM (cal 14) 2 (consM (varM 1) (consM (varM 2) (M.pure [])))) fun r => setS 7 r) (MS.seq (M.thn (idxM (varM 4) (binM .mod (varM 7) (lenM (varM 4)))) fun r => setS 8 r) (MS.seq (M.thn (idxM (varM 4) (binM .mod (binM .fdiv (varM 7) (M.pure (.int 4))) (lenM (varM 4)))) fun r => setS 9 r) (MS.seq (M.thn (tupM (consM (varM 8) (consM (varM 9) (consM (idxM (lstM false (consM (M.pure (.str (cs "row"))) (consM (M.pure (.str (cs "heap"))) (M.pure [])))) (binM .mod (binM .fdiv (varM 7) (M.pure (.int 16))) (M.pure (.int 2)))) (consM (addM false (M.pure (.int 1)) (binM .mod (binM .fdiv (varM 7) (M.pure (.int 32))) (M.pure (.int 3)))) (M.pure [])))))) fun r => setS 10 r) (MS.seq (M.thn (addM false (varM 10) (tupM (consM (M.bl (cmpM .eq (binM .mod (binM .fdiv (varM 7) (M.pure (.int 128))) (M.pure (.int 2))) (M.pure (.int 1)))) (consM (M.bl (cmpM .eq (binM .mod (binM .fdiv (varM 7) (M.pure (.int 256))) (M.pure (.int 2))) (M.pure (.int 1)))) (M.pure []))))) fun r => setS 10 r) (MS.seq (ifS (cmpM .notIn (tupM (consM (varM 8) (consM (varM 9) (M.pure [])))) (b20_c1 cal)) (MS.seq (M.thn (appendM (varM 3) (varM 10)) fun _ => nextS) nextS) nextS) nextS))))))
def b20_e3 (cal : Nat → Fun) : M DL.D := (idxM (varM 5) (M.pure (.int 0)))
def b20_c4 (cal : Nat → Fun) : M DL.D := (lcM false [5] (.nm 5) (iterM (varM 0)) (M.pure true) (b20_e3 cal))
/-- _law_roads -/
def b20 (cal : Nat → Fun) : MS := (MS.seq (M.thn (lstM true (M.pure [])) fun r => setS 3 r) (MS.seq (M.thn (b20_c4 cal) fun r => setS 4 r) (MS.seq (M.thn (range1M (binM .mod (callM (cal 14) 2 (consM (varM 1) (consM (varM 2) (M.pure [])))) (M.pure (.int 9)))) fun q => forQ q (.nm 6) (b20_l2 cal)) (MS.seq (M.thn (M.frz (varM 3)) fun r ρ => .ret r ρ) nextS))))
def N20 : List Str := ["_law_families", "_law_script", "_law_at_here", "_law_roads_here", "_law_names", "_law_family", "_law_k", "_law_number", "_law_one", "_law_other", "_law_road", "_law_old"]
def P20 : List Str := ["_law_families", "_law_script", "_law_at_here"]
def V20 : List Nat := [0, 1, 2, 3, 4, 6, 7, 8, 9, 10]
def G20 : List Str := ["range", "_law_next", "len"]
def b21_l0 (cal : Nat → Fun) : MS := (MS.seq (M.thn (callM (cal 14) 2 (consM (varM 3) (consM (varM 4) (M.pure [])))) fun r => setS 9 r) (MS.seq (M.thn (idxM (lstM false (consM (M.pure (.str (cs "all"))) (consM (M.pure (.str (cs "any"))) (M.pure [])))) (binM .mod (varM 9) (M.pure (.int 2)))) fun r => setS 10 r) (MS.seq (M.thn (idxM (addM false (varM 6) (lstM false (consM (M.pure (.str (cs ""))) (M.pure [])))) (binM .mod (binM .fdiv (varM 9) (M.pure (.int 4))) (bin2M maxD (M.pure (.int 1)) (lenM (varM 6))))) fun r => setS 11 r) (MS.seq (ifS (M.andM (cmpM .ne (idxM (varM 0) (M.pure (.int 4))) (lstM false (M.pure []))) (M.andM (cmpM .eq (binM .mod (varM 9) (M.pure (.int 3))) (M.pure (.int 0))) (M.pure true) (cmpM .eq (varM 6) (lstM false (M.pure [])))) (M.pure false)) (MS.seq (M.thn (M.pure (.str (cs "who"))) fun r => setS 10 r) (MS.seq (M.thn (idxM (idxM (varM 0) (M.pure (.int 4))) (binM .mod (binM .fdiv (varM 9) (M.pure (.int 4))) (lenM (idxM (varM 0) (M.pure (.int 4)))))) fun r => setS 11 r) nextS)) nextS) (MS.seq (ifS (cmpM .ne (varM 11) (M.pure (.str (cs "")))) (MS.seq (M.thn (appendM (varM 5) (tupM (consM (callM (cal 13) 2 (consM (M.pure (.int 0)) (consM (binM .fdiv (varM 9) (M.pure (.int 64))) (M.pure [])))) (consM (callM (cal 16) 3 (consM (varM 2) (consM (varM 3) (consM (varM 4) (M.pure []))))) (consM (varM 10) (consM (varM 11) (M.pure []))))))) fun _ => nextS) nextS) nextS) nextS)))))
def b21_t1 (cal : Nat → Fun) : M Bool := (cmpM .eq (idxM (varM 7) (M.pure (.int 0))) (idxM (varM 0) (M.pure (.int 0))))
def b21_e2 (cal : Nat → Fun) : M DL.D := (idxM (varM 7) (M.pure (.int 1)))
def b21_c3 (cal : Nat → Fun) : M DL.D := (lcM false [7] (.nm 7) (iterM (varM 1)) (b21_t1 cal) (b21_e2 cal))
/-- _law_sends -/
def b21 (cal : Nat → Fun) : MS := (MS.seq (M.thn (lstM true (M.pure [])) fun r => setS 5 r) (MS.seq (M.thn (b21_c3 cal) fun r => setS 6 r) (MS.seq (M.thn (range1M (binM .mod (callM (cal 14) 2 (consM (varM 3) (consM (varM 4) (M.pure [])))) (M.pure (.int 3)))) fun q => forQ q (.nm 8) (b21_l0 cal)) (MS.seq (M.thn (M.frz (varM 5)) fun r ρ => .ret r ρ) nextS))))
def N21 : List Str := ["_law_family", "_law_roads_here", "_law_known", "_law_script", "_law_at_here", "_law_sends_here", "_law_goals", "_law_road", "_law_k", "_law_number", "_law_way", "_law_name"]
def P21 : List Str := ["_law_family", "_law_roads_here", "_law_known", "_law_script", "_law_at_here"]
def V21 : List Nat := [0, 1, 2, 3, 4, 5, 6, 8, 9, 10, 11]
def G21 : List Str := ["range", "_law_next", "_law_small", "_law_named", "len", "max"]
def b22_l0 (cal : Nat → Fun) : MS := (MS.seq (ifS (cmpM .eq (binM .mod (callM (cal 14) 2 (consM (varM 3) (consM (varM 4) (M.pure [])))) (M.pure (.int 2))) (M.pure (.int 0))) (MS.seq (M.thn (appendM (varM 15) (tupM (consM (varM 14) (consM (callM (cal 16) 3 (consM (varM 9) (consM (varM 3) (consM (varM 4) (M.pure []))))) (M.pure []))))) fun _ => nextS) nextS) nextS) nextS)
def b22_t1 (cal : Nat → Fun) : M Bool := (cmpM .ne (varM 14) (varM 7))
def b22_e2 (cal : Nat → Fun) : M DL.D := (varM 14)
def b22_c3 (cal : Nat → Fun) : M DL.D := (lcM false [14] (.nm 14) (iterM (varM 6)) (b22_t1 cal) (b22_e2 cal))
def b22_t4 (cal : Nat → Fun) : M Bool := (cmpM .eq (idxM (varM 12) (M.pure (.int 1))) (idxM (varM 0) (M.pure (.int 0))))
def b22_e5 (cal : Nat → Fun) : M DL.D := (idxM (varM 12) (M.pure (.int 0)))
def b22_c6 (cal : Nat → Fun) : M DL.D := (lcM false [12] (.nm 12) (iterM (varM 1)) (b22_t4 cal) (b22_e5 cal))
def b22_e7 (cal : Nat → Fun) : M DL.D := (idxM (varM 7) (M.pure (.int 0)))
def b22_c8 (cal : Nat → Fun) : M DL.D := (lcM false [7] (.nm 7) (iterM (idxM (varM 0) (M.pure (.int 3)))) (M.pure true) (b22_e7 cal))
/-- _law_step -/
def b22 (cal : Nat → Fun) : MS := (MS.seq (M.thn (callM (cal 14) 2 (consM (varM 3) (consM (varM 4) (M.pure [])))) fun r => setS 5 r) (MS.seq (M.thn (b22_c8 cal) fun r => setS 6 r) (MS.seq (M.thn (M.pure .non) fun r => setS 8 r) (MS.seq (M.thn (varM 6) fun r => setS 9 r) (MS.seq (M.thn (listM false (varM 6)) fun r => setS 10 r) (MS.seq (M.thn (b22_c6 cal) fun r => setS 11 r) (MS.seq (ifS (M.andM (cmpM .ne (varM 11) (lstM false (M.pure []))) (cmpM .eq (binM .mod (varM 5) (M.pure (.int 2))) (M.pure (.int 0))) (M.pure false)) (MS.seq (M.thn (addM false (varM 6) (lstM false (consM (M.pure (.str (cs "it"))) (M.pure [])))) fun r => setS 9 r) (MS.seq (M.thn (idxM (addM false (varM 6) (lstM false (consM (M.pure (.str (cs ""))) (M.pure [])))) (binM .mod (binM .fdiv (varM 5) (M.pure (.int 2))) (addM false (lenM (varM 6)) (M.pure (.int 1))))) fun r => setS 7 r) (MS.seq (M.thn (idxM (addM false (idxM (varM 0) (M.pure (.int 4))) (lstM false (consM (M.pure (.str (cs ""))) (M.pure [])))) (binM .mod (binM .fdiv (varM 5) (M.pure (.int 8))) (addM false (lenM (idxM (varM 0) (M.pure (.int 4)))) (M.pure (.int 1))))) fun r => setS 13 r) (MS.seq (M.thn (tupM (consM (callM (cal 13) 2 (consM (M.pure (.int 1)) (consM (binM .fdiv (varM 5) (M.pure (.int 32))) (M.pure [])))) (consM (idxM (varM 11) (binM .mod (binM .fdiv (varM 5) (M.pure (.int 24))) (lenM (varM 11)))) (consM (varM 7) (consM (varM 13) (M.pure [])))))) fun r => setS 8 r) (MS.seq (M.thn (b22_c3 cal) fun r => setS 10 r) nextS))))) nextS) (MS.seq (M.thn (lstM true (M.pure [])) fun r => setS 15 r) (MS.seq (M.thn (iterM (varM 10)) fun q => forQ q (.nm 14) (b22_l0 cal)) (MS.seq (M.thn (callM (cal 17) 3 (consM (varM 6) (consM (varM 3) (consM (varM 4) (M.pure []))))) fun r => setS 16 r) (MS.seq (M.thn (callM (cal 21) 5 (consM (varM 0) (consM (varM 1) (consM (varM 9) (consM (varM 3) (consM (varM 4) (M.pure []))))))) fun r => setS 17 r) (MS.seq (M.thn (lstM false (consM (idxM (idxM (varM 0) (M.pure (.int 2))) (binM .mod (binM .fdiv (varM 5) (M.pure (.int 1024))) (lenM (idxM (varM 0) (M.pure (.int 2)))))) (consM (idxM (idxM (varM 0) (M.pure (.int 2))) (binM .mod (binM .fdiv (varM 5) (M.pure (.int 8192))) (lenM (idxM (varM 0) (M.pure (.int 2)))))) (M.pure [])))) fun r => setS 18 r) (MS.seq (M.thn (tupM (consM (callM (cal 13) 2 (consM (varM 2) (consM (M.pure (.int 7)) (M.pure [])))) (consM (idxM (varM 18) (M.pure (.int 0))) (consM (varM 16) (consM (varM 8) (consM (stepM false (varM 15) (idxM (lstM false (consM (M.pure (.int 1)) (consM (M.bind (M.pure (.int 1)) fun d => optM (negD d)) (M.pure [])))) (binM .mod (binM .fdiv (varM 5) (M.pure (.int 65536))) (M.pure (.int 2))))) (consM (varM 17) (consM (idxM (varM 18) (M.pure (.int 1))) (M.pure []))))))))) fun r ρ => .ret r ρ) nextS)))))))))))))
def N22 : List Str := ["_law_family", "_law_roads_here", "_law_k", "_law_script", "_law_at_here", "_law_number", "_law_names", "_law_cell", "_law_take", "_law_known", "_law_left", "_law_senders", "_law_road", "_law_who", "_law_name", "_law_changes", "_law_when_here", "_law_sends_here", "_law_rooms"]
def P22 : List Str := ["_law_family", "_law_roads_here", "_law_k", "_law_script", "_law_at_here"]
def V22 : List Nat := [0, 1, 2, 3, 4, 5, 6, 7, 8, 9, 10, 11, 13, 14, 15, 16, 17, 18]
def G22 : List Str := ["_law_named", "len", "_law_sends", "_law_when", "_law_next", "_law_small", "list"]
def b23_e0 (cal : Nat → Fun) : M DL.D := (un1M tupD (varM 7))
def b23_c1 (cal : Nat → Fun) : M DL.D := (lcM false [7] (.nm 7) (iterM (varM 3)) (M.pure true) (b23_e0 cal))
def b23_l2 (cal : Nat → Fun) : MS := (MS.seq (M.thn (callM (cal 14) 2 (consM (varM 0) (consM (varM 2) (M.pure [])))) fun r => setS 9 r) (MS.seq (M.thn (idxM (varM 3) (binM .mod (varM 9) (lenM (varM 3)))) fun r => setS 7 r) (MS.seq (ifS (cmpM .ne (idxM (varM 7) (M.pure (.int 5))) (lstM false (M.pure []))) (MS.seq (M.thn (idxM (idxM (idxM (varM 7) (M.pure (.int 5))) (binM .mod (binM .fdiv (varM 9) (M.pure (.int 4))) (lenM (idxM (varM 7) (M.pure (.int 5)))))) (M.pure (.int 0))) fun r => setS 10 r) (MS.seq (M.thn (appendM (varM 6) (tupM (consM (idxM (lstM false (consM (M.pure (.str (cs "weak"))) (consM (M.pure (.str (cs "strong"))) (M.pure [])))) (binM .mod (binM .fdiv (varM 9) (M.pure (.int 64))) (M.pure (.int 2)))) (consM (idxM (varM 7) (M.pure (.int 0))) (consM (varM 10) (M.pure [])))))) fun _ => nextS) nextS)) nextS) nextS)))
def b23_l3 (cal : Nat → Fun) : MS := (MS.seq (M.thn (appendM (idxM (varM 7) (M.pure (.int 5))) (callM (cal 22) 5 (consM (varM 7) (consM (varM 4) (consM (varM 8) (consM (varM 0) (consM (varM 2) (M.pure [])))))))) fun _ => nextS) (MS.seq (M.thn (binM .sub (varM 5) (M.pure (.int 1))) fun r => setS 5 r) nextS))
def b23_l4 (cal : Nat → Fun) : MS := (MS.seq (M.thn (range1M (bin2M minD (varM 5) (binM .mod (callM (cal 14) 2 (consM (varM 0) (consM (varM 2) (M.pure [])))) (M.pure (.int 9))))) fun q => forQ q (.nm 8) (b23_l3 cal)) nextS)
/-- _law_plan -/
def b23 (cal : Nat → Fun) : MS := (MS.seq (M.thn (lstM true (consM (M.pure (.int 0)) (M.pure []))) fun r => setS 2 r) (MS.seq (M.thn (callM (cal 19) 3 (consM (varM 0) (consM (varM 2) (consM (varM 1) (M.pure []))))) fun r => setS 3 r) (MS.seq (M.thn (callM (cal 20) 3 (consM (varM 3) (consM (varM 0) (consM (varM 2) (M.pure []))))) fun r => setS 4 r) (MS.seq (M.thn (M.pure (.int 9)) fun r => setS 5 r) (MS.seq (M.thn (lstM true (M.pure [])) fun r => setS 6 r) (MS.seq (M.thn (iterM (varM 3)) fun q => forQ q (.nm 7) (b23_l4 cal)) (MS.seq (M.thn (range1M (binM .mod (callM (cal 14) 2 (consM (varM 0) (consM (varM 2) (M.pure [])))) (M.pure (.int 7)))) fun q => forQ q (.nm 8) (b23_l2 cal)) (MS.seq (M.thn (M.frz (tupM (consM (b23_c1 cal) (consM (varM 4) (consM (varM 6) (M.pure [])))))) fun r ρ => .ret r ρ) nextS))))))))
def N23 : List Str := ["_law_script", "_law_counts", "_law_at_here", "_law_families", "_law_roads_here", "_law_left", "_law_wishes", "_law_family", "_law_k", "_law_number", "_law_name"]
def P23 : List Str := ["_law_script", "_law_counts"]
def V23 : List Nat := [0, 1, 2, 3, 4, 5, 6, 7, 8, 9, 10]
def G23 : List Str := ["range", "_law_next", "len", "min", "_law_step", "_law_roads", "_law_first"]
def b24_e0 (cal : Nat → Fun) : M DL.D := (addM false (sliceM false (varM 4) (partM none) (partM (some (M.pure (.int 4))))) (tupM (consM (listM false (idxM (varM 4) (M.pure (.int 4)))) (consM (listM false (idxM (varM 4) (M.pure (.int 5)))) (consM (idxM (varM 4) (M.pure (.int 6))) (M.pure []))))))
def b24_c1 (cal : Nat → Fun) : M DL.D := (lcM false [4] (.nm 4) (iterM (idxM (varM 2) (M.pure (.int 5)))) (M.pure true) (b24_e0 cal))
def b24_l2 (cal : Nat → Fun) : MS := (MS.seq (M.thn (b24_c1 cal) fun r => setS 3 r) (MS.seq (M.thn (appendM (varM 1) (tupM (consM (idxM (varM 2) (M.pure (.int 0))) (consM (idxM (varM 2) (M.pure (.int 1))) (consM (listM false (idxM (varM 2) (M.pure (.int 2)))) (consM (listM false (idxM (varM 2) (M.pure (.int 3)))) (consM (listM false (idxM (varM 2) (M.pure (.int 4)))) (consM (varM 3) (M.pure []))))))))) fun _ => nextS) nextS))
/-- _law_copy -/
def b24 (cal : Nat → Fun) : MS := (MS.seq (M.thn (lstM true (M.pure [])) fun r => setS 1 r) (MS.seq (M.thn (iterM (idxM (varM 0) (M.pure (.int 0)))) fun q => forQ q (.nm 2) (b24_l2 cal)) (MS.seq (M.thn (M.frz (tupM (consM (varM 1) (consM (listM false (idxM (varM 0) (M.pure (.int 1)))) (consM (listM false (idxM (varM 0) (M.pure (.int 2)))) (M.pure [])))))) fun r ρ => .ret r ρ) nextS)))
def N24 : List Str := ["_law_plan_here", "_law_families", "_law_family", "_law_steps", "_law_step_here"]
def P24 : List Str := ["_law_plan_here"]
def V24 : List Nat := [0, 1, 2, 3]
def G24 : List Str := ["list"]
/-- law -/
def b25 (cal : Nat → Fun) : MS := (MS.seq (M.thn (callM (cal 23) 2 (consM (varM 0) (consM (callM (cal 12) 2 (consM (callM (cal 11) 2 (consM (varM 0) (consM (M.pure (.int 0)) (M.pure [])))) (consM (M.pure (.int 1)) (M.pure [])))) (M.pure [])))) fun r => setS 1 r) (MS.seq (M.thn (callM (cal 24) 1 (consM (varM 1) (M.pure []))) fun r => setS 2 r) (MS.seq (M.thn (M.andM (M.tb (M.bl (cmpM .isN (callM (cal 10) 1 (consM (varM 2) (M.pure []))) (M.pure .non)))) (M.andM (M.tb (M.bl (cmpM .eq (varM 2) (varM 1)))) (M.bl (cmpM .isN (callM (cal 10) 1 (consM (varM 2) (M.pure []))) (M.pure .non))) (M.pure (.bl false))) (M.pure (.bl false))) fun r ρ => .ret r ρ) nextS)))
def N25 : List Str := ["_law_script", "_law_plan_here", "_law_handed"]
def P25 : List Str := ["_law_script"]
def V25 : List Nat := [0, 1, 2]
def G25 : List Str := ["check_plan", "_law_copy", "_law_at", "_law_mix", "_law_plan"]
abbrev st0 : Stmt := top 10
theorem sc0 : FnScope N0 P0 (defScope st0) := ⟨rfl, rfl, rfl, by decide +kernel, rfl, by decide +kernel, by decide +kernel⟩
theorem w0 {T : Tb} {X : Cx} {W : WX} {n : Nat} {cal : Nat → Fun} (C : Cw T X W n fns cal csts frs) (S : Sw X (defScope st0) N0 V0 V0 G0) (po : PassesOwn (model X.prog X.w) X.A X.env X.xe) : SSs T X W (defBody st0) (b0 cal) :=
  (ss_cons (ss_if (st_w (stw_or (st_cmp (k := .lt) C.hK C.hu (se_len C.hK (S.gl 1 rfl) (C.bs.free 0 _ rfl) (S.var 0 rfl rfl) rfl) se_int rfl) (stw_or (st_cmp (k := .gt) C.hK C.hu (se_len C.hK (S.gl 1 rfl) (C.bs.free 0 _ rfl) (S.var 0 rfl rfl) rfl) (C.con 1 rfl (S.gl 2 rfl)) rfl) (stw_or1 (st_cmp (k := .isIn) C.hK C.hu (S.var 0 rfl rfl) (C.con 2 rfl (S.gl 3 rfl)) rfl))))) (ss_cons (ss_ret se_bool) ss_nil) ss_nil) (ss_cons (ss_for C.hK po C.calm (si_it C.hK (S.var 0 rfl rfl)) (S.tg 1 rfl rfl) (ss_cons (ss_if (st_cmp (k := .notIn) C.hK C.hu (S.var 1 rfl rfl) (C.con 0 rfl (S.gl 0 rfl)) rfl) (ss_cons (ss_ret se_bool) ss_nil) ss_nil) ss_nil) (fun _ => rfl)) (ss_cons (ss_ret se_bool) ss_nil)))
abbrev st1 : Stmt := top 11
theorem sc1 : FnScope N1 P1 (defScope st1) := ⟨rfl, rfl, rfl, by decide +kernel, rfl, by decide +kernel, by decide +kernel⟩
theorem w1 {T : Tb} {X : Cx} {W : WX} {n : Nat} {cal : Nat → Fun} (C : Cw T X W n fns cal csts frs) (S : Sw X (defScope st1) N1 V1 V1 G1) (po : PassesOwn (model X.prog X.w) X.A X.env X.xe) : SSs T X W (defBody st1) (b1 cal) :=
  (ss_cons (ss_if (st_not (st_val (S.var 0 rfl rfl) rfl)) (ss_cons ss_stuck ss_nil) ss_nil) ss_nil)
abbrev st2 : Stmt := top 12
theorem sc2 : FnScope N2 P2 (defScope st2) := ⟨rfl, rfl, rfl, by decide +kernel, rfl, by decide +kernel, by decide +kernel⟩
theorem w2 {T : Tb} {X : Cx} {W : WX} {n : Nat} {cal : Nat → Fun} (C : Cw T X W n fns cal csts frs) (S : Sw X (defScope st2) N2 V2 V2 G2) (po : PassesOwn (model X.prog X.w) X.A X.env X.xe) : SSs T X W (defBody st2) (b2 cal) :=
  (ss_cons (ss_for C.hK po C.calm (si_enum C.hK (S.gl 0 rfl) (C.bs.free 8 _ rfl) (S.var 0 rfl rfl) rfl) (sg_tup C.hK C.calm (sgs_cons (S.tg 1 rfl rfl) (sgs_cons (S.tg 2 rfl rfl) sgs_nil rfl) rfl) rfl rfl) (ss_cons (ss_expr (C.call 1 rfl (S.gl 2 rfl) (sa_cons (se_and (C.call 0 rfl (S.gl 1 rfl) (sa_cons (S.var 2 rfl rfl) sa_nil rfl) rfl) (se_one (se_cmp (k := .notIn) C.hK C.hu (S.var 2 rfl rfl) (se_slice false C.hK (S.var 0 rfl rfl) sp_none (sp_some (S.var 1 rfl rfl))) rfl))) sa_nil rfl) rfl) rfl) ss_nil) (fun _ => rfl)) ss_nil)
abbrev st3 : Stmt := top 13
theorem sc3 : FnScope N3 P3 (defScope st3) := ⟨rfl, rfl, rfl, by decide +kernel, rfl, by decide +kernel, by decide +kernel⟩
theorem w3 {T : Tb} {X : Cx} {W : WX} {n : Nat} {cal : Nat → Fun} (C : Cw T X W n fns cal csts frs) (S : Sw X (defScope st3) N3 V3 V3 G3) (po : PassesOwn (model X.prog X.w) X.A X.env X.xe) : SSs T X W (defBody st3) (b3 cal) :=
  (ss_cons (ss_ret (lcX false C S [("thing", 1)] [1] [1] [] (si_it C.hK (S.var 0 rfl rfl)) (by decide +kernel) (by decide +kernel) rfl (fun Y C S => ⟨(S.tg 1 rfl rfl), sifs_nil, (se_idx C.hK (S.var 1 rfl rfl) se_int rfl)⟩) (fun _ => rfl))) ss_nil)
abbrev st4 : Stmt := top 14
theorem sc4 : FnScope N4 P4 (defScope st4) := ⟨rfl, rfl, rfl, by decide +kernel, rfl, by decide +kernel, by decide +kernel⟩
theorem w4 {T : Tb} {X : Cx} {W : WX} {n : Nat} {cal : Nat → Fun} (C : Cw T X W n fns cal csts frs) (S : Sw X (defScope st4) N4 V4 V4 G4) (po : PassesOwn (model X.prog X.w) X.A X.env X.xe) : SSs T X W (defBody st4) (b4 cal) :=
  (ss_cons (ss_if (st_cmp (k := .eq) C.hK C.hu (se_idx C.hK (S.var 0 rfl rfl) se_int rfl) se_str rfl) (ss_cons (ss_ret (se_lst false (sa_cons (se_idx C.hK (S.var 0 rfl rfl) se_int rfl) sa_nil rfl))) ss_nil) ss_nil) (ss_cons (S.asg 1 rfl rfl (se_lst false sa_nil) rfl) (ss_cons (ss_for C.hK po C.calm (si_it C.hK (se_slice false C.hK (S.var 0 rfl rfl) (sp_some se_int) sp_none)) (S.tg 2 rfl rfl) (ss_cons (ss_if (st_val (se_isTup C.hK (S.gl 0 rfl) (C.bs.free 4 _ rfl) (S.gl 1 rfl) (C.bs.free 6 _ rfl) (S.var 2 rfl rfl) rfl) rfl) (ss_cons (S.asg 1 rfl rfl (se_add false C.hK (S.var 1 rfl rfl) (C.call 4 rfl (S.gl 2 rfl) (sa_cons (S.var 2 rfl rfl) sa_nil rfl) rfl)) rfl) ss_nil) ss_nil) ss_nil) (fun _ => rfl)) (ss_cons (ss_ret (S.var 1 rfl rfl)) ss_nil))))
abbrev st5 : Stmt := top 15
theorem sc5 : FnScope N5 P5 (defScope st5) := ⟨rfl, rfl, rfl, by decide +kernel, rfl, by decide +kernel, by decide +kernel⟩
theorem w5 {T : Tb} {X : Cx} {W : WX} {n : Nat} {cal : Nat → Fun} (C : Cw T X W n fns cal csts frs) (S : Sw X (defScope st5) N5 V5 V5 G5) (po : PassesOwn (model X.prog X.w) X.A X.env X.xe) : SSs T X W (defBody st5) (b5 cal) :=
  (ss_cons (ss_for C.hK po C.calm (si_it C.hK (C.call 4 rfl (S.gl 0 rfl) (sa_cons (S.var 0 rfl rfl) sa_nil rfl) rfl)) (S.tg 2 rfl rfl) (ss_cons (ss_expr (C.call 1 rfl (S.gl 1 rfl) (sa_cons (se_cmp (k := .isIn) C.hK C.hu (S.var 2 rfl rfl) (S.var 1 rfl rfl) rfl) sa_nil rfl) rfl) rfl) ss_nil) (fun _ => rfl)) ss_nil)
abbrev st6 : Stmt := top 16
theorem sc6 : FnScope N6 P6 (defScope st6) := ⟨rfl, rfl, rfl, by decide +kernel, rfl, by decide +kernel, by decide +kernel⟩
theorem w6 {T : Tb} {X : Cx} {W : WX} {n : Nat} {cal : Nat → Fun} (C : Cw T X W n fns cal csts frs) (S : Sw X (defScope st6) N6 V6 V6 G6) (po : PassesOwn (model X.prog X.w) X.A X.env X.xe) : SSs T X W (defBody st6) (b6 cal) :=
  (ss_cons (ss_ret (se_cmp (k := .isIn) C.hK C.hu (se_tup (sa_cons (S.var 1 rfl rfl) (sa_cons (S.var 2 rfl rfl) sa_nil rfl) rfl)) (lcX false C S [("road", 3)] [3] [3] [] (si_it C.hK (se_idx C.hK (S.var 0 rfl rfl) se_int rfl)) (by decide +kernel) (by decide +kernel) rfl (fun Y C S => ⟨(S.tg 3 rfl rfl), sifs_nil, (se_slice false C.hK (S.var 3 rfl rfl) sp_none (sp_some se_int))⟩) (fun _ => rfl)) rfl)) ss_nil)
abbrev st7 : Stmt := top 17
theorem sc7 : FnScope N7 P7 (defScope st7) := ⟨rfl, rfl, rfl, by decide +kernel, rfl, by decide +kernel, by decide +kernel⟩
theorem w7 {T : Tb} {X : Cx} {W : WX} {n : Nat} {cal : Nat → Fun} (C : Cw T X W n fns cal csts frs) (S : Sw X (defScope st7) N7 V7 V7 G7) (po : PassesOwn (model X.prog X.w) X.A X.env X.xe) : SSs T X W (defBody st7) (b7 cal) :=
  (ss_cons (ss_unpack (S.var 2 rfl rfl) (sg_tup C.hK C.calm (sgs_cons (S.tg 3 rfl rfl) (sgs_cons (S.tg 4 rfl rfl) (sgs_cons (S.tg 5 rfl rfl) (sgs_cons (S.tg 6 rfl rfl) sgs_nil rfl) rfl) rfl) rfl) rfl rfl) rfl rfl rfl) (ss_cons (ss_expr (C.call 1 rfl (S.gl 0 rfl) (sa_cons (se_and (C.call 0 rfl (S.gl 2 rfl) (sa_cons (S.var 3 rfl rfl) sa_nil rfl) rfl) (se_and (se_cmp (k := .isIn) C.hK C.hu (S.var 4 rfl rfl) (C.call 3 rfl (S.gl 1 rfl) (sa_cons (se_idx C.hK (S.var 0 rfl rfl) se_int rfl) sa_nil rfl) rfl) rfl) (se_one (C.call 6 rfl (S.gl 3 rfl) (sa_cons (S.var 0 rfl rfl) (sa_cons (S.var 4 rfl rfl) (sa_cons (se_idx C.hK (S.var 1 rfl rfl) se_int rfl) sa_nil rfl) rfl) rfl) rfl)))) sa_nil rfl) rfl) rfl) (ss_cons (ss_expr (C.call 1 rfl (S.gl 0 rfl) (sa_cons (se_or (se_cmp (k := .eq) C.hK C.hu (S.var 5 rfl rfl) se_str rfl) (se_one (se_cmp (k := .isIn) C.hK C.hu (S.var 5 rfl rfl) (C.call 3 rfl (S.gl 1 rfl) (sa_cons (se_idx C.hK (S.var 1 rfl rfl) se_int rfl) sa_nil rfl) rfl) rfl))) sa_nil rfl) rfl) rfl) (ss_cons (ss_expr (C.call 1 rfl (S.gl 0 rfl) (sa_cons (se_or (se_cmp (k := .eq) C.hK C.hu (S.var 6 rfl rfl) se_str rfl) (se_one (se_cmp (k := .isIn) C.hK C.hu (S.var 6 rfl rfl) (se_idx C.hK (S.var 1 rfl rfl) se_int rfl) rfl))) sa_nil rfl) rfl) rfl) ss_nil))))
abbrev st8 : Stmt := top 18
theorem sc8 : FnScope N8 P8 (defScope st8) := ⟨rfl, rfl, rfl, by decide +kernel, rfl, by decide +kernel, by decide +kernel⟩
theorem w8 {T : Tb} {X : Cx} {W : WX} {n : Nat} {cal : Nat → Fun} (C : Cw T X W n fns cal csts frs) (S : Sw X (defScope st8) N8 V8 V8 G8) (po : PassesOwn (model X.prog X.w) X.A X.env X.xe) : SSs T X W (defBody st8) (b8 cal) :=
  (ss_cons (ss_unpack (S.var 2 rfl rfl) (sg_tup C.hK C.calm (sgs_cons (S.tg 3 rfl rfl) (sgs_cons (S.tg 4 rfl rfl) (sgs_cons (S.tg 5 rfl rfl) (sgs_cons (S.tg 6 rfl rfl) (sgs_cons (S.tg 7 rfl rfl) (sgs_cons (S.tg 8 rfl rfl) (sgs_cons (S.tg 9 rfl rfl) sgs_nil rfl) rfl) rfl) rfl) rfl) rfl) rfl) rfl rfl) rfl rfl rfl) (ss_cons (S.asg 10 rfl rfl (C.call 3 rfl (S.gl 1 rfl) (sa_cons (se_idx C.hK (S.var 1 rfl rfl) se_int rfl) sa_nil rfl) rfl) rfl) (ss_cons (ss_expr (C.call 1 rfl (S.gl 0 rfl) (sa_cons (se_and (se_cmp (k := .isIn) C.hK C.hu (S.var 4 rfl rfl) (se_idx C.hK (S.var 1 rfl rfl) se_int rfl) rfl) (se_one (se_cmp (k := .isIn) C.hK C.hu (S.var 9 rfl rfl) (se_idx C.hK (S.var 1 rfl rfl) se_int rfl) rfl))) sa_nil rfl) rfl) rfl) (ss_cons (ss_expr (C.call 5 rfl (S.gl 3 rfl) (sa_cons (S.var 5 rfl rfl) (sa_cons (S.var 10 rfl rfl) sa_nil rfl) rfl) rfl) rfl) (ss_cons (S.asg 11 rfl rfl (S.var 10 rfl rfl) rfl) (ss_cons (S.asg 12 rfl rfl (se_lst true sa_nil) rfl) (ss_cons (ss_if (st_cmp (k := .notN) C.hK C.hu (S.var 6 rfl rfl) se_none rfl) (ss_cons (ss_expr (C.call 7 rfl (S.gl 6 rfl) (sa_cons (S.var 0 rfl rfl) (sa_cons (S.var 1 rfl rfl) (sa_cons (S.var 6 rfl rfl) sa_nil rfl) rfl) rfl) rfl) rfl) (ss_cons (S.asg 11 rfl rfl (se_add false C.hK (S.var 10 rfl rfl) (se_lst false (sa_cons se_str sa_nil rfl))) rfl) (ss_cons (S.asg 12 rfl rfl (se_lst true (sa_cons (se_idx C.hK (S.var 6 rfl rfl) se_int rfl) sa_nil rfl)) rfl) ss_nil))) ss_nil) (ss_cons (ss_for C.hK po C.calm (si_it C.hK (S.var 7 rfl rfl)) (sg_tup C.hK C.calm (sgs_cons (S.tg 13 rfl rfl) (sgs_cons (S.tg 14 rfl rfl) sgs_nil rfl) rfl) rfl rfl) (ss_cons (ss_expr (C.call 1 rfl (S.gl 0 rfl) (sa_cons (se_and (se_cmp (k := .isIn) C.hK C.hu (S.var 13 rfl rfl) (S.var 10 rfl rfl) rfl) (se_one (se_cmp (k := .notIn) C.hK C.hu (S.var 13 rfl rfl) (S.var 12 rfl rfl) rfl))) sa_nil rfl) rfl) rfl) (ss_cons (ss_expr (se_append (S.var 12 rfl rfl) (S.var 13 rfl rfl) rfl rfl rfl) rfl) (ss_cons (ss_expr (C.call 5 rfl (S.gl 3 rfl) (sa_cons (S.var 14 rfl rfl) (sa_cons (S.var 11 rfl rfl) sa_nil rfl) rfl) rfl) rfl) ss_nil))) (fun _ => rfl)) (ss_cons (ss_for C.hK po C.calm (si_it C.hK (S.var 8 rfl rfl)) (sg_tup C.hK C.calm (sgs_cons (S.tg 15 rfl rfl) (sgs_cons (S.tg 14 rfl rfl) (sgs_cons (S.tg 16 rfl rfl) (sgs_cons (S.tg 17 rfl rfl) sgs_nil rfl) rfl) rfl) rfl) rfl rfl) (ss_cons (ss_expr (C.call 1 rfl (S.gl 0 rfl) (sa_cons (se_and (C.call 0 rfl (S.gl 4 rfl) (sa_cons (S.var 15 rfl rfl) sa_nil rfl) rfl) (se_one (se_cmp (k := .isIn) C.hK C.hu (S.var 16 rfl rfl) (C.con 5 rfl (S.gl 5 rfl)) rfl))) sa_nil rfl) rfl) rfl) (ss_cons (ss_expr (C.call 5 rfl (S.gl 3 rfl) (sa_cons (S.var 14 rfl rfl) (sa_cons (S.var 11 rfl rfl) sa_nil rfl) rfl) rfl) rfl) (ss_cons (ss_if (st_cmp (k := .eq) C.hK C.hu (S.var 16 rfl rfl) se_str rfl) (ss_cons (ss_expr (C.call 1 rfl (S.gl 0 rfl) (sa_cons (se_cmp (k := .isIn) C.hK C.hu (S.var 17 rfl rfl) (se_idx C.hK (S.var 1 rfl rfl) se_int rfl) rfl) sa_nil rfl) rfl) rfl) ss_nil) (ss_cons (ss_expr (C.call 1 rfl (S.gl 0 rfl) (sa_cons (se_and (se_cmp (k := .isIn) C.hK C.hu (S.var 17 rfl rfl) (C.call 3 rfl (S.gl 1 rfl) (sa_cons (se_idx C.hK (S.var 0 rfl rfl) se_int rfl) sa_nil rfl) rfl) rfl) (se_one (C.call 6 rfl (S.gl 2 rfl) (sa_cons (S.var 0 rfl rfl) (sa_cons (se_idx C.hK (S.var 1 rfl rfl) se_int rfl) (sa_cons (S.var 17 rfl rfl) sa_nil rfl) rfl) rfl) rfl))) sa_nil rfl) rfl) rfl) ss_nil)) ss_nil))) (fun _ => rfl)) ss_nil)))))))))
abbrev st9 : Stmt := top 19
theorem sc9 : FnScope N9 P9 (defScope st9) := ⟨rfl, rfl, rfl, by decide +kernel, rfl, by decide +kernel, by decide +kernel⟩
theorem w9 {T : Tb} {X : Cx} {W : WX} {n : Nat} {cal : Nat → Fun} (C : Cw T X W n fns cal csts frs) (S : Sw X (defScope st9) N9 V9 V9 G9) (po : PassesOwn (model X.prog X.w) X.A X.env X.xe) : SSs T X W (defBody st9) (b9 cal) :=
  (ss_cons (ss_unpack (S.var 1 rfl rfl) (sg_tup C.hK C.calm (sgs_cons (S.tg 2 rfl rfl) (sgs_cons (S.tg 3 rfl rfl) (sgs_cons (S.tg 4 rfl rfl) (sgs_cons (S.tg 5 rfl rfl) (sgs_cons (S.tg 6 rfl rfl) (sgs_cons (S.tg 7 rfl rfl) sgs_nil rfl) rfl) rfl) rfl) rfl) rfl) rfl rfl) rfl rfl rfl) (ss_cons (ss_expr (C.call 1 rfl (S.gl 1 rfl) (sa_cons (se_and (se_cmp (k := .ge) C.hK C.hu (S.var 3 rfl rfl) se_int rfl) (se_and (se_chain (k := .le) (k' := .le) C.hK C.hu se_int (se_len C.hK (S.gl 4 rfl) (C.bs.free 0 _ rfl) (S.var 4 rfl rfl) rfl) se_int rfl) (se_and (se_cmp (k := .le) C.hK C.hu (se_len C.hK (S.gl 4 rfl) (C.bs.free 0 _ rfl) (S.var 5 rfl rfl) rfl) se_int rfl) (se_and (se_cmp (k := .le) C.hK C.hu (se_len C.hK (S.gl 4 rfl) (C.bs.free 0 _ rfl) (S.var 6 rfl rfl) rfl) se_int rfl) (se_one (se_cmp (k := .le) C.hK C.hu (se_len C.hK (S.gl 4 rfl) (C.bs.free 0 _ rfl) (S.var 7 rfl rfl) rfl) se_int rfl)))))) sa_nil rfl) rfl) rfl) (ss_cons (ss_expr (C.call 2 rfl (S.gl 3 rfl) (sa_cons (S.var 4 rfl rfl) sa_nil rfl) rfl) rfl) (ss_cons (ss_expr (C.call 2 rfl (S.gl 3 rfl) (sa_cons (C.call 3 rfl (S.gl 2 rfl) (sa_cons (S.var 7 rfl rfl) sa_nil rfl) rfl) sa_nil rfl) rfl) rfl) (ss_cons (ss_expr (C.call 2 rfl (S.gl 3 rfl) (sa_cons (se_add false C.hK (C.call 3 rfl (S.gl 2 rfl) (sa_cons (S.var 5 rfl rfl) sa_nil rfl) rfl) (S.var 6 rfl rfl)) sa_nil rfl) rfl) rfl) (ss_cons (ss_expr (C.call 1 rfl (S.gl 1 rfl) (sa_cons (se_cmp (k := .notIn) C.hK C.hu se_str (C.call 3 rfl (S.gl 2 rfl) (sa_cons (S.var 5 rfl rfl) sa_nil rfl) rfl) rfl) sa_nil rfl) rfl) rfl) (ss_cons (ss_for C.hK po C.calm (si_it C.hK (S.var 5 rfl rfl)) (sg_tup C.hK C.calm (sgs_cons (S.tg 8 rfl rfl) (sgs_cons (S.tg 9 rfl rfl) (sgs_cons (S.tg 10 rfl rfl) (sgs_cons (S.tg 11 rfl rfl) sgs_nil rfl) rfl) rfl) rfl) rfl rfl) (ss_cons (ss_expr (C.call 1 rfl (S.gl 1 rfl) (sa_cons (se_and (se_chain (k := .le) (k' := .le) C.hK C.hu (S.var 9 rfl rfl) (S.var 11 rfl rfl) (S.var 10 rfl rfl) rfl) (se_one (se_cmp (k := .le) C.hK C.hu (se_bin (k := .sub) C.hK (S.var 10 rfl rfl) (S.var 9 rfl rfl)) se_int rfl))) sa_nil rfl) rfl) rfl) ss_nil) (fun _ => rfl)) (ss_cons (ss_for C.hK po C.calm (si_it C.hK (S.var 7 rfl rfl)) (S.tg 12 rfl rfl) (ss_cons (ss_expr (C.call 8 rfl (S.gl 0 rfl) (sa_cons (S.var 0 rfl rfl) (sa_cons (S.var 1 rfl rfl) (sa_cons (S.var 12 rfl rfl) sa_nil rfl) rfl) rfl) rfl) rfl) ss_nil) (fun _ => rfl)) ss_nil))))))))
abbrev st10 : Stmt := top 20
theorem sc10 : FnScope N10 P10 (defScope st10) := ⟨rfl, rfl, rfl, by decide +kernel, rfl, by decide +kernel, by decide +kernel⟩
theorem w10 {T : Tb} {X : Cx} {W : WX} {n : Nat} {cal : Nat → Fun} (C : Cw T X W n fns cal csts frs) (S : Sw X (defScope st10) N10 V10 V10 G10) (po : PassesOwn (model X.prog X.w) X.A X.env X.xe) : SSs T X W (defBody st10) (b10 cal) :=
  (ss_cons (ss_unpack (S.var 0 rfl rfl) (sg_tup C.hK C.calm (sgs_cons (S.tg 1 rfl rfl) (sgs_cons (S.tg 2 rfl rfl) (sgs_cons (S.tg 3 rfl rfl) sgs_nil rfl) rfl) rfl) rfl rfl) rfl rfl rfl) (ss_cons (ss_expr (C.call 1 rfl (S.gl 1 rfl) (sa_cons (se_and (se_chain (k := .le) (k' := .le) C.hK C.hu se_int (se_len C.hK (S.gl 7 rfl) (C.bs.free 0 _ rfl) (S.var 1 rfl rfl) rfl) se_int rfl) (se_and (se_cmp (k := .le) C.hK C.hu (se_len C.hK (S.gl 7 rfl) (C.bs.free 0 _ rfl) (S.var 2 rfl rfl) rfl) se_int rfl) (se_one (se_cmp (k := .le) C.hK C.hu (se_len C.hK (S.gl 7 rfl) (C.bs.free 0 _ rfl) (S.var 3 rfl rfl) rfl) se_int rfl)))) sa_nil rfl) rfl) rfl) (ss_cons (ss_expr (C.call 2 rfl (S.gl 6 rfl) (sa_cons (C.call 3 rfl (S.gl 0 rfl) (sa_cons (S.var 1 rfl rfl) sa_nil rfl) rfl) sa_nil rfl) rfl) rfl) (ss_cons (ss_for C.hK po C.calm (si_it C.hK (S.var 2 rfl rfl)) (S.tg 4 rfl rfl) (ss_cons (ss_expr (C.call 1 rfl (S.gl 1 rfl) (sa_cons (se_and (se_cmp (k := .isIn) C.hK C.hu (se_idx C.hK (S.var 4 rfl rfl) se_int rfl) (C.call 3 rfl (S.gl 0 rfl) (sa_cons (S.var 1 rfl rfl) sa_nil rfl) rfl) rfl) (se_one (se_cmp (k := .isIn) C.hK C.hu (se_idx C.hK (S.var 4 rfl rfl) se_int rfl) (C.call 3 rfl (S.gl 0 rfl) (sa_cons (S.var 1 rfl rfl) sa_nil rfl) rfl) rfl))) sa_nil rfl) rfl) rfl) (ss_cons (ss_expr (C.call 1 rfl (S.gl 1 rfl) (sa_cons (se_and (se_cmp (k := .isIn) C.hK C.hu (se_idx C.hK (S.var 4 rfl rfl) se_int rfl) (C.con 3 rfl (S.gl 5 rfl)) rfl) (se_one (se_chain (k := .le) (k' := .le) C.hK C.hu se_int (se_idx C.hK (S.var 4 rfl rfl) se_int rfl) se_int rfl))) sa_nil rfl) rfl) rfl) (ss_cons (ss_expr (C.call 1 rfl (S.gl 1 rfl) (sa_cons (se_cmp (k := .eq) C.hK C.hu (se_count C.hK C.hu (lcX false C S [("other", 5)] [5] [5] [] (si_it C.hK (S.var 2 rfl rfl)) (by decide +kernel) (by decide +kernel) rfl (fun Y C S => ⟨(S.tg 5 rfl rfl), sifs_nil, (se_slice false C.hK (S.var 5 rfl rfl) sp_none (sp_some se_int))⟩) (fun _ => rfl)) (se_slice false C.hK (S.var 4 rfl rfl) sp_none (sp_some se_int)) rfl rfl rfl) se_int rfl) sa_nil rfl) rfl) rfl) ss_nil))) (fun _ => rfl)) (ss_cons (ss_for C.hK po C.calm (si_it C.hK (S.var 1 rfl rfl)) (S.tg 6 rfl rfl) (ss_cons (ss_expr (C.call 9 rfl (S.gl 4 rfl) (sa_cons (S.var 0 rfl rfl) (sa_cons (S.var 6 rfl rfl) sa_nil rfl) rfl) rfl) rfl) ss_nil) (fun _ => rfl)) (ss_cons (ss_expr (C.call 1 rfl (S.gl 1 rfl) (sa_cons (se_cmp (k := .le) C.hK C.hu (se_sum C.calm (S.gl 3 rfl) (C.bs.free 3 _ rfl) (lcX false C S [("family", 6)] [6] [6] [] (si_it C.hK (S.var 1 rfl rfl)) (by decide +kernel) (by decide +kernel) rfl (fun Y C S => ⟨(S.tg 6 rfl rfl), sifs_nil, (se_idx C.hK (S.var 6 rfl rfl) se_int rfl)⟩) (fun _ => rfl)) rfl) se_int rfl) sa_nil rfl) rfl) rfl) (ss_cons (ss_for C.hK po C.calm (si_it C.hK (S.var 3 rfl rfl)) (sg_tup C.hK C.calm (sgs_cons (S.tg 7 rfl rfl) (sgs_cons (S.tg 8 rfl rfl) (sgs_cons (S.tg 9 rfl rfl) sgs_nil rfl) rfl) rfl) rfl rfl) (ss_cons (ss_expr (C.call 1 rfl (S.gl 1 rfl) (sa_cons (se_and (se_cmp (k := .isIn) C.hK C.hu (S.var 7 rfl rfl) (C.con 4 rfl (S.gl 2 rfl)) rfl) (se_one (se_cmp (k := .isIn) C.hK C.hu (S.var 8 rfl rfl) (C.call 3 rfl (S.gl 0 rfl) (sa_cons (S.var 1 rfl rfl) sa_nil rfl) rfl) rfl))) sa_nil rfl) rfl) rfl) (ss_cons (ss_expr (C.call 1 rfl (S.gl 1 rfl) (sa_cons (se_cmp (k := .isIn) C.hK C.hu (S.var 9 rfl rfl) (C.call 3 rfl (S.gl 0 rfl) (sa_cons (se_idx C.hK (se_idx C.hK (S.var 1 rfl rfl) (se_index C.hK C.hu (C.call 3 rfl (S.gl 0 rfl) (sa_cons (S.var 1 rfl rfl) sa_nil rfl) rfl) (S.var 8 rfl rfl) rfl rfl rfl) rfl) se_int rfl) sa_nil rfl) rfl) rfl) sa_nil rfl) rfl) rfl) ss_nil)) (fun _ => rfl)) ss_nil)))))))
abbrev st11 : Stmt := top 22
theorem sc11 : FnScope N11 P11 (defScope st11) := ⟨rfl, rfl, rfl, by decide +kernel, rfl, by decide +kernel, by decide +kernel⟩
theorem w11 {T : Tb} {X : Cx} {W : WX} {n : Nat} {cal : Nat → Fun} (C : Cw T X W n fns cal csts frs) (S : Sw X (defScope st11) N11 V11 V11 G11) (po : PassesOwn (model X.prog X.w) X.A X.env X.xe) : SSs T X W (defBody st11) (b11 cal) :=
  (ss_cons (ss_if (st_cmp (k := .lt) C.hK C.hu (S.var 1 rfl rfl) (se_len C.hK (S.gl 0 rfl) (C.bs.free 0 _ rfl) (S.var 0 rfl rfl) rfl) rfl) (ss_cons (ss_ret (se_idx C.hK (S.var 0 rfl rfl) (S.var 1 rfl rfl) rfl)) ss_nil) ss_nil) (ss_cons (ss_ret (se_add false C.hK (se_mul C.hK se_int (S.var 1 rfl rfl)) se_int)) ss_nil))
abbrev st12 : Stmt := top 23
theorem sc12 : FnScope N12 P12 (defScope st12) := ⟨rfl, rfl, rfl, by decide +kernel, rfl, by decide +kernel, by decide +kernel⟩
theorem w12 {T : Tb} {X : Cx} {W : WX} {n : Nat} {cal : Nat → Fun} (C : Cw T X W n fns cal csts frs) (S : Sw X (defScope st12) N12 V12 V12 G12) (po : PassesOwn (model X.prog X.w) X.A X.env X.xe) : SSs T X W (defBody st12) (b12 cal) :=
  (ss_cons (ss_if (st_cmp (k := .ge) C.hK C.hu (S.var 0 rfl rfl) (se_bin (k := .pow) C.hK se_int se_int) rfl) (ss_cons (S.asg 0 rfl rfl (se_bin (k := .sub) C.hK (se_bin (k := .fdiv) C.hK (S.var 0 rfl rfl) (se_bin (k := .pow) C.hK se_int se_int)) se_int) rfl) (ss_cons (ss_for C.hK po C.calm (si_range1 (S.gl 0 rfl) (C.bs.free 7 _ rfl) (se_bin (k := .mod) C.hK (S.var 1 rfl rfl) se_int) rfl) (S.tg 2 rfl rfl) (ss_cons (S.asg 0 rfl rfl (se_bin (k := .fdiv) C.hK (S.var 0 rfl rfl) se_int) rfl) ss_nil) (fun _ => rfl)) (ss_cons (ss_ret (se_bin (k := .mod) C.hK (S.var 0 rfl rfl) se_int)) ss_nil))) ss_nil) (ss_cons (S.asg 3 rfl rfl (se_bin (k := .mod) C.hK (se_mul C.hK (se_add false C.hK (se_add false C.hK (se_bin (k := .mod) C.hK (S.var 0 rfl rfl) se_int) (S.var 1 rfl rfl)) se_int) (se_add false C.hK (se_mul C.hK (se_mul C.hK se_int (S.var 1 rfl rfl)) (S.var 1 rfl rfl)) se_int)) se_int) rfl) (ss_cons (S.asg 3 rfl rfl (se_bin (k := .mod) C.hK (se_mul C.hK (S.var 3 rfl rfl) (S.var 3 rfl rfl)) se_int) rfl) (ss_cons (ss_ret (se_bin (k := .mod) C.hK (se_mul C.hK (S.var 3 rfl rfl) (se_add false C.hK (S.var 3 rfl rfl) se_int)) se_int)) ss_nil))))
abbrev st13 : Stmt := top 24
theorem sc13 : FnScope N13 P13 (defScope st13) := ⟨rfl, rfl, rfl, by decide +kernel, rfl, by decide +kernel, by decide +kernel⟩
theorem w13 {T : Tb} {X : Cx} {W : WX} {n : Nat} {cal : Nat → Fun} (C : Cw T X W n fns cal csts frs) (S : Sw X (defScope st13) N13 V13 V13 G13) (po : PassesOwn (model X.prog X.w) X.A X.env X.xe) : SSs T X W (defBody st13) (b13 cal) :=
  (ss_cons (ss_if (st_cmp (k := .eq) C.hK C.hu (se_bin (k := .mod) C.hK (S.var 1 rfl rfl) se_int) se_int rfl) (ss_cons (ss_ret (se_add false C.hK (se_mul C.hK (se_idx C.hK se_str (S.var 0 rfl rfl) rfl) (se_add false C.hK se_int (se_bin (k := .mod) C.hK (se_bin (k := .fdiv) C.hK (S.var 1 rfl rfl) se_int) se_int))) (se_idx C.hK se_str (se_bin (k := .mod) C.hK (se_bin (k := .fdiv) C.hK (S.var 1 rfl rfl) se_int) se_int) rfl))) ss_nil) ss_nil) (ss_cons (S.asg 2 rfl rfl (se_bin (k := .mod) C.hK (se_bin (k := .fdiv) C.hK (S.var 1 rfl rfl) se_int) se_int) rfl) (ss_cons (ss_ret (se_add false C.hK (se_add false C.hK (se_mul C.hK se_str (S.var 2 rfl rfl)) (se_idx C.hK se_str (S.var 0 rfl rfl) rfl)) (se_mul C.hK se_str (se_bin (k := .sub) C.hK se_int (S.var 2 rfl rfl))))) ss_nil)))
abbrev st14 : Stmt := top 25
theorem sc14 : FnScope N14 P14 (defScope st14) := ⟨rfl, rfl, rfl, by decide +kernel, rfl, by decide +kernel, by decide +kernel⟩
theorem w14 {T : Tb} {X : Cx} {W : WX} {n : Nat} {cal : Nat → Fun} (C : Cw T X W n fns cal csts frs) (S : Sw X (defScope st14) N14 V14 V14 G14) (po : PassesOwn (model X.prog X.w) X.A X.env X.xe) : SSs T X W (defBody st14) (b14 cal) :=
  (ss_cons (ss_setIx (se_add false C.hK (se_idx C.hK (S.var 1 rfl rfl) se_int rfl) se_int) (S.var 1 rfl rfl) se_int (fun _ => rfl) rfl rfl rfl) (ss_cons (ss_ret (C.call 12 rfl (S.gl 1 rfl) (sa_cons (C.call 11 rfl (S.gl 0 rfl) (sa_cons (S.var 0 rfl rfl) (sa_cons (se_add false C.hK se_int (se_bin (k := .mod) C.hK (se_idx C.hK (S.var 1 rfl rfl) se_int rfl) se_int)) sa_nil rfl) rfl) rfl) (sa_cons (se_add false C.hK se_int (se_bin (k := .fdiv) C.hK (se_idx C.hK (S.var 1 rfl rfl) se_int rfl) se_int)) sa_nil rfl) rfl) rfl)) ss_nil))
abbrev st15 : Stmt := top 26
theorem sc15 : FnScope N15 P15 (defScope st15) := ⟨rfl, rfl, rfl, by decide +kernel, rfl, by decide +kernel, by decide +kernel⟩
theorem w15 {T : Tb} {X : Cx} {W : WX} {n : Nat} {cal : Nat → Fun} (C : Cw T X W n fns cal csts frs) (S : Sw X (defScope st15) N15 V15 V15 G15) (po : PassesOwn (model X.prog X.w) X.A X.env X.xe) : SSs T X W (defBody st15) (b15 cal) :=
  (ss_cons (ss_if (st_w (stw_and (st_cmp (k := .gt) C.hK C.hu (se_bin (k := .mod) C.hK (S.var 1 rfl rfl) se_int) se_int rfl) (stw_and1 (st_cmp (k := .gt) C.hK C.hu (se_len C.hK (S.gl 0 rfl) (C.bs.free 0 _ rfl) (S.var 0 rfl rfl) rfl) se_int rfl)))) (ss_cons (ss_ret (se_tup (sa_cons se_str (sa_cons (se_idx C.hK (S.var 0 rfl rfl) (se_bin (k := .mod) C.hK (se_bin (k := .fdiv) C.hK (S.var 1 rfl rfl) se_int) (se_len C.hK (S.gl 0 rfl) (C.bs.free 0 _ rfl) (S.var 0 rfl rfl) rfl)) rfl) sa_nil rfl) rfl))) ss_nil) ss_nil) (ss_cons (ss_ret (se_tup (sa_cons se_str (sa_cons (se_idx C.hK (se_lst false (sa_cons (se_bin (k := .mod) C.hK (se_bin (k := .fdiv) C.hK (S.var 1 rfl rfl) se_int) se_int) (sa_cons (se_bin (k := .mod) C.hK (se_bin (k := .fdiv) C.hK (S.var 1 rfl rfl) se_int) se_int) sa_nil rfl) rfl)) (se_bin (k := .fdiv) C.hK (se_bin (k := .mod) C.hK (se_bin (k := .fdiv) C.hK (S.var 1 rfl rfl) se_int) se_int) se_int) rfl) sa_nil rfl) rfl))) ss_nil))
abbrev st16 : Stmt := top 27
theorem sc16 : FnScope N16 P16 (defScope st16) := ⟨rfl, rfl, rfl, by decide +kernel, rfl, by decide +kernel, by decide +kernel⟩
theorem w16 {T : Tb} {X : Cx} {W : WX} {n : Nat} {cal : Nat → Fun} (C : Cw T X W n fns cal csts frs) (S : Sw X (defScope st16) N16 V16 V16 G16) (po : PassesOwn (model X.prog X.w) X.A X.env X.xe) : SSs T X W (defBody st16) (b16 cal) :=
  (ss_cons (S.asg 3 rfl rfl (C.call 14 rfl (S.gl 1 rfl) (sa_cons (S.var 1 rfl rfl) (sa_cons (S.var 2 rfl rfl) sa_nil rfl) rfl) rfl) rfl) (ss_cons (S.asg 4 rfl rfl (C.call 15 rfl (S.gl 0 rfl) (sa_cons (S.var 0 rfl rfl) (sa_cons (se_bin (k := .fdiv) C.hK (S.var 3 rfl rfl) se_int) sa_nil rfl) rfl) rfl) rfl) (ss_cons (ss_if (st_cmp (k := .gt) C.hK C.hu (se_bin (k := .mod) C.hK (S.var 3 rfl rfl) se_int) se_int rfl) (ss_cons (ss_ret (S.var 4 rfl rfl)) ss_nil) ss_nil) (ss_cons (ss_ret (se_tup (sa_cons (se_idx C.hK (se_lst false (sa_cons se_str (sa_cons se_str (sa_cons se_str sa_nil rfl) rfl) rfl)) (se_bin (k := .mod) C.hK (S.var 3 rfl rfl) se_int) rfl) (sa_cons (S.var 4 rfl rfl) (sa_cons (C.call 15 rfl (S.gl 0 rfl) (sa_cons (S.var 0 rfl rfl) (sa_cons (se_bin (k := .fdiv) C.hK (S.var 3 rfl rfl) se_int) sa_nil rfl) rfl) rfl) sa_nil rfl) rfl) rfl))) ss_nil))))
abbrev st17 : Stmt := top 28
theorem sc17 : FnScope N17 P17 (defScope st17) := ⟨rfl, rfl, rfl, by decide +kernel, rfl, by decide +kernel, by decide +kernel⟩
theorem w17 {T : Tb} {X : Cx} {W : WX} {n : Nat} {cal : Nat → Fun} (C : Cw T X W n fns cal csts frs) (S : Sw X (defScope st17) N17 V17 V17 G17) (po : PassesOwn (model X.prog X.w) X.A X.env X.xe) : SSs T X W (defBody st17) (b17 cal) :=
  (ss_cons (S.asg 3 rfl rfl (C.call 14 rfl (S.gl 2 rfl) (sa_cons (S.var 1 rfl rfl) (sa_cons (S.var 2 rfl rfl) sa_nil rfl) rfl) rfl) rfl) (ss_cons (ss_if (st_cmp (k := .eq) C.hK C.hu (se_bin (k := .mod) C.hK (S.var 3 rfl rfl) se_int) se_int rfl) (ss_cons (ss_ret (se_tup (sa_cons se_str sa_nil rfl))) ss_nil) ss_nil) (ss_cons (S.asg 4 rfl rfl (se_idx C.hK (se_lst false (sa_cons se_str (sa_cons se_str (sa_cons se_str (sa_cons se_str (sa_cons se_str (sa_cons se_str sa_nil rfl) rfl) rfl) rfl) rfl) rfl)) (se_bin (k := .mod) C.hK (se_bin (k := .fdiv) C.hK (S.var 3 rfl rfl) se_int) se_int) rfl) rfl) (ss_cons (S.asg 5 rfl rfl (se_tup (sa_cons se_str (sa_cons (S.var 4 rfl rfl) (sa_cons (C.call 16 rfl (S.gl 1 rfl) (sa_cons (S.var 0 rfl rfl) (sa_cons (S.var 1 rfl rfl) (sa_cons (S.var 2 rfl rfl) sa_nil rfl) rfl) rfl) rfl) (sa_cons (C.call 16 rfl (S.gl 1 rfl) (sa_cons (S.var 0 rfl rfl) (sa_cons (S.var 1 rfl rfl) (sa_cons (S.var 2 rfl rfl) sa_nil rfl) rfl) rfl) rfl) sa_nil rfl) rfl) rfl) rfl)) rfl) (ss_cons (ss_if (st_cmp (k := .eq) C.hK C.hu (se_bin (k := .mod) C.hK (se_bin (k := .fdiv) C.hK (S.var 3 rfl rfl) se_int) se_int) se_int rfl) (ss_cons (S.asg 5 rfl rfl (se_tup (sa_cons se_str (sa_cons (S.var 5 rfl rfl) sa_nil rfl) rfl)) rfl) ss_nil) ss_nil) (ss_cons (ss_if (st_cmp (k := .eq) C.hK C.hu (se_bin (k := .mod) C.hK (se_bin (k := .fdiv) C.hK (S.var 3 rfl rfl) se_int) se_int) se_int rfl) (ss_cons (S.asg 6 rfl rfl (se_tup (sa_cons se_str (sa_cons se_str (sa_cons (C.call 15 rfl (S.gl 0 rfl) (sa_cons (S.var 0 rfl rfl) (sa_cons (se_bin (k := .fdiv) C.hK (S.var 3 rfl rfl) se_int) sa_nil rfl) rfl) rfl) (sa_cons (se_tup (sa_cons se_str (sa_cons (se_bin (k := .mod) C.hK (se_bin (k := .fdiv) C.hK (S.var 3 rfl rfl) se_int) se_int) sa_nil rfl) rfl)) sa_nil rfl) rfl) rfl) rfl)) rfl) (ss_cons (S.asg 5 rfl rfl (se_tup (sa_cons (se_idx C.hK (se_lst false (sa_cons se_str (sa_cons se_str sa_nil rfl) rfl)) (se_bin (k := .mod) C.hK (se_bin (k := .fdiv) C.hK (S.var 3 rfl rfl) se_int) se_int) rfl) (sa_cons (S.var 5 rfl rfl) (sa_cons (S.var 6 rfl rfl) sa_nil rfl) rfl) rfl)) rfl) ss_nil)) ss_nil) (ss_cons (ss_ret (S.var 5 rfl rfl)) ss_nil)))))))
abbrev st18 : Stmt := top 29
theorem sc18 : FnScope N18 P18 (defScope st18) := ⟨rfl, rfl, rfl, by decide +kernel, rfl, by decide +kernel, by decide +kernel⟩
theorem w18 {T : Tb} {X : Cx} {W : WX} {n : Nat} {cal : Nat → Fun} (C : Cw T X W n fns cal csts frs) (S : Sw X (defScope st18) N18 V18 V18 G18) (po : PassesOwn (model X.prog X.w) X.A X.env X.xe) : SSs T X W (defBody st18) (b18 cal) :=
  (ss_cons (S.asg 2 rfl rfl (se_lst true sa_nil) rfl) (ss_cons (S.asg 3 rfl rfl (C.call 14 rfl (S.gl 2 rfl) (sa_cons (S.var 0 rfl rfl) (sa_cons (S.var 1 rfl rfl) sa_nil rfl) rfl) rfl) rfl) (ss_cons (ss_for C.hK po C.calm (si_range1 (S.gl 0 rfl) (C.bs.free 7 _ rfl) (se_bin (k := .mod) C.hK (S.var 3 rfl rfl) se_int) rfl) (S.tg 4 rfl rfl) (ss_cons (S.asg 5 rfl rfl (C.call 14 rfl (S.gl 2 rfl) (sa_cons (S.var 0 rfl rfl) (sa_cons (S.var 1 rfl rfl) sa_nil rfl) rfl) rfl) rfl) (ss_cons (S.asg 6 rfl rfl (se_idx C.hK (se_lst false (sa_cons (se_bin (k := .sub) C.hK (se_bin (k := .mod) C.hK (se_bin (k := .fdiv) C.hK (S.var 5 rfl rfl) se_int) se_int) se_int) (sa_cons (se_bin (k := .sub) C.hK (se_bin (k := .mod) C.hK (se_bin (k := .fdiv) C.hK (S.var 5 rfl rfl) se_int) se_int) se_int) sa_nil rfl) rfl)) (se_bin (k := .fdiv) C.hK (se_bin (k := .mod) C.hK (S.var 5 rfl rfl) se_int) se_int) rfl) rfl) (ss_cons (S.asg 7 rfl rfl (se_add false C.hK (S.var 6 rfl rfl) (se_bin (k := .mod) C.hK (se_bin (k := .fdiv) C.hK (S.var 5 rfl rfl) se_int) se_int)) rfl) (ss_cons (ss_expr (se_append (S.var 2 rfl rfl) (se_tup (sa_cons (C.call 13 rfl (S.gl 1 rfl) (sa_cons (S.var 4 rfl rfl) (sa_cons (se_bin (k := .fdiv) C.hK (S.var 3 rfl rfl) se_int) sa_nil rfl) rfl) rfl) (sa_cons (S.var 6 rfl rfl) (sa_cons (S.var 7 rfl rfl) (sa_cons (se_add false C.hK (S.var 6 rfl rfl) (se_bin (k := .mod) C.hK (se_bin (k := .mod) C.hK (se_bin (k := .fdiv) C.hK (S.var 5 rfl rfl) se_int) se_int) (se_add false C.hK (se_bin (k := .sub) C.hK (S.var 7 rfl rfl) (S.var 6 rfl rfl)) se_int))) sa_nil rfl) rfl) rfl) rfl)) rfl rfl rfl) rfl) ss_nil)))) (fun _ => rfl)) (ss_cons (ss_ret (se_frz (S.var 2 rfl rfl))) ss_nil))))
abbrev st19 : Stmt := top 30
theorem sc19 : FnScope N19 P19 (defScope st19) := ⟨rfl, rfl, rfl, by decide +kernel, rfl, by decide +kernel, by decide +kernel⟩
theorem w19 {T : Tb} {X : Cx} {W : WX} {n : Nat} {cal : Nat → Fun} (C : Cw T X W n fns cal csts frs) (S : Sw X (defScope st19) N19 V19 V19 G19) (po : PassesOwn (model X.prog X.w) X.A X.env X.xe) : SSs T X W (defBody st19) (b19 cal) :=
  (ss_cons (S.asg 3 rfl rfl (se_lst true sa_nil) rfl) (ss_cons (S.asg 4 rfl rfl se_int rfl) (ss_cons (S.asg 5 rfl rfl (C.call 14 rfl (S.gl 4 rfl) (sa_cons (S.var 0 rfl rfl) (sa_cons (S.var 1 rfl rfl) sa_nil rfl) rfl) rfl) rfl) (ss_cons (ss_for C.hK po C.calm (si_range1 (S.gl 0 rfl) (C.bs.free 7 _ rfl) (se_add false C.hK se_int (se_bin (k := .mod) C.hK (S.var 2 rfl rfl) se_int)) rfl) (S.tg 6 rfl rfl) (ss_cons (S.asg 7 rfl rfl (C.call 14 rfl (S.gl 4 rfl) (sa_cons (S.var 0 rfl rfl) (sa_cons (S.var 1 rfl rfl) sa_nil rfl) rfl) rfl) rfl) (ss_cons (S.asg 8 rfl rfl (se_add false C.hK se_int (se_bin (k := .mod) C.hK (S.var 7 rfl rfl) se_int)) rfl) (ss_cons (S.asg 8 rfl rfl (se_min2 C.calm (S.gl 3 rfl) (C.bs.free 2 _ rfl) (S.var 8 rfl rfl) (se_bin (k := .sub) C.hK (S.var 4 rfl rfl) (se_bin (k := .sub) C.hK (se_bin (k := .mod) C.hK (S.var 2 rfl rfl) se_int) (S.var 6 rfl rfl))) rfl rfl) rfl) (ss_cons (S.asg 4 rfl rfl (se_bin (k := .sub) C.hK (S.var 4 rfl rfl) (S.var 8 rfl rfl)) rfl) (ss_cons (setLcX false C S 9 rfl (by decide +kernel) [("_law_j", 10)] [7, 10] [10] ["_law_named"] (si_range1 (S.gl 0 rfl) (C.bs.free 7 _ rfl) (se_add false C.hK se_int (se_bin (k := .mod) C.hK (se_bin (k := .fdiv) C.hK (S.var 7 rfl rfl) se_int) se_int)) rfl) (sw_true (by rw [S.es]; rfl) (by rw [S.es]; exact lclB_ok (by decide +kernel)) rfl (by decide +kernel)) (by decide +kernel) (by decide +kernel) rfl (fun Y C S => ⟨(S.tg 10 rfl rfl), sifs_nil, (C.call 13 rfl (S.gl 0 rfl) (sa_cons (S.var 10 rfl rfl) (sa_cons (se_bin (k := .fdiv) C.hK (S.var 7 rfl rfl) se_int) sa_nil rfl) rfl) rfl)⟩) (fun _ => rfl)) (ss_cons (S.asg 11 rfl rfl (C.call 18 rfl (S.gl 2 rfl) (sa_cons (S.var 0 rfl rfl) (sa_cons (S.var 1 rfl rfl) sa_nil rfl) rfl) rfl) rfl) (ss_cons (S.asg 12 rfl rfl (se_slice false C.hK (se_idx C.hK (se_lst false (sa_cons (se_lst false (sa_cons se_str (sa_cons se_str sa_nil rfl) rfl)) (sa_cons (se_lst false (sa_cons se_str (sa_cons se_str sa_nil rfl) rfl)) (sa_cons (se_lst false (sa_cons se_str (sa_cons se_str sa_nil rfl) rfl)) (sa_cons (se_lst false (sa_cons se_str (sa_cons se_str sa_nil rfl) rfl)) sa_nil rfl) rfl) rfl) rfl)) (se_bin (k := .mod) C.hK (se_bin (k := .fdiv) C.hK (S.var 7 rfl rfl) se_int) se_int) rfl) sp_none (sp_some (se_bin (k := .mod) C.hK (se_bin (k := .fdiv) C.hK (S.var 7 rfl rfl) se_int) se_int))) rfl) (ss_cons (ss_expr (se_append (S.var 3 rfl rfl) (se_lst false (sa_cons (C.call 13 rfl (S.gl 1 rfl) (sa_cons (S.var 6 rfl rfl) (sa_cons (S.var 5 rfl rfl) sa_nil rfl) rfl) rfl) (sa_cons (S.var 8 rfl rfl) (sa_cons (S.var 9 rfl rfl) (sa_cons (S.var 11 rfl rfl) (sa_cons (S.var 12 rfl rfl) (sa_cons (se_lst true sa_nil) sa_nil rfl) rfl) rfl) rfl) rfl) rfl)) rfl rfl rfl) rfl) ss_nil)))))))) (fun _ => rfl)) (ss_cons (ss_ret (S.var 3 rfl rfl)) ss_nil)))))
abbrev st20 : Stmt := top 31
theorem sc20 : FnScope N20 P20 (defScope st20) := ⟨rfl, rfl, rfl, by decide +kernel, rfl, by decide +kernel, by decide +kernel⟩
theorem w20 {T : Tb} {X : Cx} {W : WX} {n : Nat} {cal : Nat → Fun} (C : Cw T X W n fns cal csts frs) (S : Sw X (defScope st20) N20 V20 V20 G20) (po : PassesOwn (model X.prog X.w) X.A X.env X.xe) : SSs T X W (defBody st20) (b20 cal) :=
  (ss_cons (S.asg 3 rfl rfl (se_lst true sa_nil) rfl) (ss_cons (setLcX false C S 4 rfl (by decide +kernel) [("_law_family", 5)] [5] [5] [] (si_it C.hK (S.var 0 rfl rfl)) (sw_true (by rw [S.es]; rfl) (by rw [S.es]; exact lclB_ok (by decide +kernel)) rfl (by decide +kernel)) (by decide +kernel) (by decide +kernel) rfl (fun Y C S => ⟨(S.tg 5 rfl rfl), sifs_nil, (se_idx C.hK (S.var 5 rfl rfl) se_int rfl)⟩) (fun _ => rfl)) (ss_cons (ss_for C.hK po C.calm (si_range1 (S.gl 0 rfl) (C.bs.free 7 _ rfl) (se_bin (k := .mod) C.hK (C.call 14 rfl (S.gl 1 rfl) (sa_cons (S.var 1 rfl rfl) (sa_cons (S.var 2 rfl rfl) sa_nil rfl) rfl) rfl) se_int) rfl) (S.tg 6 rfl rfl) (ss_cons (S.asg 7 rfl rfl (C.call 14 rfl (S.gl 1 rfl) (sa_cons (S.var 1 rfl rfl) (sa_cons (S.var 2 rfl rfl) sa_nil rfl) rfl) rfl) rfl) (ss_cons (S.asg 8 rfl rfl (se_idx C.hK (S.var 4 rfl rfl) (se_bin (k := .mod) C.hK (S.var 7 rfl rfl) (se_len C.hK (S.gl 2 rfl) (C.bs.free 0 _ rfl) (S.var 4 rfl rfl) rfl)) rfl) rfl) (ss_cons (S.asg 9 rfl rfl (se_idx C.hK (S.var 4 rfl rfl) (se_bin (k := .mod) C.hK (se_bin (k := .fdiv) C.hK (S.var 7 rfl rfl) se_int) (se_len C.hK (S.gl 2 rfl) (C.bs.free 0 _ rfl) (S.var 4 rfl rfl) rfl)) rfl) rfl) (ss_cons (S.asg 10 rfl rfl (se_tup (sa_cons (S.var 8 rfl rfl) (sa_cons (S.var 9 rfl rfl) (sa_cons (se_idx C.hK (se_lst false (sa_cons se_str (sa_cons se_str sa_nil rfl) rfl)) (se_bin (k := .mod) C.hK (se_bin (k := .fdiv) C.hK (S.var 7 rfl rfl) se_int) se_int) rfl) (sa_cons (se_add false C.hK se_int (se_bin (k := .mod) C.hK (se_bin (k := .fdiv) C.hK (S.var 7 rfl rfl) se_int) se_int)) sa_nil rfl) rfl) rfl) rfl)) rfl) (ss_cons (S.asg 10 rfl rfl (se_add false C.hK (S.var 10 rfl rfl) (se_tup (sa_cons (se_cmp (k := .eq) C.hK C.hu (se_bin (k := .mod) C.hK (se_bin (k := .fdiv) C.hK (S.var 7 rfl rfl) se_int) se_int) se_int rfl) (sa_cons (se_cmp (k := .eq) C.hK C.hu (se_bin (k := .mod) C.hK (se_bin (k := .fdiv) C.hK (S.var 7 rfl rfl) se_int) se_int) se_int rfl) sa_nil rfl) rfl))) rfl) (ss_cons (ss_if (st_cmp (k := .notIn) C.hK C.hu (se_tup (sa_cons (S.var 8 rfl rfl) (sa_cons (S.var 9 rfl rfl) sa_nil rfl) rfl)) (lcX false C S [("_law_old", 11)] [11] [11] [] (si_it C.hK (S.var 3 rfl rfl)) (by decide +kernel) (by decide +kernel) rfl (fun Y C S => ⟨(S.tg 11 rfl rfl), sifs_nil, (se_slice false C.hK (S.var 11 rfl rfl) sp_none (sp_some se_int))⟩) (fun _ => rfl)) rfl) (ss_cons (ss_expr (se_append (S.var 3 rfl rfl) (S.var 10 rfl rfl) rfl rfl rfl) rfl) ss_nil) ss_nil) ss_nil)))))) (fun _ => rfl)) (ss_cons (ss_ret (se_frz (S.var 3 rfl rfl))) ss_nil))))
abbrev st21 : Stmt := top 32
theorem sc21 : FnScope N21 P21 (defScope st21) := ⟨rfl, rfl, rfl, by decide +kernel, rfl, by decide +kernel, by decide +kernel⟩
theorem w21 {T : Tb} {X : Cx} {W : WX} {n : Nat} {cal : Nat → Fun} (C : Cw T X W n fns cal csts frs) (S : Sw X (defScope st21) N21 V21 V21 G21) (po : PassesOwn (model X.prog X.w) X.A X.env X.xe) : SSs T X W (defBody st21) (b21 cal) :=
  (ss_cons (S.asg 5 rfl rfl (se_lst true sa_nil) rfl) (ss_cons (setLcX false C S 6 rfl (by decide +kernel) [("_law_road", 7)] [7, 0] [7] [] (si_it C.hK (S.var 1 rfl rfl)) (sw_true (by rw [S.es]; rfl) (by rw [S.es]; exact lclB_ok (by decide +kernel)) rfl (by decide +kernel)) (by decide +kernel) (by decide +kernel) rfl (fun Y C S => ⟨(S.tg 7 rfl rfl), (sifs_one (st_cmp (k := .eq) C.hK C.hu (se_idx C.hK (S.var 7 rfl rfl) se_int rfl) (se_idx C.hK (S.var 0 rfl rfl) se_int rfl) rfl)), (se_idx C.hK (S.var 7 rfl rfl) se_int rfl)⟩) (fun _ => rfl)) (ss_cons (ss_for C.hK po C.calm (si_range1 (S.gl 0 rfl) (C.bs.free 7 _ rfl) (se_bin (k := .mod) C.hK (C.call 14 rfl (S.gl 1 rfl) (sa_cons (S.var 3 rfl rfl) (sa_cons (S.var 4 rfl rfl) sa_nil rfl) rfl) rfl) se_int) rfl) (S.tg 8 rfl rfl) (ss_cons (S.asg 9 rfl rfl (C.call 14 rfl (S.gl 1 rfl) (sa_cons (S.var 3 rfl rfl) (sa_cons (S.var 4 rfl rfl) sa_nil rfl) rfl) rfl) rfl) (ss_cons (S.asg 10 rfl rfl (se_idx C.hK (se_lst false (sa_cons se_str (sa_cons se_str sa_nil rfl) rfl)) (se_bin (k := .mod) C.hK (S.var 9 rfl rfl) se_int) rfl) rfl) (ss_cons (S.asg 11 rfl rfl (se_idx C.hK (se_add false C.hK (S.var 6 rfl rfl) (se_lst false (sa_cons se_str sa_nil rfl))) (se_bin (k := .mod) C.hK (se_bin (k := .fdiv) C.hK (S.var 9 rfl rfl) se_int) (se_max2 C.calm (S.gl 5 rfl) (C.bs.free 1 _ rfl) se_int (se_len C.hK (S.gl 4 rfl) (C.bs.free 0 _ rfl) (S.var 6 rfl rfl) rfl) rfl rfl)) rfl) rfl) (ss_cons (ss_if (st_w (stw_and (st_cmp (k := .ne) C.hK C.hu (se_idx C.hK (S.var 0 rfl rfl) se_int rfl) (se_lst false sa_nil) rfl) (stw_and1 (st_w (stw_or (st_cmp (k := .eq) C.hK C.hu (se_bin (k := .mod) C.hK (S.var 9 rfl rfl) se_int) se_int rfl) (stw_or1 (st_cmp (k := .eq) C.hK C.hu (S.var 6 rfl rfl) (se_lst false sa_nil) rfl))))))) (ss_cons (S.asg 10 rfl rfl se_str rfl) (ss_cons (S.asg 11 rfl rfl (se_idx C.hK (se_idx C.hK (S.var 0 rfl rfl) se_int rfl) (se_bin (k := .mod) C.hK (se_bin (k := .fdiv) C.hK (S.var 9 rfl rfl) se_int) (se_len C.hK (S.gl 4 rfl) (C.bs.free 0 _ rfl) (se_idx C.hK (S.var 0 rfl rfl) se_int rfl) rfl)) rfl) rfl) ss_nil)) ss_nil) (ss_cons (ss_if (st_cmp (k := .ne) C.hK C.hu (S.var 11 rfl rfl) se_str rfl) (ss_cons (ss_expr (se_append (S.var 5 rfl rfl) (se_tup (sa_cons (C.call 13 rfl (S.gl 3 rfl) (sa_cons se_int (sa_cons (se_bin (k := .fdiv) C.hK (S.var 9 rfl rfl) se_int) sa_nil rfl) rfl) rfl) (sa_cons (C.call 16 rfl (S.gl 2 rfl) (sa_cons (S.var 2 rfl rfl) (sa_cons (S.var 3 rfl rfl) (sa_cons (S.var 4 rfl rfl) sa_nil rfl) rfl) rfl) rfl) (sa_cons (S.var 10 rfl rfl) (sa_cons (S.var 11 rfl rfl) sa_nil rfl) rfl) rfl) rfl)) rfl rfl rfl) rfl) ss_nil) ss_nil) ss_nil))))) (fun _ => rfl)) (ss_cons (ss_ret (se_frz (S.var 5 rfl rfl))) ss_nil))))
abbrev st22 : Stmt := top 33
theorem sc22 : FnScope N22 P22 (defScope st22) := ⟨rfl, rfl, rfl, by decide +kernel, rfl, by decide +kernel, by decide +kernel⟩
theorem w22 {T : Tb} {X : Cx} {W : WX} {n : Nat} {cal : Nat → Fun} (C : Cw T X W n fns cal csts frs) (S : Sw X (defScope st22) N22 V22 V22 G22) (po : PassesOwn (model X.prog X.w) X.A X.env X.xe) : SSs T X W (defBody st22) (b22 cal) :=
  (ss_cons (S.asg 5 rfl rfl (C.call 14 rfl (S.gl 4 rfl) (sa_cons (S.var 3 rfl rfl) (sa_cons (S.var 4 rfl rfl) sa_nil rfl) rfl) rfl) rfl) (ss_cons (setLcX false C S 6 rfl (by decide +kernel) [("_law_cell", 7)] [7] [7] [] (si_it C.hK (se_idx C.hK (S.var 0 rfl rfl) se_int rfl)) (sw_true (by rw [S.es]; rfl) (by rw [S.es]; exact lclB_ok (by decide +kernel)) rfl (by decide +kernel)) (by decide +kernel) (by decide +kernel) rfl (fun Y C S => ⟨(S.tg 7 rfl rfl), sifs_nil, (se_idx C.hK (S.var 7 rfl rfl) se_int rfl)⟩) (fun _ => rfl)) (ss_cons (S.asg 8 rfl rfl se_none rfl) (ss_cons (S.asg 9 rfl rfl (S.var 6 rfl rfl) rfl) (ss_cons (S.asg 10 rfl rfl (se_list false C.hK (S.gl 6 rfl) (C.bs.free 5 _ rfl) (S.var 6 rfl rfl) rfl) rfl) (ss_cons (setLcX false C S 11 rfl (by decide +kernel) [("_law_road", 12)] [12, 0] [12] [] (si_it C.hK (S.var 1 rfl rfl)) (sw_true (by rw [S.es]; rfl) (by rw [S.es]; exact lclB_ok (by decide +kernel)) rfl (by decide +kernel)) (by decide +kernel) (by decide +kernel) rfl (fun Y C S => ⟨(S.tg 12 rfl rfl), (sifs_one (st_cmp (k := .eq) C.hK C.hu (se_idx C.hK (S.var 12 rfl rfl) se_int rfl) (se_idx C.hK (S.var 0 rfl rfl) se_int rfl) rfl)), (se_idx C.hK (S.var 12 rfl rfl) se_int rfl)⟩) (fun _ => rfl)) (ss_cons (ss_if (st_w (stw_and (st_cmp (k := .ne) C.hK C.hu (S.var 11 rfl rfl) (se_lst false sa_nil) rfl) (stw_and1 (st_cmp (k := .eq) C.hK C.hu (se_bin (k := .mod) C.hK (S.var 5 rfl rfl) se_int) se_int rfl)))) (ss_cons (S.asg 9 rfl rfl (se_add false C.hK (S.var 6 rfl rfl) (se_lst false (sa_cons se_str sa_nil rfl))) rfl) (ss_cons (S.asg 7 rfl rfl (se_idx C.hK (se_add false C.hK (S.var 6 rfl rfl) (se_lst false (sa_cons se_str sa_nil rfl))) (se_bin (k := .mod) C.hK (se_bin (k := .fdiv) C.hK (S.var 5 rfl rfl) se_int) (se_add false C.hK (se_len C.hK (S.gl 1 rfl) (C.bs.free 0 _ rfl) (S.var 6 rfl rfl) rfl) se_int)) rfl) rfl) (ss_cons (S.asg 13 rfl rfl (se_idx C.hK (se_add false C.hK (se_idx C.hK (S.var 0 rfl rfl) se_int rfl) (se_lst false (sa_cons se_str sa_nil rfl))) (se_bin (k := .mod) C.hK (se_bin (k := .fdiv) C.hK (S.var 5 rfl rfl) se_int) (se_add false C.hK (se_len C.hK (S.gl 1 rfl) (C.bs.free 0 _ rfl) (se_idx C.hK (S.var 0 rfl rfl) se_int rfl) rfl) se_int)) rfl) rfl) (ss_cons (S.asg 8 rfl rfl (se_tup (sa_cons (C.call 13 rfl (S.gl 0 rfl) (sa_cons se_int (sa_cons (se_bin (k := .fdiv) C.hK (S.var 5 rfl rfl) se_int) sa_nil rfl) rfl) rfl) (sa_cons (se_idx C.hK (S.var 11 rfl rfl) (se_bin (k := .mod) C.hK (se_bin (k := .fdiv) C.hK (S.var 5 rfl rfl) se_int) (se_len C.hK (S.gl 1 rfl) (C.bs.free 0 _ rfl) (S.var 11 rfl rfl) rfl)) rfl) (sa_cons (S.var 7 rfl rfl) (sa_cons (S.var 13 rfl rfl) sa_nil rfl) rfl) rfl) rfl)) rfl) (ss_cons (setLcX false C S 10 rfl (by decide +kernel) [("_law_name", 14)] [14, 7] [14] [] (si_it C.hK (S.var 6 rfl rfl)) (sw_true (by rw [S.es]; rfl) (by rw [S.es]; exact lclB_ok (by decide +kernel)) rfl (by decide +kernel)) (by decide +kernel) (by decide +kernel) rfl (fun Y C S => ⟨(S.tg 14 rfl rfl), (sifs_one (st_cmp (k := .ne) C.hK C.hu (S.var 14 rfl rfl) (S.var 7 rfl rfl) rfl)), (S.var 14 rfl rfl)⟩) (fun _ => rfl)) ss_nil))))) ss_nil) (ss_cons (S.asg 15 rfl rfl (se_lst true sa_nil) rfl) (ss_cons (ss_for C.hK po C.calm (si_it C.hK (S.var 10 rfl rfl)) (S.tg 14 rfl rfl) (ss_cons (ss_if (st_cmp (k := .eq) C.hK C.hu (se_bin (k := .mod) C.hK (C.call 14 rfl (S.gl 4 rfl) (sa_cons (S.var 3 rfl rfl) (sa_cons (S.var 4 rfl rfl) sa_nil rfl) rfl) rfl) se_int) se_int rfl) (ss_cons (ss_expr (se_append (S.var 15 rfl rfl) (se_tup (sa_cons (S.var 14 rfl rfl) (sa_cons (C.call 16 rfl (S.gl 5 rfl) (sa_cons (S.var 9 rfl rfl) (sa_cons (S.var 3 rfl rfl) (sa_cons (S.var 4 rfl rfl) sa_nil rfl) rfl) rfl) rfl) sa_nil rfl) rfl)) rfl rfl rfl) rfl) ss_nil) ss_nil) ss_nil) (fun _ => rfl)) (ss_cons (S.asg 16 rfl rfl (C.call 17 rfl (S.gl 3 rfl) (sa_cons (S.var 6 rfl rfl) (sa_cons (S.var 3 rfl rfl) (sa_cons (S.var 4 rfl rfl) sa_nil rfl) rfl) rfl) rfl) rfl) (ss_cons (S.asg 17 rfl rfl (C.call 21 rfl (S.gl 2 rfl) (sa_cons (S.var 0 rfl rfl) (sa_cons (S.var 1 rfl rfl) (sa_cons (S.var 9 rfl rfl) (sa_cons (S.var 3 rfl rfl) (sa_cons (S.var 4 rfl rfl) sa_nil rfl) rfl) rfl) rfl) rfl) rfl) rfl) (ss_cons (S.asg 18 rfl rfl (se_lst false (sa_cons (se_idx C.hK (se_idx C.hK (S.var 0 rfl rfl) se_int rfl) (se_bin (k := .mod) C.hK (se_bin (k := .fdiv) C.hK (S.var 5 rfl rfl) se_int) (se_len C.hK (S.gl 1 rfl) (C.bs.free 0 _ rfl) (se_idx C.hK (S.var 0 rfl rfl) se_int rfl) rfl)) rfl) (sa_cons (se_idx C.hK (se_idx C.hK (S.var 0 rfl rfl) se_int rfl) (se_bin (k := .mod) C.hK (se_bin (k := .fdiv) C.hK (S.var 5 rfl rfl) se_int) (se_len C.hK (S.gl 1 rfl) (C.bs.free 0 _ rfl) (se_idx C.hK (S.var 0 rfl rfl) se_int rfl) rfl)) rfl) sa_nil rfl) rfl)) rfl) (ss_cons (ss_ret (se_tup (sa_cons (C.call 13 rfl (S.gl 0 rfl) (sa_cons (S.var 2 rfl rfl) (sa_cons se_int sa_nil rfl) rfl) rfl) (sa_cons (se_idx C.hK (S.var 18 rfl rfl) se_int rfl) (sa_cons (S.var 16 rfl rfl) (sa_cons (S.var 8 rfl rfl) (sa_cons (se_step false (S.var 15 rfl rfl) (se_idx C.hK (se_lst false (sa_cons se_int (sa_cons (se_neg se_int) sa_nil rfl) rfl)) (se_bin (k := .mod) C.hK (se_bin (k := .fdiv) C.hK (S.var 5 rfl rfl) se_int) se_int) rfl)) (sa_cons (S.var 17 rfl rfl) (sa_cons (se_idx C.hK (S.var 18 rfl rfl) se_int rfl) sa_nil rfl) rfl) rfl) rfl) rfl) rfl) rfl))) ss_nil)))))))))))))
abbrev st23 : Stmt := top 34
theorem sc23 : FnScope N23 P23 (defScope st23) := ⟨rfl, rfl, rfl, by decide +kernel, rfl, by decide +kernel, by decide +kernel⟩
theorem w23 {T : Tb} {X : Cx} {W : WX} {n : Nat} {cal : Nat → Fun} (C : Cw T X W n fns cal csts frs) (S : Sw X (defScope st23) N23 V23 V23 G23) (po : PassesOwn (model X.prog X.w) X.A X.env X.xe) : SSs T X W (defBody st23) (b23 cal) :=
  (ss_cons (S.asg 2 rfl rfl (se_lst true (sa_cons se_int sa_nil rfl)) rfl) (ss_cons (S.asg 3 rfl rfl (C.call 19 rfl (S.gl 6 rfl) (sa_cons (S.var 0 rfl rfl) (sa_cons (S.var 2 rfl rfl) (sa_cons (S.var 1 rfl rfl) sa_nil rfl) rfl) rfl) rfl) rfl) (ss_cons (S.asg 4 rfl rfl (C.call 20 rfl (S.gl 5 rfl) (sa_cons (S.var 3 rfl rfl) (sa_cons (S.var 0 rfl rfl) (sa_cons (S.var 2 rfl rfl) sa_nil rfl) rfl) rfl) rfl) rfl) (ss_cons (S.asg 5 rfl rfl se_int rfl) (ss_cons (S.asg 6 rfl rfl (se_lst true sa_nil) rfl) (ss_cons (ss_for C.hK po C.calm (si_it C.hK (S.var 3 rfl rfl)) (S.tg 7 rfl rfl) (ss_cons (ss_for C.hK po C.calm (si_range1 (S.gl 0 rfl) (C.bs.free 7 _ rfl) (se_min2 C.calm (S.gl 3 rfl) (C.bs.free 2 _ rfl) (S.var 5 rfl rfl) (se_bin (k := .mod) C.hK (C.call 14 rfl (S.gl 1 rfl) (sa_cons (S.var 0 rfl rfl) (sa_cons (S.var 2 rfl rfl) sa_nil rfl) rfl) rfl) se_int) rfl rfl) rfl) (S.tg 8 rfl rfl) (ss_cons (ss_expr (se_append (se_idx C.hK (S.var 7 rfl rfl) se_int rfl) (C.call 22 rfl (S.gl 4 rfl) (sa_cons (S.var 7 rfl rfl) (sa_cons (S.var 4 rfl rfl) (sa_cons (S.var 8 rfl rfl) (sa_cons (S.var 0 rfl rfl) (sa_cons (S.var 2 rfl rfl) sa_nil rfl) rfl) rfl) rfl) rfl) rfl) rfl rfl rfl) rfl) (ss_cons (S.asg 5 rfl rfl (se_bin (k := .sub) C.hK (S.var 5 rfl rfl) se_int) rfl) ss_nil)) (fun _ => rfl)) ss_nil) (fun _ => rfl)) (ss_cons (ss_for C.hK po C.calm (si_range1 (S.gl 0 rfl) (C.bs.free 7 _ rfl) (se_bin (k := .mod) C.hK (C.call 14 rfl (S.gl 1 rfl) (sa_cons (S.var 0 rfl rfl) (sa_cons (S.var 2 rfl rfl) sa_nil rfl) rfl) rfl) se_int) rfl) (S.tg 8 rfl rfl) (ss_cons (S.asg 9 rfl rfl (C.call 14 rfl (S.gl 1 rfl) (sa_cons (S.var 0 rfl rfl) (sa_cons (S.var 2 rfl rfl) sa_nil rfl) rfl) rfl) rfl) (ss_cons (S.asg 7 rfl rfl (se_idx C.hK (S.var 3 rfl rfl) (se_bin (k := .mod) C.hK (S.var 9 rfl rfl) (se_len C.hK (S.gl 2 rfl) (C.bs.free 0 _ rfl) (S.var 3 rfl rfl) rfl)) rfl) rfl) (ss_cons (ss_if (st_cmp (k := .ne) C.hK C.hu (se_idx C.hK (S.var 7 rfl rfl) se_int rfl) (se_lst false sa_nil) rfl) (ss_cons (S.asg 10 rfl rfl (se_idx C.hK (se_idx C.hK (se_idx C.hK (S.var 7 rfl rfl) se_int rfl) (se_bin (k := .mod) C.hK (se_bin (k := .fdiv) C.hK (S.var 9 rfl rfl) se_int) (se_len C.hK (S.gl 2 rfl) (C.bs.free 0 _ rfl) (se_idx C.hK (S.var 7 rfl rfl) se_int rfl) rfl)) rfl) se_int rfl) rfl) (ss_cons (ss_expr (se_append (S.var 6 rfl rfl) (se_tup (sa_cons (se_idx C.hK (se_lst false (sa_cons se_str (sa_cons se_str sa_nil rfl) rfl)) (se_bin (k := .mod) C.hK (se_bin (k := .fdiv) C.hK (S.var 9 rfl rfl) se_int) se_int) rfl) (sa_cons (se_idx C.hK (S.var 7 rfl rfl) se_int rfl) (sa_cons (S.var 10 rfl rfl) sa_nil rfl) rfl) rfl)) rfl rfl rfl) rfl) ss_nil)) ss_nil) ss_nil))) (fun _ => rfl)) (ss_cons (ss_ret (se_frz (se_tup (sa_cons (lcX false C S [("_law_family", 7)] [7] [7] ["tuple"] (si_it C.hK (S.var 3 rfl rfl)) (by decide +kernel) (by decide +kernel) rfl (fun Y C S => ⟨(S.tg 7 rfl rfl), sifs_nil, (se_tuple C.hK (S.gl 0 rfl) (C.bs.free 6 _ rfl) (S.var 7 rfl rfl) rfl)⟩) (fun _ => rfl)) (sa_cons (S.var 4 rfl rfl) (sa_cons (S.var 6 rfl rfl) sa_nil rfl) rfl) rfl)))) ss_nil))))))))
abbrev st24 : Stmt := top 35
theorem sc24 : FnScope N24 P24 (defScope st24) := ⟨rfl, rfl, rfl, by decide +kernel, rfl, by decide +kernel, by decide +kernel⟩
theorem w24 {T : Tb} {X : Cx} {W : WX} {n : Nat} {cal : Nat → Fun} (C : Cw T X W n fns cal csts frs) (S : Sw X (defScope st24) N24 V24 V24 G24) (po : PassesOwn (model X.prog X.w) X.A X.env X.xe) : SSs T X W (defBody st24) (b24 cal) :=
  (ss_cons (S.asg 1 rfl rfl (se_lst true sa_nil) rfl) (ss_cons (ss_for C.hK po C.calm (si_it C.hK (se_idx C.hK (S.var 0 rfl rfl) se_int rfl)) (S.tg 2 rfl rfl) (ss_cons (setLcX false C S 3 rfl (by decide +kernel) [("_law_step_here", 4)] [4] [4] ["list"] (si_it C.hK (se_idx C.hK (S.var 2 rfl rfl) se_int rfl)) (sw_true (by rw [S.es]; rfl) (by rw [S.es]; exact lclB_ok (by decide +kernel)) rfl (by decide +kernel)) (by decide +kernel) (by decide +kernel) rfl (fun Y C S => ⟨(S.tg 4 rfl rfl), sifs_nil, (se_add false C.hK (se_slice false C.hK (S.var 4 rfl rfl) sp_none (sp_some se_int)) (se_tup (sa_cons (se_list false C.hK (S.gl 0 rfl) (C.bs.free 5 _ rfl) (se_idx C.hK (S.var 4 rfl rfl) se_int rfl) rfl) (sa_cons (se_list false C.hK (S.gl 0 rfl) (C.bs.free 5 _ rfl) (se_idx C.hK (S.var 4 rfl rfl) se_int rfl) rfl) (sa_cons (se_idx C.hK (S.var 4 rfl rfl) se_int rfl) sa_nil rfl) rfl) rfl)))⟩) (fun _ => rfl)) (ss_cons (ss_expr (se_append (S.var 1 rfl rfl) (se_tup (sa_cons (se_idx C.hK (S.var 2 rfl rfl) se_int rfl) (sa_cons (se_idx C.hK (S.var 2 rfl rfl) se_int rfl) (sa_cons (se_list false C.hK (S.gl 0 rfl) (C.bs.free 5 _ rfl) (se_idx C.hK (S.var 2 rfl rfl) se_int rfl) rfl) (sa_cons (se_list false C.hK (S.gl 0 rfl) (C.bs.free 5 _ rfl) (se_idx C.hK (S.var 2 rfl rfl) se_int rfl) rfl) (sa_cons (se_list false C.hK (S.gl 0 rfl) (C.bs.free 5 _ rfl) (se_idx C.hK (S.var 2 rfl rfl) se_int rfl) rfl) (sa_cons (S.var 3 rfl rfl) sa_nil rfl) rfl) rfl) rfl) rfl) rfl)) rfl rfl rfl) rfl) ss_nil)) (fun _ => rfl)) (ss_cons (ss_ret (se_frz (se_tup (sa_cons (S.var 1 rfl rfl) (sa_cons (se_list false C.hK (S.gl 0 rfl) (C.bs.free 5 _ rfl) (se_idx C.hK (S.var 0 rfl rfl) se_int rfl) rfl) (sa_cons (se_list false C.hK (S.gl 0 rfl) (C.bs.free 5 _ rfl) (se_idx C.hK (S.var 0 rfl rfl) se_int rfl) rfl) sa_nil rfl) rfl) rfl)))) ss_nil)))
abbrev st25 : Stmt := top 36
theorem sc25 : FnScope N25 P25 (defScope st25) := ⟨rfl, rfl, rfl, by decide +kernel, rfl, by decide +kernel, by decide +kernel⟩
theorem w25 {T : Tb} {X : Cx} {W : WX} {n : Nat} {cal : Nat → Fun} (C : Cw T X W n fns cal csts frs) (S : Sw X (defScope st25) N25 V25 V25 G25) (po : PassesOwn (model X.prog X.w) X.A X.env X.xe) : SSs T X W (defBody st25) (b25 cal) :=
  (ss_cons (S.asg 1 rfl rfl (C.call 23 rfl (S.gl 4 rfl) (sa_cons (S.var 0 rfl rfl) (sa_cons (C.call 12 rfl (S.gl 3 rfl) (sa_cons (C.call 11 rfl (S.gl 2 rfl) (sa_cons (S.var 0 rfl rfl) (sa_cons se_int sa_nil rfl) rfl) rfl) (sa_cons se_int sa_nil rfl) rfl) rfl) sa_nil rfl) rfl) rfl) rfl) (ss_cons (S.asg 2 rfl rfl (C.call 24 rfl (S.gl 1 rfl) (sa_cons (S.var 1 rfl rfl) sa_nil rfl) rfl) rfl) (ss_cons (ss_ret (se_and (se_cmp (k := .isN) C.hK C.hu (C.call 10 rfl (S.gl 0 rfl) (sa_cons (S.var 2 rfl rfl) sa_nil rfl) rfl) se_none rfl) (se_and (se_cmp (k := .eq) C.hK C.hu (S.var 2 rfl rfl) (S.var 1 rfl rfl) rfl) (se_one (se_cmp (k := .isN) C.hK C.hu (C.call 10 rfl (S.gl 0 rfl) (sa_cons (S.var 2 rfl rfl) sa_nil rfl) rfl) se_none rfl))))) ss_nil)))
end K10
set_option Elab.async false
set_option linter.all false
set_option maxRecDepth 100000
set_option maxHeartbeats 0
namespace K10
open PySem PySem.Spec PyProof.Rows L2 DL
def d0 : He.DefD := ⟨("is_name", none), "is_name", "is_name", defArgs st0, defBody st0, defScope st0, [], []⟩
def d1 : He.DefD := ⟨("need", none), "need", "need", defArgs st1, defBody st1, defScope st1, [], []⟩
def d2 : He.DefD := ⟨("need_names", none), "need_names", "need_names", defArgs st2, defBody st2, defScope st2, [], []⟩
def d3 : He.DefD := ⟨("firsts", none), "firsts", "firsts", defArgs st3, defBody st3, defScope st3, [], []⟩
def d4 : He.DefD := ⟨("names_in", none), "names_in", "names_in", defArgs st4, defBody st4, defScope st4, [], []⟩
def d5 : He.DefD := ⟨("need_spoken", none), "need_spoken", "need_spoken", defArgs st5, defBody st5, defScope st5, [], []⟩
def d6 : He.DefD := ⟨("leads", none), "leads", "leads", defArgs st6, defBody st6, defScope st6, [], []⟩
def d7 : He.DefD := ⟨("check_take", none), "check_take", "check_take", defArgs st7, defBody st7, defScope st7, [], []⟩
def d8 : He.DefD := ⟨("check_step", none), "check_step", "check_step", defArgs st8, defBody st8, defScope st8, [], []⟩
def d9 : He.DefD := ⟨("check_family", none), "check_family", "check_family", defArgs st9, defBody st9, defScope st9, [], []⟩
def d10 : He.DefD := ⟨("check_plan", none), "check_plan", "check_plan", defArgs st10, defBody st10, defScope st10, [], []⟩
def d11 : He.DefD := ⟨("_law_at", none), "_law_at", "_law_at", defArgs st11, defBody st11, defScope st11, [], []⟩
def d12 : He.DefD := ⟨("_law_mix", none), "_law_mix", "_law_mix", defArgs st12, defBody st12, defScope st12, [], []⟩
def d13 : He.DefD := ⟨("_law_named", none), "_law_named", "_law_named", defArgs st13, defBody st13, defScope st13, [], []⟩
def d14 : He.DefD := ⟨("_law_next", none), "_law_next", "_law_next", defArgs st14, defBody st14, defScope st14, [], []⟩
def d15 : He.DefD := ⟨("_law_leaf", none), "_law_leaf", "_law_leaf", defArgs st15, defBody st15, defScope st15, [], []⟩
def d16 : He.DefD := ⟨("_law_small", none), "_law_small", "_law_small", defArgs st16, defBody st16, defScope st16, [], []⟩
def d17 : He.DefD := ⟨("_law_when", none), "_law_when", "_law_when", defArgs st17, defBody st17, defScope st17, [], []⟩
def d18 : He.DefD := ⟨("_law_cells", none), "_law_cells", "_law_cells", defArgs st18, defBody st18, defScope st18, [], []⟩
def d19 : He.DefD := ⟨("_law_first", none), "_law_first", "_law_first", defArgs st19, defBody st19, defScope st19, [], []⟩
def d20 : He.DefD := ⟨("_law_roads", none), "_law_roads", "_law_roads", defArgs st20, defBody st20, defScope st20, [], []⟩
def d21 : He.DefD := ⟨("_law_sends", none), "_law_sends", "_law_sends", defArgs st21, defBody st21, defScope st21, [], []⟩
def d22 : He.DefD := ⟨("_law_step", none), "_law_step", "_law_step", defArgs st22, defBody st22, defScope st22, [], []⟩
def d23 : He.DefD := ⟨("_law_plan", none), "_law_plan", "_law_plan", defArgs st23, defBody st23, defScope st23, [], []⟩
def d24 : He.DefD := ⟨("_law_copy", none), "_law_copy", "_law_copy", defArgs st24, defBody st24, defScope st24, [], []⟩
def d25 : He.DefD := ⟨("law", none), "law", "law", defArgs st25, defBody st25, defScope st25, [], []⟩
def fn : List He.DefD := [d0, d1, d2, d3, d4, d5, d6, d7, d8, d9, d10, d11, d12, d13, d14, d15, d16, d17, d18, d19, d20, d21, d22, d23, d24, d25]
def fa : List He.Fa := [He.Fa.glo "is_name", He.Fa.glo "need", He.Fa.glo "need_names", He.Fa.glo "firsts", He.Fa.glo "names_in", He.Fa.glo "need_spoken", He.Fa.glo "leads", He.Fa.glo "check_take", He.Fa.glo "check_step", He.Fa.glo "check_family", He.Fa.glo "check_plan", He.Fa.glo "_law_at", He.Fa.glo "_law_mix", He.Fa.glo "_law_named", He.Fa.glo "_law_next", He.Fa.glo "_law_leaf", He.Fa.glo "_law_small", He.Fa.glo "_law_when", He.Fa.glo "_law_cells", He.Fa.glo "_law_first", He.Fa.glo "_law_roads", He.Fa.glo "_law_sends", He.Fa.glo "_law_step", He.Fa.glo "_law_plan", He.Fa.glo "_law_copy", He.Fa.glo "law", He.Fa.free "len", He.Fa.free "max", He.Fa.free "min", He.Fa.free "sum", He.Fa.free "isinstance", He.Fa.free "list", He.Fa.free "tuple", He.Fa.free "range", He.Fa.free "enumerate", He.Fa.str "LETTERS" "abcdefghijklmnopqrstuvwxyz", He.Fa.int "LONGEST" 10, He.Fa.glo "NEVER", He.Fa.glo "KINDS", He.Fa.glo "WISHES", He.Fa.glo "WAYS"]
def ex (K : PySem.W.Frag) : Bool := He.tupB K "NEVER" [.str "or", .str "and", .str "not", .str "true"] && (He.tupB K "KINDS" [.str "row", .str "heap"] && (He.tupB K "WISHES" [.str "weak", .str "strong"] && (He.tupB K "WAYS" [.str "who", .str "all", .str "any"])))
abbrev R : PySem.W.OpenRow := PySem.W.OpenLaw.row PySem.Challenge.rw_roadsall_k10_plans_let_by
abbrev hk : PySem.W.Hook := hookX 5 fa fn ex
def ob (s : PySem.W.SharedT) : AlX := obsXG 5 fa fn ex (HandSHeadRun.getT s)
theorem ob_eq (s : PySem.W.SharedT) : ob s = hk.obs s.abs := obsXG_eq (HandSHeadRun.getT_eq s)
def names0 : List PySem.Str := ["RoadError", "NoPlan", "LETTERS", "LONGEST", "NEVER", "KINDS", "WISHES", "WAYS", "is_name", "need", "need_names", "firsts", "names_in", "need_spoken", "leads", "check_take", "check_step", "check_family", "check_plan", "_law_at", "_law_mix", "_law_named", "_law_next", "_law_leaf", "_law_small", "_law_when", "_law_cells", "_law_first", "_law_roads", "_law_sends"]
def names1 : List PySem.Str := ["_law_step", "_law_plan", "_law_copy"]
def names : List PySem.Str := names0 ++ names1
abbrev PR (w : World) : Prop := HandSHeadRun.RunEq R (PySem.W.view R.prog [36]) hk ob 4000 names w
theorem hrF (w : World) : PR (w.withFollow "special-get-raises" false) := by
  intro os
  kernel_rfl
theorem hrT (w : World) : PR (w.withFollow "special-get-raises" true) := by
  intro os
  kernel_rfl
theorem run (w : World) : PR w := PySem.W.byRow2 "special-get-raises" hrF hrT w
end K10
set_option Elab.async false
set_option linter.all false
set_option maxRecDepth 100000
set_option maxHeartbeats 0
namespace K10
open PySem PySem.Spec PyProof.Rows L2 DL
noncomputable def bod (cal : Nat → Fun) : Nat → Fun
  | 0 => runF N0.length (b0 cal)
  | 1 => runF N1.length (b1 cal)
  | 2 => runF N2.length (b2 cal)
  | 3 => runF N3.length (b3 cal)
  | 4 => runF N4.length (b4 cal)
  | 5 => runF N5.length (b5 cal)
  | 6 => runF N6.length (b6 cal)
  | 7 => runF N7.length (b7 cal)
  | 8 => runF N8.length (b8 cal)
  | 9 => runF N9.length (b9 cal)
  | 10 => runF N10.length (b10 cal)
  | 11 => runF N11.length (b11 cal)
  | 12 => runF N12.length (b12 cal)
  | 13 => runF N13.length (b13 cal)
  | 14 => runF N14.length (b14 cal)
  | 15 => runF N15.length (b15 cal)
  | 16 => runF N16.length (b16 cal)
  | 17 => runF N17.length (b17 cal)
  | 18 => runF N18.length (b18 cal)
  | 19 => runF N19.length (b19 cal)
  | 20 => runF N20.length (b20 cal)
  | 21 => runF N21.length (b21 cal)
  | 22 => runF N22.length (b22 cal)
  | 23 => runF N23.length (b23 cal)
  | 24 => runF N24.length (b24 cal)
  | 25 => runF N25.length (b25 cal)
  | _ => fun _ _ => .stuck
noncomputable def callF : Nat → Nat → Fun
  | 0 => fun _ _ _ => .stuck
  | n + 1 => bod (callF n)
abbrev TT (K : PySem.W.Frag) : Tb := ⟨K, fun _ => 0, fun _ => PySem.Str.ofString ""⟩
theorem sw0 : swC (defScope st0) N0 V0 V0 G0 = true := by decide +kernel
theorem sw1 : swC (defScope st1) N1 V1 V1 G1 = true := by decide +kernel
theorem sw2 : swC (defScope st2) N2 V2 V2 G2 = true := by decide +kernel
theorem sw3 : swC (defScope st3) N3 V3 V3 G3 = true := by decide +kernel
theorem sw4 : swC (defScope st4) N4 V4 V4 G4 = true := by decide +kernel
theorem sw5 : swC (defScope st5) N5 V5 V5 G5 = true := by decide +kernel
theorem sw6 : swC (defScope st6) N6 V6 V6 G6 = true := by decide +kernel
theorem sw7 : swC (defScope st7) N7 V7 V7 G7 = true := by decide +kernel
theorem sw8 : swC (defScope st8) N8 V8 V8 G8 = true := by decide +kernel
theorem sw9 : swC (defScope st9) N9 V9 V9 G9 = true := by decide +kernel
theorem sw10 : swC (defScope st10) N10 V10 V10 G10 = true := by decide +kernel
theorem sw11 : swC (defScope st11) N11 V11 V11 G11 = true := by decide +kernel
theorem sw12 : swC (defScope st12) N12 V12 V12 G12 = true := by decide +kernel
theorem sw13 : swC (defScope st13) N13 V13 V13 G13 = true := by decide +kernel
theorem sw14 : swC (defScope st14) N14 V14 V14 G14 = true := by decide +kernel
theorem sw15 : swC (defScope st15) N15 V15 V15 G15 = true := by decide +kernel
theorem sw16 : swC (defScope st16) N16 V16 V16 G16 = true := by decide +kernel
theorem sw17 : swC (defScope st17) N17 V17 V17 G17 = true := by decide +kernel
theorem sw18 : swC (defScope st18) N18 V18 V18 G18 = true := by decide +kernel
theorem sw19 : swC (defScope st19) N19 V19 V19 G19 = true := by decide +kernel
theorem sw20 : swC (defScope st20) N20 V20 V20 G20 = true := by decide +kernel
theorem sw21 : swC (defScope st21) N21 V21 V21 G21 = true := by decide +kernel
theorem sw22 : swC (defScope st22) N22 V22 V22 G22 = true := by decide +kernel
theorem sw23 : swC (defScope st23) N23 V23 V23 G23 = true := by decide +kernel
theorem sw24 : swC (defScope st24) N24 V24 V24 G24 = true := by decide +kernel
theorem sw25 : swC (defScope st25) N25 V25 V25 G25 = true := by decide +kernel
section
variable {K : PySem.W.Frag} {h : Heap} {mg : Str → Option Value}
abbrev Sta (K : PySem.W.Frag) (mg : Str → Option Value) (fid : Nat) (x : Str) (np : Nat) : Prop := ∃ fa fd ps, (∀ (P : Program) (w : World) (base : Heap) (n : Nat) (cal : Nat → Fun), Bs (TT K) P w K mg base n fns cal csts frs → FnOk P w K mg base (L2.CX P w) (n + 1) fa fd ps (spI (TT K) np (bod cal fid))) ∧
  mg x = some (.ref fa) ∧ PySem.W.keepIn K (.ref fa) = true ∧ Binds K fd ps [] ∧ (x == ("__debug__" : Str)) = false
theorem sta0 (X : K.In h) (G : h.Ns mainGlobals mg) (c : SaysX fa fn ex K) : Sta K mg 0 "is_name" 1 := by
  obtain ⟨fd, F⟩ := c.d.def_ 0 (d := d0) rfl
  exact ⟨_, fd, P0, fun P w base n cal B => fn_ok F sc0 rfl fun cdv A outer s H E hr => w0 ⟨B, hr, rfl, takes_of rfl rfl rfl rfl⟩ (sw_of sw0 rfl rfl fun _ => rfl) (passes_of rfl),
    He.glo_ok X G (c.d.fact 0 (f := .glo "is_name") rfl), F.kp, F.bindsN fun _ _ _ _ _ _ us hl => match us, hl with | [_], _ => rfl, by decide +kernel⟩
theorem sta1 (X : K.In h) (G : h.Ns mainGlobals mg) (c : SaysX fa fn ex K) : Sta K mg 1 "need" 1 := by
  obtain ⟨fd, F⟩ := c.d.def_ 1 (d := d1) rfl
  exact ⟨_, fd, P1, fun P w base n cal B => fn_ok F sc1 rfl fun cdv A outer s H E hr => w1 ⟨B, hr, rfl, takes_of rfl rfl rfl rfl⟩ (sw_of sw1 rfl rfl fun _ => rfl) (passes_of rfl),
    He.glo_ok X G (c.d.fact 1 (f := .glo "need") rfl), F.kp, F.bindsN fun _ _ _ _ _ _ us hl => match us, hl with | [_], _ => rfl, by decide +kernel⟩
theorem sta2 (X : K.In h) (G : h.Ns mainGlobals mg) (c : SaysX fa fn ex K) : Sta K mg 2 "need_names" 1 := by
  obtain ⟨fd, F⟩ := c.d.def_ 2 (d := d2) rfl
  exact ⟨_, fd, P2, fun P w base n cal B => fn_ok F sc2 rfl fun cdv A outer s H E hr => w2 ⟨B, hr, rfl, takes_of rfl rfl rfl rfl⟩ (sw_of sw2 rfl rfl fun _ => rfl) (passes_of rfl),
    He.glo_ok X G (c.d.fact 2 (f := .glo "need_names") rfl), F.kp, F.bindsN fun _ _ _ _ _ _ us hl => match us, hl with | [_], _ => rfl, by decide +kernel⟩
theorem sta3 (X : K.In h) (G : h.Ns mainGlobals mg) (c : SaysX fa fn ex K) : Sta K mg 3 "firsts" 1 := by
  obtain ⟨fd, F⟩ := c.d.def_ 3 (d := d3) rfl
  exact ⟨_, fd, P3, fun P w base n cal B => fn_ok F sc3 rfl fun cdv A outer s H E hr => w3 ⟨B, hr, rfl, takes_of rfl rfl rfl rfl⟩ (sw_of sw3 rfl rfl fun _ => rfl) (passes_of rfl),
    He.glo_ok X G (c.d.fact 3 (f := .glo "firsts") rfl), F.kp, F.bindsN fun _ _ _ _ _ _ us hl => match us, hl with | [_], _ => rfl, by decide +kernel⟩
theorem sta4 (X : K.In h) (G : h.Ns mainGlobals mg) (c : SaysX fa fn ex K) : Sta K mg 4 "names_in" 1 := by
  obtain ⟨fd, F⟩ := c.d.def_ 4 (d := d4) rfl
  exact ⟨_, fd, P4, fun P w base n cal B => fn_ok F sc4 rfl fun cdv A outer s H E hr => w4 ⟨B, hr, rfl, takes_of rfl rfl rfl rfl⟩ (sw_of sw4 rfl rfl fun _ => rfl) (passes_of rfl),
    He.glo_ok X G (c.d.fact 4 (f := .glo "names_in") rfl), F.kp, F.bindsN fun _ _ _ _ _ _ us hl => match us, hl with | [_], _ => rfl, by decide +kernel⟩
theorem sta5 (X : K.In h) (G : h.Ns mainGlobals mg) (c : SaysX fa fn ex K) : Sta K mg 5 "need_spoken" 2 := by
  obtain ⟨fd, F⟩ := c.d.def_ 5 (d := d5) rfl
  exact ⟨_, fd, P5, fun P w base n cal B => fn_ok F sc5 rfl fun cdv A outer s H E hr => w5 ⟨B, hr, rfl, takes_of rfl rfl rfl rfl⟩ (sw_of sw5 rfl rfl fun _ => rfl) (passes_of rfl),
    He.glo_ok X G (c.d.fact 5 (f := .glo "need_spoken") rfl), F.kp, F.bindsN fun _ _ _ _ _ _ us hl => match us, hl with | [_, _], _ => rfl, by decide +kernel⟩
theorem sta6 (X : K.In h) (G : h.Ns mainGlobals mg) (c : SaysX fa fn ex K) : Sta K mg 6 "leads" 3 := by
  obtain ⟨fd, F⟩ := c.d.def_ 6 (d := d6) rfl
  exact ⟨_, fd, P6, fun P w base n cal B => fn_ok F sc6 rfl fun cdv A outer s H E hr => w6 ⟨B, hr, rfl, takes_of rfl rfl rfl rfl⟩ (sw_of sw6 rfl rfl fun _ => rfl) (passes_of rfl),
    He.glo_ok X G (c.d.fact 6 (f := .glo "leads") rfl), F.kp, F.bindsN fun _ _ _ _ _ _ us hl => match us, hl with | [_, _, _], _ => rfl, by decide +kernel⟩
theorem sta7 (X : K.In h) (G : h.Ns mainGlobals mg) (c : SaysX fa fn ex K) : Sta K mg 7 "check_take" 3 := by
  obtain ⟨fd, F⟩ := c.d.def_ 7 (d := d7) rfl
  exact ⟨_, fd, P7, fun P w base n cal B => fn_ok F sc7 rfl fun cdv A outer s H E hr => w7 ⟨B, hr, rfl, takes_of rfl rfl rfl rfl⟩ (sw_of sw7 rfl rfl fun _ => rfl) (passes_of rfl),
    He.glo_ok X G (c.d.fact 7 (f := .glo "check_take") rfl), F.kp, F.bindsN fun _ _ _ _ _ _ us hl => match us, hl with | [_, _, _], _ => rfl, by decide +kernel⟩
theorem sta8 (X : K.In h) (G : h.Ns mainGlobals mg) (c : SaysX fa fn ex K) : Sta K mg 8 "check_step" 3 := by
  obtain ⟨fd, F⟩ := c.d.def_ 8 (d := d8) rfl
  exact ⟨_, fd, P8, fun P w base n cal B => fn_ok F sc8 rfl fun cdv A outer s H E hr => w8 ⟨B, hr, rfl, takes_of rfl rfl rfl rfl⟩ (sw_of sw8 rfl rfl fun _ => rfl) (passes_of rfl),
    He.glo_ok X G (c.d.fact 8 (f := .glo "check_step") rfl), F.kp, F.bindsN fun _ _ _ _ _ _ us hl => match us, hl with | [_, _, _], _ => rfl, by decide +kernel⟩
theorem sta9 (X : K.In h) (G : h.Ns mainGlobals mg) (c : SaysX fa fn ex K) : Sta K mg 9 "check_family" 2 := by
  obtain ⟨fd, F⟩ := c.d.def_ 9 (d := d9) rfl
  exact ⟨_, fd, P9, fun P w base n cal B => fn_ok F sc9 rfl fun cdv A outer s H E hr => w9 ⟨B, hr, rfl, takes_of rfl rfl rfl rfl⟩ (sw_of sw9 rfl rfl fun _ => rfl) (passes_of rfl),
    He.glo_ok X G (c.d.fact 9 (f := .glo "check_family") rfl), F.kp, F.bindsN fun _ _ _ _ _ _ us hl => match us, hl with | [_, _], _ => rfl, by decide +kernel⟩
theorem sta10 (X : K.In h) (G : h.Ns mainGlobals mg) (c : SaysX fa fn ex K) : Sta K mg 10 "check_plan" 1 := by
  obtain ⟨fd, F⟩ := c.d.def_ 10 (d := d10) rfl
  exact ⟨_, fd, P10, fun P w base n cal B => fn_ok F sc10 rfl fun cdv A outer s H E hr => w10 ⟨B, hr, rfl, takes_of rfl rfl rfl rfl⟩ (sw_of sw10 rfl rfl fun _ => rfl) (passes_of rfl),
    He.glo_ok X G (c.d.fact 10 (f := .glo "check_plan") rfl), F.kp, F.bindsN fun _ _ _ _ _ _ us hl => match us, hl with | [_], _ => rfl, by decide +kernel⟩
theorem sta11 (X : K.In h) (G : h.Ns mainGlobals mg) (c : SaysX fa fn ex K) : Sta K mg 11 "_law_at" 2 := by
  obtain ⟨fd, F⟩ := c.d.def_ 11 (d := d11) rfl
  exact ⟨_, fd, P11, fun P w base n cal B => fn_ok F sc11 rfl fun cdv A outer s H E hr => w11 ⟨B, hr, rfl, takes_of rfl rfl rfl rfl⟩ (sw_of sw11 rfl rfl fun _ => rfl) (passes_of rfl),
    He.glo_ok X G (c.d.fact 11 (f := .glo "_law_at") rfl), F.kp, F.bindsN fun _ _ _ _ _ _ us hl => match us, hl with | [_, _], _ => rfl, by decide +kernel⟩
theorem sta12 (X : K.In h) (G : h.Ns mainGlobals mg) (c : SaysX fa fn ex K) : Sta K mg 12 "_law_mix" 2 := by
  obtain ⟨fd, F⟩ := c.d.def_ 12 (d := d12) rfl
  exact ⟨_, fd, P12, fun P w base n cal B => fn_ok F sc12 rfl fun cdv A outer s H E hr => w12 ⟨B, hr, rfl, takes_of rfl rfl rfl rfl⟩ (sw_of sw12 rfl rfl fun _ => rfl) (passes_of rfl),
    He.glo_ok X G (c.d.fact 12 (f := .glo "_law_mix") rfl), F.kp, F.bindsN fun _ _ _ _ _ _ us hl => match us, hl with | [_, _], _ => rfl, by decide +kernel⟩
theorem sta13 (X : K.In h) (G : h.Ns mainGlobals mg) (c : SaysX fa fn ex K) : Sta K mg 13 "_law_named" 2 := by
  obtain ⟨fd, F⟩ := c.d.def_ 13 (d := d13) rfl
  exact ⟨_, fd, P13, fun P w base n cal B => fn_ok F sc13 rfl fun cdv A outer s H E hr => w13 ⟨B, hr, rfl, takes_of rfl rfl rfl rfl⟩ (sw_of sw13 rfl rfl fun _ => rfl) (passes_of rfl),
    He.glo_ok X G (c.d.fact 13 (f := .glo "_law_named") rfl), F.kp, F.bindsN fun _ _ _ _ _ _ us hl => match us, hl with | [_, _], _ => rfl, by decide +kernel⟩
theorem sta14 (X : K.In h) (G : h.Ns mainGlobals mg) (c : SaysX fa fn ex K) : Sta K mg 14 "_law_next" 2 := by
  obtain ⟨fd, F⟩ := c.d.def_ 14 (d := d14) rfl
  exact ⟨_, fd, P14, fun P w base n cal B => fn_ok F sc14 rfl fun cdv A outer s H E hr => w14 ⟨B, hr, rfl, takes_of rfl rfl rfl rfl⟩ (sw_of sw14 rfl rfl fun _ => rfl) (passes_of rfl),
    He.glo_ok X G (c.d.fact 14 (f := .glo "_law_next") rfl), F.kp, F.bindsN fun _ _ _ _ _ _ us hl => match us, hl with | [_, _], _ => rfl, by decide +kernel⟩
theorem sta15 (X : K.In h) (G : h.Ns mainGlobals mg) (c : SaysX fa fn ex K) : Sta K mg 15 "_law_leaf" 2 := by
  obtain ⟨fd, F⟩ := c.d.def_ 15 (d := d15) rfl
  exact ⟨_, fd, P15, fun P w base n cal B => fn_ok F sc15 rfl fun cdv A outer s H E hr => w15 ⟨B, hr, rfl, takes_of rfl rfl rfl rfl⟩ (sw_of sw15 rfl rfl fun _ => rfl) (passes_of rfl),
    He.glo_ok X G (c.d.fact 15 (f := .glo "_law_leaf") rfl), F.kp, F.bindsN fun _ _ _ _ _ _ us hl => match us, hl with | [_, _], _ => rfl, by decide +kernel⟩
theorem sta16 (X : K.In h) (G : h.Ns mainGlobals mg) (c : SaysX fa fn ex K) : Sta K mg 16 "_law_small" 3 := by
  obtain ⟨fd, F⟩ := c.d.def_ 16 (d := d16) rfl
  exact ⟨_, fd, P16, fun P w base n cal B => fn_ok F sc16 rfl fun cdv A outer s H E hr => w16 ⟨B, hr, rfl, takes_of rfl rfl rfl rfl⟩ (sw_of sw16 rfl rfl fun _ => rfl) (passes_of rfl),
    He.glo_ok X G (c.d.fact 16 (f := .glo "_law_small") rfl), F.kp, F.bindsN fun _ _ _ _ _ _ us hl => match us, hl with | [_, _, _], _ => rfl, by decide +kernel⟩
theorem sta17 (X : K.In h) (G : h.Ns mainGlobals mg) (c : SaysX fa fn ex K) : Sta K mg 17 "_law_when" 3 := by
  obtain ⟨fd, F⟩ := c.d.def_ 17 (d := d17) rfl
  exact ⟨_, fd, P17, fun P w base n cal B => fn_ok F sc17 rfl fun cdv A outer s H E hr => w17 ⟨B, hr, rfl, takes_of rfl rfl rfl rfl⟩ (sw_of sw17 rfl rfl fun _ => rfl) (passes_of rfl),
    He.glo_ok X G (c.d.fact 17 (f := .glo "_law_when") rfl), F.kp, F.bindsN fun _ _ _ _ _ _ us hl => match us, hl with | [_, _, _], _ => rfl, by decide +kernel⟩
theorem sta18 (X : K.In h) (G : h.Ns mainGlobals mg) (c : SaysX fa fn ex K) : Sta K mg 18 "_law_cells" 2 := by
  obtain ⟨fd, F⟩ := c.d.def_ 18 (d := d18) rfl
  exact ⟨_, fd, P18, fun P w base n cal B => fn_ok F sc18 rfl fun cdv A outer s H E hr => w18 ⟨B, hr, rfl, takes_of rfl rfl rfl rfl⟩ (sw_of sw18 rfl rfl fun _ => rfl) (passes_of rfl),
    He.glo_ok X G (c.d.fact 18 (f := .glo "_law_cells") rfl), F.kp, F.bindsN fun _ _ _ _ _ _ us hl => match us, hl with | [_, _], _ => rfl, by decide +kernel⟩
theorem sta19 (X : K.In h) (G : h.Ns mainGlobals mg) (c : SaysX fa fn ex K) : Sta K mg 19 "_law_first" 3 := by
  obtain ⟨fd, F⟩ := c.d.def_ 19 (d := d19) rfl
  exact ⟨_, fd, P19, fun P w base n cal B => fn_ok F sc19 rfl fun cdv A outer s H E hr => w19 ⟨B, hr, rfl, takes_of rfl rfl rfl rfl⟩ (sw_of sw19 rfl rfl fun _ => rfl) (passes_of rfl),
    He.glo_ok X G (c.d.fact 19 (f := .glo "_law_first") rfl), F.kp, F.bindsN fun _ _ _ _ _ _ us hl => match us, hl with | [_, _, _], _ => rfl, by decide +kernel⟩
theorem sta20 (X : K.In h) (G : h.Ns mainGlobals mg) (c : SaysX fa fn ex K) : Sta K mg 20 "_law_roads" 3 := by
  obtain ⟨fd, F⟩ := c.d.def_ 20 (d := d20) rfl
  exact ⟨_, fd, P20, fun P w base n cal B => fn_ok F sc20 rfl fun cdv A outer s H E hr => w20 ⟨B, hr, rfl, takes_of rfl rfl rfl rfl⟩ (sw_of sw20 rfl rfl fun _ => rfl) (passes_of rfl),
    He.glo_ok X G (c.d.fact 20 (f := .glo "_law_roads") rfl), F.kp, F.bindsN fun _ _ _ _ _ _ us hl => match us, hl with | [_, _, _], _ => rfl, by decide +kernel⟩
theorem sta21 (X : K.In h) (G : h.Ns mainGlobals mg) (c : SaysX fa fn ex K) : Sta K mg 21 "_law_sends" 5 := by
  obtain ⟨fd, F⟩ := c.d.def_ 21 (d := d21) rfl
  exact ⟨_, fd, P21, fun P w base n cal B => fn_ok F sc21 rfl fun cdv A outer s H E hr => w21 ⟨B, hr, rfl, takes_of rfl rfl rfl rfl⟩ (sw_of sw21 rfl rfl fun _ => rfl) (passes_of rfl),
    He.glo_ok X G (c.d.fact 21 (f := .glo "_law_sends") rfl), F.kp, F.bindsN fun _ _ _ _ _ _ us hl => match us, hl with | [_, _, _, _, _], _ => rfl, by decide +kernel⟩
theorem sta22 (X : K.In h) (G : h.Ns mainGlobals mg) (c : SaysX fa fn ex K) : Sta K mg 22 "_law_step" 5 := by
  obtain ⟨fd, F⟩ := c.d.def_ 22 (d := d22) rfl
  exact ⟨_, fd, P22, fun P w base n cal B => fn_ok F sc22 rfl fun cdv A outer s H E hr => w22 ⟨B, hr, rfl, takes_of rfl rfl rfl rfl⟩ (sw_of sw22 rfl rfl fun _ => rfl) (passes_of rfl),
    He.glo_ok X G (c.d.fact 22 (f := .glo "_law_step") rfl), F.kp, F.bindsN fun _ _ _ _ _ _ us hl => match us, hl with | [_, _, _, _, _], _ => rfl, by decide +kernel⟩
theorem sta23 (X : K.In h) (G : h.Ns mainGlobals mg) (c : SaysX fa fn ex K) : Sta K mg 23 "_law_plan" 2 := by
  obtain ⟨fd, F⟩ := c.d.def_ 23 (d := d23) rfl
  exact ⟨_, fd, P23, fun P w base n cal B => fn_ok F sc23 rfl fun cdv A outer s H E hr => w23 ⟨B, hr, rfl, takes_of rfl rfl rfl rfl⟩ (sw_of sw23 rfl rfl fun _ => rfl) (passes_of rfl),
    He.glo_ok X G (c.d.fact 23 (f := .glo "_law_plan") rfl), F.kp, F.bindsN fun _ _ _ _ _ _ us hl => match us, hl with | [_, _], _ => rfl, by decide +kernel⟩
theorem sta24 (X : K.In h) (G : h.Ns mainGlobals mg) (c : SaysX fa fn ex K) : Sta K mg 24 "_law_copy" 1 := by
  obtain ⟨fd, F⟩ := c.d.def_ 24 (d := d24) rfl
  exact ⟨_, fd, P24, fun P w base n cal B => fn_ok F sc24 rfl fun cdv A outer s H E hr => w24 ⟨B, hr, rfl, takes_of rfl rfl rfl rfl⟩ (sw_of sw24 rfl rfl fun _ => rfl) (passes_of rfl),
    He.glo_ok X G (c.d.fact 24 (f := .glo "_law_copy") rfl), F.kp, F.bindsN fun _ _ _ _ _ _ us hl => match us, hl with | [_], _ => rfl, by decide +kernel⟩
theorem sta25 (X : K.In h) (G : h.Ns mainGlobals mg) (c : SaysX fa fn ex K) : Sta K mg 25 "law" 1 := by
  obtain ⟨fd, F⟩ := c.d.def_ 25 (d := d25) rfl
  exact ⟨_, fd, P25, fun P w base n cal B => fn_ok F sc25 rfl fun cdv A outer s H E hr => w25 ⟨B, hr, rfl, takes_of rfl rfl rfl rfl⟩ (sw_of sw25 rfl rfl fun _ => rfl) (passes_of rfl),
    He.glo_ok X G (c.d.fact 25 (f := .glo "law") rfl), F.kp, F.bindsN fun _ _ _ _ _ _ us hl => match us, hl with | [_], _ => rfl, by decide +kernel⟩
theorem sta (X : K.In h) (G : h.Ns mainGlobals mg) (c : SaysX fa fn ex K) : ∀ (fid : Nat) (x : Str) (np : Nat), fns[fid]? = some (x, np) → Sta K mg fid x np
  | 0, x, np, h => by cases (show some (("is_name" : Str), 1) = some (x, np) from h); exact sta0 X G c
  | 1, x, np, h => by cases (show some (("need" : Str), 1) = some (x, np) from h); exact sta1 X G c
  | 2, x, np, h => by cases (show some (("need_names" : Str), 1) = some (x, np) from h); exact sta2 X G c
  | 3, x, np, h => by cases (show some (("firsts" : Str), 1) = some (x, np) from h); exact sta3 X G c
  | 4, x, np, h => by cases (show some (("names_in" : Str), 1) = some (x, np) from h); exact sta4 X G c
  | 5, x, np, h => by cases (show some (("need_spoken" : Str), 2) = some (x, np) from h); exact sta5 X G c
  | 6, x, np, h => by cases (show some (("leads" : Str), 3) = some (x, np) from h); exact sta6 X G c
  | 7, x, np, h => by cases (show some (("check_take" : Str), 3) = some (x, np) from h); exact sta7 X G c
  | 8, x, np, h => by cases (show some (("check_step" : Str), 3) = some (x, np) from h); exact sta8 X G c
  | 9, x, np, h => by cases (show some (("check_family" : Str), 2) = some (x, np) from h); exact sta9 X G c
  | 10, x, np, h => by cases (show some (("check_plan" : Str), 1) = some (x, np) from h); exact sta10 X G c
  | 11, x, np, h => by cases (show some (("_law_at" : Str), 2) = some (x, np) from h); exact sta11 X G c
  | 12, x, np, h => by cases (show some (("_law_mix" : Str), 2) = some (x, np) from h); exact sta12 X G c
  | 13, x, np, h => by cases (show some (("_law_named" : Str), 2) = some (x, np) from h); exact sta13 X G c
  | 14, x, np, h => by cases (show some (("_law_next" : Str), 2) = some (x, np) from h); exact sta14 X G c
  | 15, x, np, h => by cases (show some (("_law_leaf" : Str), 2) = some (x, np) from h); exact sta15 X G c
  | 16, x, np, h => by cases (show some (("_law_small" : Str), 3) = some (x, np) from h); exact sta16 X G c
  | 17, x, np, h => by cases (show some (("_law_when" : Str), 3) = some (x, np) from h); exact sta17 X G c
  | 18, x, np, h => by cases (show some (("_law_cells" : Str), 2) = some (x, np) from h); exact sta18 X G c
  | 19, x, np, h => by cases (show some (("_law_first" : Str), 3) = some (x, np) from h); exact sta19 X G c
  | 20, x, np, h => by cases (show some (("_law_roads" : Str), 3) = some (x, np) from h); exact sta20 X G c
  | 21, x, np, h => by cases (show some (("_law_sends" : Str), 5) = some (x, np) from h); exact sta21 X G c
  | 22, x, np, h => by cases (show some (("_law_step" : Str), 5) = some (x, np) from h); exact sta22 X G c
  | 23, x, np, h => by cases (show some (("_law_plan" : Str), 2) = some (x, np) from h); exact sta23 X G c
  | 24, x, np, h => by cases (show some (("_law_copy" : Str), 1) = some (x, np) from h); exact sta24 X G c
  | 25, x, np, h => by cases (show some (("law" : Str), 1) = some (x, np) from h); exact sta25 X G c
  | k + 26, x, np, h => by have h : (none : Option (Str × Nat)) = some (x, np) := h; cases h
theorem frees (X : K.In h) (G : h.Ns mainGlobals mg) (c : SaysX fa fn ex K) : ∀ (k : Nat) (x : Str), frs[k]? = some x → mg x = none
  | 0, x, h => by cases (show some ("len" : Str) = some x from h); exact He.free_ok X G (c.d.fact 26 (f := .free "len") rfl)
  | 1, x, h => by cases (show some ("max" : Str) = some x from h); exact He.free_ok X G (c.d.fact 27 (f := .free "max") rfl)
  | 2, x, h => by cases (show some ("min" : Str) = some x from h); exact He.free_ok X G (c.d.fact 28 (f := .free "min") rfl)
  | 3, x, h => by cases (show some ("sum" : Str) = some x from h); exact He.free_ok X G (c.d.fact 29 (f := .free "sum") rfl)
  | 4, x, h => by cases (show some ("isinstance" : Str) = some x from h); exact He.free_ok X G (c.d.fact 30 (f := .free "isinstance") rfl)
  | 5, x, h => by cases (show some ("list" : Str) = some x from h); exact He.free_ok X G (c.d.fact 31 (f := .free "list") rfl)
  | 6, x, h => by cases (show some ("tuple" : Str) = some x from h); exact He.free_ok X G (c.d.fact 32 (f := .free "tuple") rfl)
  | 7, x, h => by cases (show some ("range" : Str) = some x from h); exact He.free_ok X G (c.d.fact 33 (f := .free "range") rfl)
  | 8, x, h => by cases (show some ("enumerate" : Str) = some x from h); exact He.free_ok X G (c.d.fact 34 (f := .free "enumerate") rfl)
  | k + 9, x, h => by have h : (none : Option Str) = some x := h; cases h
theorem cons (X : K.In h) (G : h.Ns mainGlobals mg) (c : SaysX fa fn ex K) : ∀ (k : Nat) (x : Str) (d : DL.D), csts[k]? = some (x, d) → ∃ v u, mg x = some u ∧ RelV v u ∧ (∀ g, Rep (TT K) g d v) ∧ (x == ("__debug__" : Str)) = false
  | 0, x, d, h => by
    cases (show some (("LETTERS" : Str), c0) = some (x, d) from h)
    obtain ⟨t, e⟩ := He.str_ok X G (c.d.fact 35 (f := .str "LETTERS" "abcdefghijklmnopqrstuvwxyz") rfl)
    exact ⟨.str "abcdefghijklmnopqrstuvwxyz", _, e, ⟨t, rfl⟩, fun g => rep_cs, by decide +kernel⟩
  | 1, x, d, h => by
    cases (show some (("LONGEST" : Str), c1) = some (x, d) from h)
    obtain ⟨t, e⟩ := He.int_ok X G (c.d.fact 36 (f := .int "LONGEST" 10) rfl)
    exact ⟨.int 10, _, e, ⟨t, rfl⟩, fun g => .int _, by decide +kernel⟩
  | 2, x, d, h => by
    cases (show some (("NEVER" : Str), c2) = some (x, d) from h)
    have e := (He.ba c.x).1
    exact ⟨.ref (He.ga K "NEVER"), _, He.glo_ok X G (c.d.fact 37 (f := .glo "NEVER") rfl), rfl, fun g => .tup (He.tupB_ok e g.F) (.cons rep_cs (.cons rep_cs (.cons rep_cs (.cons rep_cs .nil)))), by decide +kernel⟩
  | 3, x, d, h => by
    cases (show some (("KINDS" : Str), c3) = some (x, d) from h)
    have e := (He.ba (He.ba c.x).2).1
    exact ⟨.ref (He.ga K "KINDS"), _, He.glo_ok X G (c.d.fact 38 (f := .glo "KINDS") rfl), rfl, fun g => .tup (He.tupB_ok e g.F) (.cons rep_cs (.cons rep_cs .nil)), by decide +kernel⟩
  | 4, x, d, h => by
    cases (show some (("WISHES" : Str), c4) = some (x, d) from h)
    have e := (He.ba (He.ba (He.ba c.x).2).2).1
    exact ⟨.ref (He.ga K "WISHES"), _, He.glo_ok X G (c.d.fact 39 (f := .glo "WISHES") rfl), rfl, fun g => .tup (He.tupB_ok e g.F) (.cons rep_cs (.cons rep_cs .nil)), by decide +kernel⟩
  | 5, x, d, h => by
    cases (show some (("WAYS" : Str), c5) = some (x, d) from h)
    have e := (He.ba (He.ba (He.ba c.x).2).2).2
    exact ⟨.ref (He.ga K "WAYS"), _, He.glo_ok X G (c.d.fact 40 (f := .glo "WAYS") rfl), rfl, fun g => .tup (He.tupB_ok e g.F) (.cons rep_cs (.cons rep_cs (.cons rep_cs .nil))), by decide +kernel⟩
  | k + 6, x, d, h => by have h : (none : Option (Str × DL.D)) = some (x, d) := h; cases h
theorem all_ok (X : K.In h) (G : h.Ns mainGlobals mg) (c : SaysX fa fn ex K) {P : Program} {w : World} {base : Heap} : ∀ n, Bs (TT K) P w K mg base n fns (callF n) csts frs
  | 0 => ⟨rfl, frees X G c, cons X G c, fun fid x np h => by
    obtain ⟨fa, fd, ps, _, h2, h3, h4, h5⟩ := sta X G c fid x np h
    exact ⟨fa, fd, ps, fn_zero, h2, h3, h4, h5⟩⟩
  | n + 1 => ⟨rfl, frees X G c, cons X G c, fun fid x np h => by
    obtain ⟨fa, fd, ps, h1, h2, h3, h4, h5⟩ := sta X G c fid x np h
    exact ⟨fa, fd, ps, h1 P w base n _ (all_ok X G c n), h2, h3, h4, h5⟩⟩
theorem law_at (X : K.In h) (G : h.Ns mainGlobals mg) (c : SaysX fa fn ex K) {f0 : Addr} (hmg : mg "law" = some (.ref f0)) : ∃ fd, (∀ (s : Shared) (u : Value), BindsTo s fd ⟨[u], []⟩ [("_law_script", u)]) ∧ ∀ (P : Program) (w : World) (base : Heap) (n : Nat), FnOk P w K mg base (L2.CX P w) (n + 1) f0 fd ["_law_script"] (spI (TT K) 1 (callF (n + 1) 25)) := by
  obtain ⟨fd, F⟩ := c.d.def_ 25 (d := d25) rfl
  have e := hmg.symm.trans (He.glo_ok X G (c.d.fact 25 (f := .glo "law") rfl))
  cases e
  have b := FunD.bindsA (ps := ["_law_script"]) F fun _ _ _ _ _ _ us hl => match us, hl with | [_], _ => rfl
  exact ⟨fd, fun s v => b s [v] rfl, fun P w base n => fn_ok F sc25 rfl fun cdv A outer s H E hr => w25 ⟨all_ok X G c n, hr, rfl, takes_of rfl rfl rfl rfl⟩ (sw_of sw25 rfl rfl fun _ => rfl) (passes_of rfl)⟩
end
/-- what is left: the plain law -/
def Plain (n : Nat) : Prop := ∀ ns : List Int, ns.length ≤ 63 → ∃ μ, callF (n + 1) 25 [.seq (ns.map DL.D.int)] [] = .ok (.bl true) μ
theorem done (n : Nat) (hr : Room (n + 1) callerA) (hp : Plain n) : PySem.Challenge.rw_roadsall_k10_plans_let_by.Holds := by
  w_on; o_law
  refine HandSHeadRun.head_any (r := PySem.W.OpenLaw.row PySem.Challenge.rw_roadsall_k10_plans_let_by) (q := PySem.W.view (PySem.W.OpenLaw.row PySem.Challenge.rw_roadsall_k10_plans_let_by).prog [36]) (H := hk) (ob := ob) (M := 4000) (loose := names) (d := HandSHeadRun.topDef (PySem.W.OpenLaw.row PySem.Challenge.rw_roadsall_k10_plans_let_by).prog 36) (kwd := []) ob_eq
    (by kernel_rfl) (fun s => by kernel_rfl) run (by kernel_rfl) (by kernel_rfl) (by kernel_rfl) (by rfl) (by first | assumption | decide +kernel) (by decide +kernel) ⟨rfl, rfl, rfl, rfl, rfl, by decide +kernel⟩ ?hw ?hc
  case hw => w_witness2
  case hc =>
    refine walk_dl (l := PySem.Challenge.rw_roadsall_k10_plans_let_by) (n := 63) (k := n + 1) (x := "_law_script") rfl (by decide) (by kernel_rfl) hr ?F
    intro w mg fa h Y G hmg0
    obtain ⟨K, KX, c⟩ := Y
    have hmg : mg ("law" : PySem.Str) = some (.ref fa) := by
      have e : (HandSHeadRun.topDef (PySem.W.OpenLaw.row PySem.Challenge.rw_roadsall_k10_plans_let_by).prog 36).name = ("law" : PySem.Str) := by kernel_rfl
      rw [← e]
      exact hmg0
    obtain ⟨fd, hb, hF⟩ := law_at KX G c hmg
    exact ⟨TT K, fd, callF (n + 1) 25, KX, hb, hp, fun base => hF _ w base n⟩
end K10
set_option Elab.async false
set_option linter.all false
set_option maxRecDepth 100000
set_option maxHeartbeats 4000000
namespace K10
open PySem PySem.Spec PyProof.Rows L2 DL
theorem c_lt {i j : Int} : cmpD .lt (.int i) (.int j) = some (decide (i < j)) := rfl
theorem c_le {i j : Int} : cmpD .le (.int i) (.int j) = some (decide (i ≤ j)) := rfl
theorem c_gt {i j : Int} : cmpD .gt (.int i) (.int j) = some (decide (j < i)) := rfl
theorem c_ge {i j : Int} : cmpD .ge (.int i) (.int j) = some (decide (j ≤ i)) := rfl
theorem c_nn : cmpD .notN .non .non = some false := rfl
theorem c_eqi {i j : Int} : cmpD .eq (.int i) (.int j) = some (decide (i = j)) := by
  show (if okD (.int i) && okD (.int j) then some (PyData.eqv (.int i) (.int j)) else none) = _
  have h : ∀ i : Int, okD (.int i) = true := fun i => rfl
  rw [h, h]
  simp only [PyData.eqv, Bool.and_self, if_true, Option.some.injEq]
  rw [Bool.eq_iff_iff]; simp
theorem runF_pure {n : Nat} {b : MS} {ds : List DL.D} {μ junk : List Cell} {d : DL.D} (h : runB n b ds μ = .ok d (μ ++ junk)) (hb : blw μ.length d = true) : DL.runF n b ds μ = .ok d μ := by
  unfold DL.runF truncO
  rw [h]
  dsimp only
  rw [if_pos ⟨hb, fun n c hn hc => .inl (by rwa [List.getElem?_append_left hn] at hc)⟩, List.take_left' rfl]
theorem runF_pure0 {n : Nat} {b : MS} {ds : List DL.D} {μ : List Cell} {d : DL.D} (h : runB n b ds μ = .ok d μ) (hb : blw μ.length d = true) : DL.runF n b ds μ = .ok d μ :=
  runF_pure (junk := []) (by rw [List.append_nil]; exact h) hb
/-- a loop by an invariant of what is behind it -/
theorem forL_inv {ds : List DL.D} {t : Tg} {f : MS} (I : List DL.D → Rho → Prop) {ρ : Rho} (h0 : I [] ρ)
    (hs : ∀ pre d post ρ, ds = pre ++ d :: post → I pre ρ → ∃ ρ1 ρ', t.go d ρ = some ρ1 ∧ (f ρ1 = .next ρ' ∨ f ρ1 = .cont ρ') ∧ I (pre ++ [d]) ρ') : ∃ ρ', forL ds t f ρ = .next ρ' ∧ I ds ρ' := by
  have key : ∀ (post pre : List DL.D) (ρ : Rho), ds = pre ++ post → I pre ρ → ∃ ρ', forL post t f ρ = .next ρ' ∧ I ds ρ' := by
    intro post
    induction post with
    | nil => intro pre ρ e hI; rw [List.append_nil] at e; subst e; exact ⟨ρ, rfl, hI⟩
    | cons d post ih =>
      intro pre ρ e hI
      obtain ⟨ρ1, ρ', h1, h2, h3⟩ := hs pre d post ρ e hI
      obtain ⟨ρ2, h4, h5⟩ := ih (pre ++ [d]) ρ' (by rw [e]; simp) h3
      refine ⟨ρ2, ?_, h5⟩
      unfold forL
      have e1 : (tgS t d).seq f ρ = f ρ1 := by unfold MS.seq tgS; rw [h1]; rfl
      rw [e1]
      rcases h2 with h2 | h2 <;> (rw [h2]; exact h4)
  exact key ds [] ρ rfl h0
/-! ### names -/
def NEVERS : List (List Nat) := [cs "or", cs "and", cs "not", cs "true"]
structure Nm (l : List Nat) : Prop where
  len : 1 ≤ l.length ∧ l.length ≤ 10
  let_ : ∀ c ∈ l, c ∈ cs "abcdefghijklmnopqrstuvwxyz"
  nev : ∀ w ∈ NEVERS, l ≠ w
theorem is_name_ok {n : Nat} {μ : List Cell} {l : List Nat} (h : Nm l) : callF (n + 1) 0 [.str l] μ = .ok (.bl true) μ := by
  show DL.runF 2 (b0 (callF n)) [.str l] μ = _
  refine runF_pure0 ?_ rfl
  obtain ⟨ρ', h1, h2⟩ := forL_inv (ds := l.map fun c => .str [c]) (t := .nm 1) (f := b0_l0 (callF n)) (fun _ ρ => ∃ z, ρ = ⟨[some (.str l), z], μ⟩) (ρ := ⟨[some (.str l), none], μ⟩) ⟨_, rfl⟩ (by
    rintro pre d post ρ e ⟨z, rfl⟩
    have hd : d ∈ l.map fun c => DL.D.str [c] := by rw [e]; simp
    obtain ⟨c, hc, rfl⟩ := List.mem_map.mp hd
    refine ⟨_, ⟨[some (.str l), some (.str [c])], μ⟩, rfl, .inl ?_, _, rfl⟩
    have hm := h.let_ c hc
    have hc : cmpD .notIn (.str [c]) (.str (cs "abcdefghijklmnopqrstuvwxyz")) = some false := by
      simp only [cmpD, decide_eq_true hm]; rfl
    simp [LIM, runB, startSl, MS.seq, SOut.bind, M.thn, Out.bindS, M.bind, Out.bind, M.pure, varM, setS, setSl, nextS, ifS, M.andM, M.tb, M.bl, cmpM, cmpP, peek, c_lt, c_le, c_gt, c_ge, c_nn, c_eqi, binM, binD, optM, lenM, pkM, lenD, flatD, iterM, itM, forQ, consM, tupM, capM, lstM, newL, idxM, idxD, callM, addM, addD, bin2M, mulD, mulS, sliceM, partM, isTupD, un1M, tupD, sumD, listM, meth1M, isLst, appendM, isCell, putC, setIxS, setIx, isNonD, minD, maxD, Tg.go, Tg.gos, tgS, enumM, range1M, range2M, M.frz, frzM, M.noX, Out.noX, chainM, stepM, b0_l0, c0, hc])
  obtain ⟨z, rfl⟩ := h2
  have hl : ¬ ((l.length : Int) < 1) := by have := h.len.1; omega
  have hl2 : ¬ ((10 : Int) < l.length) := by have := h.len.2; omega
  have hL : l.length ≤ LIM := by have := h.len.2; have : 10 ≤ LIM := by decide
                                 omega
  have hnv : (pyOfs [.str (cs "or"), .str (cs "and"), .str (cs "not"), .str (cs "true")]).any (fun z => PyData.eqv z (pyOf (.str l))) = false := by
    have hs : ∀ w : List Nat, w ∈ NEVERS → (S w == S l) = false := fun w hw => by
      have := h.nev w hw
      simp only [beq_eq_false_iff_ne, ne_eq]
      intro q
      apply this
      have := congrArg (fun s : Str => s.cps.toList) q
      simpa using this.symm
    have h1 := hs _ (by simp [NEVERS] : cs "or" ∈ NEVERS)
    have h2 := hs _ (by simp [NEVERS] : cs "and" ∈ NEVERS)
    have h3 := hs _ (by simp [NEVERS] : cs "not" ∈ NEVERS)
    have h4 := hs _ (by simp [NEVERS] : cs "true" ∈ NEVERS)
    simp only [pyOfs, pyOf, List.any_cons, List.any_nil, PyData.eqv, h1, h2, h3, h4, Bool.or_false]
  have hc : cmpD .isIn (.str l) (.tup [.str (cs "or"), .str (cs "and"), .str (cs "not"), .str (cs "true")]) = some false := by
    have : cmpD .isIn (.str l) (.tup [.str (cs "or"), .str (cs "and"), .str (cs "not"), .str (cs "true")]) = if flatD (.str l) && [DL.D.str (cs "or"), .str (cs "and"), .str (cs "not"), .str (cs "true")].all flatD then some ((pyOfs [.str (cs "or"), .str (cs "and"), .str (cs "not"), .str (cs "true")]).any fun z => PyData.eqv z (pyOf (.str l))) else none := by
      cases l with
      | nil => rfl
      | cons c l => cases l <;> rfl
    rw [this, hnv]; rfl
  simp [LIM, runB, startSl, MS.seq, SOut.bind, M.thn, Out.bindS, M.bind, Out.bind, M.pure, varM, setS, setSl, nextS, ifS, M.andM, M.tb, M.bl, cmpM, cmpP, peek, c_lt, c_le, c_gt, c_ge, c_nn, c_eqi, binM, binD, optM, lenM, pkM, lenD, flatD, iterM, itM, forQ, consM, tupM, capM, lstM, newL, idxM, idxD, callM, addM, addD, bin2M, mulD, mulS, sliceM, partM, isTupD, un1M, tupD, sumD, listM, meth1M, isLst, appendM, isCell, putC, setIxS, setIx, isNonD, minD, maxD, Tg.go, Tg.gos, tgS, enumM, range1M, range2M, M.frz, frzM, M.noX, Out.noX, chainM, stepM, b0, c1, c2, hL, hl, hl2, hc, h1]

/-! ### texts in lists -/
def Okl (l : List Nat) : Prop := ∀ c ∈ l, c < 1114112
theorem S_inj {a b : List Nat} : (S a == S b) = decide (a = b) := by
  rw [Bool.eq_iff_iff]
  simp only [beq_iff_eq, decide_eq_true_eq]
  constructor
  · intro q
    have := congrArg (fun s : Str => s.cps.toList) q
    simpa using this
  · intro q; rw [q]
theorem pyOfs_map {α : Type} (f : α → DL.D) : ∀ xs : List α, pyOfs (xs.map f) = xs.map fun x => pyOf (f x)
  | [] => rfl
  | x :: xs => by rw [List.map_cons, pyOfs, pyOfs_map f xs, List.map_cons]
theorem plainDs_iff : ∀ ds : List DL.D, plainDs ds = ds.all plainD
  | [] => rfl
  | d :: ds => by rw [plainDs, plainDs_iff ds, List.all_cons]
theorem strOk_of {l : List Nat} (h : Okl l) : PyData.strOk (S l) = true := by
  unfold PyData.strOk
  rw [Array.all_eq_true]
  intro i hi
  have : (S l).cps[i] ∈ l := by
    show l.toArray[i] ∈ l
    simp
  simpa using h _ this
theorem okD_str {l : List Nat} (h : Okl l) : okD (.str l) = true := by
  unfold okD SeqAt.shaped
  simp [plainD, pyOf, PyData.canLay0, strOk_of h, PyData.depth]
theorem canLayAll_map {α : Type} (f : α → PyData) : ∀ xs : List α, (∀ x ∈ xs, (f x).canLay0 = true) → PyData.canLayAll0 (xs.map f) = true
  | [], _ => rfl
  | x :: xs, h => by rw [List.map_cons, PyData.canLayAll0, h x (by simp), canLayAll_map f xs fun y hy => h y (by simp [hy])]; rfl
theorem depthAll_map {α : Type} (f : α → PyData) (k : Nat) : ∀ xs : List α, (∀ x ∈ xs, (f x).depth ≤ k) → PyData.depthAll (xs.map f) ≤ k
  | [], _ => Nat.zero_le _
  | x :: xs, h => by rw [List.map_cons, PyData.depthAll]; have h1 := h x (by simp); have h2 := depthAll_map f k xs fun y hy => h y (by simp [hy]); omega
/-- plain data of a small depth -/
structure Ok (k : Nat) (d : DL.D) : Prop where
  pl : plainD d = true
  lay : (pyOf d).canLay0 = true
  dep : (pyOf d).depth ≤ k
theorem Ok.okD {k : Nat} {d : DL.D} (h : Ok k d) (hk : k ≤ 64) : okD d = true := by
  unfold DL.okD SeqAt.shaped
  rw [h.pl, h.lay, decide_eq_true (Nat.le_trans h.dep hk)]; rfl
theorem Ok.mono {j k : Nat} {d : DL.D} (h : Ok j d) (hk : j ≤ k) : Ok k d := ⟨h.pl, h.lay, Nat.le_trans h.dep hk⟩
theorem ok_str {k : Nat} {l : List Nat} (h : Okl l) : Ok k (.str l) := ⟨rfl, by simp [pyOf, PyData.canLay0, strOk_of h], by simp [pyOf, PyData.depth]⟩
theorem ok_int {k : Nat} {i : Int} : Ok k (.int i) := ⟨rfl, rfl, by simp [pyOf, PyData.depth]⟩
theorem ok_bl {k : Nat} {i : Bool} : Ok k (.bl i) := ⟨rfl, rfl, by simp [pyOf, PyData.depth]⟩
theorem ok_non {k : Nat} : Ok k .non := ⟨rfl, rfl, by simp [pyOf, PyData.depth]⟩
theorem pyOfs_all {P : PyData → Prop} : ∀ ds : List DL.D, (∀ d ∈ ds, P (pyOf d)) → ∀ x ∈ pyOfs ds, P x
  | [], _, x, hx => by simp [pyOfs] at hx
  | d :: ds, h, x, hx => by
    rw [pyOfs, List.mem_cons] at hx
    rcases hx with rfl | hx
    · exact h d (by simp)
    · exact pyOfs_all ds (fun y hy => h y (by simp [hy])) x hx
theorem ok_lst {k : Nat} {ds : List DL.D} (h : ∀ d ∈ ds, Ok k d) : Ok (k + 1) (.lst ds) := by
  refine ⟨by rw [plainD, plainDs_iff, List.all_eq_true]; exact fun d hd => (h d hd).pl, ?_, ?_⟩
  · rw [pyOf, PyData.canLay0]
    have := canLayAll_map id (pyOfs ds) (pyOfs_all ds fun d hd => (h d hd).lay)
    simpa using this
  · rw [pyOf, PyData.depth]
    have := depthAll_map id k (pyOfs ds) (pyOfs_all ds fun d hd => (h d hd).dep)
    simp only [List.map_id_fun, id] at this
    omega
theorem ok_tup {k : Nat} {ds : List DL.D} (h : ∀ d ∈ ds, Ok k d) : Ok (k + 1) (.tup ds) := by
  refine ⟨by rw [plainD, plainDs_iff, List.all_eq_true]; exact fun d hd => (h d hd).pl, ?_, ?_⟩
  · rw [pyOf, PyData.canLay0]
    have := canLayAll_map id (pyOfs ds) (pyOfs_all ds fun d hd => (h d hd).lay)
    simpa using this
  · rw [pyOf, PyData.depth]
    have := depthAll_map id k (pyOfs ds) (pyOfs_all ds fun d hd => (h d hd).dep)
    simp only [List.map_id_fun, id] at this
    omega
mutual
theorem blw_plain (k : Nat) : ∀ {d : DL.D}, plainD d = true → blw k d = true
  | .non, _ => rfl
  | .bl _, _ => rfl
  | .int _, _ => rfl
  | .str _, _ => rfl
  | .tup ds, h => by rw [blw]; rw [plainD] at h; exact blws_plain k h
  | .lst ds, h => by rw [blw]; rw [plainD] at h; exact blws_plain k h
  | .dic _, h => by simp [plainD] at h
  | .obj _ _, h => by simp [plainD] at h
  | .ref _, h => by simp [plainD] at h
  | .seq _, h => by simp [plainD] at h
theorem blws_plain (k : Nat) : ∀ {ds : List DL.D}, plainDs ds = true → blws k ds = true
  | [], _ => rfl
  | d :: ds, h => by
    rw [plainDs, Bool.and_eq_true] at h
    rw [blws, blw_plain k h.1, blws_plain k h.2]; rfl
end
theorem Ok.blw {k j : Nat} {d : DL.D} (h : Ok k d) : blw j d = true := blw_plain j h.pl
def tx (ls : List (List Nat)) : List DL.D := ls.map DL.D.str
theorem ok_strs {k : Nat} {ls : List (List Nat)} (h : ∀ l ∈ ls, Okl l) : Ok (k + 1) (.lst (tx ls)) := ok_lst fun d hd => by
  obtain ⟨l, hl, rfl⟩ := List.mem_map.mp hd
  exact ok_str (h l hl)
theorem eqv_str (a l : List Nat) : PyData.eqv (pyOf (.str a)) (pyOf (.str l)) = decide (a = l) := by
  simp only [pyOf, PyData.eqv]
  exact S_inj
theorem any_str (ls : List (List Nat)) (l : List Nat) : (pyOfs (tx ls)).any (fun z => PyData.eqv z (pyOf (.str l))) = decide (l ∈ ls) := by
  unfold tx
  rw [pyOfs_map]
  induction ls with
  | nil => rfl
  | cons a ls ih =>
    rw [List.map_cons, List.any_cons, ih, eqv_str]
    by_cases h : a = l
    · subst h
      rw [decide_eq_true rfl, decide_eq_true List.mem_cons_self]; rfl
    · have h2 : l ≠ a := fun q => h q.symm
      rw [decide_eq_false h, Bool.false_or]
      by_cases h3 : l ∈ ls
      · rw [decide_eq_true h3, decide_eq_true (List.mem_cons_of_mem _ h3)]
      · rw [decide_eq_false h3, decide_eq_false (fun q => (List.mem_cons.mp q).elim h2 h3)]
theorem in_strs {ls : List (List Nat)} {l : List Nat} (h : Okl l) (h2 : ∀ l ∈ ls, Okl l) : cmpD .isIn (.str l) (.lst (tx ls)) = some (decide (l ∈ ls)) := by
  have h1 := okD_str h
  have h3 := (ok_strs (k := 0) h2).okD (by decide)
  have : cmpD .isIn (.str l) (.lst (tx ls)) = if okD (.str l) && okD (.lst (tx ls)) then some ((pyOfs (tx ls)).any fun z => PyData.eqv z (pyOf (.str l))) else none := by
    cases l with
    | nil => rfl
    | cons c l => cases l <;> rfl
  rw [this, h1, h3, any_str]; rfl
theorem notin_strs {ls : List (List Nat)} {l : List Nat} (h : Okl l) (h2 : ∀ l ∈ ls, Okl l) : cmpD .notIn (.str l) (.lst (tx ls)) = some (!decide (l ∈ ls)) := by
  have h1 := okD_str h
  have h3 := (ok_strs (k := 0) h2).okD (by decide)
  have : cmpD .notIn (.str l) (.lst (tx ls)) = if okD (.str l) && okD (.lst (tx ls)) then some (!(pyOfs (tx ls)).any fun z => PyData.eqv z (pyOf (.str l))) else none := by
    cases l with
    | nil => rfl
    | cons c l => cases l <;> rfl
  rw [this, h1, h3, any_str]; rfl
theorem eq_str {l m : List Nat} (h : Okl l) (h2 : Okl m) : cmpD .eq (.str l) (.str m) = some (decide (l = m)) := by
  rw [cmpD, okD_str h, okD_str h2]
  simp only [pyOf, PyData.eqv, Bool.and_self, if_true]
  rw [S_inj]
theorem Nm.okl {l : List Nat} (h : Nm l) : Okl l := fun c hc => by
  have h1 := h.let_ c hc
  have h2 : ∀ c ∈ cs "abcdefghijklmnopqrstuvwxyz", c < 1114112 := by decide +kernel
  exact h2 c h1
/-! ### the checks' small functions -/
theorem need_ok {n : Nat} {μ : List Cell} : callF (n + 1) 1 [.bl true] μ = .ok .non μ := by
  show DL.runF 1 (b1 (callF n)) [.bl true] μ = _
  refine runF_pure0 ?_ rfl
  simp [LIM, runB, startSl, MS.seq, SOut.bind, M.thn, Out.bindS, M.bind, Out.bind, M.pure, varM, setS, setSl, nextS, ifS, M.andM, M.tb, M.bl, cmpM, cmpP, peek, c_lt, c_le, c_gt, c_ge, c_nn, c_eqi, binM, binD, optM, lenM, pkM, lenD, flatD, iterM, itM, forQ, consM, tupM, capM, lstM, newL, idxM, idxD, callM, addM, addD, bin2M, mulD, mulS, sliceM, partM, isTupD, un1M, tupD, sumD, listM, meth1M, isLst, appendM, isCell, putC, setIxS, setIx, isNonD, minD, maxD, Tg.go, Tg.gos, tgS, enumM, range1M, range2M, M.frz, frzM, M.noX, Out.noX, chainM, stepM, b1]
/-- a comprehension that only reads -/
theorem lcL_map {sw : List (Option DL.D)} {t : Tg} {te : M DL.D} {fin : List DL.D → M DL.D} {μ : List Cell} {f : DL.D → DL.D} : ∀ (ds acc : List DL.D) (sl : List (Option DL.D)), acc.length + ds.length ≤ LIM →
    (∀ d ∈ ds, ∃ ρ2 sl3, t.go d ⟨sw, μ⟩ = some ρ2 ∧ te ρ2 = .ok (f d) ⟨sl3, μ⟩) → ∃ sl', lcL sw t (M.pure true) te fin ds acc ⟨sl, μ⟩ = fin (acc ++ ds.map f) ⟨sl', μ⟩
  | [], acc, sl, _, _ => ⟨sl, by rw [List.map_nil, List.append_nil]; rfl⟩
  | d :: ds, acc, sl, hl, h => by
    obtain ⟨ρ2, sl3, h1, h2⟩ := h d (by simp)
    rw [List.length_cons] at hl
    obtain ⟨sl', h3⟩ := lcL_map (sw := sw) (t := t) (te := te) (fin := fin) (μ := μ) (f := f) ds (acc ++ [f d]) sl3 (by rw [List.length_append]; simp; omega) fun e he => h e (by simp [he])
    refine ⟨sl', ?_⟩
    have hlt : acc.length < LIM := by omega
    simp only [lcL, turnM, h1]
    simp only [M.noX, M.pure, M.bind, Out.noX, Out.bind, if_true, h2, hlt, h3, List.map_cons, List.append_assoc, List.singleton_append]
theorem lcM_map {c : Bool} {vs : List Nat} {t : Tg} {k : M Sq} {te : M DL.D} {ρ ρ1 : Rho} {ds : List DL.D} (f : DL.D → DL.D) (hk : k ρ = .ok (.fro ds) ρ1) (hl : ds.length ≤ LIM)
    (h : ∀ d ∈ ds, ∃ ρ2 sl3, t.go d ⟨wipeL ρ1.sl vs, ρ1.st⟩ = some ρ2 ∧ te ρ2 = .ok (f d) ⟨sl3, ρ1.st⟩) : lcM c vs t k (M.pure true) te ρ = newL c (ds.map f) ρ1 := by
  unfold lcM M.bind
  rw [hk]
  obtain ⟨sl', e⟩ := lcL_map (sw := wipeL ρ1.sl vs) (t := t) (te := te) (fin := finM c ρ1.sl) (μ := ρ1.st) (f := f) ds [] ρ1.sl (by simpa using hl) h
  show lcL _ t (M.pure true) te _ ds [] ⟨ρ1.sl, ρ1.st⟩ = _
  rw [e]; rfl
theorem atI_0 {α : Type} {x : α} {xs : List α} : atI (x :: xs) 0 = some x := by
  unfold atI ixN; simp
theorem firsts_ok {n : Nat} {μ : List Cell} {α : Type} (f : α → DL.D) (g : α → List DL.D) (xs : List α) (hl : xs.length ≤ LIM) (hb : ∀ x ∈ xs, blw μ.length (f x) = true) : callF (n + 1) 3 [.lst (xs.map fun x => .tup (f x :: g x))] μ = .ok (.lst (xs.map f)) μ := by
  show DL.runF 2 (b3 (callF n)) _ μ = _
  have hb2 : blw μ.length (.lst (xs.map f)) = true := by
    rw [blw]
    clear hl
    induction xs with
    | nil => rfl
    | cons x xs ih => rw [List.map_cons, blws, hb x (by simp), ih fun y hy => hb y (by simp [hy])]; rfl
  refine runF_pure0 ?_ hb2
  have e : b3_c1 (callF n) ⟨[some (.lst (xs.map fun x => .tup (f x :: g x))), none], μ⟩ = _ := lcM_map (c := false) (vs := [1]) (t := .nm 1) (k := iterM (varM 0)) (te := b3_e0 (callF n)) (ρ1 := ⟨[some (.lst (xs.map fun x => .tup (f x :: g x))), none], μ⟩) (fun d => match d with | .tup (x :: _) => x | d => d) rfl (by simpa using hl) (fun d hd => by
    obtain ⟨x, hx, rfl⟩ := List.mem_map.mp hd
    refine ⟨_, [none, some (.tup (f x :: g x))].set 0 (some (.lst (xs.map fun x => .tup (f x :: g x)))), rfl, ?_⟩
    simp [LIM, runB, startSl, MS.seq, SOut.bind, M.thn, Out.bindS, M.bind, Out.bind, M.pure, varM, setS, setSl, nextS, ifS, M.andM, M.tb, M.bl, cmpM, cmpP, peek, c_lt, c_le, c_gt, c_ge, c_nn, c_eqi, binM, binD, optM, lenM, pkM, lenD, flatD, iterM, itM, forQ, consM, tupM, capM, lstM, newL, idxM, idxD, callM, addM, addD, bin2M, mulD, mulS, sliceM, partM, isTupD, un1M, tupD, sumD, listM, meth1M, isLst, appendM, isCell, putC, setIxS, setIx, isNonD, minD, maxD, Tg.go, Tg.gos, tgS, enumM, range1M, range2M, M.frz, frzM, M.noX, Out.noX, chainM, stepM, b3_e0, wipeL, atI_0])
  have e2 : (xs.map fun x => DL.D.tup (f x :: g x)).map (fun d => match d with | .tup (x :: _) => x | d => d) = xs.map f := by
    rw [List.map_map]; rfl
  rw [e2] at e
  simp [LIM, runB, startSl, MS.seq, SOut.bind, M.thn, Out.bindS, M.bind, Out.bind, M.pure, varM, setS, setSl, nextS, ifS, M.andM, M.tb, M.bl, cmpM, cmpP, peek, c_lt, c_le, c_gt, c_ge, c_nn, c_eqi, binM, binD, optM, lenM, pkM, lenD, flatD, iterM, itM, forQ, consM, tupM, capM, lstM, newL, idxM, idxD, callM, addM, addD, bin2M, mulD, mulS, sliceM, partM, isTupD, un1M, tupD, sumD, listM, meth1M, isLst, appendM, isCell, putC, setIxS, setIx, isNonD, minD, maxD, Tg.go, Tg.gos, tgS, enumM, range1M, range2M, M.frz, frzM, M.noX, Out.noX, chainM, stepM, b3, e]
end K10
set_option Elab.async false
set_option linter.all false
set_option maxRecDepth 100000
set_option maxHeartbeats 4000000
namespace K10
open PySem PySem.Spec PyProof.Rows L2 DL
theorem cut_take {α : Type} (xs : List α) (k : Nat) (h : k ≤ xs.length) : cutL xs none (some (k : Int)) = xs.take k := by
  unfold cutL HT.sIx
  have h1 : ¬ ((k : Int) < 0) := by omega
  simp [h1]
theorem cut_drop1 {α : Type} (x : α) (xs : List α) : cutL (x :: xs) (some 1) none = xs := by
  unfold cutL HT.sIx
  simp
theorem need_names_ok {n : Nat} {μ : List Cell} (ls : List (List Nat)) (h : ∀ l ∈ ls, Nm l) (nd : ls.Nodup) : callF (n + 2) 2 [.lst (tx ls)] μ = .ok .non μ := by
  show DL.runF 3 (b2 (callF (n + 1))) [.lst (tx ls)] μ = _
  refine runF_pure0 ?_ rfl
  obtain ⟨ρ', h1, z, w, rfl⟩ := forL_inv (ds := enumD (tx ls)) (t := .tp [.nm 1, .nm 2]) (f := b2_l0 (callF (n + 1))) (fun _ ρ => ∃ z w, ρ = ⟨[some (.lst (tx ls)), z, w], μ⟩) (ρ := ⟨[some (.lst (tx ls)), none, none], μ⟩) ⟨_, _, rfl⟩ (by
    rintro pre d post ρ e ⟨z, w, rfl⟩
    have hg : (enumD (tx ls))[pre.length]? = some d := by rw [e]; simp
    unfold enumD at hg
    unfold tx at hg
    rw [List.getElem?_mapIdx, List.getElem?_map] at hg
    cases q : ls[pre.length]? with
    | none => rw [q] at hg; cases hg
    | some l =>
      rw [q] at hg
      cases hg
      have hlt := (List.getElem?_eq_some_iff.mp q).1
      have hm : l ∈ ls := List.mem_of_getElem? q
      have hnot : l ∉ ls.take pre.length := fun hin => by
        obtain ⟨j, hj, ej⟩ := List.getElem_of_mem hin
        rw [List.length_take] at hj
        have e2 : ls[j]? = some l := by
          rw [List.getElem_take] at ej
          rw [List.getElem?_eq_getElem (by omega), ej]
        have := (List.getElem?_inj (i := j) (j := pre.length) (by omega) nd).mp (e2.trans q.symm)
        omega
      have e3 : cutL (tx ls) none (some (pre.length : Int)) = tx (ls.take pre.length) := by
        rw [cut_take _ _ (by simp [tx]; omega)]
        exact (List.map_take).symm
      have e4 := notin_strs (h l hm).okl (ls := ls.take pre.length) fun l hl => (h l (List.mem_of_mem_take hl)).okl
      rw [decide_eq_false hnot] at e4
      have e5 := is_name_ok (n := n) (μ := μ) (h l hm)
      have e6 := need_ok (n := n) (μ := μ)
      refine ⟨⟨[some (.lst (tx ls)), some (.int (pre.length : Nat)), some (.str l)], μ⟩, ⟨[some (.lst (tx ls)), some (.int (pre.length : Nat)), some (.str l)], μ⟩, rfl, .inl ?_, _, _, rfl⟩
      simp [LIM, runB, startSl, MS.seq, SOut.bind, M.thn, Out.bindS, M.bind, Out.bind, M.pure, varM, setS, setSl, nextS, ifS, M.andM, M.tb, M.bl, cmpM, cmpP, peek, c_lt, c_le, c_gt, c_ge, c_nn, c_eqi, binM, binD, optM, lenM, pkM, lenD, flatD, iterM, itM, forQ, consM, tupM, capM, lstM, newL, idxM, idxD, callM, addM, addD, bin2M, mulD, mulS, sliceM, partM, isTupD, un1M, tupD, sumD, listM, meth1M, isLst, appendM, isCell, putC, setIxS, setIx, isNonD, minD, maxD, Tg.go, Tg.gos, tgS, enumM, range1M, range2M, M.frz, frzM, M.noX, Out.noX, chainM, stepM, b2_l0, e5, e6, e3, e4])
  simp [LIM, runB, startSl, MS.seq, SOut.bind, M.thn, Out.bindS, M.bind, Out.bind, M.pure, varM, setS, setSl, nextS, ifS, M.andM, M.tb, M.bl, cmpM, cmpP, peek, c_lt, c_le, c_gt, c_ge, c_nn, c_eqi, binM, binD, optM, lenM, pkM, lenD, flatD, iterM, itM, forQ, consM, tupM, capM, lstM, newL, idxM, idxD, callM, addM, addD, bin2M, mulD, mulS, sliceM, partM, isTupD, un1M, tupD, sumD, listM, meth1M, isLst, appendM, isCell, putC, setIxS, setIx, isNonD, minD, maxD, Tg.go, Tg.gos, tgS, enumM, range1M, range2M, M.frz, frzM, M.noX, Out.noX, chainM, stepM, b2, h1]
/-! ### trees -/
def Sp (K : List (List Nat)) : Nat → DL.D → Prop
  | 0, _ => False
  | n + 1, d => (∃ x, x ∈ K ∧ d = .tup [.str (cs "name"), .str x]) ∨ ∃ h ps, h ≠ cs "name" ∧ Okl h ∧ ps.length ≤ 3 ∧ d = .tup (.str h :: ps) ∧ ∀ p ∈ ps, (∃ s, Okl s ∧ p = .str s) ∨ (∃ i, p = .int i) ∨ Sp K n p
theorem okl_name : Okl (cs "name") := by unfold Okl; decide +kernel
theorem Sp.mono {K K' : List (List Nat)} (h : ∀ x ∈ K, x ∈ K') : ∀ {n : Nat} {d : DL.D}, Sp K n d → Sp K' n d
  | 0, _, q => q.elim
  | n + 1, d, q => by
    rcases q with ⟨x, h1, h2⟩ | ⟨hd, ps, h1, h2, h3, h4, h5⟩
    · exact .inl ⟨x, h x h1, h2⟩
    · exact .inr ⟨hd, ps, h1, h2, h3, h4, fun p hp => (h5 p hp).imp id fun z => z.imp id fun y => Sp.mono h y⟩
theorem Sp.succ {K : List (List Nat)} : ∀ {n : Nat} {d : DL.D}, Sp K n d → Sp K (n + 1) d
  | 0, _, q => q.elim
  | n + 1, d, q => by
    rcases q with ⟨x, h1, h2⟩ | ⟨hd, ps, h1, h2, h3, h4, h5⟩
    · exact .inl ⟨x, h1, h2⟩
    · exact .inr ⟨hd, ps, h1, h2, h3, h4, fun p hp => (h5 p hp).imp id fun z => z.imp id fun y => Sp.succ y⟩
theorem Sp.le {K : List (List Nat)} {n m : Nat} {d : DL.D} (h : Sp K n d) (hm : n ≤ m) : Sp K m d := by
  induction hm with
  | refl => exact h
  | step _ ih => exact ih.succ
theorem Sp.ok {K : List (List Nat)} (hK : ∀ x ∈ K, Okl x) : ∀ {n : Nat} {d : DL.D}, Sp K n d → Ok n d
  | 0, _, q => q.elim
  | n + 1, d, q => by
    rcases q with ⟨x, h1, rfl⟩ | ⟨hd, ps, h1, h2, h3, rfl, h5⟩
    · refine ok_tup fun d hd => ?_
      simp only [List.mem_cons, List.not_mem_nil, or_false] at hd
      rcases hd with rfl | rfl
      · exact ok_str okl_name
      · exact ok_str (hK x h1)
    · refine ok_tup fun d hd => ?_
      rcases List.mem_cons.mp hd with rfl | hd
      · exact ok_str h2
      · rcases h5 d hd with ⟨s, hs, rfl⟩ | ⟨i, rfl⟩ | hp
        · exact ok_str hs
        · exact ok_int
        · exact Sp.ok hK hp
theorem atI_1 {α : Type} {x y : α} {xs : List α} : atI (x :: y :: xs) 1 = some y := by
  have h : (1 : Int) < xs.length + 1 + 1 := by omega
  unfold atI ixN; simp [h]
theorem blw_tx {k : Nat} {xs : List (List Nat)} : blw k (.lst (tx xs)) = true := by
  rw [blw]
  induction xs with
  | nil => rfl
  | cons x xs ih => unfold tx; rw [List.map_cons, blws]; exact ih
theorem names_in_ok {K : List (List Nat)} (hK : ∀ x ∈ K, Okl x) {n : Nat} {μ : List Cell} : ∀ {m : Nat} {d : DL.D}, Sp K m d → m ≤ 8 → ∃ xs, callF (n + m) 4 [d] μ = .ok (.lst (tx xs)) μ ∧ (∀ x ∈ xs, x ∈ K) ∧ xs.length ≤ 4 ^ m
  | 0, _, q, _ => q.elim
  | m + 1, d, q, hm => by
    show ∃ xs, DL.runF 3 (b4 (callF (n + m))) [d] μ = _ ∧ _
    have hp : 4 ^ (m + 1) = 4 * 4 ^ m := by rw [Nat.pow_succ]; omega
    have hp2 : 4 ^ m ≤ 4 ^ 7 := Nat.pow_le_pow_right (by decide) (by omega)
    have hL : 4 ^ 8 ≤ LIM := by decide
    have e47 : 4 ^ 7 * 4 = 4 ^ 8 := by decide
    have hp3 : 1 ≤ 4 ^ m := Nat.pos_of_ne_zero (by simp)
    rcases q with ⟨x, h1, rfl⟩ | ⟨hd, ps, h1, h2, h3, rfl, h5⟩
    · refine ⟨[x], runF_pure0 ?_ blw_tx, fun y hy => by obtain rfl : y = x := by simpa using hy
                                                        exact h1, by simp; omega⟩
      have hc := eq_str okl_name okl_name
      rw [decide_eq_true rfl] at hc
      have h1 : 1 ≤ LIM := by decide
      simp [LIM, runB, startSl, MS.seq, SOut.bind, M.thn, Out.bindS, M.bind, Out.bind, M.pure, varM, setS, setSl, nextS, ifS, M.andM, M.tb, M.bl, cmpM, cmpP, peek, c_lt, c_le, c_gt, c_ge, c_nn, c_eqi, binM, binD, optM, lenM, pkM, lenD, flatD, iterM, itM, forQ, consM, tupM, capM, lstM, newL, idxM, idxD, callM, addM, addD, bin2M, mulD, mulS, sliceM, partM, isTupD, un1M, tupD, sumD, listM, meth1M, isLst, appendM, isCell, putC, setIxS, setIx, isNonD, minD, maxD, Tg.go, Tg.gos, tgS, enumM, range1M, range2M, M.frz, frzM, M.noX, Out.noX, chainM, stepM, b4, atI_0, atI_1, hc, tx, h1]
    · have hc := eq_str h2 okl_name
      rw [decide_eq_false h1] at hc
      obtain ⟨ρ', h6, z, xs, rfl, h7, h8⟩ := forL_inv (ds := ps) (t := .nm 2) (f := b4_l0 (callF (n + m))) (fun pre ρ => ∃ z xs, ρ = ⟨[some (.tup (.str hd :: ps)), some (.lst (tx xs)), z], μ⟩ ∧ (∀ x ∈ xs, x ∈ K) ∧ xs.length ≤ pre.length * 4 ^ m) (ρ := ⟨[some (.tup (.str hd :: ps)), some (.lst (tx [])), none], μ⟩) ⟨_, _, rfl, fun x hx => by simp at hx, by simp⟩ (by
        rintro pre p post ρ e ⟨z, xs, rfl, i1, i2⟩
        have hpm : p ∈ ps := by rw [e]; simp
        have hpl : pre.length ≤ 3 := by have := congrArg List.length e; simp at this; omega
        have hlen : (pre ++ [p]).length = pre.length + 1 := by simp
        rcases h5 p hpm with ⟨s, hs, rfl⟩ | ⟨i, rfl⟩ | hp
        · refine ⟨_, ⟨[some (.tup (.str hd :: ps)), some (.lst (tx xs)), some (.str s)], μ⟩, rfl, .inl ?_, _, xs, rfl, i1, ?_⟩
          · simp [LIM, runB, startSl, MS.seq, SOut.bind, M.thn, Out.bindS, M.bind, Out.bind, M.pure, varM, setS, setSl, nextS, ifS, M.andM, M.tb, M.bl, cmpM, cmpP, peek, c_lt, c_le, c_gt, c_ge, c_nn, c_eqi, binM, binD, optM, lenM, pkM, lenD, flatD, iterM, itM, forQ, consM, tupM, capM, lstM, newL, idxM, idxD, callM, addM, addD, bin2M, mulD, mulS, sliceM, partM, isTupD, un1M, tupD, sumD, listM, meth1M, isLst, appendM, isCell, putC, setIxS, setIx, isNonD, minD, maxD, Tg.go, Tg.gos, tgS, enumM, range1M, range2M, M.frz, frzM, M.noX, Out.noX, chainM, stepM, b4_l0]
          · rw [hlen, Nat.add_mul]; omega
        · refine ⟨_, ⟨[some (.tup (.str hd :: ps)), some (.lst (tx xs)), some (.int i)], μ⟩, rfl, .inl ?_, _, xs, rfl, i1, ?_⟩
          · simp [LIM, runB, startSl, MS.seq, SOut.bind, M.thn, Out.bindS, M.bind, Out.bind, M.pure, varM, setS, setSl, nextS, ifS, M.andM, M.tb, M.bl, cmpM, cmpP, peek, c_lt, c_le, c_gt, c_ge, c_nn, c_eqi, binM, binD, optM, lenM, pkM, lenD, flatD, iterM, itM, forQ, consM, tupM, capM, lstM, newL, idxM, idxD, callM, addM, addD, bin2M, mulD, mulS, sliceM, partM, isTupD, un1M, tupD, sumD, listM, meth1M, isLst, appendM, isCell, putC, setIxS, setIx, isNonD, minD, maxD, Tg.go, Tg.gos, tgS, enumM, range1M, range2M, M.frz, frzM, M.noX, Out.noX, chainM, stepM, b4_l0]
          · rw [hlen, Nat.add_mul]; omega
        · obtain ⟨ys, c1, c2, c3⟩ := names_in_ok hK (n := n) (μ := μ) hp (by omega)
          have ht : ∃ qs, p = .tup qs := by
            cases m with
            | zero => exact hp.elim
            | succ m =>
              rcases hp with ⟨x, _, rfl⟩ | ⟨_, _, _, _, _, rfl, _⟩
              · exact ⟨_, rfl⟩
              · exact ⟨_, rfl⟩
          obtain ⟨qs, rfl⟩ := ht
          refine ⟨_, ⟨[some (.tup (.str hd :: ps)), some (.lst (tx (xs ++ ys))), some (.tup qs)], μ⟩, rfl, .inl ?_, _, xs ++ ys, rfl, fun x hx => (List.mem_append.mp hx).elim (i1 x) (c2 x), ?_⟩
          · have hsum : (tx xs).length + (tx ys).length ≤ LIM := by
              have : pre.length * 4 ^ m ≤ 3 * 4 ^ m := Nat.mul_le_mul_right _ hpl
              simp [tx]; omega
            have ha : tx xs ++ tx ys = tx (xs ++ ys) := (List.map_append).symm
            simp [LIM, runB, startSl, MS.seq, SOut.bind, M.thn, Out.bindS, M.bind, Out.bind, M.pure, varM, setS, setSl, nextS, ifS, M.andM, M.tb, M.bl, cmpM, cmpP, peek, c_lt, c_le, c_gt, c_ge, c_nn, c_eqi, binM, binD, optM, lenM, pkM, lenD, flatD, iterM, itM, forQ, consM, tupM, capM, lstM, newL, idxM, idxD, callM, addM, addD, bin2M, mulD, mulS, sliceM, partM, isTupD, un1M, tupD, sumD, listM, meth1M, isLst, appendM, isCell, putC, setIxS, setIx, isNonD, minD, maxD, Tg.go, Tg.gos, tgS, enumM, range1M, range2M, M.frz, frzM, M.noX, Out.noX, chainM, stepM, b4_l0, c1, hsum, ha]
          · rw [hlen, Nat.add_mul, List.length_append]; omega)
      refine ⟨xs, runF_pure0 ?_ blw_tx, h7, ?_⟩
      · have hnil : tx [] = [] := rfl
        rw [hnil] at h6
        simp [LIM, runB, startSl, MS.seq, SOut.bind, M.thn, Out.bindS, M.bind, Out.bind, M.pure, varM, setS, setSl, nextS, ifS, M.andM, M.tb, M.bl, cmpM, cmpP, peek, c_lt, c_le, c_gt, c_ge, c_nn, c_eqi, binM, binD, optM, lenM, pkM, lenD, flatD, iterM, itM, forQ, consM, tupM, capM, lstM, newL, idxM, idxD, callM, addM, addD, bin2M, mulD, mulS, sliceM, partM, isTupD, un1M, tupD, sumD, listM, meth1M, isLst, appendM, isCell, putC, setIxS, setIx, isNonD, minD, maxD, Tg.go, Tg.gos, tgS, enumM, range1M, range2M, M.frz, frzM, M.noX, Out.noX, chainM, stepM, b4, atI_0, hc, cut_drop1, h6]
      · have : ps.length * 4 ^ m ≤ 3 * 4 ^ m := Nat.mul_le_mul_right _ h3
        omega
theorem need_spoken_ok {K : List (List Nat)} (hK : ∀ x ∈ K, Okl x) {n : Nat} {μ : List Cell} {d : DL.D} (h : Sp K 8 d) : callF (n + 9) 5 [d, .lst (tx K)] μ = .ok .non μ := by
  show DL.runF 3 (b5 (callF (n + 8))) _ μ = _
  refine runF_pure0 ?_ rfl
  obtain ⟨xs, c1, c2, c3⟩ := names_in_ok hK (n := n) (μ := μ) h (Nat.le_refl _)
  obtain ⟨ρ', h6, z, rfl⟩ := forL_inv (ds := tx xs) (t := .nm 2) (f := b5_l0 (callF (n + 8))) (fun pre ρ => ∃ z, ρ = ⟨[some d, some (.lst (tx K)), z], μ⟩) (ρ := ⟨[some d, some (.lst (tx K)), none], μ⟩) ⟨_, rfl⟩ (by
    rintro pre p post ρ e ⟨z, rfl⟩
    have hpm : p ∈ tx xs := by rw [e]; simp
    obtain ⟨x, hx, rfl⟩ := List.mem_map.mp hpm
    have hc := in_strs (hK x (c2 x hx)) hK
    rw [decide_eq_true (c2 x hx)] at hc
    have e6 := need_ok (n := n + 7) (μ := μ)
    refine ⟨_, ⟨[some d, some (.lst (tx K)), some (.str x)], μ⟩, rfl, .inl ?_, _, rfl⟩
    simp [LIM, runB, startSl, MS.seq, SOut.bind, M.thn, Out.bindS, M.bind, Out.bind, M.pure, varM, setS, setSl, nextS, ifS, M.andM, M.tb, M.bl, cmpM, cmpP, peek, c_lt, c_le, c_gt, c_ge, c_nn, c_eqi, binM, binD, optM, lenM, pkM, lenD, flatD, iterM, itM, forQ, consM, tupM, capM, lstM, newL, idxM, idxD, callM, addM, addD, bin2M, mulD, mulS, sliceM, partM, isTupD, un1M, tupD, sumD, listM, meth1M, isLst, appendM, isCell, putC, setIxS, setIx, isNonD, minD, maxD, Tg.go, Tg.gos, tgS, enumM, range1M, range2M, M.frz, frzM, M.noX, Out.noX, chainM, stepM, b5_l0, hc, e6])
  simp [LIM, runB, startSl, MS.seq, SOut.bind, M.thn, Out.bindS, M.bind, Out.bind, M.pure, varM, setS, setSl, nextS, ifS, M.andM, M.tb, M.bl, cmpM, cmpP, peek, c_lt, c_le, c_gt, c_ge, c_nn, c_eqi, binM, binD, optM, lenM, pkM, lenD, flatD, iterM, itM, forQ, consM, tupM, capM, lstM, newL, idxM, idxD, callM, addM, addD, bin2M, mulD, mulS, sliceM, partM, isTupD, un1M, tupD, sumD, listM, meth1M, isLst, appendM, isCell, putC, setIxS, setIx, isNonD, minD, maxD, Tg.go, Tg.gos, tgS, enumM, range1M, range2M, M.frz, frzM, M.noX, Out.noX, chainM, stepM, b5, c1, h6]
end K10
set_option Elab.async false
set_option linter.all false
set_option maxRecDepth 100000
set_option maxHeartbeats 4000000
namespace K10
open PySem PySem.Spec PyProof.Rows L2 DL
/-! ### a plan -/
structure Cel where
  nm : List Nat
  lo : Int
  hi : Int
  st : Int
structure Stp where
  nm : List Nat
  at_ : List Nat
  whn : DL.D
  tak : Option (List Nat × List Nat × List Nat × List Nat)
  chg : List (List Nat × DL.D)
  snd : List (List Nat × DL.D × List Nat × List Nat)
  go : List Nat
structure Fam where
  nm : List Nat
  many : Int
  rooms : List (List Nat)
  cells : List Cel
  whos : List (List Nat)
  steps : List Stp
structure Rod where
  one : List Nat
  other : List Nat
  kind : List Nat
  cap : Int
  e5 : Bool
  e6 : Bool
structure Wsh where
  kind : List Nat
  nm : List Nat
  stp : List Nat
structure Pln where
  fams : List Fam
  roads : List Rod
  wishes : List Wsh
def Cel.d (c : Cel) : DL.D := .tup [.str c.nm, .int c.lo, .int c.hi, .int c.st]
def takD : Option (List Nat × List Nat × List Nat × List Nat) → DL.D
  | none => .non
  | some (a, b, c, d) => .tup [.str a, .str b, .str c, .str d]
def chgD (p : List Nat × DL.D) : DL.D := .tup [.str p.1, p.2]
def sndD (p : List Nat × DL.D × List Nat × List Nat) : DL.D := .tup [.str p.1, p.2.1, .str p.2.2.1, .str p.2.2.2]
def Stp.d (s : Stp) : DL.D := .tup [.str s.nm, .str s.at_, s.whn, takD s.tak, .lst (s.chg.map chgD), .lst (s.snd.map sndD), .str s.go]
def Fam.d (f : Fam) : DL.D := .tup [.str f.nm, .int f.many, .lst (tx f.rooms), .lst (f.cells.map Cel.d), .lst (tx f.whos), .lst (f.steps.map Stp.d)]
def Rod.d (r : Rod) : DL.D := .tup [.str r.one, .str r.other, .str r.kind, .int r.cap, .bl r.e5, .bl r.e6]
def Wsh.d (w : Wsh) : DL.D := .tup [.str w.kind, .str w.nm, .str w.stp]
def Pln.d (p : Pln) : DL.D := .tup [.lst (p.fams.map Fam.d), .lst (p.roads.map Rod.d), .lst (p.wishes.map Wsh.d)]
def Fam.cn (f : Fam) : List (List Nat) := f.cells.map (·.nm)
def Pln.names (p : Pln) : List (List Nat) := p.fams.map (·.nm)
def Rod.pr (r : Rod) : List Nat × List Nat := (r.one, r.other)
def Pln.prs (p : Pln) : List (List Nat × List Nat) := p.roads.map Rod.pr
def prD (p : List Nat × List Nat) : DL.D := .tup [.str p.1, .str p.2]
def Fam.sn (f : Fam) : List (List Nat) := f.steps.map (·.nm)
structure GStp (p : Pln) (f : Fam) (s : Stp) : Prop where
  at_ : s.at_ ∈ f.rooms
  go : s.go ∈ f.rooms
  whn : Sp f.cn 8 s.whn
  tak : ∀ a b c d, s.tak = some (a, b, c, d) → Nm a ∧ b ∈ p.names ∧ (b, f.nm) ∈ p.prs ∧ (c = [] ∨ c ∈ f.cn) ∧ (d = [] ∨ d ∈ f.whos)
  cnd : (s.chg.map (·.1)).Nodup
  cln : s.chg.length ≤ 3
  chg : ∀ q ∈ s.chg, q.1 ∈ f.cn ∧ (∀ a b c d, s.tak = some (a, b, c, d) → q.1 ≠ c) ∧ Sp (if s.tak.isSome then f.cn ++ [cs "it"] else f.cn) 8 q.2
  snd : ∀ q ∈ s.snd, Nm q.1 ∧ Sp (if s.tak.isSome then f.cn ++ [cs "it"] else f.cn) 8 q.2.1 ∧
    ((q.2.2.1 = cs "who" ∧ q.2.2.2 ∈ f.whos) ∨ ((q.2.2.1 = cs "all" ∨ q.2.2.1 = cs "any") ∧ q.2.2.2 ∈ p.names ∧ (f.nm, q.2.2.2) ∈ p.prs))
structure GFam (p : Pln) (f : Fam) : Prop where
  nm : Nm f.nm
  many : 1 ≤ f.many
  rooms : 1 ≤ f.rooms.length ∧ f.rooms.length ≤ 8 ∧ (∀ l ∈ f.rooms, Nm l) ∧ f.rooms.Nodup
  cells : f.cells.length ≤ 3 ∧ (∀ c ∈ f.cells, c.lo ≤ c.st ∧ c.st ≤ c.hi ∧ c.hi - c.lo ≤ 9)
  whos : f.whos.length ≤ 2
  cw : (∀ l ∈ f.cn ++ f.whos, Nm l) ∧ (f.cn ++ f.whos).Nodup ∧ cs "it" ∉ f.cn
  steps : f.steps.length ≤ 8 ∧ (∀ l ∈ f.sn, Nm l) ∧ f.sn.Nodup ∧ ∀ s ∈ f.steps, GStp p f s
structure GPln (p : Pln) : Prop where
  len : 1 ≤ p.fams.length ∧ p.fams.length ≤ 4 ∧ p.roads.length ≤ 8 ∧ p.wishes.length ≤ 6
  nd : p.names.Nodup
  prn : p.prs.Nodup
  roads : ∀ r ∈ p.roads, r.one ∈ p.names ∧ r.other ∈ p.names ∧ (r.kind = cs "row" ∨ r.kind = cs "heap") ∧ 1 ≤ r.cap ∧ r.cap ≤ 3
  fams : ∀ f ∈ p.fams, GFam p f
  sum : (p.fams.map (·.many)).sum ≤ 5
  wishes : ∀ w ∈ p.wishes, (w.kind = cs "weak" ∨ w.kind = cs "strong") ∧ ∃ f ∈ p.fams, f.nm = w.nm ∧ w.stp ∈ f.sn
/-! ### reading loops by items -/
theorem lcX_map {c : Bool} {vs : List Nat} {t : Tg} {k : M Sq} {te : M DL.D} {ρ ρ1 : Rho} {α : Type} {xs : List α} (g f : α → DL.D) (hk : k ρ = .ok (.fro (xs.map g)) ρ1) (hl : xs.length ≤ LIM)
    (h : ∀ x ∈ xs, ∃ ρ2 sl3, t.go (g x) ⟨wipeL ρ1.sl vs, ρ1.st⟩ = some ρ2 ∧ te ρ2 = .ok (f x) ⟨sl3, ρ1.st⟩) : lcM c vs t k (M.pure true) te ρ = newL c (xs.map f) ρ1 := by
  have key : ∀ (xs : List α) (acc : List DL.D) (sl : List (Option DL.D)), acc.length + xs.length ≤ LIM → (∀ x ∈ xs, ∃ ρ2 sl3, t.go (g x) ⟨wipeL ρ1.sl vs, ρ1.st⟩ = some ρ2 ∧ te ρ2 = .ok (f x) ⟨sl3, ρ1.st⟩) →
      ∃ sl', lcL (wipeL ρ1.sl vs) t (M.pure true) te (finM c ρ1.sl) (xs.map g) acc ⟨sl, ρ1.st⟩ = finM c ρ1.sl (acc ++ xs.map f) ⟨sl', ρ1.st⟩ := by
    intro xs
    induction xs with
    | nil => intro acc sl _ _; exact ⟨sl, by rw [List.map_nil, List.map_nil, List.append_nil]; rfl⟩
    | cons x xs ih =>
      intro acc sl hl h
      obtain ⟨ρ2, sl3, h1, h2⟩ := h x (by simp)
      rw [List.length_cons] at hl
      obtain ⟨sl', h3⟩ := ih (acc ++ [f x]) sl3 (by rw [List.length_append]; simp; omega) fun e he => h e (by simp [he])
      refine ⟨sl', ?_⟩
      have hlt : acc.length < LIM := by omega
      simp only [List.map_cons, lcL, turnM, h1]
      simp only [M.noX, M.pure, M.bind, Out.noX, Out.bind, if_true, h2, hlt, h3, List.append_assoc, List.singleton_append]
  unfold lcM M.bind
  rw [hk]
  obtain ⟨sl', e⟩ := key xs [] ρ1.sl (by simpa using hl) h
  show lcL _ t (M.pure true) te _ (xs.map g) [] ⟨ρ1.sl, ρ1.st⟩ = _
  rw [e]; rfl
theorem forX_inv {α : Type} {xs : List α} {g : α → DL.D} {t : Tg} {f : MS} (I : List α → Rho → Prop) {ρ : Rho} (h0 : I [] ρ)
    (hs : ∀ pre x post ρ, xs = pre ++ x :: post → I pre ρ → ∃ ρ1 ρ', t.go (g x) ρ = some ρ1 ∧ (f ρ1 = .next ρ' ∨ f ρ1 = .cont ρ') ∧ I (pre ++ [x]) ρ') : ∃ ρ', forL (xs.map g) t f ρ = .next ρ' ∧ I xs ρ' := by
  have key : ∀ (post pre : List α) (ρ : Rho), xs = pre ++ post → I pre ρ → ∃ ρ', forL (post.map g) t f ρ = .next ρ' ∧ I xs ρ' := by
    intro post
    induction post with
    | nil => intro pre ρ e hI; rw [List.append_nil] at e; subst e; exact ⟨ρ, rfl, hI⟩
    | cons d post ih =>
      intro pre ρ e hI
      obtain ⟨ρ1, ρ', h1, h2, h3⟩ := hs pre d post ρ e hI
      obtain ⟨ρ2, h4, h5⟩ := ih (pre ++ [d]) ρ' (by rw [e]; simp) h3
      refine ⟨ρ2, ?_, h5⟩
      rw [List.map_cons]
      unfold forL
      have e1 : (tgS t (g d)).seq f ρ = f ρ1 := by unfold MS.seq tgS; rw [h1]; rfl
      rw [e1]
      rcases h2 with h2 | h2 <;> (rw [h2]; exact h4)
  exact key xs [] ρ rfl h0
theorem cut2 {α : Type} {a b : α} {r : List α} : cutL (a :: b :: r) none (some 2) = [a, b] := by
  have := cut_take (a :: b :: r) 2 (by simp)
  simpa using this
theorem in_prs {ps : List (List Nat × List Nat)} {p : List Nat × List Nat} (h : Okl p.1 ∧ Okl p.2) (h2 : ∀ p ∈ ps, Okl p.1 ∧ Okl p.2) : cmpD .isIn (prD p) (.lst (ps.map prD)) = some (decide (p ∈ ps)) := by
  have ok1 : ∀ p : List Nat × List Nat, Okl p.1 ∧ Okl p.2 → Ok 1 (prD p) := fun p h => ok_tup fun d hd => by
    simp only [List.mem_cons, List.not_mem_nil, or_false] at hd
    rcases hd with rfl | rfl
    · exact ok_str h.1
    · exact ok_str h.2
  have ok2 : Ok 2 (.lst (ps.map prD)) := ok_lst fun d hd => by
    obtain ⟨q, hq, rfl⟩ := List.mem_map.mp hd
    exact ok1 q (h2 q hq)
  have e1 : cmpD .isIn (prD p) (.lst (ps.map prD)) = if okD (prD p) && okD (.lst (ps.map prD)) then some ((pyOfs (ps.map prD)).any fun z => PyData.eqv z (pyOf (prD p))) else none := rfl
  rw [e1, (ok1 p h).okD (by decide), ok2.okD (by decide), pyOfs_map]
  simp only [Bool.and_self, if_true, Option.some.injEq]
  clear e1 ok2 h2
  induction ps with
  | nil => rfl
  | cons a ls ih =>
    rw [List.map_cons, List.any_cons, ih]
    have e : PyData.eqv (pyOf (prD a)) (pyOf (prD p)) = decide (a = p) := by
      unfold prD
      simp only [pyOf, pyOfs, PyData.eqv, PyData.eqvAll, Bool.and_true]
      rw [S_inj, S_inj]
      obtain ⟨a1, a2⟩ := a
      obtain ⟨p1, p2⟩ := p
      simp
    rw [e]
    by_cases h : a = p
    · subst h
      rw [decide_eq_true rfl, decide_eq_true List.mem_cons_self]; rfl
    · have h2 : p ≠ a := fun q => h q.symm
      rw [decide_eq_false h, Bool.false_or]
      by_cases h3 : p ∈ ls
      · rw [decide_eq_true h3, decide_eq_true (List.mem_cons_of_mem _ h3)]
      · rw [decide_eq_false h3, decide_eq_false (fun q => (List.mem_cons.mp q).elim h2 h3)]
theorem leads_ok {n : Nat} {μ : List Cell} {p : Pln} {one other : List Nat} (hp : ∀ q ∈ p.prs, Okl q.1 ∧ Okl q.2) (hl : p.roads.length ≤ 8) (h : (one, other) ∈ p.prs) : callF (n + 1) 6 [p.d, .str one, .str other] μ = .ok (.bl true) μ := by
  show DL.runF 4 (b6 (callF n)) _ μ = _
  refine runF_pure0 ?_ rfl
  have hL : 8 ≤ LIM := by decide
  have e : b6_c1 (callF n) ⟨[some p.d, some (.str one), some (.str other), none], μ⟩ = _ := lcX_map (c := false) (vs := [3]) (t := .nm 3) (k := iterM (idxM (varM 0) (M.pure (.int 1)))) (te := b6_e0 (callF n)) (ρ1 := ⟨[some p.d, some (.str one), some (.str other), none], μ⟩) (xs := p.roads) Rod.d (fun r => prD r.pr) (by unfold Pln.d; simp [LIM, runB, startSl, MS.seq, SOut.bind, M.thn, Out.bindS, M.bind, Out.bind, M.pure, varM, setS, setSl, nextS, ifS, M.andM, M.tb, M.bl, cmpM, cmpP, peek, c_lt, c_le, c_gt, c_ge, c_nn, c_eqi, binM, binD, optM, lenM, pkM, lenD, flatD, iterM, itM, forQ, consM, tupM, capM, lstM, newL, idxM, idxD, callM, addM, addD, bin2M, mulD, mulS, sliceM, partM, isTupD, un1M, tupD, sumD, listM, meth1M, isLst, appendM, isCell, putC, setIxS, setIx, isNonD, minD, maxD, Tg.go, Tg.gos, tgS, enumM, range1M, range2M, M.frz, frzM, M.noX, Out.noX, chainM, stepM, atI_1]) (by omega) (fun r hr => ⟨⟨[some p.d, some (.str one), some (.str other), some r.d], μ⟩, [some p.d, some (.str one), some (.str other), some r.d], rfl, by unfold Rod.d; simp [LIM, runB, startSl, MS.seq, SOut.bind, M.thn, Out.bindS, M.bind, Out.bind, M.pure, varM, setS, setSl, nextS, ifS, M.andM, M.tb, M.bl, cmpM, cmpP, peek, c_lt, c_le, c_gt, c_ge, c_nn, c_eqi, binM, binD, optM, lenM, pkM, lenD, flatD, iterM, itM, forQ, consM, tupM, capM, lstM, newL, idxM, idxD, callM, addM, addD, bin2M, mulD, mulS, sliceM, partM, isTupD, un1M, tupD, sumD, listM, meth1M, isLst, appendM, isCell, putC, setIxS, setIx, isNonD, minD, maxD, Tg.go, Tg.gos, tgS, enumM, range1M, range2M, M.frz, frzM, M.noX, Out.noX, chainM, stepM, b6_e0, cut2, prD, Rod.pr]⟩)
  have e2 : p.roads.map (fun r => prD r.pr) = p.prs.map prD := by unfold Pln.prs; rw [List.map_map]; rfl
  rw [e2] at e
  have hc := in_prs (hp _ h) hp
  rw [decide_eq_true h] at hc
  have hc : cmpD .isIn (.tup [.str one, .str other]) (.lst (p.prs.map prD)) = some true := hc
  simp [LIM, runB, startSl, MS.seq, SOut.bind, M.thn, Out.bindS, M.bind, Out.bind, M.pure, varM, setS, setSl, nextS, ifS, M.andM, M.tb, M.bl, cmpM, cmpP, peek, c_lt, c_le, c_gt, c_ge, c_nn, c_eqi, binM, binD, optM, lenM, pkM, lenD, flatD, iterM, itM, forQ, consM, tupM, capM, lstM, newL, idxM, idxD, callM, addM, addD, bin2M, mulD, mulS, sliceM, partM, isTupD, un1M, tupD, sumD, listM, meth1M, isLst, appendM, isCell, putC, setIxS, setIx, isNonD, minD, maxD, Tg.go, Tg.gos, tgS, enumM, range1M, range2M, M.frz, frzM, M.noX, Out.noX, chainM, stepM, b6, e, hc]
end K10
set_option Elab.async false
set_option linter.all false
set_option maxRecDepth 100000
set_option maxHeartbeats 4000000
namespace K10
open PySem PySem.Spec PyProof.Rows L2 DL
theorem okl_nil : Okl [] := fun c h => by simp at h
theorem okl_it : Okl (cs "it") := by unfold Okl; decide +kernel
theorem firsts_fams {n : Nat} {μ : List Cell} {fs : List Fam} (hl : fs.length ≤ 8) : callF (n + 1) 3 [.lst (fs.map Fam.d)] μ = .ok (.lst (tx (fs.map (·.nm)))) μ := by
  have hL : 8 ≤ LIM := by decide
  have := firsts_ok (n := n) (μ := μ) (fun f : Fam => DL.D.str f.nm) (fun f => [.int f.many, .lst (tx f.rooms), .lst (f.cells.map Cel.d), .lst (tx f.whos), .lst (f.steps.map Stp.d)]) fs (by omega) fun _ _ => rfl
  have e : tx (fs.map (·.nm)) = fs.map fun f => DL.D.str f.nm := by unfold tx; rw [List.map_map]; rfl
  rw [e]; exact this
theorem firsts_cells {n : Nat} {μ : List Cell} {fs : List Cel} (hl : fs.length ≤ 8) : callF (n + 1) 3 [.lst (fs.map Cel.d)] μ = .ok (.lst (tx (fs.map (·.nm)))) μ := by
  have hL : 8 ≤ LIM := by decide
  have := firsts_ok (n := n) (μ := μ) (fun f : Cel => DL.D.str f.nm) (fun f => [.int f.lo, .int f.hi, .int f.st]) fs (by omega) fun _ _ => rfl
  have e : tx (fs.map (·.nm)) = fs.map fun f => DL.D.str f.nm := by unfold tx; rw [List.map_map]; rfl
  rw [e]; exact this
theorem firsts_steps {n : Nat} {μ : List Cell} {fs : List Stp} (hl : fs.length ≤ 8) : callF (n + 1) 3 [.lst (fs.map Stp.d)] μ = .ok (.lst (tx (fs.map (·.nm)))) μ := by
  have hL : 8 ≤ LIM := by decide
  have := firsts_ok (n := n) (μ := μ) (fun f : Stp => DL.D.str f.nm) (fun s => [.str s.at_, s.whn, takD s.tak, .lst (s.chg.map chgD), .lst (s.snd.map sndD), .str s.go]) fs (by omega) fun _ _ => rfl
  have e : tx (fs.map (·.nm)) = fs.map fun f => DL.D.str f.nm := by unfold tx; rw [List.map_map]; rfl
  rw [e]; exact this
theorem atI_n {α : Type} {xs : List α} {k : Nat} {x : α} (h : xs[k]? = some x) : atI xs (k : Int) = some x := by
  have hl := (List.getElem?_eq_some_iff.mp h).1
  unfold atI ixN
  have h1 : ¬ ((k : Int) < 0) := by omega
  have h2 : (k : Int) < xs.length := by omega
  simp [h1, h2, h]
theorem atI_2 {α : Type} {a b x : α} {xs : List α} : atI (a :: b :: x :: xs) 2 = some x := atI_n (k := 2) rfl
theorem atI_3 {α : Type} {a b c x : α} {xs : List α} : atI (a :: b :: c :: x :: xs) 3 = some x := atI_n (k := 3) rfl
theorem atI_4 {α : Type} {a b c d x : α} {xs : List α} : atI (a :: b :: c :: d :: x :: xs) 4 = some x := atI_n (k := 4) rfl
theorem atI_5 {α : Type} {a b c d e x : α} {xs : List α} : atI (a :: b :: c :: d :: e :: x :: xs) 5 = some x := atI_n (k := 5) rfl
/-- what the checks lean on -/
structure Bas (p : Pln) (f : Fam) : Prop where
  fl : p.fams.length ≤ 4
  rl : p.roads.length ≤ 8
  cl : f.cells.length ≤ 3
  nms : ∀ l ∈ p.names, Okl l
  prs : ∀ q ∈ p.prs, Okl q.1 ∧ Okl q.2
  rms : ∀ l ∈ f.rooms, Okl l
  cns : ∀ l ∈ f.cn, Okl l
  whs : ∀ l ∈ f.whos, Okl l
theorem check_take_ok {n : Nat} {μ : List Cell} {p : Pln} {f : Fam} (B : Bas p f) {a b c d : List Nat} (h1 : Nm a) (h2 : b ∈ p.names) (h3 : (b, f.nm) ∈ p.prs) (h4 : c = [] ∨ c ∈ f.cn) (h5 : d = [] ∨ d ∈ f.whos) :
    callF (n + 2) 7 [p.d, f.d, .tup [.str a, .str b, .str c, .str d]] μ = .ok .non μ := by
  show DL.runF 7 (b7 (callF (n + 1))) _ μ = _
  refine runF_pure0 ?_ rfl
  have e1 := is_name_ok (n := n) (μ := μ) h1
  have e2 := firsts_fams (n := n) (μ := μ) (fs := p.fams) (by have := B.fl; omega)
  have e3 := in_strs (B.nms b h2) B.nms
  rw [decide_eq_true h2] at e3
  have e4 := leads_ok (n := n) (μ := μ) B.prs B.rl h3
  have e5 := need_ok (n := n) (μ := μ)
  have e6 := firsts_cells (n := n) (μ := μ) (fs := f.cells) (by have := B.cl; omega)
  have hc : Okl c := h4.elim (fun z => z ▸ okl_nil) (B.cns c)
  have hd : Okl d := h5.elim (fun z => z ▸ okl_nil) (B.whs d)
  have e7 := eq_str hc okl_nil
  have e8 := in_strs hc B.cns
  have e9 := eq_str hd okl_nil
  have e10 := in_strs hd B.whs
  have hcs : cs "" = [] := rfl
  have e11 : (decide (c = []) = true ∨ decide (c = []) = false ∧ decide (c ∈ f.cn) = true) := by
    by_cases z : c = []
    · left; exact decide_eq_true z
    · right; exact ⟨decide_eq_false z, decide_eq_true (h4.resolve_left z)⟩
  have e12 : (decide (d = []) = true ∨ decide (d = []) = false ∧ decide (d ∈ f.whos) = true) := by
    by_cases z : d = []
    · left; exact decide_eq_true z
    · right; exact ⟨decide_eq_false z, decide_eq_true (h5.resolve_left z)⟩
  have ed : f.d = .tup [.str f.nm, .int f.many, .lst (tx f.rooms), .lst (f.cells.map Cel.d), .lst (tx f.whos), .lst (f.steps.map Stp.d)] := rfl
  have ep : p.d = .tup [.lst (p.fams.map Fam.d), .lst (p.roads.map Rod.d), .lst (p.wishes.map Wsh.d)] := rfl
  rw [ep] at e4
  have en : f.cells.map (·.nm) = f.cn := rfl
  have en2 : p.fams.map (·.nm) = p.names := rfl
  rw [en] at e6
  rw [en2] at e2
  rw [ed, ep]
  rcases e11 with e11 | ⟨e11, e11'⟩ <;> rcases e12 with e12 | ⟨e12, e12'⟩
  all_goals
    simp only [e11, e12] at e7 e9
    first | simp only [e11'] at e8 | skip
    first | simp only [e12'] at e10 | skip
    simp [LIM, runB, startSl, MS.seq, SOut.bind, M.thn, Out.bindS, M.bind, Out.bind, M.pure, varM, setS, setSl, nextS, ifS, M.andM, M.tb, M.bl, cmpM, cmpP, peek, c_lt, c_le, c_gt, c_ge, c_nn, c_eqi, binM, binD, optM, lenM, pkM, lenD, flatD, iterM, itM, forQ, consM, tupM, capM, lstM, newL, idxM, idxD, callM, addM, addD, bin2M, mulD, mulS, sliceM, partM, isTupD, un1M, tupD, sumD, listM, meth1M, isLst, appendM, isCell, putC, setIxS, setIx, isNonD, minD, maxD, Tg.go, Tg.gos, tgS, enumM, range1M, range2M, M.frz, frzM, M.noX, Out.noX, chainM, stepM, b7, e1, e2, e3, e4, e5, e6, e7, e8, e9, e10, atI_0, atI_1, atI_3, atI_4, hcs]
end K10
set_option Elab.async false
set_option linter.all false
set_option maxRecDepth 100000
set_option maxHeartbeats 8000000
namespace K10
open PySem PySem.Spec PyProof.Rows L2 DL
theorem get_last {α : Type} (xs : List α) (c : α) : (xs ++ [c])[xs.length]? = some c := by simp
theorem set_last {α : Type} (xs : List α) (c d : α) : (xs ++ [c]).set xs.length d = xs ++ [d] := by
  rw [List.set_append_right _ _ (Nat.le_refl _)]; simp
theorem chg_loop {n : Nat} {f : Fam} {p : Pln} (B : Bas p f) {K : List (List Nat)} (hK : ∀ l ∈ K, Okl l) {a0 a1 a2 a3 a4 a5 a6 a7 a8 a9 : DL.D} {μ1 : List Cell} {f0 : List (List Nat)} (hf0 : ∀ l ∈ f0, Okl l) (hf0l : f0.length ≤ 1) {chg : List (List Nat × DL.D)}
    (hlen : chg.length ≤ 3) (nd : (chg.map (·.1)).Nodup) (h : ∀ q ∈ chg, q.1 ∈ f.cn ∧ q.1 ∉ f0 ∧ Sp K 8 q.2) :
    ∃ z13 z14 fs, forL (chg.map chgD) (.tp [.nm 13, .nm 14]) (b8_l1 (callF (n + 9))) ⟨[some a0, some a1, some a2, some a3, some a4, some a5, some a6, some a7, some a8, some a9, some (.lst (tx f.cn)), some (.lst (tx K)), some (.ref μ1.length), none, none, none, none, none], μ1 ++ [.lst (tx f0)]⟩ =
      .next ⟨[some a0, some a1, some a2, some a3, some a4, some a5, some a6, some a7, some a8, some a9, some (.lst (tx f.cn)), some (.lst (tx K)), some (.ref μ1.length), z13, z14, none, none, none], μ1 ++ [.lst (tx fs)]⟩ := by
  obtain ⟨ρ', h1, z13, z14, rfl⟩ := forX_inv (xs := chg) (g := chgD) (t := .tp [.nm 13, .nm 14]) (f := b8_l1 (callF (n + 9))) (fun pre ρ => ∃ z13 z14, ρ = ⟨[some a0, some a1, some a2, some a3, some a4, some a5, some a6, some a7, some a8, some a9, some (.lst (tx f.cn)), some (.lst (tx K)), some (.ref μ1.length), z13, z14, none, none, none], μ1 ++ [.lst (tx (f0 ++ pre.map (·.1)))]⟩)
    (ρ := ⟨[some a0, some a1, some a2, some a3, some a4, some a5, some a6, some a7, some a8, some a9, some (.lst (tx f.cn)), some (.lst (tx K)), some (.ref μ1.length), none, none, none, none, none], μ1 ++ [.lst (tx f0)]⟩) ⟨none, none, by simp⟩ (by
    rintro pre q post ρ e ⟨z13, z14, rfl⟩
    have hq : q ∈ chg := by rw [e]; simp
    obtain ⟨c1, c2, c3⟩ := h q hq
    have hpre : ∀ l ∈ f0 ++ pre.map (·.1), Okl l := fun l hl => (List.mem_append.mp hl).elim (hf0 l) fun hl => by
      obtain ⟨r, hr, rfl⟩ := List.mem_map.mp hl
      exact B.cns _ (h r (by rw [e]; simp [hr])).1
    have hnot : q.1 ∉ f0 ++ pre.map (·.1) := fun hl => (List.mem_append.mp hl).elim c2 fun hl => by
      rw [e, List.map_append, List.map_cons, List.nodup_append] at nd
      exact nd.2.2 _ hl _ (by simp) rfl
    have e1 := in_strs (B.cns _ c1) B.cns
    rw [decide_eq_true c1] at e1
    have e2 := notin_strs (B.cns _ c1) hpre
    rw [decide_eq_false hnot] at e2
    have e3 := fun μ => need_ok (n := n + 8) (μ := μ)
    have e4 := fun μ => need_spoken_ok (n := n) (μ := μ) hK c3
    have hpl : pre.length < 3 := by have := congrArg List.length e; simp at this; omega
    have hll : (tx (f0 ++ pre.map (·.1))).length < LIM := by
      have : 4 ≤ LIM := by decide
      simp [tx]; omega
    have htx : tx (f0 ++ pre.map (·.1)) ++ [DL.D.str q.1] = tx (f0 ++ (pre ++ [q]).map (·.1)) := by simp [tx]
    refine ⟨_, ⟨[some a0, some a1, some a2, some a3, some a4, some a5, some a6, some a7, some a8, some a9, some (.lst (tx f.cn)), some (.lst (tx K)), some (.ref μ1.length), some (.str q.1), some q.2, none, none, none], μ1 ++ [.lst (tx (f0 ++ (pre ++ [q]).map (·.1)))]⟩, rfl, .inl ?_, _, _, rfl⟩
    simp only [← htx]
    generalize tx (f0 ++ pre.map (·.1)) = L at e2 hll
    have hnb : (!false) = true := rfl
    rw [hnb] at e2
    have hll : L.length < 16777216 := hll
    simp [LIM, runB, startSl, MS.seq, SOut.bind, M.thn, Out.bindS, M.bind, Out.bind, M.pure, varM, setS, setSl, nextS, ifS, M.andM, M.tb, M.bl, cmpM, cmpP, peek, c_lt, c_le, c_gt, c_ge, c_nn, c_eqi, binM, binD, optM, lenM, pkM, lenD, flatD, iterM, itM, forQ, consM, tupM, capM, lstM, newL, idxM, idxD, callM, addM, addD, bin2M, mulD, mulS, sliceM, partM, isTupD, un1M, tupD, sumD, listM, meth1M, isLst, appendM, isCell, putC, setIxS, setIx, isNonD, minD, maxD, Tg.go, Tg.gos, tgS, enumM, range1M, range2M, M.frz, frzM, M.noX, Out.noX, chainM, stepM, b8_l1, e1, e2, e3, e4, hll])
  exact ⟨z13, z14, _, h1⟩

theorem in_ways {w : List Nat} (h : w = cs "who" ∨ w = cs "all" ∨ w = cs "any") : cmpD .isIn (.str w) c5 = some true := by
  rcases h with rfl | rfl | rfl <;> decide +kernel
theorem eq_who {w : List Nat} (h : w = cs "who" ∨ w = cs "all" ∨ w = cs "any") : cmpD .eq (.str w) (.str (cs "who")) = some (decide (w = cs "who")) := by
  rcases h with rfl | rfl | rfl <;> decide +kernel
theorem snd_loop {n : Nat} {f : Fam} {p : Pln} (B : Bas p f) {K : List (List Nat)} (hK : ∀ l ∈ K, Okl l) {a2 a3 a4 a5 a6 a7 a8 a9 a10 a12 : DL.D} {z13 z14 : Option DL.D} {μ : List Cell} {snd : List (List Nat × DL.D × List Nat × List Nat)}
    (h : ∀ q ∈ snd, Nm q.1 ∧ Sp K 8 q.2.1 ∧ ((q.2.2.1 = cs "who" ∧ q.2.2.2 ∈ f.whos) ∨ ((q.2.2.1 = cs "all" ∨ q.2.2.1 = cs "any") ∧ q.2.2.2 ∈ p.names ∧ (f.nm, q.2.2.2) ∈ p.prs))) :
    ∃ sl, forL (snd.map sndD) (.tp [.nm 15, .nm 14, .nm 16, .nm 17]) (b8_l0 (callF (n + 9))) ⟨[some p.d, some f.d, some a2, some a3, some a4, some a5, some a6, some a7, some a8, some a9, some a10, some (.lst (tx K)), some a12, z13, z14, none, none, none], μ⟩ = .next ⟨sl, μ⟩ := by
  obtain ⟨ρ', h1, y, z15, z16, z17, rfl⟩ := forX_inv (xs := snd) (g := sndD) (t := .tp [.nm 15, .nm 14, .nm 16, .nm 17]) (f := b8_l0 (callF (n + 9))) (fun pre ρ => ∃ y z15 z16 z17, ρ = ⟨[some p.d, some f.d, some a2, some a3, some a4, some a5, some a6, some a7, some a8, some a9, some a10, some (.lst (tx K)), some a12, z13, y, z15, z16, z17], μ⟩)
    (ρ := ⟨[some p.d, some f.d, some a2, some a3, some a4, some a5, some a6, some a7, some a8, some a9, some a10, some (.lst (tx K)), some a12, z13, z14, none, none, none], μ⟩) ⟨_, _, _, _, rfl⟩ (by
    rintro pre q post ρ e ⟨y, z15, z16, z17, rfl⟩
    have hq : q ∈ snd := by rw [e]; simp
    obtain ⟨c1, c2, c3⟩ := h q hq
    have e1 := is_name_ok (n := n + 8) (μ := μ) c1
    have e3 := need_ok (n := n + 8) (μ := μ)
    have e4 := need_spoken_ok (n := n) (μ := μ) hK c2
    have hw : q.2.2.1 = cs "who" ∨ q.2.2.1 = cs "all" ∨ q.2.2.1 = cs "any" := c3.elim (fun z => .inl z.1) fun z => .inr z.1
    have e5 := in_ways hw
    unfold c5 at e5
    have e6 := eq_who hw
    have ed : f.d = .tup [.str f.nm, .int f.many, .lst (tx f.rooms), .lst (f.cells.map Cel.d), .lst (tx f.whos), .lst (f.steps.map Stp.d)] := rfl
    have ep : p.d = .tup [.lst (p.fams.map Fam.d), .lst (p.roads.map Rod.d), .lst (p.wishes.map Wsh.d)] := rfl
    obtain ⟨q1, q2, q3, q4⟩ := q
    dsimp only at *
    refine ⟨⟨[some p.d, some f.d, some a2, some a3, some a4, some a5, some a6, some a7, some a8, some a9, some a10, some (.lst (tx K)), some a12, z13, some q2, some (.str q1), some (.str q3), some (.str q4)], μ⟩, ⟨[some p.d, some f.d, some a2, some a3, some a4, some a5, some a6, some a7, some a8, some a9, some a10, some (.lst (tx K)), some a12, z13, some q2, some (.str q1), some (.str q3), some (.str q4)], μ⟩, rfl, .inl ?_, _, _, _, _, rfl⟩
    rcases c3 with ⟨w1, w2⟩ | ⟨w1, w2, w3⟩
    · rw [decide_eq_true w1] at e6
      have e7 := in_strs (B.whs _ w2) B.whs
      rw [decide_eq_true w2] at e7
      rw [ed]
      simp [LIM, runB, startSl, MS.seq, SOut.bind, M.thn, Out.bindS, M.bind, Out.bind, M.pure, varM, setS, setSl, nextS, ifS, M.andM, M.tb, M.bl, cmpM, cmpP, peek, c_lt, c_le, c_gt, c_ge, c_nn, c_eqi, binM, binD, optM, lenM, pkM, lenD, flatD, iterM, itM, forQ, consM, tupM, capM, lstM, newL, idxM, idxD, callM, addM, addD, bin2M, mulD, mulS, sliceM, partM, isTupD, un1M, tupD, sumD, listM, meth1M, isLst, appendM, isCell, putC, setIxS, setIx, isNonD, minD, maxD, Tg.go, Tg.gos, tgS, enumM, range1M, range2M, M.frz, frzM, M.noX, Out.noX, chainM, stepM, b8_l0, c5, e1, e3, e4, e5, e6, e7, atI_4]
    · have hnw : q3 ≠ cs "who" := by rcases w1 with rfl | rfl <;> decide +kernel
      rw [decide_eq_false hnw] at e6
      have e7 := in_strs (B.nms _ w2) B.nms
      rw [decide_eq_true w2] at e7
      have e8 := firsts_fams (n := n + 8) (μ := μ) (fs := p.fams) (by have := B.fl; omega)
      have en2 : p.fams.map (·.nm) = p.names := rfl
      rw [en2] at e8
      have e9 := leads_ok (n := n + 8) (μ := μ) B.prs B.rl w3
      rw [ep] at e9
      rw [ed, ep]
      simp [LIM, runB, startSl, MS.seq, SOut.bind, M.thn, Out.bindS, M.bind, Out.bind, M.pure, varM, setS, setSl, nextS, ifS, M.andM, M.tb, M.bl, cmpM, cmpP, peek, c_lt, c_le, c_gt, c_ge, c_nn, c_eqi, binM, binD, optM, lenM, pkM, lenD, flatD, iterM, itM, forQ, consM, tupM, capM, lstM, newL, idxM, idxD, callM, addM, addD, bin2M, mulD, mulS, sliceM, partM, isTupD, un1M, tupD, sumD, listM, meth1M, isLst, appendM, isCell, putC, setIxS, setIx, isNonD, minD, maxD, Tg.go, Tg.gos, tgS, enumM, range1M, range2M, M.frz, frzM, M.noX, Out.noX, chainM, stepM, b8_l0, c5, e1, e3, e4, e5, e6, e7, e8, e9, atI_0])
  exact ⟨_, h1⟩
end K10
set_option Elab.async false
set_option linter.all false
set_option maxRecDepth 100000
set_option maxHeartbeats 8000000
namespace K10
open PySem PySem.Spec PyProof.Rows L2 DL
theorem tx_nil : tx [] = [] := rfl
theorem c_nt {ds : List DL.D} : cmpD .notN (.tup ds) .non = some true := rfl
theorem check_step_ok {n : Nat} {μ : List Cell} {p : Pln} {f : Fam} {s : Stp} (B : Bas p f) (G : GStp p f s) : callF (n + 10) 8 [p.d, f.d, s.d] μ = .ok .non μ := by
  show DL.runF 18 (b8 (callF (n + 9))) _ μ = _
  have e1 := firsts_cells (n := n + 8) (μ := μ) (fs := f.cells) (by have := B.cl; omega)
  have en : f.cells.map (·.nm) = f.cn := rfl
  rw [en] at e1
  have e2 := in_strs (B.rms _ G.at_) B.rms
  rw [decide_eq_true G.at_] at e2
  have e3 := in_strs (B.rms _ G.go) B.rms
  rw [decide_eq_true G.go] at e3
  have e4 := fun μ => need_ok (n := n + 8) (μ := μ)
  have e5 := need_spoken_ok (n := n) (μ := μ) B.cns G.whn
  have ed : f.d = .tup [.str f.nm, .int f.many, .lst (tx f.rooms), .lst (f.cells.map Cel.d), .lst (tx f.whos), .lst (f.steps.map Stp.d)] := rfl
  have es : s.d = .tup [.str s.nm, .str s.at_, s.whn, takD s.tak, .lst (s.chg.map chgD), .lst (s.snd.map sndD), .str s.go] := rfl
  cases ht : s.tak with
  | none =>
    have hsnd := G.snd
    have hchg := G.chg
    rw [ht] at hsnd hchg es
    simp only [Option.isSome_none, Bool.false_eq_true, if_false] at hsnd hchg
    have etk : takD none = .non := rfl
    rw [etk] at es
    obtain ⟨z13, z14, fs, l1⟩ := chg_loop (n := n) B B.cns (a0 := p.d) (a1 := f.d) (a2 := s.d) (a3 := .str s.nm) (a4 := .str s.at_) (a5 := s.whn) (a6 := .non) (a7 := .lst (s.chg.map chgD)) (a8 := .lst (s.snd.map sndD)) (a9 := .str s.go) (μ1 := μ) (f0 := []) (fun l hl => by simp at hl) (by simp) (chg := s.chg) G.cln G.cnd (fun q hq => ⟨(hchg q hq).1, by simp, (hchg q hq).2.2⟩)
    obtain ⟨sl, l2⟩ := snd_loop (n := n) B B.cns (a2 := s.d) (a3 := .str s.nm) (a4 := .str s.at_) (a5 := s.whn) (a6 := .non) (a7 := .lst (s.chg.map chgD)) (a8 := .lst (s.snd.map sndD)) (a9 := .str s.go) (a10 := .lst (tx f.cn)) (a12 := .ref μ.length) (z13 := z13) (z14 := z14) (μ := μ ++ [.lst (tx fs)]) (snd := s.snd) hsnd
    refine runF_pure (junk := [.lst (tx fs)]) ?_ rfl
    rw [tx_nil] at l1
    rw [ed, es] at l1 l2 ⊢
    simp [LIM, runB, startSl, MS.seq, SOut.bind, M.thn, Out.bindS, M.bind, Out.bind, M.pure, varM, setS, setSl, nextS, ifS, M.andM, M.tb, M.bl, cmpM, cmpP, peek, c_lt, c_le, c_gt, c_ge, c_nn, c_eqi, binM, binD, optM, lenM, pkM, lenD, flatD, iterM, itM, forQ, consM, tupM, capM, lstM, newL, idxM, idxD, callM, addM, addD, bin2M, mulD, mulS, sliceM, partM, isTupD, un1M, tupD, sumD, listM, meth1M, isLst, appendM, isCell, putC, setIxS, setIx, isNonD, minD, maxD, Tg.go, Tg.gos, tgS, enumM, range1M, range2M, M.frz, frzM, M.noX, Out.noX, chainM, stepM, b8, e1, e2, e3, e4, e5, c_nn, l1, l2, atI_2, atI_3]
  | some tk =>
    obtain ⟨a, b, c, d⟩ := tk
    have hsnd := G.snd
    have hchg := G.chg
    obtain ⟨t1, t2, t3, t4, t5⟩ := G.tak a b c d ht
    rw [ht] at hsnd hchg es
    simp only [Option.isSome_some, if_true] at hsnd hchg
    have etk : takD (some (a, b, c, d)) = .tup [.str a, .str b, .str c, .str d] := rfl
    rw [etk] at es
    have hK : ∀ l ∈ f.cn ++ [cs "it"], Okl l := fun l hl => (List.mem_append.mp hl).elim (B.cns l) fun hl => by
      obtain rfl : l = cs "it" := by simpa using hl
      exact okl_it
    have hcO : Okl c := t4.elim (fun z => z ▸ okl_nil) (B.cns c)
    have hc1 : ∀ l ∈ [c], Okl l := by simpa using hcO
    have e6 := check_take_ok (n := n + 7) (μ := μ ++ [.lst []]) B t1 t2 t3 t4 t5
    obtain ⟨z13, z14, fs, l1⟩ := chg_loop (n := n) B hK (a0 := p.d) (a1 := f.d) (a2 := s.d) (a3 := .str s.nm) (a4 := .str s.at_) (a5 := s.whn) (a6 := .tup [.str a, .str b, .str c, .str d]) (a7 := .lst (s.chg.map chgD)) (a8 := .lst (s.snd.map sndD)) (a9 := .str s.go) (μ1 := μ ++ [.lst []]) (f0 := [c]) hc1 (by simp) (chg := s.chg) G.cln G.cnd (fun q hq => ⟨(hchg q hq).1, by simpa using (hchg q hq).2.1 a b c d rfl, (hchg q hq).2.2⟩)
    obtain ⟨sl, l2⟩ := snd_loop (n := n) B hK (a2 := s.d) (a3 := .str s.nm) (a4 := .str s.at_) (a5 := s.whn) (a6 := .tup [.str a, .str b, .str c, .str d]) (a7 := .lst (s.chg.map chgD)) (a8 := .lst (s.snd.map sndD)) (a9 := .str s.go) (a10 := .lst (tx f.cn)) (a12 := .ref (μ ++ [Cell.lst []]).length) (z13 := z13) (z14 := z14) (μ := (μ ++ [.lst []]) ++ [.lst (tx fs)]) (snd := s.snd) hsnd
    refine runF_pure (junk := [.lst [], .lst (tx fs)]) ?_ rfl
    have htx : tx [c] = [DL.D.str c] := rfl
    have htx2 : tx (f.cn ++ [cs "it"]) = tx f.cn ++ [DL.D.str (cs "it")] := by simp [tx]
    have hl : (tx f.cn).length ≤ 16777215 := by
      have := B.cl
      simp [tx, Fam.cn]; omega
    rw [htx, htx2] at l1
    rw [htx2] at l2
    rw [ed, es] at l1 l2 ⊢
    rw [ed] at e6
    simp only [List.length_append, List.length_cons, List.length_nil, List.append_assoc, List.cons_append, List.nil_append, Nat.zero_add] at l1 l2
    simp [LIM, runB, startSl, MS.seq, SOut.bind, M.thn, Out.bindS, M.bind, Out.bind, M.pure, varM, setS, setSl, nextS, ifS, M.andM, M.tb, M.bl, cmpM, cmpP, peek, c_lt, c_le, c_gt, c_ge, c_nn, c_eqi, binM, binD, optM, lenM, pkM, lenD, flatD, iterM, itM, forQ, consM, tupM, capM, lstM, newL, idxM, idxD, callM, addM, addD, bin2M, mulD, mulS, sliceM, partM, isTupD, un1M, tupD, sumD, listM, meth1M, isLst, appendM, isCell, putC, setIxS, setIx, isNonD, minD, maxD, Tg.go, Tg.gos, tgS, enumM, range1M, range2M, M.frz, frzM, M.noX, Out.noX, chainM, stepM, b8, e1, e2, e3, e4, e5, c_nt, e6, l1, l2, atI_2, atI_3, hl]
end K10
set_option Elab.async false
set_option linter.all false
set_option maxRecDepth 100000
set_option maxHeartbeats 8000000
namespace K10
open PySem PySem.Spec PyProof.Rows L2 DL
theorem len_tx (xs : List (List Nat)) : (tx xs).length = xs.length := by simp [tx]
theorem GFam.bas {p : Pln} {f : Fam} (P : GPln p) (G : GFam p f) : Bas p f where
  fl := P.len.2.1
  rl := P.len.2.2.1
  cl := G.cells.1
  nms := fun l hl => by
    obtain ⟨g, hg, rfl⟩ := List.mem_map.mp hl
    exact (P.fams g hg).nm.okl
  prs := fun q hq => by
    obtain ⟨r, hr, rfl⟩ := List.mem_map.mp hq
    have nm : ∀ l ∈ p.names, Okl l := fun l hl => by
      obtain ⟨g, hg, rfl⟩ := List.mem_map.mp hl
      exact (P.fams g hg).nm.okl
    exact ⟨nm _ (P.roads r hr).1, nm _ (P.roads r hr).2.1⟩
  rms := fun l hl => (G.rooms.2.2.1 l hl).okl
  cns := fun l hl => (G.cw.1 l (by simp [hl])).okl
  whs := fun l hl => (G.cw.1 l (by simp [hl])).okl
theorem check_family_ok {n : Nat} {μ : List Cell} {p : Pln} {f : Fam} (P : GPln p) (G : GFam p f) : callF (n + 11) 9 [p.d, f.d] μ = .ok .non μ := by
  show DL.runF 13 (b9 (callF (n + 10))) _ μ = _
  have B := G.bas P
  refine runF_pure0 ?_ rfl
  have e1 := firsts_cells (n := n + 9) (μ := μ) (fs := f.cells) (by have := B.cl; omega)
  have en : f.cells.map (·.nm) = f.cn := rfl
  rw [en] at e1
  have e2 := firsts_steps (n := n + 9) (μ := μ) (fs := f.steps) G.steps.1
  have en2 : f.steps.map (·.nm) = f.sn := rfl
  rw [en2] at e2
  have e3 := need_ok (n := n + 9) (μ := μ)
  have e4 := need_names_ok (n := n + 8) (μ := μ) f.rooms G.rooms.2.2.1 G.rooms.2.2.2
  have e5 := need_names_ok (n := n + 8) (μ := μ) f.sn G.steps.2.1 G.steps.2.2.1
  have e6 := need_names_ok (n := n + 8) (μ := μ) (f.cn ++ f.whos) G.cw.1 G.cw.2.1
  have e7 := notin_strs okl_it B.cns
  rw [decide_eq_false G.cw.2.2] at e7
  have htx : tx (f.cn ++ f.whos) = tx f.cn ++ tx f.whos := by simp [tx]
  rw [htx] at e6
  have hcl : (tx f.cn).length + (tx f.whos).length ≤ 16777216 := by
    have h1 := B.cl
    have h2 := G.whos
    rw [len_tx, len_tx]; unfold Fam.cn; rw [List.length_map]; omega
  have ed : f.d = .tup [.str f.nm, .int f.many, .lst (tx f.rooms), .lst (f.cells.map Cel.d), .lst (tx f.whos), .lst (f.steps.map Stp.d)] := rfl
  obtain ⟨ρ1, l1, y8, y9, y10, y11, rfl⟩ := forX_inv (xs := f.cells) (g := Cel.d) (t := .tp [.nm 8, .nm 9, .nm 10, .nm 11]) (f := b9_l1 (callF (n + 10))) (fun pre ρ => ∃ y8 y9 y10 y11, ρ = ⟨[some p.d, some f.d, some (.str f.nm), some (.int f.many), some (.lst (tx f.rooms)), some (.lst (f.cells.map Cel.d)), some (.lst (tx f.whos)), some (.lst (f.steps.map Stp.d)), y8, y9, y10, y11, none], μ⟩)
    (ρ := ⟨[some p.d, some f.d, some (.str f.nm), some (.int f.many), some (.lst (tx f.rooms)), some (.lst (f.cells.map Cel.d)), some (.lst (tx f.whos)), some (.lst (f.steps.map Stp.d)), none, none, none, none, none], μ⟩) ⟨_, _, _, _, rfl⟩ (by
    rintro pre c post ρ e ⟨y8, y9, y10, y11, rfl⟩
    obtain ⟨c1, c2, c3⟩ := G.cells.2 c (by rw [e]; simp)
    refine ⟨_, ⟨[some p.d, some f.d, some (.str f.nm), some (.int f.many), some (.lst (tx f.rooms)), some (.lst (f.cells.map Cel.d)), some (.lst (tx f.whos)), some (.lst (f.steps.map Stp.d)), some (.str c.nm), some (.int c.lo), some (.int c.hi), some (.int c.st), none], μ⟩, rfl, .inl ?_, _, _, _, _, rfl⟩
    simp [LIM, runB, startSl, MS.seq, SOut.bind, M.thn, Out.bindS, M.bind, Out.bind, M.pure, varM, setS, setSl, nextS, ifS, M.andM, M.tb, M.bl, cmpM, cmpP, peek, c_lt, c_le, c_gt, c_ge, c_nn, c_eqi, binM, binD, optM, lenM, pkM, lenD, flatD, iterM, itM, forQ, consM, tupM, capM, lstM, newL, idxM, idxD, callM, addM, addD, bin2M, mulD, mulS, sliceM, partM, isTupD, un1M, tupD, sumD, listM, meth1M, isLst, appendM, isCell, putC, setIxS, setIx, isNonD, minD, maxD, Tg.go, Tg.gos, tgS, enumM, range1M, range2M, M.frz, frzM, M.noX, Out.noX, chainM, stepM, b9_l1, e3, c1, c2, c3])
  obtain ⟨ρ2, l2, y12, rfl⟩ := forX_inv (xs := f.steps) (g := Stp.d) (t := .nm 12) (f := b9_l0 (callF (n + 10))) (fun pre ρ => ∃ y12, ρ = ⟨[some p.d, some f.d, some (.str f.nm), some (.int f.many), some (.lst (tx f.rooms)), some (.lst (f.cells.map Cel.d)), some (.lst (tx f.whos)), some (.lst (f.steps.map Stp.d)), y8, y9, y10, y11, y12], μ⟩)
    (ρ := ⟨[some p.d, some f.d, some (.str f.nm), some (.int f.many), some (.lst (tx f.rooms)), some (.lst (f.cells.map Cel.d)), some (.lst (tx f.whos)), some (.lst (f.steps.map Stp.d)), y8, y9, y10, y11, none], μ⟩) ⟨_, rfl⟩ (by
    rintro pre s post ρ e ⟨y12, rfl⟩
    have hs := G.steps.2.2.2 s (by rw [e]; simp)
    have e8 := check_step_ok (n := n) (μ := μ) B hs
    refine ⟨_, ⟨[some p.d, some f.d, some (.str f.nm), some (.int f.many), some (.lst (tx f.rooms)), some (.lst (f.cells.map Cel.d)), some (.lst (tx f.whos)), some (.lst (f.steps.map Stp.d)), y8, y9, y10, y11, some s.d], μ⟩, rfl, .inl ?_, _, rfl⟩
    simp [LIM, runB, startSl, MS.seq, SOut.bind, M.thn, Out.bindS, M.bind, Out.bind, M.pure, varM, setS, setSl, nextS, ifS, M.andM, M.tb, M.bl, cmpM, cmpP, peek, c_lt, c_le, c_gt, c_ge, c_nn, c_eqi, binM, binD, optM, lenM, pkM, lenD, flatD, iterM, itM, forQ, consM, tupM, capM, lstM, newL, idxM, idxD, callM, addM, addD, bin2M, mulD, mulS, sliceM, partM, isTupD, un1M, tupD, sumD, listM, meth1M, isLst, appendM, isCell, putC, setIxS, setIx, isNonD, minD, maxD, Tg.go, Tg.gos, tgS, enumM, range1M, range2M, M.frz, frzM, M.noX, Out.noX, chainM, stepM, b9_l0, e8])
  have g1 := G.many
  have g2 : (1 : Int) ≤ (tx f.rooms).length := by rw [len_tx]; have := G.rooms.1; omega
  have g3 : ((tx f.rooms).length : Int) ≤ 8 := by rw [len_tx]; have := G.rooms.2.1; omega
  have g4 : ((f.cells.map Cel.d).length : Int) ≤ 3 := by rw [List.length_map]; have := G.cells.1; omega
  have g5 : ((tx f.whos).length : Int) ≤ 2 := by rw [len_tx]; have := G.whos; omega
  have g6 : ((f.steps.map Stp.d).length : Int) ≤ 8 := by rw [List.length_map]; have := G.steps.1; omega
  rw [ed] at l1 l2 ⊢
  generalize tx f.rooms = L1 at *
  generalize f.cells.map Cel.d = L2 at *
  generalize tx f.whos = L3 at *
  generalize f.steps.map Stp.d = L4 at *
  simp [LIM, runB, startSl, MS.seq, SOut.bind, M.thn, Out.bindS, M.bind, Out.bind, M.pure, varM, setS, setSl, nextS, ifS, M.andM, M.tb, M.bl, cmpM, cmpP, peek, c_lt, c_le, c_gt, c_ge, c_nn, c_eqi, binM, binD, optM, lenM, pkM, lenD, flatD, iterM, itM, forQ, consM, tupM, capM, lstM, newL, idxM, idxD, callM, addM, addD, bin2M, mulD, mulS, sliceM, partM, isTupD, un1M, tupD, sumD, listM, meth1M, isLst, appendM, isCell, putC, setIxS, setIx, isNonD, minD, maxD, Tg.go, Tg.gos, tgS, enumM, range1M, range2M, M.frz, frzM, M.noX, Out.noX, chainM, stepM, b9, e1, e2, e3, e4, e5, e6, e7, l1, l2, g1, g2, g3, g4, g5, g6, hcl]
end K10
set_option Elab.async false
set_option linter.all false
set_option maxRecDepth 100000
set_option maxHeartbeats 8000000
namespace K10
open PySem PySem.Spec PyProof.Rows L2 DL
theorem eqv_prs (a p : List Nat × List Nat) : PyData.eqv (pyOf (prD a)) (pyOf (prD p)) = decide (a = p) := by
  unfold prD
  simp only [pyOf, pyOfs, PyData.eqv, PyData.eqvAll, Bool.and_true]
  rw [S_inj, S_inj]
  obtain ⟨a1, a2⟩ := a
  obtain ⟨p1, p2⟩ := p
  simp
theorem ok_prD {p : List Nat × List Nat} (h : Okl p.1 ∧ Okl p.2) : Ok 1 (prD p) := ok_tup fun d hd => by
  simp only [List.mem_cons, List.not_mem_nil, or_false] at hd
  rcases hd with rfl | rfl
  · exact ok_str h.1
  · exact ok_str h.2
theorem count_prs {ps : List (List Nat × List Nat)} {p : List Nat × List Nat} (h : p ∈ ps) (h2 : ∀ p ∈ ps, Okl p.1 ∧ Okl p.2) (nd : ps.Nodup) : countD (.lst (ps.map prD)) (prD p) = some (.int 1) := by
  have ok2 : Ok 2 (.lst (ps.map prD)) := ok_lst fun d hd => by
    obtain ⟨q, hq, rfl⟩ := List.mem_map.mp hd
    exact ok_prD (h2 q hq)
  show (if okD (.lst (ps.map prD)) && okD (prD p) then some (DL.D.int (((pyOfs (ps.map prD)).countP fun y => PyData.eqv y (pyOf (prD p)) : Nat) : Int)) else none) = _
  rw [ok2.okD (by decide), (ok_prD (h2 p h)).okD (by decide), pyOfs_map]
  simp only [Bool.and_self, if_true, Option.some.injEq, DL.D.int.injEq]
  have key : (ps.map fun x => pyOf (prD x)).countP (fun y => PyData.eqv y (pyOf (prD p))) = 1 := by
    clear ok2 h2
    induction ps with
    | nil => simp at h
    | cons a ls ih =>
      rw [List.map_cons, List.countP_cons, eqv_prs]
      rw [List.nodup_cons] at nd
      have zero : p ∉ ls → (ls.map fun x => pyOf (prD x)).countP (fun y => PyData.eqv y (pyOf (prD p))) = 0 := fun hn => by
        rw [List.countP_eq_zero]
        intro y hy
        obtain ⟨q, hq, rfl⟩ := List.mem_map.mp hy
        rw [eqv_prs]
        simp only [decide_eq_true_eq]
        intro z; exact hn (z ▸ hq)
      by_cases ha : a = p
      · subst ha
        rw [zero nd.1, decide_eq_true rfl]; rfl
      · have h3 : p ∈ ls := (List.mem_cons.mp h).resolve_left fun z => ha z.symm
        rw [ih h3 nd.2, decide_eq_false ha]; rfl
  rw [key]; rfl
theorem index_strs {ls : List (List Nat)} {l : List Nat} (h : l ∈ ls) (h2 : ∀ l ∈ ls, Okl l) : ∃ j : Nat, indexD (.lst (tx ls)) (.str l) = some (.int j) ∧ ls[j]? = some l := by
  have key : ∃ j : Nat, (pyOfs (tx ls)).findIdx? (fun y => PyData.eqv y (pyOf (.str l))) = some j ∧ ls[j]? = some l := by
    unfold tx
    rw [pyOfs_map]
    clear h2
    induction ls with
    | nil => simp at h
    | cons a ls ih =>
      rw [List.map_cons, List.findIdx?_cons, eqv_str]
      by_cases ha : a = l
      · subst ha
        exact ⟨0, by rw [decide_eq_true rfl]; rfl, rfl⟩
      · obtain ⟨j, h3, h4⟩ := ih ((List.mem_cons.mp h).resolve_left fun z => ha z.symm)
        refine ⟨j + 1, ?_, by simpa using h4⟩
        rw [decide_eq_false ha, h3]; rfl
  obtain ⟨j, h3, h4⟩ := key
  refine ⟨j, ?_, h4⟩
  show (if okD (.lst (tx ls)) && okD (.str l) then ((pyOfs (tx ls)).findIdx? fun y => PyData.eqv y (pyOf (.str l))).map fun j => DL.D.int (j : Nat) else none) = _
  rw [(ok_strs (k := 0) h2).okD (by decide), okD_str (h2 l h), h3]; rfl
theorem in_kinds {w : List Nat} (h : w = cs "row" ∨ w = cs "heap") : cmpD .isIn (.str w) c3 = some true := by
  rcases h with rfl | rfl <;> decide +kernel
theorem in_wishes {w : List Nat} (h : w = cs "weak" ∨ w = cs "strong") : cmpD .isIn (.str w) c4 = some true := by
  rcases h with rfl | rfl <;> decide +kernel
theorem ints_many : ∀ fs : List Fam, intsD (fs.map fun f => DL.D.int f.many) = some (fs.map (·.many))
  | [] => rfl
  | f :: fs => by rw [List.map_cons, intsD, ints_many fs]; rfl
theorem check_plan_ok {n : Nat} {μ : List Cell} {p : Pln} (P : GPln p) : callF (n + 12) 10 [p.d] μ = .ok .non μ := by
  show DL.runF 10 (b10 (callF (n + 11))) _ μ = _
  refine runF_pure0 ?_ rfl
  have nmO : ∀ l ∈ p.names, Okl l := fun l hl => by
    obtain ⟨g, hg, rfl⟩ := List.mem_map.mp hl
    exact (P.fams g hg).nm.okl
  have nmN : ∀ l ∈ p.names, Nm l := fun l hl => by
    obtain ⟨g, hg, rfl⟩ := List.mem_map.mp hl
    exact (P.fams g hg).nm
  have prO : ∀ q ∈ p.prs, Okl q.1 ∧ Okl q.2 := fun q hq => by
    obtain ⟨r, hr, rfl⟩ := List.mem_map.mp hq
    exact ⟨nmO _ (P.roads r hr).1, nmO _ (P.roads r hr).2.1⟩
  have ep : p.d = .tup [.lst (p.fams.map Fam.d), .lst (p.roads.map Rod.d), .lst (p.wishes.map Wsh.d)] := rfl
  have e1 := firsts_fams (n := n + 10) (μ := μ) (fs := p.fams) (by have := P.len.2.1; omega)
  have en : p.fams.map (·.nm) = p.names := rfl
  rw [en] at e1
  have e2 := need_ok (n := n + 10) (μ := μ)
  have e3 := need_names_ok (n := n + 9) (μ := μ) p.names nmN P.nd
  have hL : 8 ≤ LIM := by decide
  -- the roads
  obtain ⟨ρ1, l1, y4, rfl⟩ := forX_inv (xs := p.roads) (g := Rod.d) (t := .nm 4) (f := b10_l6 (callF (n + 11))) (fun pre ρ => ∃ y4, ρ = ⟨[some p.d, some (.lst (p.fams.map Fam.d)), some (.lst (p.roads.map Rod.d)), some (.lst (p.wishes.map Wsh.d)), y4, none, none, none, none, none], μ⟩)
    (ρ := ⟨[some p.d, some (.lst (p.fams.map Fam.d)), some (.lst (p.roads.map Rod.d)), some (.lst (p.wishes.map Wsh.d)), none, none, none, none, none, none], μ⟩) ⟨_, rfl⟩ (by
    rintro pre r post ρ e ⟨y4, rfl⟩
    have hr : r ∈ p.roads := by rw [e]; simp
    obtain ⟨r1, r2, r3, r4, r5⟩ := P.roads r hr
    have f1 := in_strs (nmO _ r1) nmO
    rw [decide_eq_true r1] at f1
    have f2 := in_strs (nmO _ r2) nmO
    rw [decide_eq_true r2] at f2
    have f3 := in_kinds r3
    unfold c3 at f3
    have er : r.d = .tup [.str r.one, .str r.other, .str r.kind, .int r.cap, .bl r.e5, .bl r.e6] := rfl
    have f4 : b10_c5 (callF (n + 11)) ⟨[some p.d, some (.lst (p.fams.map Fam.d)), some (.lst (p.roads.map Rod.d)), some (.lst (p.wishes.map Wsh.d)), some r.d, none, none, none, none, none], μ⟩ = _ := lcX_map (c := false) (vs := [5]) (t := .nm 5) (k := iterM (varM 2)) (te := b10_e4 (callF (n + 11))) (ρ1 := ⟨[some p.d, some (.lst (p.fams.map Fam.d)), some (.lst (p.roads.map Rod.d)), some (.lst (p.wishes.map Wsh.d)), some r.d, none, none, none, none, none], μ⟩) (xs := p.roads) Rod.d (fun r => prD r.pr) rfl (by have := P.len.2.2.1; omega) (fun x hx => ⟨⟨[some p.d, some (.lst (p.fams.map Fam.d)), some (.lst (p.roads.map Rod.d)), some (.lst (p.wishes.map Wsh.d)), some r.d, some x.d, none, none, none, none], μ⟩, [some p.d, some (.lst (p.fams.map Fam.d)), some (.lst (p.roads.map Rod.d)), some (.lst (p.wishes.map Wsh.d)), some r.d, some x.d, none, none, none, none], rfl, by
      have ex : x.d = .tup [.str x.one, .str x.other, .str x.kind, .int x.cap, .bl x.e5, .bl x.e6] := rfl
      rw [ex]
      simp [LIM, runB, startSl, MS.seq, SOut.bind, M.thn, Out.bindS, M.bind, Out.bind, M.pure, varM, setS, setSl, nextS, ifS, M.andM, M.tb, M.bl, cmpM, cmpP, peek, c_lt, c_le, c_gt, c_ge, c_nn, c_eqi, binM, binD, optM, lenM, pkM, lenD, flatD, iterM, itM, forQ, consM, tupM, capM, lstM, newL, idxM, idxD, callM, addM, addD, bin2M, mulD, mulS, sliceM, partM, isTupD, un1M, tupD, sumD, listM, meth1M, isLst, appendM, isCell, putC, setIxS, setIx, isNonD, minD, maxD, Tg.go, Tg.gos, tgS, enumM, range1M, range2M, M.frz, frzM, M.noX, Out.noX, chainM, stepM, b10_e4, cut2, prD, Rod.pr]⟩)
    have e2' : p.roads.map (fun r => prD r.pr) = p.prs.map prD := by unfold Pln.prs; rw [List.map_map]; rfl
    rw [e2'] at f4
    have f5 := count_prs (p := r.pr) (List.mem_map_of_mem hr) prO P.prn
    have f5 : countD (.lst (p.prs.map prD)) (.tup [.str r.one, .str r.other]) = some (.int 1) := f5
    refine ⟨_, ⟨[some p.d, some (.lst (p.fams.map Fam.d)), some (.lst (p.roads.map Rod.d)), some (.lst (p.wishes.map Wsh.d)), some r.d, none, none, none, none, none], μ⟩, rfl, .inl ?_, _, rfl⟩
    rw [er] at f4 ⊢
    simp [LIM, runB, startSl, MS.seq, SOut.bind, M.thn, Out.bindS, M.bind, Out.bind, M.pure, varM, setS, setSl, nextS, ifS, M.andM, M.tb, M.bl, cmpM, cmpP, peek, c_lt, c_le, c_gt, c_ge, c_nn, c_eqi, binM, binD, optM, lenM, pkM, lenD, flatD, iterM, itM, forQ, consM, tupM, capM, lstM, newL, idxM, idxD, callM, addM, addD, bin2M, mulD, mulS, sliceM, partM, isTupD, un1M, tupD, sumD, listM, meth1M, isLst, appendM, isCell, putC, setIxS, setIx, isNonD, minD, maxD, Tg.go, Tg.gos, tgS, enumM, range1M, range2M, M.frz, frzM, M.noX, Out.noX, chainM, stepM, b10_l6, c3, e1, e2, f1, f2, f3, f4, f5, atI_0, atI_1, atI_2, atI_3, r4, r5, cut2])
  -- the families
  obtain ⟨ρ2, l2, y6, rfl⟩ := forX_inv (xs := p.fams) (g := Fam.d) (t := .nm 6) (f := b10_l3 (callF (n + 11))) (fun pre ρ => ∃ y6, ρ = ⟨[some p.d, some (.lst (p.fams.map Fam.d)), some (.lst (p.roads.map Rod.d)), some (.lst (p.wishes.map Wsh.d)), y4, none, y6, none, none, none], μ⟩)
    (ρ := ⟨[some p.d, some (.lst (p.fams.map Fam.d)), some (.lst (p.roads.map Rod.d)), some (.lst (p.wishes.map Wsh.d)), y4, none, none, none, none, none], μ⟩) ⟨_, rfl⟩ (by
    rintro pre f post ρ e ⟨y6, rfl⟩
    have f1 := check_family_ok (n := n) (μ := μ) P (P.fams f (by rw [e]; simp))
    refine ⟨_, ⟨[some p.d, some (.lst (p.fams.map Fam.d)), some (.lst (p.roads.map Rod.d)), some (.lst (p.wishes.map Wsh.d)), y4, none, some f.d, none, none, none], μ⟩, rfl, .inl ?_, _, rfl⟩
    simp [LIM, runB, startSl, MS.seq, SOut.bind, M.thn, Out.bindS, M.bind, Out.bind, M.pure, varM, setS, setSl, nextS, ifS, M.andM, M.tb, M.bl, cmpM, cmpP, peek, c_lt, c_le, c_gt, c_ge, c_nn, c_eqi, binM, binD, optM, lenM, pkM, lenD, flatD, iterM, itM, forQ, consM, tupM, capM, lstM, newL, idxM, idxD, callM, addM, addD, bin2M, mulD, mulS, sliceM, partM, isTupD, un1M, tupD, sumD, listM, meth1M, isLst, appendM, isCell, putC, setIxS, setIx, isNonD, minD, maxD, Tg.go, Tg.gos, tgS, enumM, range1M, range2M, M.frz, frzM, M.noX, Out.noX, chainM, stepM, b10_l3, f1])
  -- the sum
  have f6 : b10_c2 (callF (n + 11)) ⟨[some p.d, some (.lst (p.fams.map Fam.d)), some (.lst (p.roads.map Rod.d)), some (.lst (p.wishes.map Wsh.d)), y4, none, y6, none, none, none], μ⟩ = _ := lcX_map (c := false) (vs := [6]) (t := .nm 6) (k := iterM (varM 1)) (te := b10_e1 (callF (n + 11))) (ρ1 := ⟨[some p.d, some (.lst (p.fams.map Fam.d)), some (.lst (p.roads.map Rod.d)), some (.lst (p.wishes.map Wsh.d)), y4, none, y6, none, none, none], μ⟩) (xs := p.fams) Fam.d (fun f => DL.D.int f.many) rfl (by have := P.len.2.1; omega) (fun x hx => ⟨⟨[some p.d, some (.lst (p.fams.map Fam.d)), some (.lst (p.roads.map Rod.d)), some (.lst (p.wishes.map Wsh.d)), y4, none, some x.d, none, none, none], μ⟩, [some p.d, some (.lst (p.fams.map Fam.d)), some (.lst (p.roads.map Rod.d)), some (.lst (p.wishes.map Wsh.d)), y4, none, some x.d, none, none, none], rfl, by
      have ex : x.d = .tup [.str x.nm, .int x.many, .lst (tx x.rooms), .lst (x.cells.map Cel.d), .lst (tx x.whos), .lst (x.steps.map Stp.d)] := rfl
      rw [ex]
      simp [LIM, runB, startSl, MS.seq, SOut.bind, M.thn, Out.bindS, M.bind, Out.bind, M.pure, varM, setS, setSl, nextS, ifS, M.andM, M.tb, M.bl, cmpM, cmpP, peek, c_lt, c_le, c_gt, c_ge, c_nn, c_eqi, binM, binD, optM, lenM, pkM, lenD, flatD, iterM, itM, forQ, consM, tupM, capM, lstM, newL, idxM, idxD, callM, addM, addD, bin2M, mulD, mulS, sliceM, partM, isTupD, un1M, tupD, sumD, listM, meth1M, isLst, appendM, isCell, putC, setIxS, setIx, isNonD, minD, maxD, Tg.go, Tg.gos, tgS, enumM, range1M, range2M, M.frz, frzM, M.noX, Out.noX, chainM, stepM, b10_e1, atI_1]⟩)
  have f7 := ints_many p.fams
  have f8 := P.sum
  -- the wishes
  obtain ⟨ρ3, l3, y7, y8, y9, rfl⟩ := forX_inv (xs := p.wishes) (g := Wsh.d) (t := .tp [.nm 7, .nm 8, .nm 9]) (f := b10_l0 (callF (n + 11))) (fun pre ρ => ∃ y7 y8 y9, ρ = ⟨[some p.d, some (.lst (p.fams.map Fam.d)), some (.lst (p.roads.map Rod.d)), some (.lst (p.wishes.map Wsh.d)), y4, none, y6, y7, y8, y9], μ⟩)
    (ρ := ⟨[some p.d, some (.lst (p.fams.map Fam.d)), some (.lst (p.roads.map Rod.d)), some (.lst (p.wishes.map Wsh.d)), y4, none, y6, none, none, none], μ⟩) ⟨_, _, _, rfl⟩ (by
    rintro pre w post ρ e ⟨y7, y8, y9, rfl⟩
    obtain ⟨w1, f, w2, w3, w4⟩ := P.wishes w (by rw [e]; simp)
    have hin : w.nm ∈ p.names := List.mem_map.mpr ⟨f, w2, w3⟩
    have f1 := in_strs (nmO _ hin) nmO
    rw [decide_eq_true hin] at f1
    obtain ⟨j, j1, j2⟩ := index_strs hin nmO
    have j3 : (p.fams.map Fam.d)[j]? = some f.d := by
      have : p.names[j]? = some w.nm := j2
      unfold Pln.names at this
      rw [List.getElem?_map] at this
      rw [List.getElem?_map]
      cases q : p.fams[j]? with
      | none => rw [q] at this; cases this
      | some g =>
        rw [q] at this
        have hg : g.nm = w.nm := by simpa using this
        have hgm : g ∈ p.fams := List.mem_of_getElem? q
        -- one family of that name
        have : g = f := by
          obtain ⟨jf, hjf, ejf⟩ := List.getElem_of_mem w2
          have q2 : p.names[jf]? = some w.nm := by unfold Pln.names; rw [List.getElem?_map, List.getElem?_eq_getElem hjf, ejf]; simp [w3]
          have hlt : j < p.names.length := (List.getElem?_eq_some_iff.mp j2).1
          have := (List.getElem?_inj hlt P.nd).mp (j2.trans q2.symm)
          subst this
          rw [List.getElem?_eq_getElem hjf, ejf] at q
          exact (Option.some.inj q).symm
        rw [this]; rfl
    have j4 := atI_n j3
    have f2 := in_wishes w1
    unfold c4 at f2
    have ef : f.d = .tup [.str f.nm, .int f.many, .lst (tx f.rooms), .lst (f.cells.map Cel.d), .lst (tx f.whos), .lst (f.steps.map Stp.d)] := rfl
    have f3 := firsts_steps (n := n + 10) (μ := μ) (fs := f.steps) (P.fams f w2).steps.1
    have en3 : f.steps.map (·.nm) = f.sn := rfl
    rw [en3] at f3
    have snO : ∀ l ∈ f.sn, Okl l := fun l hl => ((P.fams f w2).steps.2.1 l hl).okl
    have f4 := in_strs (snO _ w4) snO
    rw [decide_eq_true w4] at f4
    have ew : w.d = .tup [.str w.kind, .str w.nm, .str w.stp] := rfl
    rw [ef] at j4
    refine ⟨⟨[some p.d, some (.lst (p.fams.map Fam.d)), some (.lst (p.roads.map Rod.d)), some (.lst (p.wishes.map Wsh.d)), y4, none, y6, some (.str w.kind), some (.str w.nm), some (.str w.stp)], μ⟩, ⟨[some p.d, some (.lst (p.fams.map Fam.d)), some (.lst (p.roads.map Rod.d)), some (.lst (p.wishes.map Wsh.d)), y4, none, y6, some (.str w.kind), some (.str w.nm), some (.str w.stp)], μ⟩, rfl, .inl ?_, _, _, _, rfl⟩
    simp [LIM, runB, startSl, MS.seq, SOut.bind, M.thn, Out.bindS, M.bind, Out.bind, M.pure, varM, setS, setSl, nextS, ifS, M.andM, M.tb, M.bl, cmpM, cmpP, peek, c_lt, c_le, c_gt, c_ge, c_nn, c_eqi, binM, binD, optM, lenM, pkM, lenD, flatD, iterM, itM, forQ, consM, tupM, capM, lstM, newL, idxM, idxD, callM, addM, addD, bin2M, mulD, mulS, sliceM, partM, isTupD, un1M, tupD, sumD, listM, meth1M, isLst, appendM, isCell, putC, setIxS, setIx, isNonD, minD, maxD, Tg.go, Tg.gos, tgS, enumM, range1M, range2M, M.frz, frzM, M.noX, Out.noX, chainM, stepM, b10_l0, c4, e1, e2, f1, f2, f3, f4, j1, j4, atI_5])
  have g1 : (1 : Int) ≤ (p.fams.map Fam.d).length := by rw [List.length_map]; have := P.len.1; omega
  have g2 : ((p.fams.map Fam.d).length : Int) ≤ 4 := by rw [List.length_map]; have := P.len.2.1; omega
  have g3 : ((p.roads.map Rod.d).length : Int) ≤ 8 := by rw [List.length_map]; have := P.len.2.2.1; omega
  have g4 : ((p.wishes.map Wsh.d).length : Int) ≤ 6 := by rw [List.length_map]; have := P.len.2.2.2; omega
  rw [ep] at l1 l2 l3 f6 ⊢
  generalize p.fams.map Fam.d = L1 at *
  generalize p.roads.map Rod.d = L2 at *
  generalize p.wishes.map Wsh.d = L3 at *
  simp [LIM, runB, startSl, MS.seq, SOut.bind, M.thn, Out.bindS, M.bind, Out.bind, M.pure, varM, setS, setSl, nextS, ifS, M.andM, M.tb, M.bl, cmpM, cmpP, peek, c_lt, c_le, c_gt, c_ge, c_nn, c_eqi, binM, binD, optM, lenM, pkM, lenD, flatD, iterM, itM, forQ, consM, tupM, capM, lstM, newL, idxM, idxD, callM, addM, addD, bin2M, mulD, mulS, sliceM, partM, isTupD, un1M, tupD, sumD, listM, meth1M, isLst, appendM, isCell, putC, setIxS, setIx, isNonD, minD, maxD, Tg.go, Tg.gos, tgS, enumM, range1M, range2M, M.frz, frzM, M.noX, Out.noX, chainM, stepM, b10, e1, e2, e3, l1, l2, l3, g1, g2, g3, g4, f6, f7, f8]
end K10
set_option Elab.async false
set_option linter.all false
set_option maxRecDepth 100000
set_option maxHeartbeats 8000000
namespace K10
open PySem PySem.Spec PyProof.Rows L2 DL
theorem b_add {i j : Int} : binD .add (.int i) (.int j) = some (.int (i + j)) := rfl
theorem b_addt {a b : List DL.D} (h : a.length + b.length ≤ 1000) : binD .add (.tup a) (.tup b) = some (.tup (a ++ b)) := by
  show (if a.length + b.length ≤ LIM then some (DL.D.tup (a ++ b)) else none) = _
  have hL : 1000 ≤ LIM := by decide
  rw [if_pos (by omega)]
theorem b_sub {i j : Int} : binD .sub (.int i) (.int j) = some (.int (i - j)) := rfl
theorem b_fdiv {i j : Int} (h : 0 < j) (h2 : j < 2 ^ 62) : binD .fdiv (.int i) (.int j) = some (.int (i / j)) := by
  have : j.natAbs.log2 < 9000 := by
    have h3 : j.natAbs < 2 ^ 62 := by omega
    have : j.natAbs.log2 < 62 := (Nat.log2_lt (by omega)).mpr h3
    omega
  show (if 0 < j ∧ j.natAbs.log2 < 9000 then some (DL.D.int (i / j)) else none) = _
  rw [if_pos ⟨h, this⟩]
theorem b_mod {i j : Int} (h : 0 < j) : binD .mod (.int i) (.int j) = some (.int (i % j)) := by
  show (if 0 < j then some (DL.D.int (i % j)) else none) = _
  rw [if_pos h]
theorem b_pow : binD .pow (.int 10) (.int 12) = some (.int 1000000000000) := by
  show (if (0 : Int) ≤ 12 ∧ (12 : Int) ≤ 1000000 ∧ (10 : Int).natAbs < 2 ^ 64 then some (DL.D.int (10 ^ (12 : Int).toNat)) else none) = _
  rw [if_pos (by decide)]; rfl
theorem m_int {i j : Int} (h : i.natAbs < 2 ^ 64) : mulD (.int i) (.int j) = some (.int (i * j)) := by
  show (if i.natAbs < 2 ^ 64 ∨ j.natAbs < 2 ^ 64 then some (DL.D.int (i * j)) else none) = _
  rw [if_pos (.inl h)]
abbrev scr (ns : List Int) : DL.D := .seq (ns.map DL.D.int)
theorem at_ok {n : Nat} {μ : List Cell} {ns : List Int} (hns : ns.length ≤ 63) {k : Int} (hk : 0 ≤ k) : ∃ x, callF (n + 1) 11 [scr ns, .int k] μ = .ok (.int x) μ := by
  show ∃ x, DL.runF 2 (b11 (callF n)) _ μ = _
  by_cases h : k < ns.length
  · obtain ⟨m, rfl⟩ : ∃ m : Nat, k = m := ⟨k.toNat, by omega⟩
    have hm : m < ns.length := by omega
    refine ⟨ns[m], runF_pure0 ?_ rfl⟩
    have e1 : atI (ns.map DL.D.int) (m : Int) = some (.int ns[m]) := atI_n (by rw [List.getElem?_map, List.getElem?_eq_getElem hm]; rfl)
    simp [LIM, runB, startSl, MS.seq, SOut.bind, M.thn, Out.bindS, M.bind, Out.bind, M.pure, varM, setS, setSl, nextS, ifS, M.andM, M.tb, M.bl, cmpM, cmpP, peek, c_lt, c_le, c_gt, c_ge, c_nn, c_eqi, binM, b_add, b_addt, b_sub, b_fdiv, b_mod, b_pow, optM, lenM, pkM, lenD, flatD, iterM, itM, forQ, consM, tupM, capM, lstM, newL, idxM, idxD, callM, addM, addD, bin2M, m_int, sliceM, partM, isTupD, un1M, tupD, sumD, listM, meth1M, isLst, appendM, isCell, putC, setIxS, setIx, isNonD, minD, maxD, Tg.go, Tg.gos, tgS, enumM, range1M, range2M, M.frz, frzM, M.noX, Out.noX, chainM, stepM, b11, e1, h]
  · refine ⟨23 * k + 6, runF_pure0 ?_ rfl⟩
    simp [LIM, runB, startSl, MS.seq, SOut.bind, M.thn, Out.bindS, M.bind, Out.bind, M.pure, varM, setS, setSl, nextS, ifS, M.andM, M.tb, M.bl, cmpM, cmpP, peek, c_lt, c_le, c_gt, c_ge, c_nn, c_eqi, binM, b_add, b_addt, b_sub, b_fdiv, b_mod, b_pow, optM, lenM, pkM, lenD, flatD, iterM, itM, forQ, consM, tupM, capM, lstM, newL, idxM, idxD, callM, addM, addD, bin2M, m_int, sliceM, partM, isTupD, un1M, tupD, sumD, listM, meth1M, isLst, appendM, isCell, putC, setIxS, setIx, isNonD, minD, maxD, Tg.go, Tg.gos, tgS, enumM, range1M, range2M, M.frz, frzM, M.noX, Out.noX, chainM, stepM, b11, h]
theorem mix_ok {n : Nat} {μ : List Cell} {x k : Int} (hk : 0 ≤ k) (hk2 : k < 1000000) : ∃ y, 0 ≤ y ∧ callF (n + 1) 12 [.int x, .int k] μ = .ok (.int y) μ := by
  show ∃ y, 0 ≤ y ∧ DL.runF 4 (b12 (callF n)) _ μ = _
  by_cases h : (1000000000000 : Int) ≤ x
  · obtain ⟨ρ', l1, y, z, rfl⟩ := forL_inv (ds := (List.range (k % 61).toNat).map fun i => DL.D.int (i : Nat)) (t := .nm 2) (f := b12_l0 (callF n)) (fun _ ρ => ∃ y z, ρ = ⟨[some (.int y), some (.int k), z, none], μ⟩) (ρ := ⟨[some (.int (x / 1000000000000 - 1)), some (.int k), none, none], μ⟩) ⟨_, _, rfl⟩ (by
      rintro pre d post ρ e ⟨y, z, rfl⟩
      refine ⟨_, ⟨[some (.int (y / 2147483648)), some (.int k), some d, none], μ⟩, rfl, .inl ?_, _, _, rfl⟩
      simp [LIM, runB, startSl, MS.seq, SOut.bind, M.thn, Out.bindS, M.bind, Out.bind, M.pure, varM, setS, setSl, nextS, ifS, M.andM, M.tb, M.bl, cmpM, cmpP, peek, c_lt, c_le, c_gt, c_ge, c_nn, c_eqi, binM, b_add, b_addt, b_sub, b_fdiv, b_mod, b_pow, optM, lenM, pkM, lenD, flatD, iterM, itM, forQ, consM, tupM, capM, lstM, newL, idxM, idxD, callM, addM, addD, bin2M, m_int, sliceM, partM, isTupD, un1M, tupD, sumD, listM, meth1M, isLst, appendM, isCell, putC, setIxS, setIx, isNonD, minD, maxD, Tg.go, Tg.gos, tgS, enumM, range1M, range2M, M.frz, frzM, M.noX, Out.noX, chainM, stepM, b12_l0])
    refine ⟨y % 2147483648, by omega, runF_pure0 ?_ rfl⟩
    have g1 : -4611686018427387904 ≤ k % 61 := by omega
    have g2 : k % 61 < 4611686018427387904 := by omega
    simp [LIM, runB, startSl, MS.seq, SOut.bind, M.thn, Out.bindS, M.bind, Out.bind, M.pure, varM, setS, setSl, nextS, ifS, M.andM, M.tb, M.bl, cmpM, cmpP, peek, c_lt, c_le, c_gt, c_ge, c_nn, c_eqi, binM, b_add, b_addt, b_sub, b_fdiv, b_mod, b_pow, optM, lenM, pkM, lenD, flatD, iterM, itM, forQ, consM, tupM, capM, lstM, newL, idxM, idxD, callM, addM, addD, bin2M, m_int, sliceM, partM, isTupD, un1M, tupD, sumD, listM, meth1M, isLst, appendM, isCell, putC, setIxS, setIx, isNonD, minD, maxD, Tg.go, Tg.gos, tgS, enumM, range1M, range2M, M.frz, frzM, M.noX, Out.noX, chainM, stepM, b12, h, l1, g1, g2]
  · have g1 : (x % 2147483629 + k + 1).natAbs < 18446744073709551616 := by omega
    have g2 : (8 * k).natAbs < 18446744073709551616 := by omega
    generalize hA : (x % 2147483629 + k + 1) * (8 * k * k + 48271) % 2147483647 = A
    have hA1 : 0 ≤ A ∧ A < 2147483647 := by omega
    have g3 : A.natAbs < 18446744073709551616 := by omega
    generalize hB : A * A % 2147483587 = B
    have hB1 : 0 ≤ B ∧ B < 2147483587 := by omega
    have g4 : B.natAbs < 18446744073709551616 := by omega
    refine ⟨B * (B + 2) % 2147483579, by omega, runF_pure0 ?_ rfl⟩
    simp [LIM, runB, startSl, MS.seq, SOut.bind, M.thn, Out.bindS, M.bind, Out.bind, M.pure, varM, setS, setSl, nextS, ifS, M.andM, M.tb, M.bl, cmpM, cmpP, peek, c_lt, c_le, c_gt, c_ge, c_nn, c_eqi, binM, b_add, b_addt, b_sub, b_fdiv, b_mod, b_pow, optM, lenM, pkM, lenD, flatD, iterM, itM, forQ, consM, tupM, capM, lstM, newL, idxM, idxD, callM, addM, addD, bin2M, m_int, sliceM, partM, isTupD, un1M, tupD, sumD, listM, meth1M, isLst, appendM, isCell, putC, setIxS, setIx, isNonD, minD, maxD, Tg.go, Tg.gos, tgS, enumM, range1M, range2M, M.frz, frzM, M.noX, Out.noX, chainM, stepM, b12, h, g1, g2, hA, g3, hB, g4]
end K10
set_option Elab.async false
set_option linter.all false
set_option maxRecDepth 100000
set_option maxHeartbeats 8000000
namespace K10
open PySem PySem.Spec PyProof.Rows L2 DL
def abc : List Nat := cs "abcdefgh"
def xvz : List Nat := cs "xvz"
def nmA (k r z : Nat) : List Nat := List.replicate r (abc.getD k 0) ++ [xvz.getD z 0]
def nmB (k p : Nat) : List Nat := (List.replicate p 109 ++ [abc.getD k 0]) ++ List.replicate (9 - p) 109
def nmOf (k : Nat) (x : Int) : List Nat := if x % 2 = 0 then nmA k (1 + x / 2 % 9).toNat (x / 18 % 3).toNat else nmB k (x / 2 % 10).toNat
/-- words that a drawn name never is -/
def WORDS : List (List Nat) := NEVERS ++ [cs "it", cs "first", cs "by", cs "who", cs "to", cs "from", cs "at", cs "go"]
def chkNm (l : List Nat) : Bool := decide (1 ≤ l.length) && (decide (l.length ≤ 10) && (l.all (fun c => (cs "abcdefghijklmnopqrstuvwxyz").contains c) && WORDS.all fun w => decide (l ≠ w)))
theorem chkA : ∀ k < 8, ∀ r < 10, ∀ z < 3, r = 0 ∨ chkNm (nmA k r z) = true := by decide +kernel
theorem chkB : ∀ k < 8, ∀ p < 10, chkNm (nmB k p) = true := by decide +kernel
theorem injA_b : ((List.range 8).all fun k => (List.range 8).all fun k' => (List.range 10).all fun r => (List.range 3).all fun z => decide (r = 0) || (decide (k = k') || decide (nmA k r z ≠ nmA k' r z))) = true := by decide +kernel
theorem injA (k : Nat) (hk : k < 8) (k' : Nat) (hk' : k' < 8) (r : Nat) (hr : r < 10) (z : Nat) (hz : z < 3) : r = 0 ∨ k = k' ∨ nmA k r z ≠ nmA k' r z := by
  have h := List.all_eq_true.mp (List.all_eq_true.mp (List.all_eq_true.mp (List.all_eq_true.mp injA_b k (List.mem_range.mpr hk)) k' (List.mem_range.mpr hk')) r (List.mem_range.mpr hr)) z (List.mem_range.mpr hz)
  simpa only [Bool.or_eq_true, decide_eq_true_eq] using h
theorem injB : ∀ k < 8, ∀ k' < 8, ∀ p < 10, k = k' ∨ nmB k p ≠ nmB k' p := by decide +kernel
theorem nm_chk {k : Nat} (hk : k < 8) (x : Int) : chkNm (nmOf k x) = true := by
  unfold nmOf
  split
  · exact (chkA k hk _ (by omega) _ (by omega)).resolve_left (by omega)
  · exact chkB k hk _ (by omega)
theorem nm_Nm {k : Nat} (hk : k < 8) (x : Int) : Nm (nmOf k x) := by
  have h := nm_chk hk x
  unfold chkNm at h
  simp only [Bool.and_eq_true, decide_eq_true_eq, List.all_eq_true] at h
  obtain ⟨h1, h2, h3, h4⟩ := h
  exact ⟨⟨h1, h2⟩, fun c hc => by simpa using h3 c hc, fun w hw => h4 w (by unfold WORDS; simp [hw])⟩
theorem nm_word {k : Nat} (hk : k < 8) (x : Int) {w : List Nat} (hw : w ∈ WORDS) : nmOf k x ≠ w := by
  have h := nm_chk hk x
  unfold chkNm at h
  simp only [Bool.and_eq_true, decide_eq_true_eq, List.all_eq_true] at h
  exact h.2.2.2 w hw
theorem nm_inj {k k' : Nat} (hk : k < 8) (hk' : k' < 8) {x : Int} (h : nmOf k x = nmOf k' x) : k = k' := by
  unfold nmOf at h
  split at h
  · rcases injA k hk k' hk' _ (by omega : (1 + x / 2 % 9).toNat < 10) _ (by omega : (x / 18 % 3).toNat < 3) with q | q | q
    · omega
    · exact q
    · exact absurd h q
  · rcases injB k hk k' hk' _ (by omega : (x / 2 % 10).toNat < 10) with q | q
    · exact q
    · exact absurd h q
theorem rep_one (c : Nat) (n : Int) : rep [c] n = List.replicate n.toNat c := by
  unfold rep
  induction n.toNat with
  | zero => rfl
  | succ m ih => rw [List.replicate_succ, List.flatten_cons, ih, List.replicate_succ]; rfl
theorem m_str {c : Nat} {j : Int} (h : 0 ≤ j) (h2 : j < 1000) : mulD (.str [c]) (.int j) = some (.str (List.replicate j.toNat c)) := by
  show (if (-(2 ^ 62) ≤ j ∧ j < 2 ^ 62) ∧ [c].length * j.toNat ≤ LIM then some (DL.D.str (rep [c] j)) else none) = _
  have hL : 1000 ≤ LIM := by decide
  rw [if_pos ⟨by omega, by simp; omega⟩, rep_one]
theorem b_adds {a b : List Nat} (h : a.length ≤ 1000) (h2 : b.length ≤ 1000) : binD .add (.str a) (.str b) = some (.str (a ++ b)) := by
  show (if a.length + b.length ≤ LIM then some (DL.D.str (a ++ b)) else none) = _
  have hL : 2000 ≤ LIM := by decide
  rw [if_pos (by omega)]
theorem atI_getD {l : List Nat} {k : Int} (h : 0 ≤ k) (h2 : k < l.length) : atI l k = some (l.getD k.toNat 0) := by
  obtain ⟨m, rfl⟩ : ∃ m : Nat, k = m := ⟨k.toNat, by omega⟩
  have hm : m < l.length := by omega
  rw [atI_n (x := l[m]) (List.getElem?_eq_getElem hm)]
  simp [List.getD_eq_getElem?_getD, List.getElem?_eq_getElem hm]
theorem len_abc : (cs "abcdefgh").length = 8 := by decide +kernel
theorem len_xvz : (cs "xvz").length = 3 := by decide +kernel
theorem cs_m : cs "m" = [109] := by decide +kernel
theorem named_ok {n : Nat} {μ : List Cell} {k : Nat} {x : Int} (hk : k < 8) (hx : 0 ≤ x) : callF (n + 1) 13 [.int k, .int x] μ = .ok (.str (nmOf k x)) μ := by
  show DL.runF 3 (b13 (callF n)) _ μ = _
  refine runF_pure0 ?_ rfl
  have e1 := atI_getD (l := cs "abcdefgh") (k := (k : Int)) (by omega) (by rw [len_abc]; omega)
  have e2 := atI_getD (l := cs "xvz") (k := x / 18 % 3) (by omega) (by rw [len_xvz]; omega)
  have l1 : (cs "abcdefgh").length ≤ 16777216 := by rw [len_abc]; decide
  have l2 : (cs "xvz").length ≤ 16777216 := by rw [len_xvz]; decide
  have g1 : 0 ≤ 1 + x / 2 % 9 := by omega
  have g2 : 1 + x / 2 % 9 < 1000 := by omega
  have g3 : 0 ≤ x / 2 % 10 := by omega
  have g4 : x / 2 % 10 < 1000 := by omega
  have g5 : 0 ≤ 9 - x / 2 % 10 := by omega
  have g6 : 9 - x / 2 % 10 < 1000 := by omega
  have e3 := m_str (c := (cs "abcdefgh").getD k 0) g1 g2
  have e4 := m_str (c := 109) g3 g4
  have e5 := m_str (c := 109) g5 g6
  have e1' : atI (cs "abcdefgh") (k : Int) = some ((cs "abcdefgh").getD k 0) := by simpa using e1
  have e6 : binD .add (.str (List.replicate (1 + x / 2 % 9).toNat ((cs "abcdefgh").getD k 0))) (.str [(cs "xvz").getD (x / 18 % 3).toNat 0]) = _ := b_adds (by simp; omega) (by simp)
  have e7 : binD .add (.str (List.replicate (x / 2 % 10).toNat 109)) (.str [(cs "abcdefgh").getD k 0]) = _ := b_adds (by simp; omega) (by simp)
  have e8 : binD .add (.str (List.replicate (x / 2 % 10).toNat 109 ++ [(cs "abcdefgh").getD k 0])) (.str (List.replicate (9 - x / 2 % 10).toNat 109)) = _ := b_adds (by simp; omega) (by simp; omega)
  have hq : (9 - x / 2 % 10).toNat = 9 - (x / 2 % 10).toNat := by omega
  by_cases h : x % 2 = 0
  · have en : nmOf k x = List.replicate (1 + x / 2 % 9).toNat ((cs "abcdefgh").getD k 0) ++ [(cs "xvz").getD (x / 18 % 3).toNat 0] := by unfold nmOf; rw [if_pos h]; rfl
    rw [en]
    unfold b13
    generalize (cs "abcdefgh").getD k 0 = A at *
    generalize (cs "xvz").getD (x / 18 % 3).toNat 0 = Z at *
    generalize List.replicate (1 + x / 2 % 9).toNat A = R at *
    clear e1
    generalize cs "abcdefgh" = La at *
    generalize cs "xvz" = Lx at *
    simp [LIM, runB, startSl, MS.seq, SOut.bind, M.thn, Out.bindS, M.bind, Out.bind, M.pure, varM, setS, setSl, nextS, ifS, M.andM, M.tb, M.bl, cmpM, cmpP, peek, c_lt, c_le, c_gt, c_ge, c_nn, c_eqi, binM, b_add, b_addt, b_sub, b_fdiv, b_mod, b_pow, optM, lenM, pkM, lenD, flatD, iterM, itM, forQ, consM, tupM, capM, lstM, newL, idxM, idxD, callM, addM, addD, bin2M, m_int, sliceM, partM, isTupD, un1M, tupD, sumD, listM, meth1M, isLst, appendM, isCell, putC, setIxS, setIx, isNonD, minD, maxD, Tg.go, Tg.gos, tgS, enumM, range1M, range2M, M.frz, frzM, M.noX, Out.noX, chainM, stepM, h, e1', e2, l1, l2, e3, e6]
  · have en : nmOf k x = (List.replicate (x / 2 % 10).toNat 109 ++ [(cs "abcdefgh").getD k 0]) ++ List.replicate (9 - x / 2 % 10).toNat 109 := by unfold nmOf; rw [if_neg h, hq]; rfl
    rw [en]
    unfold b13
    generalize (cs "abcdefgh").getD k 0 = A at *
    generalize List.replicate (x / 2 % 10).toNat 109 = R at *
    generalize List.replicate (9 - x / 2 % 10).toNat 109 = R2 at *
    clear e1
    rw [cs_m]
    generalize cs "abcdefgh" = La at *
    simp only [List.append_assoc] at e8
    simp [LIM, runB, startSl, MS.seq, SOut.bind, M.thn, Out.bindS, M.bind, Out.bind, M.pure, varM, setS, setSl, nextS, ifS, M.andM, M.tb, M.bl, cmpM, cmpP, peek, c_lt, c_le, c_gt, c_ge, c_nn, c_eqi, binM, b_add, b_addt, b_sub, b_fdiv, b_mod, b_pow, optM, lenM, pkM, lenD, flatD, iterM, itM, forQ, consM, tupM, capM, lstM, newL, idxM, idxD, callM, addM, addD, bin2M, m_int, sliceM, partM, isTupD, un1M, tupD, sumD, listM, meth1M, isLst, appendM, isCell, putC, setIxS, setIx, isNonD, minD, maxD, Tg.go, Tg.gos, tgS, enumM, range1M, range2M, M.frz, frzM, M.noX, Out.noX, chainM, stepM, h, e1', l1, e4, e5, e7, e8]
theorem runF_eq {n : Nat} {b : MS} {ds : List DL.D} {μ μ' : List Cell} {d : DL.D} (h : runB n b ds μ = .ok d μ') (hl : μ'.length = μ.length) : DL.runF n b ds μ = .ok d μ' := by
  unfold DL.runF truncO
  rw [h]
  dsimp only
  rw [← hl, List.take_length]
  split <;> rfl
theorem next_ok {n : Nat} {μ : List Cell} {ns : List Int} (hns : ns.length ≤ 63) {h : Nat} (hh : h < μ.length) {k : Int} (hk : 0 ≤ k) (hk2 : k < 1000000) :
    ∃ y, 0 ≤ y ∧ callF (n + 2) 14 [scr ns, .ref h] (μ.set h (.lst [.int k])) = .ok (.int y) (μ.set h (.lst [.int (k + 1)])) := by
  obtain ⟨x, e1⟩ := at_ok (n := n) (μ := μ.set h (.lst [.int (k + 1)])) hns (k := 1 + (k + 1) % 62) (by omega)
  obtain ⟨y, hy, e2⟩ := mix_ok (n := n) (μ := μ.set h (.lst [.int (k + 1)])) (x := x) (k := 1 + (k + 1) / 62) (by omega) (by omega)
  refine ⟨y, hy, ?_⟩
  show DL.runF 2 (b14 (callF (n + 1))) _ _ = _
  refine runF_eq ?_ (by simp)
  have g1 : ∀ c : Cell, (μ.set h c)[h]? = some c := fun c => by simp [hh]
  have g2 : atI [DL.D.int k] 0 = some (.int k) := rfl
  have g3 : atI [DL.D.int (k + 1)] 0 = some (.int (k + 1)) := rfl
  have g4 : ixN 1 0 = some 0 := rfl
  simp [LIM, runB, startSl, MS.seq, SOut.bind, M.thn, Out.bindS, M.bind, Out.bind, M.pure, varM, setS, setSl, nextS, ifS, M.andM, M.tb, M.bl, cmpM, cmpP, peek, c_lt, c_le, c_gt, c_ge, c_nn, c_eqi, binM, b_add, b_addt, b_sub, b_fdiv, b_mod, b_pow, optM, lenM, pkM, lenD, flatD, iterM, itM, forQ, consM, tupM, capM, lstM, newL, idxM, idxD, callM, addM, addD, bin2M, m_int, sliceM, partM, isTupD, un1M, tupD, sumD, listM, meth1M, isLst, appendM, isCell, putC, setIxS, setIx, isNonD, minD, maxD, Tg.go, Tg.gos, tgS, enumM, range1M, range2M, M.frz, frzM, M.noX, Out.noX, chainM, stepM, b14, g1, g2, g3, g4, e1, e2]
end K10
set_option Elab.async false
set_option linter.all false
set_option maxRecDepth 100000
set_option maxHeartbeats 8000000
namespace K10
open PySem PySem.Spec PyProof.Rows L2 DL
theorem ne_name {w : List Nat} (h : (w != cs "name") = true) : w ≠ cs "name" := by simpa using h
theorem okl_of {w : List Nat} (h : (w.all fun c => decide (c < 1114112)) = true) : Okl w := fun c hc => by simpa using List.all_eq_true.mp h c hc
theorem runF_gen {n : Nat} {b : MS} {ds : List DL.D} {μ μ0 junk : List Cell} {d : DL.D} (h : runB n b ds μ = .ok d (μ0 ++ junk)) (hl : μ0.length = μ.length) (hb : blw μ.length d = true)
    (hc : ∀ (n : Nat) (c : Cell), μ0[n]? = some c → μ[n]? = some c ∨ c.blw μ.length = true) : DL.runF n b ds μ = .ok d μ0 := by
  unfold DL.runF truncO
  rw [h]
  dsimp only
  rw [if_pos ⟨hb, fun n c hn hc' => hc n c (by rwa [List.getElem?_append_left (by omega)] at hc')⟩, List.take_left' hl]
abbrev At (k : Int) : Cell := .lst [.int k]
theorem at_cells {μ : List Cell} {h : Nat} {k k' : Int} : ∀ (n : Nat) (c : Cell), (μ.set h (At k'))[n]? = some c → (μ.set h (At k))[n]? = some c ∨ c.blw (μ.set h (At k)).length = true := fun n c hc => by
  by_cases z : h = n
  · subst z
    by_cases hl : h < μ.length
    · rw [List.getElem?_set_self hl] at hc
      cases hc
      exact .inr rfl
    · rw [List.getElem?_eq_none (by simp; omega)] at hc; cases hc
  · rw [List.getElem?_set_ne z] at hc
    exact .inl (by rw [List.getElem?_set_ne z]; exact hc)
theorem runF_at {n : Nat} {b : MS} {ds : List DL.D} {μ junk : List Cell} {d : DL.D} {h : Nat} {k k' : Int} (e : runB n b ds (μ.set h (At k)) = .ok d ((μ.set h (At k')) ++ junk)) (hb : blw μ.length d = true) : DL.runF n b ds (μ.set h (At k)) = .ok d (μ.set h (At k')) :=
  runF_gen e (by simp) (by simpa using hb) at_cells
theorem sp_name {K : List (List Nat)} {x : List Nat} (h : x ∈ K) : Sp K 1 (.tup [.str (cs "name"), .str x]) := .inl ⟨x, h, rfl⟩
theorem sp_num {K : List (List Nat)} {i : Int} : Sp K 1 (.tup [.str (cs "number"), .int i]) := .inr ⟨cs "number", [.int i], ne_name (by decide +kernel), okl_of (by decide +kernel), by simp, rfl, fun p hp => .inr (.inl ⟨i, by simpa using hp⟩)⟩
theorem leaf_ok {n : Nat} {μ : List Cell} {K : List (List Nat)} (hK : ∀ x ∈ K, Okl x) (hKl : K.length ≤ 100) {x : Int} (hx : 0 ≤ x) : ∃ d, callF (n + 1) 15 [.lst (tx K), .int x] μ = .ok d μ ∧ Sp K 1 d := by
  show ∃ d, DL.runF 2 (b15 (callF n)) _ μ = _ ∧ _
  by_cases h : 0 < x % 3 ∧ 0 < K.length
  · obtain ⟨h1, h2⟩ := h
    have g1 : 0 ≤ x / 3 % (K.length : Int) := Int.emod_nonneg _ (by omega)
    have g2 : x / 3 % (K.length : Int) < K.length := Int.emod_lt_of_pos _ (by omega)
    obtain ⟨m, hm⟩ : ∃ m : Nat, x / 3 % (K.length : Int) = m := ⟨(x / 3 % (K.length : Int)).toNat, by omega⟩
    have hml : m < K.length := by omega
    refine ⟨.tup [.str (cs "name"), .str K[m]], runF_pure0 ?_ rfl, sp_name (List.getElem_mem hml)⟩
    have e1 : atI (tx K) (m : Int) = some (.str K[m]) := atI_n (by unfold tx; rw [List.getElem?_map, List.getElem?_eq_getElem hml]; rfl)
    have e2 : 0 < (tx K).length := by rw [len_tx]; omega
    have e3 : x / 3 % ((tx K).length : Int) = m := by rw [len_tx]; exact hm
    generalize tx K = L at *
    simp [LIM, runB, startSl, MS.seq, SOut.bind, M.thn, Out.bindS, M.bind, Out.bind, M.pure, varM, setS, setSl, nextS, ifS, M.andM, M.tb, M.bl, cmpM, cmpP, peek, c_lt, c_le, c_gt, c_ge, c_nn, c_eqi, binM, b_add, b_addt, b_sub, b_fdiv, b_mod, b_pow, optM, lenM, pkM, lenD, flatD, iterM, itM, forQ, consM, tupM, capM, lstM, newL, idxM, idxD, callM, addM, addD, bin2M, m_int, sliceM, partM, isTupD, un1M, tupD, sumD, listM, meth1M, isLst, appendM, isCell, putC, setIxS, setIx, isNonD, minD, maxD, Tg.go, Tg.gos, tgS, enumM, range1M, range2M, M.frz, frzM, M.noX, Out.noX, chainM, stepM, b15, h1, e2, e3, e1]
  · obtain ⟨i, hi⟩ : ∃ i : Int, atI [DL.D.int (x / 3 % 10), DL.D.int (x / 30 % 1000)] (x / 3 % 4 / 3) = some (.int i) := by
      have : x / 3 % 4 / 3 = 0 ∨ x / 3 % 4 / 3 = 1 := by omega
      rcases this with q | q
      · exact ⟨x / 3 % 10, by rw [q]; exact atI_0⟩
      · exact ⟨x / 30 % 1000, by rw [q]; exact atI_1⟩
    refine ⟨_, runF_pure0 (d := .tup [.str (cs "number"), .int i]) ?_ rfl, sp_num⟩
    by_cases h1 : 0 < x % 3
    · have hz : ¬ (0 < (tx K).length) := by rw [len_tx]; exact fun q => h ⟨h1, by omega⟩
      generalize tx K = L at *
      simp [LIM, runB, startSl, MS.seq, SOut.bind, M.thn, Out.bindS, M.bind, Out.bind, M.pure, varM, setS, setSl, nextS, ifS, M.andM, M.tb, M.bl, cmpM, cmpP, peek, c_lt, c_le, c_gt, c_ge, c_nn, c_eqi, binM, b_add, b_addt, b_sub, b_fdiv, b_mod, b_pow, optM, lenM, pkM, lenD, flatD, iterM, itM, forQ, consM, tupM, capM, lstM, newL, idxM, idxD, callM, addM, addD, bin2M, m_int, sliceM, partM, isTupD, un1M, tupD, sumD, listM, meth1M, isLst, appendM, isCell, putC, setIxS, setIx, isNonD, minD, maxD, Tg.go, Tg.gos, tgS, enumM, range1M, range2M, M.frz, frzM, M.noX, Out.noX, chainM, stepM, b15, h1, hz, hi]
    · simp [LIM, runB, startSl, MS.seq, SOut.bind, M.thn, Out.bindS, M.bind, Out.bind, M.pure, varM, setS, setSl, nextS, ifS, M.andM, M.tb, M.bl, cmpM, cmpP, peek, c_lt, c_le, c_gt, c_ge, c_nn, c_eqi, binM, b_add, b_addt, b_sub, b_fdiv, b_mod, b_pow, optM, lenM, pkM, lenD, flatD, iterM, itM, forQ, consM, tupM, capM, lstM, newL, idxM, idxD, callM, addM, addD, bin2M, m_int, sliceM, partM, isTupD, un1M, tupD, sumD, listM, meth1M, isLst, appendM, isCell, putC, setIxS, setIx, isNonD, minD, maxD, Tg.go, Tg.gos, tgS, enumM, range1M, range2M, M.frz, frzM, M.noX, Out.noX, chainM, stepM, b15, h1, hi]
theorem sp_op {K : List (List Nat)} {w : List Nat} (hw : w = cs "plus" ∨ w = cs "minus" ∨ w = cs "times") {a b : DL.D} (ha : Sp K 1 a) (hb : Sp K 1 b) : Sp K 2 (.tup [.str w, a, b]) :=
  .inr ⟨w, [a, b], by rcases hw with rfl | rfl | rfl <;> exact ne_name (by decide +kernel), by rcases hw with rfl | rfl | rfl <;> exact okl_of (by decide +kernel), by simp, rfl, fun p hp => .inr (.inr (by
    simp only [List.mem_cons, List.not_mem_nil, or_false] at hp
    rcases hp with rfl | rfl <;> assumption))⟩
theorem small_ok {n : Nat} {μ : List Cell} {ns : List Int} (hns : ns.length ≤ 63) {h : Nat} (hh : h < μ.length) {k : Int} (hk : 0 ≤ k) (hk2 : k < 1000000) {K : List (List Nat)} (hK : ∀ x ∈ K, Okl x) (hKl : K.length ≤ 100) :
    ∃ d, callF (n + 3) 16 [.lst (tx K), scr ns, .ref h] (μ.set h (At k)) = .ok d (μ.set h (At (k + 1))) ∧ Sp K 2 d := by
  obtain ⟨x, hx, e1⟩ := next_ok (n := n) hns hh hk hk2
  obtain ⟨a, e2, ha⟩ := leaf_ok (n := n + 1) (μ := μ.set h (At (k + 1))) hK hKl (x := x / 8) (by omega)
  obtain ⟨b, e3, hb⟩ := leaf_ok (n := n + 1) (μ := μ.set h (At (k + 1))) hK hKl (x := x / 32768) (by omega)
  show ∃ d, DL.runF 5 (b16 (callF (n + 2))) _ _ = _ ∧ _
  have oka := ha.ok hK
  have okb := hb.ok hK
  by_cases h1 : 2 < x % 8
  · refine ⟨a, runF_at (junk := []) ?_ oka.blw, ha.succ⟩
    simp [LIM, runB, startSl, MS.seq, SOut.bind, M.thn, Out.bindS, M.bind, Out.bind, M.pure, varM, setS, setSl, nextS, ifS, M.andM, M.tb, M.bl, cmpM, cmpP, peek, c_lt, c_le, c_gt, c_ge, c_nn, c_eqi, binM, b_add, b_addt, b_sub, b_fdiv, b_mod, b_pow, optM, lenM, pkM, lenD, flatD, iterM, itM, forQ, consM, tupM, capM, lstM, newL, idxM, idxD, callM, addM, addD, bin2M, m_int, sliceM, partM, isTupD, un1M, tupD, sumD, listM, meth1M, isLst, appendM, isCell, putC, setIxS, setIx, isNonD, minD, maxD, Tg.go, Tg.gos, tgS, enumM, range1M, range2M, M.frz, frzM, M.noX, Out.noX, chainM, stepM, b16, e1, e2, h1]
  · have hcase : x % 8 = 0 ∨ x % 8 = 1 ∨ x % 8 = 2 := by omega
    have mk : ∀ w : List Nat, (w = cs "plus" ∨ w = cs "minus" ∨ w = cs "times") → atI [DL.D.str (cs "plus"), .str (cs "minus"), .str (cs "times")] (x % 8) = some (.str w) → ∃ d, DL.runF 5 (b16 (callF (n + 2))) [.lst (tx K), scr ns, .ref h] (μ.set h (At k)) = .ok d (μ.set h (At (k + 1))) ∧ Sp K 2 d := fun w hw e4 => by
      refine ⟨.tup [.str w, a, b], runF_at (junk := []) ?_ (by simp [blw, blws, oka.blw, okb.blw]), sp_op hw ha hb⟩
      simp [LIM, runB, startSl, MS.seq, SOut.bind, M.thn, Out.bindS, M.bind, Out.bind, M.pure, varM, setS, setSl, nextS, ifS, M.andM, M.tb, M.bl, cmpM, cmpP, peek, c_lt, c_le, c_gt, c_ge, c_nn, c_eqi, binM, b_add, b_addt, b_sub, b_fdiv, b_mod, b_pow, optM, lenM, pkM, lenD, flatD, iterM, itM, forQ, consM, tupM, capM, lstM, newL, idxM, idxD, callM, addM, addD, bin2M, m_int, sliceM, partM, isTupD, un1M, tupD, sumD, listM, meth1M, isLst, appendM, isCell, putC, setIxS, setIx, isNonD, minD, maxD, Tg.go, Tg.gos, tgS, enumM, range1M, range2M, M.frz, frzM, M.noX, Out.noX, chainM, stepM, b16, e1, e2, h1, e3, e4]
    rcases hcase with q | q | q
    · exact mk _ (.inl rfl) (by rw [q]; exact atI_0)
    · exact mk _ (.inr (.inl rfl)) (by rw [q]; exact atI_1)
    · exact mk _ (.inr (.inr rfl)) (by rw [q]; exact atI_2)
end K10
set_option Elab.async false
set_option linter.all false
set_option maxRecDepth 100000
set_option maxHeartbeats 8000000
namespace K10
open PySem PySem.Spec PyProof.Rows L2 DL
theorem sp_node {K : List (List Nat)} {n : Nat} {w : List Nat} {ps : List DL.D} (h1 : (w != cs "name") = true) (h2 : Okl w) (h3 : ps.length ≤ 3) (h : ∀ p ∈ ps, (∃ s, Okl s ∧ p = .str s) ∨ (∃ i, p = .int i) ∨ Sp K n p) : Sp K (n + 1) (.tup (.str w :: ps)) := .inr ⟨w, ps, ne_name h1, h2, h3, rfl, h⟩
theorem when_ok {n : Nat} {μ : List Cell} {ns : List Int} (hns : ns.length ≤ 63) {h : Nat} (hh : h < μ.length) {k : Int} (hk : 0 ≤ k) (hk2 : k < 999000) {K : List (List Nat)} (hK : ∀ x ∈ K, Okl x) (hKl : K.length ≤ 100) :
    ∃ d k', callF (n + 4) 17 [.lst (tx K), scr ns, .ref h] (μ.set h (At k)) = .ok d (μ.set h (At k')) ∧ Sp K 8 d ∧ k ≤ k' ∧ k' ≤ k + 3 := by
  obtain ⟨x, hx, e1⟩ := next_ok (n := n + 1) hns hh hk (by omega)
  obtain ⟨a, e2, ha⟩ := small_ok (n := n) hns hh (k := k + 1) (by omega) (by omega) hK hKl
  obtain ⟨b, e3, hb⟩ := small_ok (n := n) hns hh (k := k + 1 + 1) (by omega) (by omega) hK hKl
  obtain ⟨c, e4, hc⟩ := leaf_ok (n := n + 2) (μ := μ.set h (At (k + 1 + 1 + 1))) hK hKl (x := x / 72) (by omega)
  show ∃ d k', DL.runF 7 (b17 (callF (n + 3))) _ _ = _ ∧ _
  have bl : ∀ {m : Nat} {d : DL.D} {j : Nat}, Sp K m d → blw j d = true := fun z => (z.ok hK).blw
  by_cases h1 : x % 3 = 0
  · have hs : Sp K 1 (.tup [.str (cs "true")]) := sp_node (n := 0) (by decide +kernel) (okl_of (by decide +kernel)) (by simp) fun p hp => by simp at hp
    refine ⟨_, k + 1, runF_at (d := .tup [.str (cs "true")]) (junk := []) ?_ rfl, hs.le (by decide), by omega, by omega⟩
    simp [LIM, runB, startSl, MS.seq, SOut.bind, M.thn, Out.bindS, M.bind, Out.bind, M.pure, varM, setS, setSl, nextS, ifS, M.andM, M.tb, M.bl, cmpM, cmpP, peek, c_lt, c_le, c_gt, c_ge, c_nn, c_eqi, binM, b_add, b_addt, b_sub, b_fdiv, b_mod, b_pow, optM, lenM, pkM, lenD, flatD, iterM, itM, forQ, consM, tupM, capM, lstM, newL, idxM, idxD, callM, addM, addD, bin2M, m_int, sliceM, partM, isTupD, un1M, tupD, sumD, listM, meth1M, isLst, appendM, isCell, putC, setIxS, setIx, isNonD, minD, maxD, Tg.go, Tg.gos, tgS, enumM, range1M, range2M, M.frz, frzM, M.noX, Out.noX, chainM, stepM, b17, e1, h1]
  · obtain ⟨w, hw, hwo⟩ : ∃ w, atI [DL.D.str (cs "="), .str (cs "!="), .str (cs "<"), .str (cs "<="), .str (cs ">"), .str (cs ">=")] (x / 3 % 6) = some (.str w) ∧ Okl w := by
      have : x / 3 % 6 = 0 ∨ x / 3 % 6 = 1 ∨ x / 3 % 6 = 2 ∨ x / 3 % 6 = 3 ∨ x / 3 % 6 = 4 ∨ x / 3 % 6 = 5 := by omega
      rcases this with q | q | q | q | q | q <;> rw [q]
      · exact ⟨_, atI_0, okl_of (by decide +kernel)⟩
      · exact ⟨_, atI_1, okl_of (by decide +kernel)⟩
      · exact ⟨_, atI_2, okl_of (by decide +kernel)⟩
      · exact ⟨_, atI_3, okl_of (by decide +kernel)⟩
      · exact ⟨_, atI_4, okl_of (by decide +kernel)⟩
      · exact ⟨_, atI_5, okl_of (by decide +kernel)⟩
    have hf : Sp K 3 (.tup [.str (cs "is"), .str w, a, b]) := sp_node (n := 2) (by decide +kernel) (okl_of (by decide +kernel)) (by simp) fun p hp => by
      simp only [List.mem_cons, List.not_mem_nil, or_false] at hp
      rcases hp with rfl | rfl | rfl
      · exact .inl ⟨w, hwo, rfl⟩
      · exact .inr (.inr ha)
      · exact .inr (.inr hb)
    by_cases h2 : x / 18 % 4 = 0
    · have hn : Sp K 4 (.tup [.str (cs "not"), .tup [.str (cs "is"), .str w, a, b]]) := sp_node (n := 3) (by decide +kernel) (okl_of (by decide +kernel)) (by simp) fun p hp => .inr (.inr ((by simpa using hp : p = _) ▸ hf))
      have hz : ¬ (x / 18 % 4 = 1) := by omega
      refine ⟨_, k + 1 + 1 + 1, runF_at (d := .tup [.str (cs "not"), .tup [.str (cs "is"), .str w, a, b]]) (junk := []) ?_ (bl hn), hn.le (by decide), by omega, by omega⟩
      simp [LIM, runB, startSl, MS.seq, SOut.bind, M.thn, Out.bindS, M.bind, Out.bind, M.pure, varM, setS, setSl, nextS, ifS, M.andM, M.tb, M.bl, cmpM, cmpP, peek, c_lt, c_le, c_gt, c_ge, c_nn, c_eqi, binM, b_add, b_addt, b_sub, b_fdiv, b_mod, b_pow, optM, lenM, pkM, lenD, flatD, iterM, itM, forQ, consM, tupM, capM, lstM, newL, idxM, idxD, callM, addM, addD, bin2M, m_int, sliceM, partM, isTupD, un1M, tupD, sumD, listM, meth1M, isLst, appendM, isCell, putC, setIxS, setIx, isNonD, minD, maxD, Tg.go, Tg.gos, tgS, enumM, range1M, range2M, M.frz, frzM, M.noX, Out.noX, chainM, stepM, b17, e1, h1, hw, e2, e3, h2, hz]
    · by_cases h3 : x / 18 % 4 = 1
      · obtain ⟨v, hv, hvo, hvn⟩ : ∃ v, atI [DL.D.str (cs "and"), .str (cs "or")] (x / 7200 % 2) = some (.str v) ∧ Okl v ∧ (v != cs "name") = true := by
          have : x / 7200 % 2 = 0 ∨ x / 7200 % 2 = 1 := by omega
          rcases this with q | q <;> rw [q]
          · exact ⟨_, atI_0, okl_of (by decide +kernel), by decide +kernel⟩
          · exact ⟨_, atI_1, okl_of (by decide +kernel), by decide +kernel⟩
        have ho : Sp K 2 (.tup [.str (cs "is"), .str (cs "="), c, .tup [.str (cs "number"), .int (x / 720 % 10)]]) := sp_node (n := 1) (by decide +kernel) (okl_of (by decide +kernel)) (by simp) fun p hp => by
          simp only [List.mem_cons, List.not_mem_nil, or_false] at hp
          rcases hp with rfl | rfl | rfl
          · exact .inl ⟨_, okl_of (by decide +kernel), rfl⟩
          · exact .inr (.inr hc)
          · exact .inr (.inr sp_num)
        have hn : Sp K 4 (.tup [.str v, .tup [.str (cs "is"), .str w, a, b], .tup [.str (cs "is"), .str (cs "="), c, .tup [.str (cs "number"), .int (x / 720 % 10)]]]) := sp_node (n := 3) hvn hvo (by simp) fun p hp => by
          simp only [List.mem_cons, List.not_mem_nil, or_false] at hp
          rcases hp with rfl | rfl
          · exact .inr (.inr hf)
          · exact .inr (.inr ho.succ)
        refine ⟨_, k + 1 + 1 + 1, runF_at (d := .tup [.str v, .tup [.str (cs "is"), .str w, a, b], .tup [.str (cs "is"), .str (cs "="), c, .tup [.str (cs "number"), .int (x / 720 % 10)]]]) (junk := []) ?_ (bl hn), hn.le (by decide), by omega, by omega⟩
        simp [LIM, runB, startSl, MS.seq, SOut.bind, M.thn, Out.bindS, M.bind, Out.bind, M.pure, varM, setS, setSl, nextS, ifS, M.andM, M.tb, M.bl, cmpM, cmpP, peek, c_lt, c_le, c_gt, c_ge, c_nn, c_eqi, binM, b_add, b_addt, b_sub, b_fdiv, b_mod, b_pow, optM, lenM, pkM, lenD, flatD, iterM, itM, forQ, consM, tupM, capM, lstM, newL, idxM, idxD, callM, addM, addD, bin2M, m_int, sliceM, partM, isTupD, un1M, tupD, sumD, listM, meth1M, isLst, appendM, isCell, putC, setIxS, setIx, isNonD, minD, maxD, Tg.go, Tg.gos, tgS, enumM, range1M, range2M, M.frz, frzM, M.noX, Out.noX, chainM, stepM, b17, e1, h1, hw, e2, e3, h2, h3, e4, hv]
      · refine ⟨_, k + 1 + 1 + 1, runF_at (d := .tup [.str (cs "is"), .str w, a, b]) (junk := []) ?_ (bl hf), hf.le (by decide), by omega, by omega⟩
        simp [LIM, runB, startSl, MS.seq, SOut.bind, M.thn, Out.bindS, M.bind, Out.bind, M.pure, varM, setS, setSl, nextS, ifS, M.andM, M.tb, M.bl, cmpM, cmpP, peek, c_lt, c_le, c_gt, c_ge, c_nn, c_eqi, binM, b_add, b_addt, b_sub, b_fdiv, b_mod, b_pow, optM, lenM, pkM, lenD, flatD, iterM, itM, forQ, consM, tupM, capM, lstM, newL, idxM, idxD, callM, addM, addD, bin2M, m_int, sliceM, partM, isTupD, un1M, tupD, sumD, listM, meth1M, isLst, appendM, isCell, putC, setIxS, setIx, isNonD, minD, maxD, Tg.go, Tg.gos, tgS, enumM, range1M, range2M, M.frz, frzM, M.noX, Out.noX, chainM, stepM, b17, e1, h1, hw, e2, e3, h2, h3]

theorem frzL_plain : ∀ (k : Nat) {ds : List DL.D} {μ : List Cell}, (∀ d ∈ ds, blw 0 d = true) → ds.length + 2 ≤ k → frzL k ds μ = some (ds, μ)
  | 0, _, _, _, h => by omega
  | k + 1, [], _, _, _ => rfl
  | k + 1, d :: ds, μ, hb, h => by
    rw [List.length_cons] at h
    have h1 : frzD k d μ = some (d, μ) := by
      obtain ⟨j, rfl⟩ : ∃ j, k = j + 1 := ⟨k - 1, by omega⟩
      unfold frzD
      rw [if_pos (hb d (by simp))]
    unfold frzL
    rw [h1]
    dsimp only
    rw [frzL_plain k (fun e he => hb e (by simp [he])) (by omega)]; rfl
theorem frz_last {ν : List Cell} {m : Nat} {ds : List DL.D} (hm : ν.length = m) (hb : ∀ d ∈ ds, blw 0 d = true) (hl : ds.length ≤ 60) : frzD 64 (.ref m) (ν ++ [.lst ds]) = some (.lst ds, ν ++ [.dead]) := by
  subst hm
  have h0 : blw 0 (.ref ν.length) = false := by rw [blw]; simp
  rw [show (64 : Nat) = 63 + 1 from rfl]
  unfold frzD
  rw [h0]
  simp only [Bool.false_eq_true, if_false, get_last, set_last]
  rw [frzL_plain 63 hb (by omega)]; rfl
theorem set_app {μ ν : List Cell} {h : Nat} {c : Cell} (hh : h < μ.length) : (μ ++ ν).set h c = μ.set h c ++ ν := List.set_append_left _ _ hh
def GCel (c : Cel) : Prop := c.lo ≤ c.st ∧ c.st ≤ c.hi ∧ c.hi - c.lo ≤ 9
theorem blw_cel {k : Nat} (c : Cel) : blw k c.d = true := rfl
theorem cells_ok {n : Nat} {μ : List Cell} {ns : List Int} (hns : ns.length ≤ 63) {h : Nat} (hh : h < μ.length) {k : Int} (hk : 0 ≤ k) (hk2 : k < 990000) :
    ∃ (cl : List Cel) (x : Int) (m : Nat) (k' : Int), callF (n + 3) 18 [scr ns, .ref h] (μ.set h (At k)) = .ok (.lst (cl.map Cel.d)) (μ.set h (At k')) ∧ m ≤ 3 ∧ cl.map (·.nm) = (List.range m).map (fun i => nmOf i x) ∧ (∀ c ∈ cl, GCel c) ∧ k ≤ k' ∧ k' ≤ k + 4 := by
  obtain ⟨x, hx, e1⟩ := next_ok (n := n) (μ := μ ++ [.lst []]) hns (h := h) (by simp; omega) hk (by omega)
  rw [set_app hh, set_app hh] at e1
  show ∃ cl x m k', DL.runF 8 (b18 (callF (n + 2))) _ _ = _ ∧ _
  have hm3 : (x % 4).toNat ≤ 3 := by omega
  have glast : ∀ (a : Cell) (c : Cell), (μ.set h a ++ [c])[μ.length]? = some c := fun a c => by
    have := get_last (μ.set h a) c
    rwa [List.length_set] at this
  have slast : ∀ (a : Cell) (c d : Cell), (μ.set h a ++ [c]).set μ.length d = μ.set h a ++ [d] := fun a c d => by
    have := set_last (μ.set h a) c d
    rwa [List.length_set] at this
  obtain ⟨ρ', l1, cl, y4, y5, y6, y7, rfl, i1, i2, i3⟩ := forX_inv (xs := List.range (x % 4).toNat) (g := fun i => DL.D.int (i : Nat)) (t := .nm 4) (f := b18_l0 (callF (n + 2))) (fun pre ρ => ∃ cl y4 y5 y6 y7, ρ = ⟨[some (scr ns), some (.ref h), some (.ref μ.length), some (.int x), y4, y5, y6, y7], μ.set h (At (k + 1 + pre.length)) ++ [.lst (cl.map Cel.d)]⟩ ∧ cl.map (·.nm) = pre.map (fun i => nmOf i (x / 4)) ∧ (∀ c ∈ cl, GCel c) ∧ cl.length = pre.length)
    (ρ := ⟨[some (scr ns), some (.ref h), some (.ref μ.length), some (.int x), none, none, none, none], μ.set h (At (k + 1)) ++ [.lst []]⟩) ⟨[], none, none, none, none, by simp, rfl, by simp, rfl⟩ (by
    rintro pre i post ρ e ⟨cl, y4, y5, y6, y7, rfl, i1, i2, i3⟩
    have hi : i < 3 := by
      have : i ∈ List.range (x % 4).toNat := by rw [e]; simp
      have := List.mem_range.mp this
      omega
    have hpl : pre.length < 3 := by have := congrArg List.length e; simp at this; omega
    obtain ⟨y, hy, f1⟩ := next_ok (n := n) (μ := μ ++ [.lst (cl.map Cel.d)]) hns (h := h) (by simp; omega) (k := k + 1 + pre.length) (by omega) (by omega)
    rw [set_app hh, set_app hh] at f1
    obtain ⟨lo, f2⟩ : ∃ i : Int, atI [DL.D.int (y / 100 % 13 - 6), DL.D.int (y / 100 % 1980 - 990)] (y % 4 / 3) = some (.int i) := by
      have : y % 4 / 3 = 0 ∨ y % 4 / 3 = 1 := by omega
      rcases this with q | q
      · exact ⟨_, by rw [q]; exact atI_0⟩
      · exact ⟨_, by rw [q]; exact atI_1⟩
    have f3 := named_ok (n := n + 1) (μ := μ.set h (At (k + 1 + pre.length + 1)) ++ [.lst (cl.map Cel.d)]) (k := i) (x := x / 4) (by omega) (by omega)
    have hpos : 0 < lo + y / 4 % 10 - lo + 1 := by omega
    have hst : 0 ≤ y / 40 % 1000 % (lo + y / 4 % 10 - lo + 1) := Int.emod_nonneg _ (by omega)
    have hst2 : y / 40 % 1000 % (lo + y / 4 % 10 - lo + 1) < lo + y / 4 % 10 - lo + 1 := Int.emod_lt_of_pos _ hpos
    have f4 : binD .mod (.int (y / 40 % 1000)) (.int (lo + y / 4 % 10 - lo + 1)) = _ := b_mod hpos
    generalize hs : y / 40 % 1000 % (lo + y / 4 % 10 - lo + 1) = st at *
    refine ⟨_, ⟨[some (scr ns), some (.ref h), some (.ref μ.length), some (.int x), some (.int (i : Nat)), some (.int y), some (.int lo), some (.int (lo + y / 4 % 10))], μ.set h (At (k + 1 + (pre ++ [i]).length)) ++ [.lst ((cl ++ [Cel.mk (nmOf i (x / 4)) lo (lo + y / 4 % 10) (lo + st)]).map Cel.d)]⟩, rfl, .inl ?_, cl ++ [Cel.mk (nmOf i (x / 4)) lo (lo + y / 4 % 10) (lo + st)], _, _, _, _, rfl, by simp [i1], ?_, by simp [i3]⟩
    · have hk1 : k + 1 + ((pre ++ [i]).length : Int) = k + 1 + pre.length + 1 := by simp; omega
      rw [hk1]
      have hcl : (cl.map Cel.d).length < 16777216 := by simp; omega
      have hcl2 : (cl ++ [Cel.mk (nmOf i (x / 4)) lo (lo + y / 4 % 10) (lo + st)]).map Cel.d = cl.map Cel.d ++ [.tup [.str (nmOf i (x / 4)), .int lo, .int (lo + y / 4 % 10), .int (lo + st)]] := by simp [Cel.d]
      rw [hcl2]
      generalize cl.map Cel.d = L at *
      simp [LIM, runB, startSl, MS.seq, SOut.bind, M.thn, Out.bindS, M.bind, Out.bind, M.pure, varM, setS, setSl, nextS, ifS, M.andM, M.tb, M.bl, cmpM, cmpP, peek, c_lt, c_le, c_gt, c_ge, c_nn, c_eqi, binM, b_add, b_addt, b_sub, b_fdiv, b_mod, b_pow, optM, lenM, pkM, lenD, flatD, iterM, itM, forQ, consM, tupM, capM, lstM, newL, idxM, idxD, callM, addM, addD, bin2M, m_int, sliceM, partM, isTupD, un1M, tupD, sumD, listM, meth1M, isLst, appendM, isCell, putC, setIxS, setIx, isNonD, minD, maxD, Tg.go, Tg.gos, tgS, enumM, range1M, range2M, M.frz, frzM, M.noX, Out.noX, chainM, stepM, b18_l0, f1, f2, f3, f4, glast, slast, hcl]
    · intro c hc
      rcases List.mem_append.mp hc with hc | hc
      · exact i2 c hc
      · obtain rfl : c = _ := by simpa using hc
        exact ⟨by show lo ≤ lo + st; omega, by show lo + st ≤ lo + y / 4 % 10; omega, by show lo + y / 4 % 10 - lo ≤ 9; omega⟩)
  have hlen : (List.range (x % 4).toNat).length = (x % 4).toNat := List.length_range
  rw [hlen] at l1 i3
  refine ⟨cl, x / 4, (x % 4).toNat, k + 1 + (x % 4).toNat, runF_at (junk := [.dead]) ?_ ?_, hm3, i1, i2, by omega, by omega⟩
  · have f5 := frz_last (ν := μ.set h (At (k + 1 + (x % 4).toNat))) (m := μ.length) (by simp) (ds := cl.map Cel.d) (fun d hd => by obtain ⟨c, _, rfl⟩ := List.mem_map.mp hd; rfl) (by simp; omega)
    have g1 : -4611686018427387904 ≤ x % 4 := by omega
    have g2 : x % 4 < 4611686018427387904 := by omega
    generalize k + 1 + ((x % 4).toNat : Int) = kk at *
    simp [LIM, runB, startSl, MS.seq, SOut.bind, M.thn, Out.bindS, M.bind, Out.bind, M.pure, varM, setS, setSl, nextS, ifS, M.andM, M.tb, M.bl, cmpM, cmpP, peek, c_lt, c_le, c_gt, c_ge, c_nn, c_eqi, binM, b_add, b_addt, b_sub, b_fdiv, b_mod, b_pow, optM, lenM, pkM, lenD, flatD, iterM, itM, forQ, consM, tupM, capM, lstM, newL, idxM, idxD, callM, addM, addD, bin2M, m_int, sliceM, partM, isTupD, un1M, tupD, sumD, listM, meth1M, isLst, appendM, isCell, putC, setIxS, setIx, isNonD, minD, maxD, Tg.go, Tg.gos, tgS, enumM, range1M, range2M, M.frz, frzM, M.noX, Out.noX, chainM, stepM, b18, e1, l1, g1, g2, f5]
  · rw [blw]
    clear l1 i1 i2 i3
    induction cl with
    | nil => rfl
    | cons c cl ih => rw [List.map_cons, blws, ih]; rfl
end K10
set_option Elab.async false
set_option linter.all false
set_option maxRecDepth 100000
set_option maxHeartbeats 8000000
namespace K10
open PySem PySem.Spec PyProof.Rows L2 DL
structure F0 where
  nm : List Nat
  many : Int
  rooms : List (List Nat)
  cells : List Cel
  whos : List (List Nat)
def F0.dr (f : F0) (j : Nat) : DL.D := .lst [.str f.nm, .int f.many, .lst (tx f.rooms), .lst (f.cells.map Cel.d), .lst (tx f.whos), .ref j]
def famsD (b : Nat) : List F0 → List DL.D
  | [] => []
  | f :: fs => f.dr b :: famsD (b + 1) fs
theorem famsD_app : ∀ (fs : List F0) (b : Nat) (f : F0), famsD b (fs ++ [f]) = famsD b fs ++ [f.dr (b + fs.length)]
  | [], b, f => rfl
  | g :: fs, b, f => by
    rw [List.cons_append, famsD, famsD_app fs (b + 1) f, famsD, List.cons_append, List.length_cons]
    rw [show b + 1 + fs.length = b + (fs.length + 1) by omega]
theorem famsD_len : ∀ (fs : List F0) (b : Nat), (famsD b fs).length = fs.length
  | [], _ => rfl
  | f :: fs, b => by rw [famsD, List.length_cons, famsD_len fs, List.length_cons]
def WHOS : List (List (List Nat)) := [[cs "it", cs "first"], [cs "by", cs "who"], [cs "to", cs "from"], [cs "at", cs "go"]]
structure GF0 (f : F0) : Prop where
  many : 1 ≤ f.many
  rooms : ∃ r x, 1 ≤ r ∧ r ≤ 8 ∧ f.rooms = (List.range r).map fun i => nmOf i x
  cells : ∃ m x, m ≤ 3 ∧ f.cells.map (·.nm) = (List.range m).map (fun i => nmOf i x)
  cel : ∀ c ∈ f.cells, GCel c
  whos : ∃ W ∈ WHOS, ∃ j, f.whos = W.take j
theorem whos_ok {x : Int} (hx : 0 ≤ x) : ∃ W ∈ WHOS, atI [DL.D.lst (tx [cs "it", cs "first"]), .lst (tx [cs "by", cs "who"]), .lst (tx [cs "to", cs "from"]), .lst (tx [cs "at", cs "go"])] (x / 512 % 4) = some (.lst (tx W)) ∧ ∃ j : Nat, cutL (tx W) none (some (x / 2048 % 3)) = tx (W.take j) := by
  have cut : ∀ W : List (List Nat), W.length = 2 → ∃ j : Nat, cutL (tx W) none (some (x / 2048 % 3)) = tx (W.take j) := fun W hW => by
    obtain ⟨j, hj⟩ : ∃ j : Nat, x / 2048 % 3 = j := ⟨(x / 2048 % 3).toNat, by omega⟩
    refine ⟨j, ?_⟩
    rw [hj, cut_take _ _ (by rw [len_tx]; omega)]
    exact (List.map_take).symm
  have : x / 512 % 4 = 0 ∨ x / 512 % 4 = 1 ∨ x / 512 % 4 = 2 ∨ x / 512 % 4 = 3 := by omega
  rcases this with q | q | q | q <;> rw [q]
  · exact ⟨_, by simp [WHOS], atI_0, cut _ rfl⟩
  · exact ⟨[cs "by", cs "who"], by simp [WHOS], atI_1, cut _ rfl⟩
  · exact ⟨[cs "to", cs "from"], by simp [WHOS], atI_2, cut _ rfl⟩
  · exact ⟨[cs "at", cs "go"], by simp [WHOS], atI_3, cut _ rfl⟩
theorem runF_raw {n : Nat} {b : MS} {ds : List DL.D} {μ μ' : List Cell} {d : DL.D} (h : runB n b ds μ = .ok d μ') (hb : blw μ.length d = false) : DL.runF n b ds μ = .ok d μ' := by
  unfold DL.runF truncO
  rw [h]
  dsimp only
  rw [if_neg (by rw [hb]; simp)]
theorem first_ok {n : Nat} {μ : List Cell} {ns : List Int} (hns : ns.length ≤ 63) {h : Nat} (hh : h < μ.length) {k : Int} (hk : 0 ≤ k) (hk2 : k < 980000) {mm : Int} (hM : 0 ≤ mm) :
    ∃ (fs : List F0) (x : Int) (k' : Int), callF (n + 4) 19 [scr ns, .ref h, .int mm] (μ.set h (At k)) = .ok (.ref μ.length) (μ.set h (At k') ++ .lst (famsD (μ.length + 1) fs) :: List.replicate fs.length (.lst [])) ∧
      fs.length = (mm % 4).toNat + 1 ∧ fs.map (·.nm) = (List.range fs.length).map (fun i => nmOf i x) ∧ (∀ f ∈ fs, GF0 f) ∧ (fs.map (·.many)).sum ≤ 5 ∧ k ≤ k' ∧ k' ≤ k + 21 := by
  obtain ⟨x, hx, e1⟩ := next_ok (n := n + 1) (μ := μ ++ [.lst []]) hns (h := h) (by simp; omega) hk (by omega)
  rw [set_app hh, set_app hh] at e1
  show ∃ fs x k', DL.runF 13 (b19 (callF (n + 3))) _ _ = _ ∧ _
  obtain ⟨ρ', l1, fs, y4, y6, y7, y8, y9, y11, y12, k', rfl, i1, i2, i3, i4, i5, i6⟩ := forX_inv (xs := List.range (1 + mm % 4).toNat) (g := fun i => DL.D.int (i : Nat)) (t := .nm 6) (f := b19_l2 (callF (n + 3))) (fun pre ρ => ∃ fs left y6 y7 y8 y9 y11 y12 k', ρ = ⟨[some (scr ns), some (.ref h), some (.int mm), some (.ref μ.length), some (.int left), some (.int x), y6, y7, y8, y9, none, y11, y12], μ.set h (At k') ++ .lst (famsD (μ.length + 1) fs) :: List.replicate fs.length (.lst [])⟩ ∧ fs.length = pre.length ∧ fs.map (·.nm) = pre.map (fun i => nmOf i x) ∧ (∀ f ∈ fs, GF0 f) ∧ (fs.map (·.many)).sum = 5 - left ∧ (mm % 4 + 1 - pre.length ≤ left) ∧ k + 1 ≤ k' ∧ k' ≤ k + 1 + 5 * pre.length)
    (ρ := ⟨[some (scr ns), some (.ref h), some (.int mm), some (.ref μ.length), some (.int 5), some (.int x), none, none, none, none, none, none, none], μ.set h (At (k + 1)) ++ [.lst []]⟩) ⟨[], 5, none, none, none, none, none, none, k + 1, rfl, rfl, rfl, by simp, rfl, by simp; omega, by omega, by simp⟩ (by
    rintro pre i post ρ e ⟨fs, left, y6, y7, y8, y9, y11, y12, k', rfl, i1, i2, i3, i4, i5, i6, i7⟩
    have hidx : i = pre.length := by
      have : (List.range (1 + mm % 4).toNat)[pre.length]? = some i := by rw [e]; simp
      rw [List.getElem?_range] at this
      · exact (Option.some.inj this).symm
      · have := congrArg List.length e; simp at this; omega
    have hil : i < 4 := by
      have := congrArg List.length e; simp at this; omega
    have hiM : (i : Int) ≤ mm % 4 := by
      have := congrArg List.length e; simp at this; omega
    rw [← hidx] at i1 i5 i7
    -- the store
    generalize hR : Cell.lst (famsD (μ.length + 1) fs) :: List.replicate fs.length (Cell.lst []) = R at *
    obtain ⟨y, hy, f1⟩ := next_ok (n := n + 1) (μ := μ ++ R) hns (h := h) (by simp; omega) (k := k') (by omega) (by omega)
    obtain ⟨cl, x2, m, k2, f2, c1, c2, c3, c4, c5⟩ := cells_ok (n := n) (μ := μ ++ R) hns (h := h) (by simp; omega) (k := k' + 1) (by omega) (by omega)
    rw [set_app hh, set_app hh] at f1 f2
    obtain ⟨H, hH⟩ : ∃ H : Int, H = if left - (mm % 4 - i) < 1 + y % 3 then left - (mm % 4 - i) else 1 + y % 3 := ⟨_, rfl⟩
    have f3 : minD (.int (1 + y % 3)) (.int (left - (mm % 4 - i))) = some (.int H) := by rw [hH]; rfl
    have hH1 : 1 ≤ H := by rw [hH]; split <;> omega
    have hH2 : mm % 4 - i ≤ left - H := by rw [hH]; split <;> omega
    have hrl : (List.range (1 + y / 64 % 8).toNat).length ≤ LIM := by
      have : 8 ≤ LIM := by decide
      simp; omega
    have f4 : b19_c1 (callF (n + 3)) ⟨[some (scr ns), some (.ref h), some (.int mm), some (.ref μ.length), some (.int (left - H)), some (.int x), some (.int (i : Nat)), some (.int y), some (.int H), y9, none, y11, y12], μ.set h (At (k' + 1)) ++ R⟩ = _ := lcX_map (c := false) (vs := [10]) (t := .nm 10) (k := range1M (addM false (M.pure (.int 1)) (binM .mod (binM .fdiv (varM 7) (M.pure (.int 64))) (M.pure (.int 8))))) (te := b19_e0 (callF (n + 3))) (ρ1 := ⟨[some (scr ns), some (.ref h), some (.int mm), some (.ref μ.length), some (.int (left - H)), some (.int x), some (.int (i : Nat)), some (.int y), some (.int H), y9, none, y11, y12], μ.set h (At (k' + 1)) ++ R⟩) (xs := List.range (1 + y / 64 % 8).toNat) (fun i => DL.D.int (i : Nat)) (fun j => DL.D.str (nmOf j (y / 4))) (by
        have g1 : -4611686018427387904 ≤ 1 + y / 64 % 8 := by omega
        have g2 : 1 + y / 64 % 8 < 4611686018427387904 := by omega
        simp [LIM, runB, startSl, MS.seq, SOut.bind, M.thn, Out.bindS, M.bind, Out.bind, M.pure, varM, setS, setSl, nextS, ifS, M.andM, M.tb, M.bl, cmpM, cmpP, peek, c_lt, c_le, c_gt, c_ge, c_nn, c_eqi, binM, b_add, b_addt, b_sub, b_fdiv, b_mod, b_pow, optM, lenM, pkM, lenD, flatD, iterM, itM, forQ, consM, tupM, capM, lstM, newL, idxM, idxD, callM, addM, addD, bin2M, m_int, sliceM, partM, isTupD, un1M, tupD, sumD, listM, meth1M, isLst, appendM, isCell, putC, setIxS, setIx, isNonD, minD, maxD, Tg.go, Tg.gos, tgS, enumM, range1M, range2M, M.frz, frzM, M.noX, Out.noX, chainM, stepM, g1, g2]) hrl (fun j hj => ⟨⟨[some (scr ns), some (.ref h), some (.int mm), some (.ref μ.length), some (.int (left - H)), some (.int x), some (.int (i : Nat)), some (.int y), some (.int H), y9, some (.int (j : Nat)), y11, y12], μ.set h (At (k' + 1)) ++ R⟩, [some (scr ns), some (.ref h), some (.int mm), some (.ref μ.length), some (.int (left - H)), some (.int x), some (.int (i : Nat)), some (.int y), some (.int H), y9, some (.int (j : Nat)), y11, y12], rfl, by
          have hj8 : j < 8 := by have := List.mem_range.mp hj; omega
          have e5 := named_ok (n := n + 2) (μ := μ.set h (At (k' + 1)) ++ R) (k := j) (x := y / 4) hj8 (by omega)
          simp [LIM, runB, startSl, MS.seq, SOut.bind, M.thn, Out.bindS, M.bind, Out.bind, M.pure, varM, setS, setSl, nextS, ifS, M.andM, M.tb, M.bl, cmpM, cmpP, peek, c_lt, c_le, c_gt, c_ge, c_nn, c_eqi, binM, b_add, b_addt, b_sub, b_fdiv, b_mod, b_pow, optM, lenM, pkM, lenD, flatD, iterM, itM, forQ, consM, tupM, capM, lstM, newL, idxM, idxD, callM, addM, addD, bin2M, m_int, sliceM, partM, isTupD, un1M, tupD, sumD, listM, meth1M, isLst, appendM, isCell, putC, setIxS, setIx, isNonD, minD, maxD, Tg.go, Tg.gos, tgS, enumM, range1M, range2M, M.frz, frzM, M.noX, Out.noX, chainM, stepM, b19_e0, e5]⟩)
    obtain ⟨Wl, hW, f5, j, f6⟩ := whos_ok hy
    have f7 := named_ok (n := n + 2) (μ := μ.set h (At k2) ++ R) (k := i) (x := x) (by omega) hx
    have hrm : (List.range (1 + y / 64 % 8).toNat).map (fun j => DL.D.str (nmOf j (y / 4))) = tx ((List.range (1 + y / 64 % 8).toNat).map fun j => nmOf j (y / 4)) := by unfold tx; rw [List.map_map]; rfl
    rw [hrm] at f4
    let nf : F0 := ⟨nmOf i x, H, (List.range (1 + y / 64 % 8).toNat).map fun j => nmOf j (y / 4), cl, Wl.take j⟩
    have gnf : GF0 nf := ⟨hH1, ⟨_, _, by omega, by omega, rfl⟩, ⟨m, x2, c1, c2⟩, c3, ⟨Wl, hW, j, rfl⟩⟩
    refine ⟨_, ⟨[some (scr ns), some (.ref h), some (.int mm), some (.ref μ.length), some (.int (left - H)), some (.int x), some (.int (i : Nat)), some (.int y), some (.int H), some (.lst (tx ((List.range (1 + y / 64 % 8).toNat).map fun j => nmOf j (y / 4)))), none, some (.lst (cl.map Cel.d)), some (.lst (tx (Wl.take j)))], μ.set h (At k2) ++ .lst (famsD (μ.length + 1) (fs ++ [nf])) :: List.replicate (fs ++ [nf]).length (.lst [])⟩, rfl, .inl ?_, fs ++ [nf], left - H, _, _, _, _, _, _, k2, rfl, by simp [i1, hidx], by simp [i2, nf], ?_, by simp [i4, nf]; omega, by simp; omega, by omega, by simp; omega⟩
    · have g0 : ∀ (a : Cell) (c : Cell) (Q : List Cell), (μ.set h a ++ c :: Q)[μ.length]? = some c := fun a c Q => by
        rw [List.getElem?_append_right (by simp)]; simp
      have s0 : ∀ (a : Cell) (c d : Cell) (Q : List Cell), (μ.set h a ++ c :: Q).set μ.length d = μ.set h a ++ d :: Q := fun a c d Q => by
        rw [List.set_append_right _ _ (by simp)]; simp
      have hrep : List.replicate (fs ++ [nf]).length (Cell.lst []) = List.replicate fs.length (Cell.lst []) ++ [.lst []] := by
        rw [List.length_append, List.length_singleton, List.replicate_succ']
      have hfl : (famsD (μ.length + 1) fs).length < 16777216 := by rw [famsD_len]; omega
      rw [hrep, famsD_app]
      have hnd : nf.dr (μ.length + 1 + fs.length) = .lst [.str (nmOf i x), .int H, .lst (tx ((List.range (1 + y / 64 % 8).toNat).map fun j => nmOf j (y / 4))), .lst (cl.map Cel.d), .lst (tx (Wl.take j)), .ref (μ.length + (fs.length + 1))] := by
        rw [show μ.length + 1 + fs.length = μ.length + (fs.length + 1) by omega]; rfl
      rw [hnd]
      subst hR
      have f5' : atI [DL.D.lst [.str (cs "it"), .str (cs "first")], .lst [.str (cs "by"), .str (cs "who")], .lst [.str (cs "to"), .str (cs "from")], .lst [.str (cs "at"), .str (cs "go")]] (y / 512 % 4) = some (.lst (tx Wl)) := f5
      generalize famsD (μ.length + 1) fs = FD at *
      generalize tx ((List.range (1 + y / 64 % 8).toNat).map fun j => nmOf j (y / 4)) = RM at *
      simp [LIM, runB, startSl, MS.seq, SOut.bind, M.thn, Out.bindS, M.bind, Out.bind, M.pure, varM, setS, setSl, nextS, ifS, M.andM, M.tb, M.bl, cmpM, cmpP, peek, c_lt, c_le, c_gt, c_ge, c_nn, c_eqi, binM, b_add, b_addt, b_sub, b_fdiv, b_mod, b_pow, optM, lenM, pkM, lenD, flatD, iterM, itM, forQ, consM, tupM, capM, lstM, newL, idxM, idxD, callM, addM, addD, bin2M, m_int, sliceM, partM, isTupD, un1M, tupD, sumD, listM, meth1M, isLst, appendM, isCell, putC, setIxS, setIx, isNonD, Tg.go, Tg.gos, tgS, enumM, range1M, range2M, M.frz, frzM, M.noX, Out.noX, chainM, stepM, b19_l2, f1, f2, f3, f4, f5', f6, f7, g0, s0, hfl]
    · intro f hf
      rcases List.mem_append.mp hf with hf | hf
      · exact i3 f hf
      · obtain rfl : f = nf := by simpa using hf
        exact gnf)
  have hlen : (List.range (1 + mm % 4).toNat).length = (mm % 4).toNat + 1 := by rw [List.length_range]; omega
  obtain ⟨i6, i7⟩ := i6
  rw [hlen] at i1 i5 i7
  have hrm : (1 + mm % 4).toNat = fs.length := by omega
  rw [hrm] at i2
  refine ⟨fs, x, k', runF_raw ?_ (by rw [blw, List.length_set]; simp), i1, i2, i3, by omega, by omega, by omega⟩
  have g1 : -4611686018427387904 ≤ 1 + mm % 4 := by omega
  have g2 : 1 + mm % 4 < 4611686018427387904 := by omega
  simp [LIM, runB, startSl, MS.seq, SOut.bind, M.thn, Out.bindS, M.bind, Out.bind, M.pure, varM, setS, setSl, nextS, ifS, M.andM, M.tb, M.bl, cmpM, cmpP, peek, c_lt, c_le, c_gt, c_ge, c_nn, c_eqi, binM, b_add, b_addt, b_sub, b_fdiv, b_mod, b_pow, optM, lenM, pkM, lenD, flatD, iterM, itM, forQ, consM, tupM, capM, lstM, newL, idxM, idxD, callM, addM, addD, bin2M, m_int, sliceM, partM, isTupD, un1M, tupD, sumD, listM, meth1M, isLst, appendM, isCell, putC, setIxS, setIx, isNonD, minD, maxD, Tg.go, Tg.gos, tgS, enumM, range1M, range2M, M.frz, frzM, M.noX, Out.noX, chainM, stepM, b19, e1, l1, g1, g2]
end K10
set_option Elab.async false
set_option linter.all false
set_option maxRecDepth 100000
set_option maxHeartbeats 8000000
namespace K10
open PySem PySem.Spec PyProof.Rows L2 DL
/-- a comprehension over a cell -/
theorem lcX_cel {c : Bool} {vs : List Nat} {t : Tg} {k : M Sq} {te : M DL.D} {ρ ρ1 : Rho} {α : Type} {xs : List α} {nn : Nat} (g f : α → DL.D) (hk : k ρ = .ok (.cel nn) ρ1) (hc : ρ1.st[nn]? = some (.lst (xs.map g))) (hl : xs.length ≤ LIM)
    (h : ∀ x ∈ xs, ∃ ρ2 sl3, t.go (g x) ⟨wipeL ρ1.sl vs, ρ1.st⟩ = some ρ2 ∧ te ρ2 = .ok (f x) ⟨sl3, ρ1.st⟩) : lcM c vs t k (M.pure true) te ρ = newL c (xs.map f) ρ1 := by
  have key : ∀ (post pre : List α) (sl : List (Option DL.D)), xs = pre ++ post → 
      ∃ sl', lcC (wipeL ρ1.sl vs) t (M.pure true) te (finM c ρ1.sl) nn (post.length + 1) pre.length (pre.map f) ⟨sl, ρ1.st⟩ = finM c ρ1.sl (xs.map f) ⟨sl', ρ1.st⟩ := by
    intro post
    induction post with
    | nil =>
      intro pre sl e
      rw [List.append_nil] at e
      subst e
      refine ⟨sl, ?_⟩
      have hz : (xs.map g)[xs.length]? = none := by simp
      simp only [lcC, hc, hz, List.length_nil]
    | cons x post ih =>
      intro pre sl e
      obtain ⟨ρ2, sl3, h1, h2⟩ := h x (by rw [e]; simp)
      obtain ⟨sl', h3⟩ := ih (pre ++ [x]) sl3 (by rw [e]; simp)
      refine ⟨sl', ?_⟩
      have hz : (xs.map g)[pre.length]? = some (g x) := by rw [e]; simp
      have hlt : (pre.map f).length < LIM := by
        have := congrArg List.length e
        simp at this ⊢; omega
      rw [List.length_append, List.length_singleton, List.map_append] at h3
      simp only [List.length_cons, lcC, hc, hz, turnM, h1]
      simp only [M.noX, M.pure, M.bind, Out.noX, Out.bind, if_true, h2, hlt]
      exact h3
  unfold lcM M.bind
  rw [hk]
  have hlc : lenC nn ρ1 = xs.length := by unfold lenC; rw [hc]; simp
  obtain ⟨sl', e⟩ := key xs [] ρ1.sl rfl
  show lcC _ t (M.pure true) te _ nn (lenC nn ⟨ρ1.sl, ρ1.st⟩ + 1) 0 [] ⟨ρ1.sl, ρ1.st⟩ = _
  rw [hlc]
  exact e
theorem notin_prs {ps : List (List Nat × List Nat)} {p : List Nat × List Nat} (h : Okl p.1 ∧ Okl p.2) (h2 : ∀ p ∈ ps, Okl p.1 ∧ Okl p.2) : cmpD .notIn (prD p) (.lst (ps.map prD)) = some (!decide (p ∈ ps)) := by
  have h3 := in_prs h h2
  have e1 : cmpD .isIn (prD p) (.lst (ps.map prD)) = if okD (prD p) && okD (.lst (ps.map prD)) then some ((pyOfs (ps.map prD)).any fun z => PyData.eqv z (pyOf (prD p))) else none := rfl
  have e2 : cmpD .notIn (prD p) (.lst (ps.map prD)) = if okD (prD p) && okD (.lst (ps.map prD)) then some (!(pyOfs (ps.map prD)).any fun z => PyData.eqv z (pyOf (prD p))) else none := rfl
  rw [e1] at h3
  rw [e2]
  split at h3
  · rename_i hc
    rw [if_pos hc]
    simp only [Option.some.injEq] at h3 ⊢
    rw [h3]
  · cases h3
theorem famsD_map : ∀ (fs : List F0) (b : Nat), ∃ ps : List (F0 × Nat), ps.map (·.1) = fs ∧ famsD b fs = ps.map fun p => p.1.dr p.2
  | [], _ => ⟨[], rfl, rfl⟩
  | f :: fs, b => by
    obtain ⟨ps, h1, h2⟩ := famsD_map fs (b + 1)
    exact ⟨(f, b) :: ps, by rw [List.map_cons, h1], by rw [famsD, h2, List.map_cons]⟩
structure GRod (nms : List (List Nat)) (r : Rod) : Prop where
  one : r.one ∈ nms
  other : r.other ∈ nms
  kind : r.kind = cs "row" ∨ r.kind = cs "heap"
  cap : 1 ≤ r.cap ∧ r.cap ≤ 3
theorem pick {nms : List (List Nat)} {x : Int} (hx : 0 ≤ x) (hl : 0 < nms.length) : ∃ l ∈ nms, atI (tx nms) (x % (tx nms).length) = some (.str l) := by
  rw [len_tx]
  have g1 : 0 ≤ x % (nms.length : Int) := Int.emod_nonneg _ (by omega)
  have g2 : x % (nms.length : Int) < nms.length := Int.emod_lt_of_pos _ (by omega)
  obtain ⟨m, hm⟩ : ∃ m : Nat, x % (nms.length : Int) = m := ⟨(x % (nms.length : Int)).toNat, by omega⟩
  have hml : m < nms.length := by omega
  exact ⟨nms[m], List.getElem_mem hml, by rw [hm]; exact atI_n (by unfold tx; rw [List.getElem?_map, List.getElem?_eq_getElem hml]; rfl)⟩
theorem roads_ok {n : Nat} {μ : List Cell} {ns : List Int} (hns : ns.length ≤ 63) {h fr b : Nat} (hh : h < μ.length) {fs : List F0} (hf : ∀ a, (μ.set h a)[fr]? = some (.lst (famsD b fs))) (hfr : fr < μ.length) (hfl : 0 < fs.length ∧ fs.length ≤ 4) (hO : ∀ f ∈ fs, Okl f.nm) {k : Int} (hk : 0 ≤ k) (hk2 : k < 980000) :
    ∃ (rs : List Rod) (k' : Int), callF (n + 3) 20 [.ref fr, scr ns, .ref h] (μ.set h (At k)) = .ok (.lst (rs.map Rod.d)) (μ.set h (At k')) ∧ rs.length ≤ 8 ∧ (∀ r ∈ rs, GRod (fs.map (·.nm)) r) ∧ (rs.map Rod.pr).Nodup ∧ k ≤ k' ∧ k' ≤ k + 9 := by
  show ∃ rs k', DL.runF 12 (b20 (callF (n + 2))) _ _ = _ ∧ _
  obtain ⟨x, hx, e1⟩ := next_ok (n := n) (μ := μ ++ [.lst []]) hns (h := h) (by simp; omega) hk (by omega)
  rw [set_app hh, set_app hh] at e1
  have nmO : ∀ l ∈ fs.map (·.nm), Okl l := fun l hl => by
    obtain ⟨f, hf, rfl⟩ := List.mem_map.mp hl
    exact hO f hf
  have hnl : 0 < (fs.map (·.nm)).length := by simp; omega
  -- the names
  obtain ⟨ps, p1, p2⟩ := famsD_map fs b
  have hL : 8 ≤ LIM := by decide
  have e2 : b20_c4 (callF (n + 2)) ⟨[some (.ref fr), some (scr ns), some (.ref h), some (.ref μ.length), none, none, none, none, none, none, none, none], μ.set h (At k) ++ [.lst []]⟩ = _ := lcX_cel (c := false) (vs := [5]) (t := .nm 5) (k := iterM (varM 0)) (te := b20_e3 (callF (n + 2))) (ρ1 := ⟨[some (.ref fr), some (scr ns), some (.ref h), some (.ref μ.length), none, none, none, none, none, none, none, none], μ.set h (At k) ++ [.lst []]⟩) (xs := ps) (nn := fr) (fun p => p.1.dr p.2) (fun p => DL.D.str p.1.nm) (by
      have : (μ.set h (At k) ++ [Cell.lst []])[fr]? = some (.lst (famsD b fs)) := by rw [List.getElem?_append_left (by simpa using hfr), hf]
      simp [LIM, runB, startSl, MS.seq, SOut.bind, M.thn, Out.bindS, M.bind, Out.bind, M.pure, varM, setS, setSl, nextS, ifS, M.andM, M.tb, M.bl, cmpM, cmpP, peek, c_lt, c_le, c_gt, c_ge, c_nn, c_eqi, binM, b_add, b_addt, b_sub, b_fdiv, b_mod, b_pow, optM, lenM, pkM, lenD, flatD, iterM, itM, forQ, consM, tupM, capM, lstM, newL, idxM, idxD, callM, addM, addD, bin2M, m_int, sliceM, partM, isTupD, un1M, tupD, sumD, listM, meth1M, isLst, appendM, isCell, putC, setIxS, setIx, isNonD, minD, maxD, Tg.go, Tg.gos, tgS, enumM, range1M, range2M, M.frz, frzM, M.noX, Out.noX, chainM, stepM, this]) (by
      show (μ.set h (At k) ++ [Cell.lst []])[fr]? = _
      rw [List.getElem?_append_left (by simpa using hfr), hf, p2]) (by have := congrArg List.length p1; simp at this; omega) (fun p hp => ⟨⟨[some (.ref fr), some (scr ns), some (.ref h), some (.ref μ.length), none, some (p.1.dr p.2), none, none, none, none, none, none], μ.set h (At k) ++ [.lst []]⟩, [some (.ref fr), some (scr ns), some (.ref h), some (.ref μ.length), none, some (p.1.dr p.2), none, none, none, none, none, none], rfl, by
        have ed : p.1.dr p.2 = .lst [.str p.1.nm, .int p.1.many, .lst (tx p.1.rooms), .lst (p.1.cells.map Cel.d), .lst (tx p.1.whos), .ref p.2] := rfl
        rw [ed]
        simp [LIM, runB, startSl, MS.seq, SOut.bind, M.thn, Out.bindS, M.bind, Out.bind, M.pure, varM, setS, setSl, nextS, ifS, M.andM, M.tb, M.bl, cmpM, cmpP, peek, c_lt, c_le, c_gt, c_ge, c_nn, c_eqi, binM, b_add, b_addt, b_sub, b_fdiv, b_mod, b_pow, optM, lenM, pkM, lenD, flatD, iterM, itM, forQ, consM, tupM, capM, lstM, newL, idxM, idxD, callM, addM, addD, bin2M, m_int, sliceM, partM, isTupD, un1M, tupD, sumD, listM, meth1M, isLst, appendM, isCell, putC, setIxS, setIx, isNonD, minD, maxD, Tg.go, Tg.gos, tgS, enumM, range1M, range2M, M.frz, frzM, M.noX, Out.noX, chainM, stepM, b20_e3, atI_0]⟩)
  have e3 : ps.map (fun p => DL.D.str p.1.nm) = tx (fs.map (·.nm)) := by
    rw [← p1]; unfold tx; rw [List.map_map, List.map_map]; rfl
  rw [e3] at e2
  generalize hnm : fs.map (·.nm) = nms at *
  obtain ⟨ρ', l1, rs, y6, y7, y8, y9, y10, k', rfl, i1, i2, i3, i4, i5⟩ := forX_inv (xs := List.range (x % 9).toNat) (g := fun i => DL.D.int (i : Nat)) (t := .nm 6) (f := b20_l2 (callF (n + 2))) (fun pre ρ => ∃ rs y6 y7 y8 y9 y10 k', ρ = ⟨[some (.ref fr), some (scr ns), some (.ref h), some (.ref μ.length), some (.lst (tx nms)), none, y6, y7, y8, y9, y10, none], μ.set h (At k') ++ [.lst (rs.map Rod.d)]⟩ ∧ rs.length ≤ pre.length ∧ (∀ r ∈ rs, GRod nms r) ∧ (rs.map Rod.pr).Nodup ∧ k + 1 ≤ k' ∧ k' ≤ k + 1 + pre.length)
    (ρ := ⟨[some (.ref fr), some (scr ns), some (.ref h), some (.ref μ.length), some (.lst (tx nms)), none, none, none, none, none, none, none], μ.set h (At (k + 1)) ++ [.lst []]⟩) ⟨[], none, none, none, none, none, k + 1, rfl, by simp, by simp, by simp, by omega, by simp⟩ (by
    rintro pre i post ρ e ⟨rs, y6, y7, y8, y9, y10, k', rfl, i1, i2, i3, i4, i5⟩
    have hpl : pre.length < 9 := by have := congrArg List.length e; simp at this; omega
    obtain ⟨y, hy, f1⟩ := next_ok (n := n) (μ := μ ++ [.lst (rs.map Rod.d)]) hns (h := h) (by simp; omega) (k := k') (by omega) (by omega)
    rw [set_app hh, set_app hh] at f1
    obtain ⟨one, o1, f2⟩ := pick hy hnl
    obtain ⟨oth, o2, f3⟩ := pick (x := y / 4) (by omega) hnl
    obtain ⟨kd, f4, o3⟩ : ∃ kd, atI [DL.D.str (cs "row"), .str (cs "heap")] (y / 16 % 2) = some (.str kd) ∧ (kd = cs "row" ∨ kd = cs "heap") := by
      have : y / 16 % 2 = 0 ∨ y / 16 % 2 = 1 := by omega
      rcases this with q | q <;> rw [q]
      · exact ⟨_, atI_0, .inl rfl⟩
      · exact ⟨_, atI_1, .inr rfl⟩
    have g2 : 0 < (tx nms).length := by rw [len_tx]; exact hnl
    have prO : ∀ q ∈ rs.map Rod.pr, Okl q.1 ∧ Okl q.2 := fun q hq => by
      obtain ⟨r, hr, rfl⟩ := List.mem_map.mp hq
      exact ⟨nmO _ (i2 r hr).one, nmO _ (i2 r hr).other⟩
    let nr : Rod := ⟨one, oth, kd, 1 + y / 32 % 3, decide (y / 128 % 2 = 1), decide (y / 256 % 2 = 1)⟩
    have hnr : nr.d = .tup [.str one, .str oth, .str kd, .int (1 + y / 32 % 3), .bl (decide (y / 128 % 2 = 1)), .bl (decide (y / 256 % 2 = 1))] := rfl
    have f5 := notin_prs (p := nr.pr) ⟨nmO _ o1, nmO _ o2⟩ prO
    have f5 : cmpD .notIn (.tup [.str one, .str oth]) (.lst ((rs.map Rod.pr).map prD)) = _ := f5
    have glast : ∀ (a : Cell) (c : Cell), (μ.set h a ++ [c])[μ.length]? = some c := fun a c => by
      have := get_last (μ.set h a) c
      rwa [List.length_set] at this
    have slast : ∀ (a : Cell) (c d : Cell), (μ.set h a ++ [c]).set μ.length d = μ.set h a ++ [d] := fun a c d => by
      have := set_last (μ.set h a) c d
      rwa [List.length_set] at this
    have f6 : b20_c1 (callF (n + 2)) ⟨[some (.ref fr), some (scr ns), some (.ref h), some (.ref μ.length), some (.lst (tx nms)), none, some (.int (i : Nat)), some (.int y), some (.str one), some (.str oth), some nr.d, none], μ.set h (At (k' + 1)) ++ [.lst (rs.map Rod.d)]⟩ = _ := lcX_cel (c := false) (vs := [11]) (t := .nm 11) (k := iterM (varM 3)) (te := b20_e0 (callF (n + 2))) (ρ1 := ⟨[some (.ref fr), some (scr ns), some (.ref h), some (.ref μ.length), some (.lst (tx nms)), none, some (.int (i : Nat)), some (.int y), some (.str one), some (.str oth), some nr.d, none], μ.set h (At (k' + 1)) ++ [.lst (rs.map Rod.d)]⟩) (xs := rs) (nn := μ.length) Rod.d (fun r => prD r.pr) (by simp [LIM, runB, startSl, MS.seq, SOut.bind, M.thn, Out.bindS, M.bind, Out.bind, M.pure, varM, setS, setSl, nextS, ifS, M.andM, M.tb, M.bl, cmpM, cmpP, peek, c_lt, c_le, c_gt, c_ge, c_nn, c_eqi, binM, b_add, b_addt, b_sub, b_fdiv, b_mod, b_pow, optM, lenM, pkM, lenD, flatD, iterM, itM, forQ, consM, tupM, capM, lstM, newL, idxM, idxD, callM, addM, addD, bin2M, m_int, sliceM, partM, isTupD, un1M, tupD, sumD, listM, meth1M, isLst, appendM, isCell, putC, setIxS, setIx, isNonD, minD, maxD, Tg.go, Tg.gos, tgS, enumM, range1M, range2M, M.frz, frzM, M.noX, Out.noX, chainM, stepM, glast]) (glast _ _) (by omega) (fun r hr => ⟨⟨[some (.ref fr), some (scr ns), some (.ref h), some (.ref μ.length), some (.lst (tx nms)), none, some (.int (i : Nat)), some (.int y), some (.str one), some (.str oth), some nr.d, some r.d], μ.set h (At (k' + 1)) ++ [.lst (rs.map Rod.d)]⟩, [some (.ref fr), some (scr ns), some (.ref h), some (.ref μ.length), some (.lst (tx nms)), none, some (.int (i : Nat)), some (.int y), some (.str one), some (.str oth), some nr.d, some r.d], rfl, by
      have ex : r.d = .tup [.str r.one, .str r.other, .str r.kind, .int r.cap, .bl r.e5, .bl r.e6] := rfl
      rw [ex]
      simp [LIM, runB, startSl, MS.seq, SOut.bind, M.thn, Out.bindS, M.bind, Out.bind, M.pure, varM, setS, setSl, nextS, ifS, M.andM, M.tb, M.bl, cmpM, cmpP, peek, c_lt, c_le, c_gt, c_ge, c_nn, c_eqi, binM, b_add, b_addt, b_sub, b_fdiv, b_mod, b_pow, optM, lenM, pkM, lenD, flatD, iterM, itM, forQ, consM, tupM, capM, lstM, newL, idxM, idxD, callM, addM, addD, bin2M, m_int, sliceM, partM, isTupD, un1M, tupD, sumD, listM, meth1M, isLst, appendM, isCell, putC, setIxS, setIx, isNonD, minD, maxD, Tg.go, Tg.gos, tgS, enumM, range1M, range2M, M.frz, frzM, M.noX, Out.noX, chainM, stepM, b20_e0, cut2, prD, Rod.pr]⟩)
    have e2' : rs.map (fun r => prD r.pr) = (rs.map Rod.pr).map prD := by rw [List.map_map]; rfl
    rw [e2', hnr] at f6
    have hrl : (rs.map Rod.d).length < 16777216 := by simp; omega
    by_cases hin : nr.pr ∈ rs.map Rod.pr
    · rw [decide_eq_true hin] at f5
      have hnt : (!true) = false := rfl
      rw [hnt] at f5
      refine ⟨_, ⟨[some (.ref fr), some (scr ns), some (.ref h), some (.ref μ.length), some (.lst (tx nms)), none, some (.int (i : Nat)), some (.int y), some (.str one), some (.str oth), some (.tup [.str one, .str oth, .str kd, .int (1 + y / 32 % 3), .bl (decide (y / 128 % 2 = 1)), .bl (decide (y / 256 % 2 = 1))]), none], μ.set h (At (k' + 1)) ++ [.lst (rs.map Rod.d)]⟩, rfl, .inl ?_, rs, _, _, _, _, _, k' + 1, rfl, by simp; omega, i2, i3, by omega, by simp; omega⟩
      generalize rs.map Rod.d = RD at *
      generalize (rs.map Rod.pr).map prD = PD at *
      generalize tx nms = NM at *
      simp [LIM, runB, startSl, MS.seq, SOut.bind, M.thn, Out.bindS, M.bind, Out.bind, M.pure, varM, setS, setSl, nextS, ifS, M.andM, M.tb, M.bl, cmpM, cmpP, peek, c_lt, c_le, c_gt, c_ge, c_nn, c_eqi, binM, b_add, b_addt, b_sub, b_fdiv, b_mod, b_pow, optM, lenM, pkM, lenD, flatD, iterM, itM, forQ, consM, tupM, capM, lstM, newL, idxM, idxD, callM, addM, addD, bin2M, m_int, sliceM, partM, isTupD, un1M, tupD, sumD, listM, meth1M, isLst, appendM, isCell, putC, setIxS, setIx, isNonD, minD, maxD, Tg.go, Tg.gos, tgS, enumM, range1M, range2M, M.frz, frzM, M.noX, Out.noX, chainM, stepM, b20_l2, f1, f2, f3, f4, f5, f6, g2]
    · rw [decide_eq_false hin] at f5
      have hnt : (!false) = true := rfl
      rw [hnt] at f5
      refine ⟨_, ⟨[some (.ref fr), some (scr ns), some (.ref h), some (.ref μ.length), some (.lst (tx nms)), none, some (.int (i : Nat)), some (.int y), some (.str one), some (.str oth), some (.tup [.str one, .str oth, .str kd, .int (1 + y / 32 % 3), .bl (decide (y / 128 % 2 = 1)), .bl (decide (y / 256 % 2 = 1))]), none], μ.set h (At (k' + 1)) ++ [.lst ((rs ++ [nr]).map Rod.d)]⟩, rfl, .inl ?_, rs ++ [nr], _, _, _, _, _, k' + 1, rfl, by simp; omega, ?_, ?_, by omega, by simp; omega⟩
      · rw [List.map_append, List.map_singleton, hnr]
        generalize rs.map Rod.d = RD at *
        generalize (rs.map Rod.pr).map prD = PD at *
        generalize tx nms = NM at *
        simp [LIM, runB, startSl, MS.seq, SOut.bind, M.thn, Out.bindS, M.bind, Out.bind, M.pure, varM, setS, setSl, nextS, ifS, M.andM, M.tb, M.bl, cmpM, cmpP, peek, c_lt, c_le, c_gt, c_ge, c_nn, c_eqi, binM, b_add, b_addt, b_sub, b_fdiv, b_mod, b_pow, optM, lenM, pkM, lenD, flatD, iterM, itM, forQ, consM, tupM, capM, lstM, newL, idxM, idxD, callM, addM, addD, bin2M, m_int, sliceM, partM, isTupD, un1M, tupD, sumD, listM, meth1M, isLst, appendM, isCell, putC, setIxS, setIx, isNonD, minD, maxD, Tg.go, Tg.gos, tgS, enumM, range1M, range2M, M.frz, frzM, M.noX, Out.noX, chainM, stepM, b20_l2, f1, f2, f3, f4, f5, f6, g2, glast, slast, hrl]
      · intro r hr
        rcases List.mem_append.mp hr with hr | hr
        · exact i2 r hr
        · obtain rfl : r = nr := by simpa using hr
          exact ⟨o1, o2, o3, by show 1 ≤ 1 + y / 32 % 3; omega, by show 1 + y / 32 % 3 ≤ 3; omega⟩
      · rw [List.map_append, List.nodup_append]
        exact ⟨i3, by simp, fun a ha b hb => by simp at hb; subst hb; exact fun z => hin (z ▸ ha)⟩)
  have hlen : (List.range (x % 9).toNat).length = (x % 9).toNat := List.length_range
  rw [hlen] at i1 i5
  have f5 := frz_last (ν := μ.set h (At k')) (m := μ.length) (by simp) (ds := rs.map Rod.d) (fun d hd => by obtain ⟨c, _, rfl⟩ := List.mem_map.mp hd; rfl) (by simp; omega)
  have g1 : -4611686018427387904 ≤ x % 9 := by omega
  have g2 : x % 9 < 4611686018427387904 := by omega
  refine ⟨rs, k', runF_at (junk := [.dead]) ?_ ?_, by omega, i2, i3, by omega, by omega⟩
  · simp [LIM, runB, startSl, MS.seq, SOut.bind, M.thn, Out.bindS, M.bind, Out.bind, M.pure, varM, setS, setSl, nextS, ifS, M.andM, M.tb, M.bl, cmpM, cmpP, peek, c_lt, c_le, c_gt, c_ge, c_nn, c_eqi, binM, b_add, b_addt, b_sub, b_fdiv, b_mod, b_pow, optM, lenM, pkM, lenD, flatD, iterM, itM, forQ, consM, tupM, capM, lstM, newL, idxM, idxD, callM, addM, addD, bin2M, m_int, sliceM, partM, isTupD, un1M, tupD, sumD, listM, meth1M, isLst, appendM, isCell, putC, setIxS, setIx, isNonD, minD, maxD, Tg.go, Tg.gos, tgS, enumM, range1M, range2M, M.frz, frzM, M.noX, Out.noX, chainM, stepM, b20, e1, e2, l1, g1, g2, f5]
  · rw [blw]
    clear f5 l1 i1 i2 i3
    induction rs with
    | nil => rfl
    | cons c cl ih => rw [List.map_cons, blws, ih]; rfl
end K10
set_option Elab.async false
set_option linter.all false
set_option maxRecDepth 100000
set_option maxHeartbeats 8000000
namespace K10
open PySem PySem.Spec PyProof.Rows L2 DL
theorem lcX_filter {c : Bool} {vs : List Nat} {t : Tg} {k : M Sq} {tt : M Bool} {te : M DL.D} {ρ ρ1 : Rho} {α : Type} {xs : List α} (g f : α → DL.D) (p : α → Bool) (hk : k ρ = .ok (.fro (xs.map g)) ρ1) (hl : xs.length ≤ LIM)
    (h : ∀ x ∈ xs, ∃ ρ2 sl2, t.go (g x) ⟨wipeL ρ1.sl vs, ρ1.st⟩ = some ρ2 ∧ tt ρ2 = .ok (p x) ⟨sl2, ρ1.st⟩ ∧ (p x = true → ∃ sl3, te ⟨sl2, ρ1.st⟩ = .ok (f x) ⟨sl3, ρ1.st⟩)) : lcM c vs t k tt te ρ = newL c ((xs.filter p).map f) ρ1 := by
  have key : ∀ (xs : List α) (acc : List DL.D) (sl : List (Option DL.D)), acc.length + xs.length ≤ LIM → (∀ x ∈ xs, ∃ ρ2 sl2, t.go (g x) ⟨wipeL ρ1.sl vs, ρ1.st⟩ = some ρ2 ∧ tt ρ2 = .ok (p x) ⟨sl2, ρ1.st⟩ ∧ (p x = true → ∃ sl3, te ⟨sl2, ρ1.st⟩ = .ok (f x) ⟨sl3, ρ1.st⟩)) →
      ∃ sl', lcL (wipeL ρ1.sl vs) t tt te (finM c ρ1.sl) (xs.map g) acc ⟨sl, ρ1.st⟩ = finM c ρ1.sl (acc ++ (xs.filter p).map f) ⟨sl', ρ1.st⟩ := by
    intro xs
    induction xs with
    | nil => intro acc sl _ _; exact ⟨sl, by rw [List.map_nil, List.filter_nil, List.map_nil, List.append_nil]; rfl⟩
    | cons x xs ih =>
      intro acc sl hl h
      obtain ⟨ρ2, sl2, h1, h2, h3⟩ := h x (by simp)
      rw [List.length_cons] at hl
      have hlt : acc.length < LIM := by omega
      cases hp : p x with
      | true =>
        obtain ⟨sl3, h4⟩ := h3 hp
        obtain ⟨sl', h5⟩ := ih (acc ++ [f x]) sl3 (by rw [List.length_append]; simp; omega) fun e he => h e (by simp [he])
        refine ⟨sl', ?_⟩
        rw [hp] at h2
        simp only [List.map_cons, lcL, turnM, h1, List.filter_cons, hp, if_true]
        simp only [M.noX, M.pure, M.bind, Out.noX, Out.bind, if_true, h2, h4, hlt, h5, List.append_assoc, List.singleton_append]
      | false =>
        obtain ⟨sl', h5⟩ := ih acc sl2 (by omega) fun e he => h e (by simp [he])
        refine ⟨sl', ?_⟩
        rw [hp] at h2
        simp only [List.map_cons, lcL, turnM, h1, List.filter_cons, hp, Bool.false_eq_true, if_false]
        simp only [M.noX, M.pure, M.bind, Out.noX, Out.bind, Bool.false_eq_true, if_false, h2, h5]
  unfold lcM M.bind
  rw [hk]
  obtain ⟨sl', e⟩ := key xs [] ρ1.sl (by simpa using hl) h
  show lcL _ t tt te _ (xs.map g) [] ⟨ρ1.sl, ρ1.st⟩ = _
  rw [e]; rfl
theorem eq_nil {W : List (List Nat)} (h : ∀ l ∈ W, Okl l) : cmpD .eq (.lst (tx W)) (.lst []) = some (decide (W = [])) := by
  rw [cmpD, (ok_strs (k := 0) h).okD (by decide)]
  have h2 : okD (.lst []) = true := by decide +kernel
  rw [h2]
  cases W <;> simp [tx, pyOf, pyOfs, PyData.eqv, PyData.eqvAll]
theorem ne_nil {W : List (List Nat)} (h : ∀ l ∈ W, Okl l) : cmpD .ne (.lst (tx W)) (.lst []) = some (decide (W ≠ [])) := by
  rw [cmpD, (ok_strs (k := 0) h).okD (by decide)]
  have h2 : okD (.lst []) = true := by decide +kernel
  rw [h2]
  cases W <;> simp [tx, pyOf, pyOfs, PyData.eqv, PyData.eqvAll]
theorem ne_str {l m : List Nat} (h : Okl l) (h2 : Okl m) : cmpD .ne (.str l) (.str m) = some (decide (l ≠ m)) := by
  rw [cmpD, okD_str h, okD_str h2]
  simp only [pyOf, PyData.eqv, Bool.and_self, if_true]
  rw [S_inj]
  simp
theorem blws_map {α : Type} (k : Nat) (f : α → DL.D) : ∀ xs : List α, (∀ x ∈ xs, blw k (f x) = true) → blws k (xs.map f) = true
  | [], _ => rfl
  | x :: xs, h => by rw [List.map_cons, blws, h x (by simp), blws_map k f xs fun y hy => h y (by simp [hy])]; rfl
/-- what a sending is -/
def GSnd (f : F0) (K : List (List Nat)) (rs : List Rod) (q : List Nat × DL.D × List Nat × List Nat) : Prop :=
  Nm q.1 ∧ Sp K 8 q.2.1 ∧ ((q.2.2.1 = cs "who" ∧ q.2.2.2 ∈ f.whos) ∨ ((q.2.2.1 = cs "all" ∨ q.2.2.1 = cs "any") ∧ (f.nm, q.2.2.2) ∈ rs.map Rod.pr))
theorem sends_ok {n : Nat} {μ : List Cell} {ns : List Int} (hns : ns.length ≤ 63) {h : Nat} (hh : h < μ.length) {k : Int} (hk : 0 ≤ k) (hk2 : k < 980000) {f : F0} {j : Nat} {rs : List Rod} {K : List (List Nat)} (hK : ∀ x ∈ K, Okl x) (hKl : K.length ≤ 100)
    (hfn : Okl f.nm) (hw : ∀ l ∈ f.whos, Okl l) (hrs : rs.length ≤ 8) (hro : ∀ r ∈ rs, Okl r.one ∧ Okl r.other) :
    ∃ (sn : List (List Nat × DL.D × List Nat × List Nat)) (k' : Int), callF (n + 4) 21 [f.dr j, .lst (rs.map Rod.d), .lst (tx K), scr ns, .ref h] (μ.set h (At k)) = .ok (.lst (sn.map sndD)) (μ.set h (At k')) ∧ (∀ q ∈ sn, GSnd f K rs q) ∧ sn.length ≤ 3 ∧ k ≤ k' ∧ k' ≤ k + 5 := by
  show ∃ sn k', DL.runF 12 (b21 (callF (n + 3))) _ _ = _ ∧ _
  obtain ⟨x, hx, e1⟩ := next_ok (n := n + 1) (μ := μ ++ [.lst []]) hns (h := h) (by simp; omega) hk (by omega)
  rw [set_app hh, set_app hh] at e1
  have ed : f.dr j = .lst [.str f.nm, .int f.many, .lst (tx f.rooms), .lst (f.cells.map Cel.d), .lst (tx f.whos), .ref j] := rfl
  have hL : 8 ≤ LIM := by decide
  have e2 : b21_c3 (callF (n + 3)) ⟨[some (f.dr j), some (.lst (rs.map Rod.d)), some (.lst (tx K)), some (scr ns), some (.ref h), some (.ref μ.length), none, none, none, none, none, none], μ.set h (At k) ++ [.lst []]⟩ = _ := lcX_filter (c := false) (vs := [7]) (t := .nm 7) (k := iterM (varM 1)) (tt := b21_t1 (callF (n + 3))) (te := b21_e2 (callF (n + 3))) (ρ1 := ⟨[some (f.dr j), some (.lst (rs.map Rod.d)), some (.lst (tx K)), some (scr ns), some (.ref h), some (.ref μ.length), none, none, none, none, none, none], μ.set h (At k) ++ [.lst []]⟩) (xs := rs) Rod.d (fun r => DL.D.str r.other) (fun r => decide (r.one = f.nm)) rfl (by omega) (fun r hr => ⟨_, [some (f.dr j), some (.lst (rs.map Rod.d)), some (.lst (tx K)), some (scr ns), some (.ref h), some (.ref μ.length), none, some r.d, none, none, none, none], rfl, by
      have ex : r.d = .tup [.str r.one, .str r.other, .str r.kind, .int r.cap, .bl r.e5, .bl r.e6] := rfl
      have hc := eq_str (hro r hr).1 hfn
      rw [ex, ed]
      simp [LIM, runB, startSl, MS.seq, SOut.bind, M.thn, Out.bindS, M.bind, Out.bind, M.pure, varM, setS, setSl, nextS, ifS, M.andM, M.tb, M.bl, cmpM, cmpP, peek, c_lt, c_le, c_gt, c_ge, c_nn, c_eqi, binM, b_add, b_addt, b_sub, b_fdiv, b_mod, b_pow, optM, lenM, pkM, lenD, flatD, iterM, itM, forQ, consM, tupM, capM, lstM, newL, idxM, idxD, callM, addM, addD, bin2M, m_int, sliceM, partM, isTupD, un1M, tupD, sumD, listM, meth1M, isLst, appendM, isCell, putC, setIxS, setIx, isNonD, minD, maxD, Tg.go, Tg.gos, tgS, enumM, range1M, range2M, M.frz, frzM, M.noX, Out.noX, chainM, stepM, b21_t1, atI_0, hc, wipeL], fun _ => ⟨[some (f.dr j), some (.lst (rs.map Rod.d)), some (.lst (tx K)), some (scr ns), some (.ref h), some (.ref μ.length), none, some r.d, none, none, none, none], by
      have ex : r.d = .tup [.str r.one, .str r.other, .str r.kind, .int r.cap, .bl r.e5, .bl r.e6] := rfl
      rw [ex]
      simp [LIM, runB, startSl, MS.seq, SOut.bind, M.thn, Out.bindS, M.bind, Out.bind, M.pure, varM, setS, setSl, nextS, ifS, M.andM, M.tb, M.bl, cmpM, cmpP, peek, c_lt, c_le, c_gt, c_ge, c_nn, c_eqi, binM, b_add, b_addt, b_sub, b_fdiv, b_mod, b_pow, optM, lenM, pkM, lenD, flatD, iterM, itM, forQ, consM, tupM, capM, lstM, newL, idxM, idxD, callM, addM, addD, bin2M, m_int, sliceM, partM, isTupD, un1M, tupD, sumD, listM, meth1M, isLst, appendM, isCell, putC, setIxS, setIx, isNonD, minD, maxD, Tg.go, Tg.gos, tgS, enumM, range1M, range2M, M.frz, frzM, M.noX, Out.noX, chainM, stepM, b21_e2, atI_1]⟩⟩)
  obtain ⟨G, hG⟩ : ∃ G : List (List Nat), G = (rs.filter fun r => decide (r.one = f.nm)).map (·.other) := ⟨_, rfl⟩
  have e3 : (rs.filter fun r => decide (r.one = f.nm)).map (fun r => DL.D.str r.other) = tx G := by rw [hG]; unfold tx; rw [List.map_map]; rfl
  rw [e3] at e2
  have hGm : ∀ g ∈ G, (f.nm, g) ∈ rs.map Rod.pr ∧ Okl g := fun g hg => by
    rw [hG] at hg
    obtain ⟨r, hr, rfl⟩ := List.mem_map.mp hg
    obtain ⟨hr1, hr2⟩ := List.mem_filter.mp hr
    have hr2 : r.one = f.nm := by simpa using hr2
    exact ⟨List.mem_map.mpr ⟨r, hr1, by unfold Rod.pr; rw [hr2]⟩, (hro r hr1).2⟩
  have hGl : G.length ≤ 8 := by
    rw [hG, List.length_map]
    exact Nat.le_trans (List.length_filter_le _ _) hrs
  clear e3 hG
  have hGo : ∀ g ∈ G, Okl g := fun g hg => (hGm g hg).2
  have c1 := ne_nil hw
  have c2 := eq_nil hGo
  obtain ⟨ρ', l1, sn, y8, y9, y10, y11, k', rfl, i1, i2, i3, i4⟩ := forX_inv (xs := List.range (x % 3).toNat) (g := fun i => DL.D.int (i : Nat)) (t := .nm 8) (f := b21_l0 (callF (n + 3))) (fun pre ρ => ∃ sn y8 y9 y10 y11 k', ρ = ⟨[some (f.dr j), some (.lst (rs.map Rod.d)), some (.lst (tx K)), some (scr ns), some (.ref h), some (.ref μ.length), some (.lst (tx G)), none, y8, y9, y10, y11], μ.set h (At k') ++ [.lst (sn.map sndD)]⟩ ∧ (∀ q ∈ sn, GSnd f K rs q) ∧ sn.length ≤ pre.length ∧ k + 1 ≤ k' ∧ k' ≤ k + 1 + 2 * pre.length)
    (ρ := ⟨[some (f.dr j), some (.lst (rs.map Rod.d)), some (.lst (tx K)), some (scr ns), some (.ref h), some (.ref μ.length), some (.lst (tx G)), none, none, none, none, none], μ.set h (At (k + 1)) ++ [.lst []]⟩) ⟨[], none, none, none, none, k + 1, rfl, by simp, by simp, by omega, by simp⟩ (by
    rintro pre i post ρ e ⟨sn, y8, y9, y10, y11, k', rfl, i1, i2, i3, i4⟩
    have hpl : pre.length < 3 := by have := congrArg List.length e; simp at this; omega
    obtain ⟨y, hy, f1⟩ := next_ok (n := n + 1) (μ := μ ++ [.lst (sn.map sndD)]) hns (h := h) (by simp; omega) (k := k') (by omega) (by omega)
    obtain ⟨sm, f2, hsm⟩ := small_ok (n := n) (μ := μ ++ [.lst (sn.map sndD)]) hns (h := h) (by simp; omega) (k := k' + 1) (by omega) (by omega) hK hKl
    rw [set_app hh, set_app hh] at f1 f2
    have f3 := named_ok (n := n + 2) (μ := μ.set h (At (k' + 1)) ++ [.lst (sn.map sndD)]) (k := 0) (x := y / 64) (by omega) (by omega)
    have f3 : callF (n + 2 + 1) 13 [.int 0, .int (y / 64)] (μ.set h (At (k' + 1)) ++ [.lst (sn.map sndD)]) = _ := f3
    obtain ⟨w0, f4, hw0⟩ : ∃ w0, atI [DL.D.str (cs "all"), .str (cs "any")] (y % 2) = some (.str w0) ∧ (w0 = cs "all" ∨ w0 = cs "any") := by
      have : y % 2 = 0 ∨ y % 2 = 1 := by omega
      rcases this with q | q <;> rw [q]
      · exact ⟨_, atI_0, .inl rfl⟩
      · exact ⟨_, atI_1, .inr rfl⟩
    obtain ⟨mx, hmx, hmx1⟩ : ∃ mx : Int, maxD (.int 1) (.int ((tx G).length : Int)) = some (.int mx) ∧ mx = if ((tx G).length : Int) > 1 then ((tx G).length : Int) else 1 := ⟨_, rfl, rfl⟩
    have hmpos : 0 < mx := by rw [hmx1]; split <;> omega
    obtain ⟨g0, f5, hg0⟩ : ∃ g0, atI (tx G ++ [DL.D.str (cs "")]) (y / 4 % mx) = some (.str g0) ∧ (g0 ∈ G ∨ (g0 = [] ∧ G = [])) := by
      have b1 : 0 ≤ y / 4 % mx := Int.emod_nonneg _ (by omega)
      have b2 : y / 4 % mx < mx := Int.emod_lt_of_pos _ hmpos
      obtain ⟨m, hm⟩ : ∃ m : Nat, y / 4 % mx = m := ⟨(y / 4 % mx).toNat, by omega⟩
      have b3 : (m : Int) < mx := by rw [← hm]; exact b2
      rw [hm]
      by_cases hg : G = []
      · subst hg
        have : m = 0 := by
          rw [hmx1] at b3
          simp [tx] at b3; omega
        subst this
        exact ⟨[], atI_0, .inr ⟨rfl, rfl⟩⟩
      · have hgl : 0 < G.length := List.length_pos_iff.mpr hg
        have hml : m < G.length := by
          rw [hmx1, len_tx] at b3
          split at b3 <;> omega
        exact ⟨G[m], atI_n (by rw [List.getElem?_append_left (by rw [len_tx]; exact hml)]; unfold tx; rw [List.getElem?_map, List.getElem?_eq_getElem hml]; rfl), .inl (List.getElem_mem hml)⟩
    have hg0o : Okl g0 := hg0.elim (hGo g0) fun z => z.1 ▸ okl_nil
    have glast : ∀ (a : Cell) (c : Cell), (μ.set h a ++ [c])[μ.length]? = some c := fun a c => by
      have := get_last (μ.set h a) c
      rwa [List.length_set] at this
    have slast : ∀ (a : Cell) (c d : Cell), (μ.set h a ++ [c]).set μ.length d = μ.set h a ++ [d] := fun a c d => by
      have := set_last (μ.set h a) c d
      rwa [List.length_set] at this
    have hsl : (sn.map sndD).length < 16777216 := by simp; omega
    have hGl2 : (tx G).length ≤ 16777215 := by rw [len_tx]; omega
    have hcs : cs "" = [] := rfl
    rw [hcs] at f5
    -- behind the choice
    have fin : ∀ (w g : List Nat), Okl g → (g ≠ [] → (w = cs "who" ∧ g ∈ f.whos) ∨ ((w = cs "all" ∨ w = cs "any") ∧ (f.nm, g) ∈ rs.map Rod.pr)) →
        (∀ A : List (Option DL.D) → List Cell → SOut, (g ≠ [] → True) → True) → True := fun _ _ _ _ _ => trivial
    by_cases hb : f.whos ≠ [] ∧ (y % 3 = 0 ∨ G = [])
    · obtain ⟨hb1, hb2⟩ := hb
      have hwl : 0 < f.whos.length := List.length_pos_iff.mpr hb1
      obtain ⟨g1, hg1, f6⟩ := pick (x := y / 4) (by omega) hwl
      have hwl2 : 0 < (tx f.whos).length := by rw [len_tx]; exact hwl
      rw [decide_eq_true hb1] at c1
      have c3 := ne_str (hw _ hg1) okl_nil
      by_cases hz : g1 = []
      · subst hz
        refine ⟨_, ⟨[some (f.dr j), some (.lst (rs.map Rod.d)), some (.lst (tx K)), some (scr ns), some (.ref h), some (.ref μ.length), some (.lst (tx G)), none, some (.int (i : Nat)), some (.int y), some (.str (cs "who")), some (.str [])], μ.set h (At (k' + 1)) ++ [.lst (sn.map sndD)]⟩, rfl, .inl ?_, sn, _, _, _, _, k' + 1, rfl, i1, by simp; omega, by omega, by simp; omega⟩
        have c3 : cmpD .ne (.str []) (.str []) = some false := by rw [c3]; rfl
        rw [ed]
        generalize sn.map sndD = SN at *
        generalize tx f.whos = TW at *
        rcases hb2 with q | q
        · generalize tx G = TG at *
          simp [LIM, runB, startSl, MS.seq, SOut.bind, M.thn, Out.bindS, M.bind, Out.bind, M.pure, varM, setS, setSl, nextS, ifS, M.andM, M.tb, M.bl, cmpM, cmpP, peek, c_lt, c_le, c_gt, c_ge, c_nn, c_eqi, binM, b_add, b_addt, b_sub, b_fdiv, b_mod, b_pow, optM, lenM, pkM, lenD, flatD, iterM, itM, forQ, consM, tupM, capM, lstM, newL, idxM, idxD, callM, addM, addD, bin2M, m_int, sliceM, partM, isTupD, un1M, tupD, sumD, listM, meth1M, isLst, appendM, isCell, putC, setIxS, setIx, isNonD, Tg.go, Tg.gos, tgS, enumM, range1M, range2M, M.frz, frzM, M.noX, Out.noX, chainM, stepM, b21_l0, f1, f4, hmx, hmpos, f5, hGl2, c1, q, c3, f6, hwl2, atI_4, hcs]
        · by_cases q3 : y % 3 = 0
          · generalize tx G = TG at *
            simp [LIM, runB, startSl, MS.seq, SOut.bind, M.thn, Out.bindS, M.bind, Out.bind, M.pure, varM, setS, setSl, nextS, ifS, M.andM, M.tb, M.bl, cmpM, cmpP, peek, c_lt, c_le, c_gt, c_ge, c_nn, c_eqi, binM, b_add, b_addt, b_sub, b_fdiv, b_mod, b_pow, optM, lenM, pkM, lenD, flatD, iterM, itM, forQ, consM, tupM, capM, lstM, newL, idxM, idxD, callM, addM, addD, bin2M, m_int, sliceM, partM, isTupD, un1M, tupD, sumD, listM, meth1M, isLst, appendM, isCell, putC, setIxS, setIx, isNonD, Tg.go, Tg.gos, tgS, enumM, range1M, range2M, M.frz, frzM, M.noX, Out.noX, chainM, stepM, b21_l0, f1, f4, hmx, hmpos, f5, hGl2, c1, q3, c3, f6, hwl2, atI_4, hcs]
          · rw [decide_eq_true q] at c2
            generalize tx G = TG at *
            simp [LIM, runB, startSl, MS.seq, SOut.bind, M.thn, Out.bindS, M.bind, Out.bind, M.pure, varM, setS, setSl, nextS, ifS, M.andM, M.tb, M.bl, cmpM, cmpP, peek, c_lt, c_le, c_gt, c_ge, c_nn, c_eqi, binM, b_add, b_addt, b_sub, b_fdiv, b_mod, b_pow, optM, lenM, pkM, lenD, flatD, iterM, itM, forQ, consM, tupM, capM, lstM, newL, idxM, idxD, callM, addM, addD, bin2M, m_int, sliceM, partM, isTupD, un1M, tupD, sumD, listM, meth1M, isLst, appendM, isCell, putC, setIxS, setIx, isNonD, Tg.go, Tg.gos, tgS, enumM, range1M, range2M, M.frz, frzM, M.noX, Out.noX, chainM, stepM, b21_l0, f1, f4, hmx, hmpos, f5, hGl2, c1, c2, q3, c3, f6, hwl2, atI_4, hcs]
      · rw [decide_eq_true hz] at c3
        refine ⟨_, ⟨[some (f.dr j), some (.lst (rs.map Rod.d)), some (.lst (tx K)), some (scr ns), some (.ref h), some (.ref μ.length), some (.lst (tx G)), none, some (.int (i : Nat)), some (.int y), some (.str (cs "who")), some (.str g1)], μ.set h (At (k' + 1 + 1)) ++ [.lst ((sn ++ [(nmOf 0 (y / 64), sm, cs "who", g1)]).map sndD)]⟩, rfl, .inl ?_, sn ++ [(nmOf 0 (y / 64), sm, cs "who", g1)], _, _, _, _, k' + 1 + 1, rfl, ?_, by simp; omega, by omega, by simp; omega⟩
        · have hsd : (sn ++ [(nmOf 0 (y / 64), sm, cs "who", g1)]).map sndD = sn.map sndD ++ [.tup [.str (nmOf 0 (y / 64)), sm, .str (cs "who"), .str g1]] := by simp [sndD]
          rw [hsd, ed]
          generalize sn.map sndD = SN at *
          generalize tx f.whos = TW at *
          rcases hb2 with q | q
          · generalize tx G = TG at *
            simp [LIM, runB, startSl, MS.seq, SOut.bind, M.thn, Out.bindS, M.bind, Out.bind, M.pure, varM, setS, setSl, nextS, ifS, M.andM, M.tb, M.bl, cmpM, cmpP, peek, c_lt, c_le, c_gt, c_ge, c_nn, c_eqi, binM, b_add, b_addt, b_sub, b_fdiv, b_mod, b_pow, optM, lenM, pkM, lenD, flatD, iterM, itM, forQ, consM, tupM, capM, lstM, newL, idxM, idxD, callM, addM, addD, bin2M, m_int, sliceM, partM, isTupD, un1M, tupD, sumD, listM, meth1M, isLst, appendM, isCell, putC, setIxS, setIx, isNonD, Tg.go, Tg.gos, tgS, enumM, range1M, range2M, M.frz, frzM, M.noX, Out.noX, chainM, stepM, b21_l0, f1, f2, f3, f4, hmx, hmpos, f5, hGl2, c1, q, c3, f6, hwl2, atI_4, hcs, glast, slast, hsl]
          · by_cases q3 : y % 3 = 0
            · generalize tx G = TG at *
              simp [LIM, runB, startSl, MS.seq, SOut.bind, M.thn, Out.bindS, M.bind, Out.bind, M.pure, varM, setS, setSl, nextS, ifS, M.andM, M.tb, M.bl, cmpM, cmpP, peek, c_lt, c_le, c_gt, c_ge, c_nn, c_eqi, binM, b_add, b_addt, b_sub, b_fdiv, b_mod, b_pow, optM, lenM, pkM, lenD, flatD, iterM, itM, forQ, consM, tupM, capM, lstM, newL, idxM, idxD, callM, addM, addD, bin2M, m_int, sliceM, partM, isTupD, un1M, tupD, sumD, listM, meth1M, isLst, appendM, isCell, putC, setIxS, setIx, isNonD, Tg.go, Tg.gos, tgS, enumM, range1M, range2M, M.frz, frzM, M.noX, Out.noX, chainM, stepM, b21_l0, f1, f2, f3, f4, hmx, hmpos, f5, hGl2, c1, q3, c3, f6, hwl2, atI_4, hcs, glast, slast, hsl]
            · rw [decide_eq_true q] at c2
              generalize tx G = TG at *
              simp [LIM, runB, startSl, MS.seq, SOut.bind, M.thn, Out.bindS, M.bind, Out.bind, M.pure, varM, setS, setSl, nextS, ifS, M.andM, M.tb, M.bl, cmpM, cmpP, peek, c_lt, c_le, c_gt, c_ge, c_nn, c_eqi, binM, b_add, b_addt, b_sub, b_fdiv, b_mod, b_pow, optM, lenM, pkM, lenD, flatD, iterM, itM, forQ, consM, tupM, capM, lstM, newL, idxM, idxD, callM, addM, addD, bin2M, m_int, sliceM, partM, isTupD, un1M, tupD, sumD, listM, meth1M, isLst, appendM, isCell, putC, setIxS, setIx, isNonD, Tg.go, Tg.gos, tgS, enumM, range1M, range2M, M.frz, frzM, M.noX, Out.noX, chainM, stepM, b21_l0, f1, f2, f3, f4, hmx, hmpos, f5, hGl2, c1, c2, q3, c3, f6, hwl2, atI_4, hcs, glast, slast, hsl]
        · intro q hq
          rcases List.mem_append.mp hq with hq | hq
          · exact i1 q hq
          · obtain rfl : q = _ := by simpa using hq
            exact ⟨nm_Nm (by decide) _, hsm.le (by decide), .inl ⟨rfl, hg1⟩⟩
    · have c3 := ne_str hg0o okl_nil
      by_cases hz : g0 = []
      · subst hz
        have c3 : cmpD .ne (.str []) (.str []) = some false := by rw [c3]; rfl
        refine ⟨_, ⟨[some (f.dr j), some (.lst (rs.map Rod.d)), some (.lst (tx K)), some (scr ns), some (.ref h), some (.ref μ.length), some (.lst (tx G)), none, some (.int (i : Nat)), some (.int y), some (.str w0), some (.str [])], μ.set h (At (k' + 1)) ++ [.lst (sn.map sndD)]⟩, rfl, .inl ?_, sn, _, _, _, _, k' + 1, rfl, i1, by simp; omega, by omega, by simp; omega⟩
        rw [ed]
        by_cases hb1 : f.whos = []
        · have hb1' : decide (f.whos ≠ []) = false := decide_eq_false (fun z => z hb1)
          rw [hb1'] at c1
          generalize sn.map sndD = SN at *
          generalize tx f.whos = TW at *
          generalize tx G = TG at *
          simp [LIM, runB, startSl, MS.seq, SOut.bind, M.thn, Out.bindS, M.bind, Out.bind, M.pure, varM, setS, setSl, nextS, ifS, M.andM, M.tb, M.bl, cmpM, cmpP, peek, c_lt, c_le, c_gt, c_ge, c_nn, c_eqi, binM, b_add, b_addt, b_sub, b_fdiv, b_mod, b_pow, optM, lenM, pkM, lenD, flatD, iterM, itM, forQ, consM, tupM, capM, lstM, newL, idxM, idxD, callM, addM, addD, bin2M, m_int, sliceM, partM, isTupD, un1M, tupD, sumD, listM, meth1M, isLst, appendM, isCell, putC, setIxS, setIx, isNonD, Tg.go, Tg.gos, tgS, enumM, range1M, range2M, M.frz, frzM, M.noX, Out.noX, chainM, stepM, b21_l0, f1, f4, hmx, hmpos, f5, hGl2, c1, c3, atI_4, hcs]
        · have q3 : ¬ y % 3 = 0 := fun z => hb ⟨hb1, .inl z⟩
          have q4 : ¬ G = [] := fun z => hb ⟨hb1, .inr z⟩
          rw [decide_eq_true hb1] at c1
          rw [decide_eq_false q4] at c2
          generalize sn.map sndD = SN at *
          generalize tx f.whos = TW at *
          generalize tx G = TG at *
          simp [LIM, runB, startSl, MS.seq, SOut.bind, M.thn, Out.bindS, M.bind, Out.bind, M.pure, varM, setS, setSl, nextS, ifS, M.andM, M.tb, M.bl, cmpM, cmpP, peek, c_lt, c_le, c_gt, c_ge, c_nn, c_eqi, binM, b_add, b_addt, b_sub, b_fdiv, b_mod, b_pow, optM, lenM, pkM, lenD, flatD, iterM, itM, forQ, consM, tupM, capM, lstM, newL, idxM, idxD, callM, addM, addD, bin2M, m_int, sliceM, partM, isTupD, un1M, tupD, sumD, listM, meth1M, isLst, appendM, isCell, putC, setIxS, setIx, isNonD, Tg.go, Tg.gos, tgS, enumM, range1M, range2M, M.frz, frzM, M.noX, Out.noX, chainM, stepM, b21_l0, f1, f4, hmx, hmpos, f5, hGl2, c1, c2, q3, c3, atI_4, hcs]
      · rw [decide_eq_true hz] at c3
        have hgm : g0 ∈ G := hg0.resolve_right fun z => hz z.1
        refine ⟨_, ⟨[some (f.dr j), some (.lst (rs.map Rod.d)), some (.lst (tx K)), some (scr ns), some (.ref h), some (.ref μ.length), some (.lst (tx G)), none, some (.int (i : Nat)), some (.int y), some (.str w0), some (.str g0)], μ.set h (At (k' + 1 + 1)) ++ [.lst ((sn ++ [(nmOf 0 (y / 64), sm, w0, g0)]).map sndD)]⟩, rfl, .inl ?_, sn ++ [(nmOf 0 (y / 64), sm, w0, g0)], _, _, _, _, k' + 1 + 1, rfl, ?_, by simp; omega, by omega, by simp; omega⟩
        · have hsd : (sn ++ [(nmOf 0 (y / 64), sm, w0, g0)]).map sndD = sn.map sndD ++ [.tup [.str (nmOf 0 (y / 64)), sm, .str w0, .str g0]] := by simp [sndD]
          rw [hsd, ed]
          by_cases hb1 : f.whos = []
          · have hb1' : decide (f.whos ≠ []) = false := decide_eq_false (fun z => z hb1)
            rw [hb1'] at c1
            generalize sn.map sndD = SN at *
            generalize tx f.whos = TW at *
            generalize tx G = TG at *
            simp [LIM, runB, startSl, MS.seq, SOut.bind, M.thn, Out.bindS, M.bind, Out.bind, M.pure, varM, setS, setSl, nextS, ifS, M.andM, M.tb, M.bl, cmpM, cmpP, peek, c_lt, c_le, c_gt, c_ge, c_nn, c_eqi, binM, b_add, b_addt, b_sub, b_fdiv, b_mod, b_pow, optM, lenM, pkM, lenD, flatD, iterM, itM, forQ, consM, tupM, capM, lstM, newL, idxM, idxD, callM, addM, addD, bin2M, m_int, sliceM, partM, isTupD, un1M, tupD, sumD, listM, meth1M, isLst, appendM, isCell, putC, setIxS, setIx, isNonD, Tg.go, Tg.gos, tgS, enumM, range1M, range2M, M.frz, frzM, M.noX, Out.noX, chainM, stepM, b21_l0, f1, f2, f3, f4, hmx, hmpos, f5, hGl2, c1, c3, atI_4, hcs, glast, slast, hsl]
          · have q3 : ¬ y % 3 = 0 := fun z => hb ⟨hb1, .inl z⟩
            have q4 : ¬ G = [] := fun z => hb ⟨hb1, .inr z⟩
            rw [decide_eq_true hb1] at c1
            rw [decide_eq_false q4] at c2
            generalize sn.map sndD = SN at *
            generalize tx f.whos = TW at *
            generalize tx G = TG at *
            simp [LIM, runB, startSl, MS.seq, SOut.bind, M.thn, Out.bindS, M.bind, Out.bind, M.pure, varM, setS, setSl, nextS, ifS, M.andM, M.tb, M.bl, cmpM, cmpP, peek, c_lt, c_le, c_gt, c_ge, c_nn, c_eqi, binM, b_add, b_addt, b_sub, b_fdiv, b_mod, b_pow, optM, lenM, pkM, lenD, flatD, iterM, itM, forQ, consM, tupM, capM, lstM, newL, idxM, idxD, callM, addM, addD, bin2M, m_int, sliceM, partM, isTupD, un1M, tupD, sumD, listM, meth1M, isLst, appendM, isCell, putC, setIxS, setIx, isNonD, Tg.go, Tg.gos, tgS, enumM, range1M, range2M, M.frz, frzM, M.noX, Out.noX, chainM, stepM, b21_l0, f1, f2, f3, f4, hmx, hmpos, f5, hGl2, c1, c2, q3, c3, atI_4, hcs, glast, slast, hsl]
        · intro q hq
          rcases List.mem_append.mp hq with hq | hq
          · exact i1 q hq
          · obtain rfl : q = _ := by simpa using hq
            exact ⟨nm_Nm (by decide) _, hsm.le (by decide), .inr ⟨hw0, (hGm g0 hgm).1⟩⟩)
  have hlen : (List.range (x % 3).toNat).length = (x % 3).toNat := List.length_range
  rw [hlen] at i2 i4
  have hbl : ∀ (m : Nat) (q : List Nat × DL.D × List Nat × List Nat), q ∈ sn → blw m (sndD q) = true := fun m q hq => by
    have := ((i1 q hq).2.1.ok hK).blw (j := m)
    simp [sndD, blw, blws, this]
  have f5 := frz_last (ν := μ.set h (At k')) (m := μ.length) (by simp) (ds := sn.map sndD) (fun d hd => by obtain ⟨c, hc, rfl⟩ := List.mem_map.mp hd; exact hbl 0 c hc) (by simp; omega)
  have g1 : -4611686018427387904 ≤ x % 3 := by omega
  have g2 : x % 3 < 4611686018427387904 := by omega
  refine ⟨sn, k', runF_at (junk := [.dead]) ?_ ?_, i1, by omega, by omega, by omega⟩
  · simp [LIM, runB, startSl, MS.seq, SOut.bind, M.thn, Out.bindS, M.bind, Out.bind, M.pure, varM, setS, setSl, nextS, ifS, M.andM, M.tb, M.bl, cmpM, cmpP, peek, c_lt, c_le, c_gt, c_ge, c_nn, c_eqi, binM, b_add, b_addt, b_sub, b_fdiv, b_mod, b_pow, optM, lenM, pkM, lenD, flatD, iterM, itM, forQ, consM, tupM, capM, lstM, newL, idxM, idxD, callM, addM, addD, bin2M, m_int, sliceM, partM, isTupD, un1M, tupD, sumD, listM, meth1M, isLst, appendM, isCell, putC, setIxS, setIx, isNonD, minD, maxD, Tg.go, Tg.gos, tgS, enumM, range1M, range2M, M.frz, frzM, M.noX, Out.noX, chainM, stepM, b21, e1, e2, l1, g1, g2, f5]
  · rw [blw]
    exact blws_map _ _ _ fun q hq => hbl _ q hq
end K10
set_option Elab.async false
set_option linter.all false
set_option maxRecDepth 100000
set_option maxHeartbeats 8000000
namespace K10
open PySem PySem.Spec PyProof.Rows L2 DL
theorem pickE {W : List (List Nat)} {y : Int} (hy : 0 ≤ y) : ∃ l, (l = [] ∨ l ∈ W) ∧ atI (tx W ++ [DL.D.str (cs "")]) (y % ((tx W).length + 1)) = some (.str l) := by
  rw [len_tx]
  have g1 : 0 ≤ y % ((W.length : Int) + 1) := Int.emod_nonneg _ (by omega)
  have g2 : y % ((W.length : Int) + 1) < W.length + 1 := Int.emod_lt_of_pos _ (by omega)
  obtain ⟨m, hm⟩ : ∃ m : Nat, y % ((W.length : Int) + 1) = m := ⟨(y % ((W.length : Int) + 1)).toNat, by omega⟩
  rw [hm]
  by_cases h : m < W.length
  · exact ⟨W[m], .inr (List.getElem_mem h), atI_n (by rw [List.getElem?_append_left (by rw [len_tx]; exact h)]; unfold tx; rw [List.getElem?_map, List.getElem?_eq_getElem h]; rfl)⟩
  · have : m = W.length := by omega
    subst this
    refine ⟨[], .inl rfl, atI_n ?_⟩
    rw [List.getElem?_append_right (by rw [len_tx]; omega), len_tx]; simp; rfl
structure GS0 (f : F0) (rs : List Rod) (i : Nat) (s : Stp) : Prop where
  nm : s.nm = nmOf i 7
  at_ : s.at_ ∈ f.rooms
  go : s.go ∈ f.rooms
  whn : Sp (f.cells.map (·.nm)) 8 s.whn
  tak : ∀ a b c d, s.tak = some (a, b, c, d) → Nm a ∧ (b, f.nm) ∈ rs.map Rod.pr ∧ (c = [] ∨ c ∈ f.cells.map (·.nm)) ∧ (d = [] ∨ d ∈ f.whos)
  cnd : (s.chg.map (·.1)).Nodup
  cln : s.chg.length ≤ 3
  chg : ∀ q ∈ s.chg, q.1 ∈ f.cells.map (·.nm) ∧ (∀ a b c d, s.tak = some (a, b, c, d) → q.1 ≠ c) ∧ Sp (if s.tak.isSome then f.cells.map (·.nm) ++ [cs "it"] else f.cells.map (·.nm)) 8 q.2
  snd : ∀ q ∈ s.snd, GSnd f (if s.tak.isSome then f.cells.map (·.nm) ++ [cs "it"] else f.cells.map (·.nm)) rs q
theorem chgs_ok {n : Nat} {μ : List Cell} {ns : List Int} (hns : ns.length ≤ 63) {h : Nat} (hh : h < μ.length) {k : Int} (hk : 0 ≤ k) (hk2 : k < 980000) {K Lf : List (List Nat)} (hK : ∀ x ∈ K, Okl x) (hKl : K.length ≤ 100) (hLl : Lf.length ≤ 3) (nd : Lf.Nodup)
    {a0 a1 a2 a5 a6 a8 a10 a11 : DL.D} {a7 a13 : Option DL.D} :
    ∃ (cg : List (List Nat × DL.D)) (z14 : Option DL.D) (k' : Int), forL (tx Lf) (.nm 14) (b22_l0 (callF (n + 3))) ⟨[some a0, some a1, some a2, some (scr ns), some (.ref h), some a5, some a6, a7, some a8, some (.lst (tx K)), some a10, some a11, none, a13, none, some (.ref μ.length), none, none, none], μ.set h (At k) ++ [.lst []]⟩ =
      .next ⟨[some a0, some a1, some a2, some (scr ns), some (.ref h), some a5, some a6, a7, some a8, some (.lst (tx K)), some a10, some a11, none, a13, z14, some (.ref μ.length), none, none, none], μ.set h (At k') ++ [.lst (cg.map chgD)]⟩ ∧
      (cg.map (·.1)).Sublist Lf ∧ (∀ q ∈ cg, Sp K 8 q.2) ∧ k ≤ k' ∧ k' ≤ k + 6 := by
  obtain ⟨ρ', l1, cg, z14, k', rfl, i1, i2, i3, i4⟩ := forX_inv (xs := Lf) (g := DL.D.str) (t := .nm 14) (f := b22_l0 (callF (n + 3))) (fun pre ρ => ∃ cg z14 k', ρ = ⟨[some a0, some a1, some a2, some (scr ns), some (.ref h), some a5, some a6, a7, some a8, some (.lst (tx K)), some a10, some a11, none, a13, z14, some (.ref μ.length), none, none, none], μ.set h (At k') ++ [.lst (cg.map chgD)]⟩ ∧ (cg.map (·.1)).Sublist pre ∧ (∀ q ∈ cg, Sp K 8 q.2) ∧ k ≤ k' ∧ k' ≤ k + 2 * pre.length)
    (ρ := ⟨[some a0, some a1, some a2, some (scr ns), some (.ref h), some a5, some a6, a7, some a8, some (.lst (tx K)), some a10, some a11, none, a13, none, some (.ref μ.length), none, none, none], μ.set h (At k) ++ [.lst []]⟩) ⟨[], none, k, rfl, by simp, by simp, by omega, by simp⟩ (by
    rintro pre l post ρ e ⟨cg, z14, k', rfl, i1, i2, i3, i4⟩
    have hpl : pre.length < 3 := by have := congrArg List.length e; simp at this; omega
    obtain ⟨y, hy, f1⟩ := next_ok (n := n + 1) (μ := μ ++ [.lst (cg.map chgD)]) hns (h := h) (by simp; omega) (k := k') (by omega) (by omega)
    obtain ⟨sm, f2, hsm⟩ := small_ok (n := n) (μ := μ ++ [.lst (cg.map chgD)]) hns (h := h) (by simp; omega) (k := k' + 1) (by omega) (by omega) hK hKl
    rw [set_app hh, set_app hh] at f1 f2
    have glast : ∀ (a : Cell) (c : Cell), (μ.set h a ++ [c])[μ.length]? = some c := fun a c => by
      have := get_last (μ.set h a) c
      rwa [List.length_set] at this
    have slast : ∀ (a : Cell) (c d : Cell), (μ.set h a ++ [c]).set μ.length d = μ.set h a ++ [d] := fun a c d => by
      have := set_last (μ.set h a) c d
      rwa [List.length_set] at this
    have hcl : (cg.map chgD).length < 16777216 := by
      have := i1.length_le
      simp at this ⊢; omega
    by_cases hz : y % 2 = 0
    · refine ⟨_, ⟨[some a0, some a1, some a2, some (scr ns), some (.ref h), some a5, some a6, a7, some a8, some (.lst (tx K)), some a10, some a11, none, a13, some (.str l), some (.ref μ.length), none, none, none], μ.set h (At (k' + 1 + 1)) ++ [.lst ((cg ++ [(l, sm)]).map chgD)]⟩, rfl, .inl ?_, cg ++ [(l, sm)], _, k' + 1 + 1, rfl, ?_, ?_, by omega, by simp; omega⟩
      · have hcd : (cg ++ [(l, sm)]).map chgD = cg.map chgD ++ [.tup [.str l, sm]] := by simp [chgD]
        rw [hcd]
        generalize cg.map chgD = CG at *
        simp [LIM, runB, startSl, MS.seq, SOut.bind, M.thn, Out.bindS, M.bind, Out.bind, M.pure, varM, setS, setSl, nextS, ifS, M.andM, M.tb, M.bl, cmpM, cmpP, peek, c_lt, c_le, c_gt, c_ge, c_nn, c_eqi, binM, b_add, b_addt, b_sub, b_fdiv, b_mod, b_pow, optM, lenM, pkM, lenD, flatD, iterM, itM, forQ, consM, tupM, capM, lstM, newL, idxM, idxD, callM, addM, addD, bin2M, m_int, sliceM, partM, isTupD, un1M, tupD, sumD, listM, meth1M, isLst, appendM, isCell, putC, setIxS, setIx, isNonD, minD, maxD, Tg.go, Tg.gos, tgS, enumM, range1M, range2M, M.frz, frzM, M.noX, Out.noX, chainM, stepM, b22_l0, f1, f2, hz, glast, slast, hcl]
      · rw [List.map_append]
        exact i1.append (List.Sublist.refl _)
      · intro q hq
        rcases List.mem_append.mp hq with hq | hq
        · exact i2 q hq
        · obtain rfl : q = _ := by simpa using hq
          exact hsm.le (by decide)
    · refine ⟨_, ⟨[some a0, some a1, some a2, some (scr ns), some (.ref h), some a5, some a6, a7, some a8, some (.lst (tx K)), some a10, some a11, none, a13, some (.str l), some (.ref μ.length), none, none, none], μ.set h (At (k' + 1)) ++ [.lst (cg.map chgD)]⟩, rfl, .inl ?_, cg, _, k' + 1, rfl, i1.trans (List.sublist_append_left _ _), i2, by omega, by simp; omega⟩
      generalize cg.map chgD = CG at *
      simp [LIM, runB, startSl, MS.seq, SOut.bind, M.thn, Out.bindS, M.bind, Out.bind, M.pure, varM, setS, setSl, nextS, ifS, M.andM, M.tb, M.bl, cmpM, cmpP, peek, c_lt, c_le, c_gt, c_ge, c_nn, c_eqi, binM, b_add, b_addt, b_sub, b_fdiv, b_mod, b_pow, optM, lenM, pkM, lenD, flatD, iterM, itM, forQ, consM, tupM, capM, lstM, newL, idxM, idxD, callM, addM, addD, bin2M, m_int, sliceM, partM, isTupD, un1M, tupD, sumD, listM, meth1M, isLst, appendM, isCell, putC, setIxS, setIx, isNonD, minD, maxD, Tg.go, Tg.gos, tgS, enumM, range1M, range2M, M.frz, frzM, M.noX, Out.noX, chainM, stepM, b22_l0, f1, hz])
  exact ⟨cg, z14, k', l1, i1, i2, i3, by omega⟩
theorem step_ok {n : Nat} {μ : List Cell} {ns : List Int} (hns : ns.length ≤ 63) {h : Nat} (hh : h < μ.length) {k : Int} (hk : 0 ≤ k) (hk2 : k < 970000) {f : F0} {j i : Nat} (hi : i < 8) {rs : List Rod}
    (hcn : f.cells.length ≤ 3 ∧ (f.cells.map (·.nm)).Nodup ∧ ∀ l ∈ f.cells.map (·.nm), Okl l) (hfn : Okl f.nm) (hw : ∀ l ∈ f.whos, Okl l) (hwl : f.whos.length ≤ 2) (hrm : 0 < f.rooms.length ∧ f.rooms.length ≤ 8) (hrs : rs.length ≤ 8) (hro : ∀ r ∈ rs, Okl r.one ∧ Okl r.other) :
    ∃ (s : Stp) (k' : Int), callF (n + 5) 22 [f.dr j, .lst (rs.map Rod.d), .int i, scr ns, .ref h] (μ.set h (At k)) = .ok s.d (μ.set h (At k')) ∧ GS0 f rs i s ∧ k ≤ k' ∧ k' ≤ k + 15 := by
  show ∃ s k', DL.runF 19 (b22 (callF (n + 4))) _ _ = _ ∧ _
  obtain ⟨x, hx, e1⟩ := next_ok (n := n + 2) hns hh hk (by omega)
  obtain ⟨CN, hCN⟩ : ∃ CN : List (List Nat), CN = f.cells.map (·.nm) := ⟨_, rfl⟩
  have hCl : CN.length ≤ 3 := by rw [hCN, List.length_map]; exact hcn.1
  rw [← hCN] at hcn
  obtain ⟨_, hCnd, hCO⟩ := hcn
  have ed : f.dr j = .lst [.str f.nm, .int f.many, .lst (tx f.rooms), .lst (f.cells.map Cel.d), .lst (tx f.whos), .ref j] := rfl
  have hL : 8 ≤ LIM := by decide
  have e2 : b22_c8 (callF (n + 4)) ⟨[some (f.dr j), some (.lst (rs.map Rod.d)), some (.int i), some (scr ns), some (.ref h), some (.int x), none, none, none, none, none, none, none, none, none, none, none, none, none], μ.set h (At (k + 1))⟩ = _ := lcX_map (c := false) (vs := [7]) (t := .nm 7) (k := iterM (idxM (varM 0) (M.pure (.int 3)))) (te := b22_e7 (callF (n + 4))) (ρ1 := ⟨[some (f.dr j), some (.lst (rs.map Rod.d)), some (.int i), some (scr ns), some (.ref h), some (.int x), none, none, none, none, none, none, none, none, none, none, none, none, none], μ.set h (At (k + 1))⟩) (xs := f.cells) Cel.d (fun c => DL.D.str c.nm) (by rw [ed]; simp [LIM, runB, startSl, MS.seq, SOut.bind, M.thn, Out.bindS, M.bind, Out.bind, M.pure, varM, setS, setSl, nextS, ifS, M.andM, M.tb, M.bl, cmpM, cmpP, peek, c_lt, c_le, c_gt, c_ge, c_nn, c_eqi, binM, b_add, b_addt, b_sub, b_fdiv, b_mod, b_pow, optM, lenM, pkM, lenD, flatD, iterM, itM, forQ, consM, tupM, capM, lstM, newL, idxM, idxD, callM, addM, addD, bin2M, m_int, sliceM, partM, isTupD, un1M, tupD, sumD, listM, meth1M, isLst, appendM, isCell, putC, setIxS, setIx, isNonD, minD, maxD, Tg.go, Tg.gos, tgS, enumM, range1M, range2M, M.frz, frzM, M.noX, Out.noX, chainM, stepM, atI_3]) (by have := hCl; rw [hCN, List.length_map] at this; omega) (fun c hc => ⟨_, [some (f.dr j), some (.lst (rs.map Rod.d)), some (.int i), some (scr ns), some (.ref h), some (.int x), none, some c.d, none, none, none, none, none, none, none, none, none, none, none], rfl, by
      have ec : c.d = .tup [.str c.nm, .int c.lo, .int c.hi, .int c.st] := rfl
      rw [ec]
      simp [LIM, runB, startSl, MS.seq, SOut.bind, M.thn, Out.bindS, M.bind, Out.bind, M.pure, varM, setS, setSl, nextS, ifS, M.andM, M.tb, M.bl, cmpM, cmpP, peek, c_lt, c_le, c_gt, c_ge, c_nn, c_eqi, binM, b_add, b_addt, b_sub, b_fdiv, b_mod, b_pow, optM, lenM, pkM, lenD, flatD, iterM, itM, forQ, consM, tupM, capM, lstM, newL, idxM, idxD, callM, addM, addD, bin2M, m_int, sliceM, partM, isTupD, un1M, tupD, sumD, listM, meth1M, isLst, appendM, isCell, putC, setIxS, setIx, isNonD, minD, maxD, Tg.go, Tg.gos, tgS, enumM, range1M, range2M, M.frz, frzM, M.noX, Out.noX, chainM, stepM, b22_e7, atI_0, wipeL]⟩)
  have e3 : f.cells.map (fun c => DL.D.str c.nm) = tx CN := by rw [hCN]; unfold tx; rw [List.map_map]; rfl
  rw [e3] at e2
  have e4 : b22_c6 (callF (n + 4)) ⟨[some (f.dr j), some (.lst (rs.map Rod.d)), some (.int i), some (scr ns), some (.ref h), some (.int x), some (.lst (tx CN)), none, some .non, some (.lst (tx CN)), some (.lst (tx CN)), none, none, none, none, none, none, none, none], μ.set h (At (k + 1))⟩ = _ := lcX_filter (c := false) (vs := [12]) (t := .nm 12) (k := iterM (varM 1)) (tt := b22_t4 (callF (n + 4))) (te := b22_e5 (callF (n + 4))) (ρ1 := ⟨[some (f.dr j), some (.lst (rs.map Rod.d)), some (.int i), some (scr ns), some (.ref h), some (.int x), some (.lst (tx CN)), none, some .non, some (.lst (tx CN)), some (.lst (tx CN)), none, none, none, none, none, none, none, none], μ.set h (At (k + 1))⟩) (xs := rs) Rod.d (fun r => DL.D.str r.one) (fun r => decide (r.other = f.nm)) rfl (by omega) (fun r hr => ⟨_, [some (f.dr j), some (.lst (rs.map Rod.d)), some (.int i), some (scr ns), some (.ref h), some (.int x), some (.lst (tx CN)), none, some .non, some (.lst (tx CN)), some (.lst (tx CN)), none, some r.d, none, none, none, none, none, none], rfl, by
      have ex : r.d = .tup [.str r.one, .str r.other, .str r.kind, .int r.cap, .bl r.e5, .bl r.e6] := rfl
      have hc := eq_str (hro r hr).2 hfn
      rw [ex, ed]
      simp [LIM, runB, startSl, MS.seq, SOut.bind, M.thn, Out.bindS, M.bind, Out.bind, M.pure, varM, setS, setSl, nextS, ifS, M.andM, M.tb, M.bl, cmpM, cmpP, peek, c_lt, c_le, c_gt, c_ge, c_nn, c_eqi, binM, b_add, b_addt, b_sub, b_fdiv, b_mod, b_pow, optM, lenM, pkM, lenD, flatD, iterM, itM, forQ, consM, tupM, capM, lstM, newL, idxM, idxD, callM, addM, addD, bin2M, m_int, sliceM, partM, isTupD, un1M, tupD, sumD, listM, meth1M, isLst, appendM, isCell, putC, setIxS, setIx, isNonD, minD, maxD, Tg.go, Tg.gos, tgS, enumM, range1M, range2M, M.frz, frzM, M.noX, Out.noX, chainM, stepM, b22_t4, atI_0, atI_1, hc, wipeL], fun _ => ⟨[some (f.dr j), some (.lst (rs.map Rod.d)), some (.int i), some (scr ns), some (.ref h), some (.int x), some (.lst (tx CN)), none, some .non, some (.lst (tx CN)), some (.lst (tx CN)), none, some r.d, none, none, none, none, none, none], by
      have ex : r.d = .tup [.str r.one, .str r.other, .str r.kind, .int r.cap, .bl r.e5, .bl r.e6] := rfl
      rw [ex]
      simp [LIM, runB, startSl, MS.seq, SOut.bind, M.thn, Out.bindS, M.bind, Out.bind, M.pure, varM, setS, setSl, nextS, ifS, M.andM, M.tb, M.bl, cmpM, cmpP, peek, c_lt, c_le, c_gt, c_ge, c_nn, c_eqi, binM, b_add, b_addt, b_sub, b_fdiv, b_mod, b_pow, optM, lenM, pkM, lenD, flatD, iterM, itM, forQ, consM, tupM, capM, lstM, newL, idxM, idxD, callM, addM, addD, bin2M, m_int, sliceM, partM, isTupD, un1M, tupD, sumD, listM, meth1M, isLst, appendM, isCell, putC, setIxS, setIx, isNonD, minD, maxD, Tg.go, Tg.gos, tgS, enumM, range1M, range2M, M.frz, frzM, M.noX, Out.noX, chainM, stepM, b22_e5, atI_0]⟩⟩)
  obtain ⟨SS, hSS⟩ : ∃ SS : List (List Nat), SS = (rs.filter fun r => decide (r.other = f.nm)).map (·.one) := ⟨_, rfl⟩
  have e5 : (rs.filter fun r => decide (r.other = f.nm)).map (fun r => DL.D.str r.one) = tx SS := by rw [hSS]; unfold tx; rw [List.map_map]; rfl
  rw [e5] at e4
  have hSm : ∀ g ∈ SS, (g, f.nm) ∈ rs.map Rod.pr ∧ Okl g := fun g hg => by
    rw [hSS] at hg
    obtain ⟨r, hr, rfl⟩ := List.mem_map.mp hg
    obtain ⟨hr1, hr2⟩ := List.mem_filter.mp hr
    have hr2 : r.other = f.nm := by simpa using hr2
    exact ⟨List.mem_map.mpr ⟨r, hr1, by unfold Rod.pr; rw [hr2]⟩, (hro r hr1).1⟩
  clear e5 hSS
  have c1 := ne_nil (W := SS) fun l hl => (hSm l hl).2
  -- rooms, the sign, the name
  have hrl : 0 < (tx f.rooms).length := by rw [len_tx]; exact hrm.1
  obtain ⟨ra, hra, g1⟩ := pick (x := x / 1024) (by omega) hrm.1
  obtain ⟨rg, hrg, g2⟩ := pick (x := x / 8192) (by omega) hrm.1
  obtain ⟨sg, g3, hsg⟩ : ∃ sg : Int, atI [DL.D.int 1, .int (-1)] (x / 65536 % 2) = some (.int sg) ∧ (sg = 1 ∨ sg = -1) := by
    have : x / 65536 % 2 = 0 ∨ x / 65536 % 2 = 1 := by omega
    rcases this with q | q <;> rw [q]
    · exact ⟨_, atI_0, .inl rfl⟩
    · exact ⟨_, atI_1, .inr rfl⟩
  have glast : ∀ (a : Cell) (c : Cell), (μ.set h a ++ [c])[μ.length]? = some c := fun a c => by
    have := get_last (μ.set h a) c
    rwa [List.length_set] at this
  have hcs : cs "" = [] := rfl
  by_cases hb : SS ≠ [] ∧ x % 2 = 0
  · obtain ⟨hb1, hb2⟩ := hb
    rw [decide_eq_true hb1] at c1
    have hSl : 0 < SS.length := List.length_pos_iff.mpr hb1
    obtain ⟨b, hbm, g4⟩ := pick (x := x / 24) (by omega) hSl
    obtain ⟨c, hcm, g5⟩ := pickE (W := CN) (y := x / 2) (by omega)
    obtain ⟨d, hdm, g6⟩ := pickE (W := f.whos) (y := x / 8) (by omega)
    have g7 := named_ok (n := n + 3) (μ := μ.set h (At (k + 1))) (k := 1) (x := x / 32) (by omega) (by omega)
    have g7 : callF (n + 3 + 1) 13 [.int 1, .int (x / 32)] (μ.set h (At (k + 1))) = _ := g7
    have hcO : Okl c := hcm.elim (fun z => z ▸ okl_nil) (hCO c)
    obtain ⟨Lf, hLf⟩ : ∃ Lf : List (List Nat), Lf = CN.filter fun l => decide (l ≠ c) := ⟨_, rfl⟩
    have hLs : ∀ l ∈ Lf, l ∈ CN := fun l hl => by rw [hLf] at hl; exact (List.mem_filter.mp hl).1
    have hLn : ∀ l ∈ Lf, l ≠ c := fun l hl => by rw [hLf] at hl; simpa using (List.mem_filter.mp hl).2
    have hLl : Lf.length ≤ 3 := by rw [hLf]; exact Nat.le_trans (List.length_filter_le _ _) hCl
    have hLnd : Lf.Nodup := by rw [hLf]; exact hCnd.sublist (List.filter_sublist)
    have hKO : ∀ l ∈ CN ++ [cs "it"], Okl l := fun l hl => (List.mem_append.mp hl).elim (hCO l) fun hl => by
      obtain rfl : l = cs "it" := by simpa using hl
      exact okl_it
    have htx : tx (CN ++ [cs "it"]) = tx CN ++ [DL.D.str (cs "it")] := by simp [tx]
    have hTC : (tx CN).length ≤ 16777215 := by rw [len_tx]; omega
    have hTW : (tx f.whos).length ≤ 16777215 := by rw [len_tx]; omega
    have hTS : 0 < (tx SS).length := by rw [len_tx]; exact hSl
    rw [hcs] at g5 g6
    have g8 : ∀ m : Nat, (0 : Int) < (m : Int) + 1 := fun m => by omega
    have e6 : b22_c3 (callF (n + 4)) ⟨[some (f.dr j), some (.lst (rs.map Rod.d)), some (.int i), some (scr ns), some (.ref h), some (.int x), some (.lst (tx CN)), some (.str c), some (.tup [.str (nmOf 1 (x / 32)), .str b, .str c, .str d]), some (.lst (tx CN ++ [DL.D.str (cs "it")])), some (.lst (tx CN)), some (.lst (tx SS)), none, some (.str d), none, none, none, none, none], μ.set h (At (k + 1))⟩ = _ := lcX_filter (c := false) (vs := [14]) (t := .nm 14) (k := iterM (varM 6)) (tt := b22_t1 (callF (n + 4))) (te := b22_e2 (callF (n + 4))) (ρ1 := ⟨[some (f.dr j), some (.lst (rs.map Rod.d)), some (.int i), some (scr ns), some (.ref h), some (.int x), some (.lst (tx CN)), some (.str c), some (.tup [.str (nmOf 1 (x / 32)), .str b, .str c, .str d]), some (.lst (tx CN ++ [DL.D.str (cs "it")])), some (.lst (tx CN)), some (.lst (tx SS)), none, some (.str d), none, none, none, none, none], μ.set h (At (k + 1))⟩) (xs := CN) DL.D.str DL.D.str (fun l => decide (l ≠ c)) rfl (by omega) (fun l hl => ⟨_, [some (f.dr j), some (.lst (rs.map Rod.d)), some (.int i), some (scr ns), some (.ref h), some (.int x), some (.lst (tx CN)), some (.str c), some (.tup [.str (nmOf 1 (x / 32)), .str b, .str c, .str d]), some (.lst (tx CN ++ [DL.D.str (cs "it")])), some (.lst (tx CN)), some (.lst (tx SS)), none, some (.str d), some (.str l), none, none, none, none], rfl, by
      have hc := ne_str (hCO l hl) hcO
      simp [LIM, runB, startSl, MS.seq, SOut.bind, M.thn, Out.bindS, M.bind, Out.bind, M.pure, varM, setS, setSl, nextS, ifS, M.andM, M.tb, M.bl, cmpM, cmpP, peek, c_lt, c_le, c_gt, c_ge, c_nn, c_eqi, binM, b_add, b_addt, b_sub, b_fdiv, b_mod, b_pow, optM, lenM, pkM, lenD, flatD, iterM, itM, forQ, consM, tupM, capM, lstM, newL, idxM, idxD, callM, addM, addD, bin2M, m_int, sliceM, partM, isTupD, un1M, tupD, sumD, listM, meth1M, isLst, appendM, isCell, putC, setIxS, setIx, isNonD, minD, maxD, Tg.go, Tg.gos, tgS, enumM, range1M, range2M, M.frz, frzM, M.noX, Out.noX, chainM, stepM, b22_t1, hc, wipeL], fun _ => ⟨[some (f.dr j), some (.lst (rs.map Rod.d)), some (.int i), some (scr ns), some (.ref h), some (.int x), some (.lst (tx CN)), some (.str c), some (.tup [.str (nmOf 1 (x / 32)), .str b, .str c, .str d]), some (.lst (tx CN ++ [DL.D.str (cs "it")])), some (.lst (tx CN)), some (.lst (tx SS)), none, some (.str d), some (.str l), none, none, none, none], by simp [LIM, runB, startSl, MS.seq, SOut.bind, M.thn, Out.bindS, M.bind, Out.bind, M.pure, varM, setS, setSl, nextS, ifS, M.andM, M.tb, M.bl, cmpM, cmpP, peek, c_lt, c_le, c_gt, c_ge, c_nn, c_eqi, binM, b_add, b_addt, b_sub, b_fdiv, b_mod, b_pow, optM, lenM, pkM, lenD, flatD, iterM, itM, forQ, consM, tupM, capM, lstM, newL, idxM, idxD, callM, addM, addD, bin2M, m_int, sliceM, partM, isTupD, un1M, tupD, sumD, listM, meth1M, isLst, appendM, isCell, putC, setIxS, setIx, isNonD, minD, maxD, Tg.go, Tg.gos, tgS, enumM, range1M, range2M, M.frz, frzM, M.noX, Out.noX, chainM, stepM, b22_e2]⟩⟩)
    have e7 : (CN.filter fun l => decide (l ≠ c)).map DL.D.str = tx Lf := by rw [hLf]; rfl
    rw [e7] at e6
    clear e7 hLf
    obtain ⟨cg, z14, k2, l1, i1, i2, i3, i4⟩ := chgs_ok (n := n + 1) hns hh (k := k + 1) (by omega) (by omega) (K := (CN ++ [cs "it"])) (Lf := Lf) hKO (by simp; omega) hLl hLnd (a0 := f.dr j) (a1 := .lst (rs.map Rod.d)) (a2 := .int i) (a5 := .int x) (a6 := .lst (tx CN)) (a8 := takD (some (nmOf 1 (x / 32), b, c, d))) (a10 := .lst (tx Lf)) (a11 := .lst (tx SS)) (a7 := some (.str c)) (a13 := some (.str d))
    obtain ⟨wh, k3, f1, w1, w2, w3⟩ := when_ok (n := n) (μ := μ ++ [.lst (cg.map chgD)]) hns (h := h) (by simp; omega) (k := k2) (by omega) (by omega) hCO (by omega)
    obtain ⟨sn, k4, f2, s1, s2, s3, s4⟩ := sends_ok (n := n) (μ := μ ++ [.lst (cg.map chgD)]) hns (h := h) (by simp; omega) (k := k3) (by omega) (by omega) (f := f) (j := j) (rs := rs) hKO (by simp; omega) hfn hw hrs hro
    rw [set_app hh, set_app hh] at f1 f2
    have f3 := named_ok (n := n + 3) (μ := μ.set h (At k4) ++ [.lst (cg.map chgD)]) (k := i) (x := 7) hi (by omega)
    have bls : ∀ (m : Nat) (q : List Nat × DL.D × List Nat × List Nat), q ∈ sn → blw m (sndD q) = true := fun m q hq => by
      have := ((s1 q hq).2.1.ok hKO).blw (j := m)
      simp [sndD, blw, blws, this]
    have blc : ∀ (m : Nat) (q : List Nat × DL.D), q ∈ cg → blw m (chgD q) = true := fun m q hq => by
      have := ((i2 q hq).ok hKO).blw (j := m)
      simp [chgD, blw, blws, this]
    have blh : ∀ m, blw m wh = true := fun m => (w1.ok hCO).blw
    have bl4 : ∀ m, blws m (sn.map sndD) = true := fun m => blws_map _ _ _ fun q hq => bls m q hq
    have blc4 : ∀ m, blws m (cg.map chgD) = true := fun m => blws_map _ _ _ fun q hq => blc m q hq
    have blc5 : ∀ m, blws m (cg.reverse.map chgD) = true := fun m => blws_map _ _ _ fun q hq => blc m q (List.mem_reverse.mp hq)
    have htk : takD (some (nmOf 1 (x / 32), b, c, d)) = .tup [.str (nmOf 1 (x / 32)), .str b, .str c, .str d] := rfl
    have hsub := i1.subset
    have hcnd := hLnd.sublist i1
    have hcln : cg.length ≤ 3 := by have := i1.length_le; rw [List.length_map] at this; omega
    have mk : ∀ cg' : List (List Nat × DL.D), (∀ q, q ∈ cg' ↔ q ∈ cg) → (cg'.map (·.1)).Nodup → cg'.length ≤ 3 → GS0 f rs i ⟨nmOf i 7, ra, wh, (some (nmOf 1 (x / 32), b, c, d)), cg', sn, rg⟩ := fun cg' h1 h2 h3 => by
      refine ⟨rfl, hra, hrg, ?_, ?_, h2, h3, ?_, ?_⟩
      · rw [← hCN]; exact w1
      · intro a' b' c' d' hq
        injection hq with hq; injection hq with q1 hq; injection hq with q2 hq; injection hq with q3 q4; subst q1 q2 q3 q4; rw [← hCN]; exact ⟨nm_Nm (by decide) _, (hSm b hbm).1, hcm, hdm⟩
      · intro q hq
        have hq' := (h1 q).mp hq
        have hq2 := hsub (List.mem_map_of_mem hq')
        rw [← hCN]
        refine ⟨hLs q.1 hq2, ?_, i2 q hq'⟩
        intro a' b' c' d' hz
        injection hz with hz; injection hz with q1 hz; injection hz with q2 hz; injection hz with q3 q4; subst q3; exact hLn q.1 hq2
      · rw [← hCN]; exact s1
    rw [htk] at l1
    rw [htx] at l1 f2
    rcases hsg with rfl | rfl
    · refine ⟨⟨nmOf i 7, ra, wh, (some (nmOf 1 (x / 32), b, c, d)), cg, sn, rg⟩, k4, runF_at (junk := [.lst (cg.map chgD)]) ?_ ?_, mk cg (fun _ => Iff.rfl) hcnd hcln, by omega, by omega⟩
      · show _ = COut.ok (.tup [.str (nmOf i 7), .str ra, wh, takD (some (nmOf 1 (x / 32), b, c, d)), .lst (cg.map chgD), .lst (sn.map sndD), .str rg]) _
        rw [htk]
        rw [ed] at *
        generalize tx CN = TC at *
        generalize tx f.whos = TW at *
        generalize tx SS = TS at *
        generalize tx f.rooms = TR at *
        generalize tx Lf = TL at *
        generalize cg.map chgD = CG at *
        generalize sn.map sndD = SN at *
        generalize rs.map Rod.d = RD at *
        simp [LIM, runB, startSl, MS.seq, SOut.bind, M.thn, Out.bindS, M.bind, Out.bind, M.pure, varM, setS, setSl, nextS, ifS, M.andM, M.tb, M.bl, cmpM, cmpP, peek, c_lt, c_le, c_gt, c_ge, c_nn, c_eqi, binM, b_add, b_addt, b_sub, b_fdiv, b_mod, b_pow, optM, lenM, pkM, lenD, flatD, iterM, itM, forQ, consM, tupM, capM, lstM, newL, idxM, idxD, callM, addM, addD, bin2M, m_int, sliceM, partM, isTupD, un1M, tupD, sumD, listM, meth1M, isLst, appendM, isCell, putC, setIxS, setIx, isNonD, Tg.go, Tg.gos, tgS, enumM, range1M, range2M, M.frz, frzM, M.noX, Out.noX, chainM, stepM, b22, negD, e1, e2, e4, c1, hb1, hb2, g4, g5, g6, g7, g8, hTC, hTW, hTS, e6, l1, f1, f2, f3, g1, g2, g3, hrl, glast, atI_2, atI_4, atI_0, atI_1, hcs]
      · show blw _ (.tup [.str (nmOf i 7), .str ra, wh, takD (some (nmOf 1 (x / 32), b, c, d)), .lst (cg.map chgD), .lst (sn.map sndD), .str rg]) = true
        rw [htk]
        simp only [blw, blws, blh, bl4, blc4, Bool.and_true]
    · refine ⟨⟨nmOf i 7, ra, wh, (some (nmOf 1 (x / 32), b, c, d)), cg.reverse, sn, rg⟩, k4, runF_at (junk := [.lst (cg.map chgD)]) ?_ ?_, mk cg.reverse (fun _ => List.mem_reverse) (by rw [List.map_reverse]; exact List.pairwise_reverse.mpr (hcnd.imp fun z => Ne.symm z)) (by simpa using hcln), by omega, by omega⟩
      · show _ = COut.ok (.tup [.str (nmOf i 7), .str ra, wh, takD (some (nmOf 1 (x / 32), b, c, d)), .lst (cg.reverse.map chgD), .lst (sn.map sndD), .str rg]) _
        rw [htk, List.map_reverse]
        rw [ed] at *
        generalize tx CN = TC at *
        generalize tx f.whos = TW at *
        generalize tx SS = TS at *
        generalize tx f.rooms = TR at *
        generalize tx Lf = TL at *
        generalize cg.map chgD = CG at *
        generalize sn.map sndD = SN at *
        generalize rs.map Rod.d = RD at *
        simp [LIM, runB, startSl, MS.seq, SOut.bind, M.thn, Out.bindS, M.bind, Out.bind, M.pure, varM, setS, setSl, nextS, ifS, M.andM, M.tb, M.bl, cmpM, cmpP, peek, c_lt, c_le, c_gt, c_ge, c_nn, c_eqi, binM, b_add, b_addt, b_sub, b_fdiv, b_mod, b_pow, optM, lenM, pkM, lenD, flatD, iterM, itM, forQ, consM, tupM, capM, lstM, newL, idxM, idxD, callM, addM, addD, bin2M, m_int, sliceM, partM, isTupD, un1M, tupD, sumD, listM, meth1M, isLst, appendM, isCell, putC, setIxS, setIx, isNonD, Tg.go, Tg.gos, tgS, enumM, range1M, range2M, M.frz, frzM, M.noX, Out.noX, chainM, stepM, b22, negD, e1, e2, e4, c1, hb1, hb2, g4, g5, g6, g7, g8, hTC, hTW, hTS, e6, l1, f1, f2, f3, g1, g2, g3, hrl, glast, atI_2, atI_4, atI_0, atI_1, hcs]
      · show blw _ (.tup [.str (nmOf i 7), .str ra, wh, takD (some (nmOf 1 (x / 32), b, c, d)), .lst (cg.reverse.map chgD), .lst (sn.map sndD), .str rg]) = true
        rw [htk]
        simp only [blw, blws, blh, bl4, blc5, Bool.and_true]
  · have hbb : cmpD .ne (.lst (tx SS)) (.lst []) = some false ∨ (cmpD .ne (.lst (tx SS)) (.lst []) = some true ∧ ¬ x % 2 = 0) := by
      by_cases hs : SS ≠ []
      · rw [decide_eq_true hs] at c1
        exact .inr ⟨c1, fun z => hb ⟨hs, z⟩⟩
      · rw [decide_eq_false hs] at c1
        exact .inl c1
    clear c1
    have hLs : ∀ l ∈ CN, l ∈ CN := fun l hl => hl
    have hLl : CN.length ≤ 3 := hCl
    have hLnd : CN.Nodup := hCnd
    have hKO := hCO
    obtain ⟨cg, z14, k2, l1, i1, i2, i3, i4⟩ := chgs_ok (n := n + 1) hns hh (k := k + 1) (by omega) (by omega) (K := CN) (Lf := CN) hKO (by omega) hLl hLnd (a0 := f.dr j) (a1 := .lst (rs.map Rod.d)) (a2 := .int i) (a5 := .int x) (a6 := .lst (tx CN)) (a8 := takD none) (a10 := .lst (tx CN)) (a11 := .lst (tx SS)) (a7 := none) (a13 := none)
    obtain ⟨wh, k3, f1, w1, w2, w3⟩ := when_ok (n := n) (μ := μ ++ [.lst (cg.map chgD)]) hns (h := h) (by simp; omega) (k := k2) (by omega) (by omega) hCO (by omega)
    obtain ⟨sn, k4, f2, s1, s2, s3, s4⟩ := sends_ok (n := n) (μ := μ ++ [.lst (cg.map chgD)]) hns (h := h) (by simp; omega) (k := k3) (by omega) (by omega) (f := f) (j := j) (rs := rs) hKO (by omega) hfn hw hrs hro
    rw [set_app hh, set_app hh] at f1 f2
    have f3 := named_ok (n := n + 3) (μ := μ.set h (At k4) ++ [.lst (cg.map chgD)]) (k := i) (x := 7) hi (by omega)
    have bls : ∀ (m : Nat) (q : List Nat × DL.D × List Nat × List Nat), q ∈ sn → blw m (sndD q) = true := fun m q hq => by
      have := ((s1 q hq).2.1.ok hKO).blw (j := m)
      simp [sndD, blw, blws, this]
    have blc : ∀ (m : Nat) (q : List Nat × DL.D), q ∈ cg → blw m (chgD q) = true := fun m q hq => by
      have := ((i2 q hq).ok hKO).blw (j := m)
      simp [chgD, blw, blws, this]
    have blh : ∀ m, blw m wh = true := fun m => (w1.ok hCO).blw
    have bl4 : ∀ m, blws m (sn.map sndD) = true := fun m => blws_map _ _ _ fun q hq => bls m q hq
    have blc4 : ∀ m, blws m (cg.map chgD) = true := fun m => blws_map _ _ _ fun q hq => blc m q hq
    have blc5 : ∀ m, blws m (cg.reverse.map chgD) = true := fun m => blws_map _ _ _ fun q hq => blc m q (List.mem_reverse.mp hq)
    have htk : takD none = .non := rfl
    have hsub := i1.subset
    have hcnd := hLnd.sublist i1
    have hcln : cg.length ≤ 3 := by have := i1.length_le; rw [List.length_map] at this; omega
    have mk : ∀ cg' : List (List Nat × DL.D), (∀ q, q ∈ cg' ↔ q ∈ cg) → (cg'.map (·.1)).Nodup → cg'.length ≤ 3 → GS0 f rs i ⟨nmOf i 7, ra, wh, none, cg', sn, rg⟩ := fun cg' h1 h2 h3 => by
      refine ⟨rfl, hra, hrg, ?_, ?_, h2, h3, ?_, ?_⟩
      · rw [← hCN]; exact w1
      · intro a' b' c' d' hq
        cases hq
      · intro q hq
        have hq' := (h1 q).mp hq
        have hq2 := hsub (List.mem_map_of_mem hq')
        rw [← hCN]
        refine ⟨hLs q.1 hq2, ?_, i2 q hq'⟩
        intro a' b' c' d' hz
        cases hz
      · rw [← hCN]; exact s1
    rw [htk] at l1
    skip
    rcases hsg with rfl | rfl
    · refine ⟨⟨nmOf i 7, ra, wh, none, cg, sn, rg⟩, k4, runF_at (junk := [.lst (cg.map chgD)]) ?_ ?_, mk cg (fun _ => Iff.rfl) hcnd hcln, by omega, by omega⟩
      · show _ = COut.ok (.tup [.str (nmOf i 7), .str ra, wh, takD none, .lst (cg.map chgD), .lst (sn.map sndD), .str rg]) _
        rw [htk]
        rw [ed] at *
        generalize tx CN = TC at *
        generalize tx f.whos = TW at *
        generalize tx SS = TS at *
        generalize tx f.rooms = TR at *
        generalize cg.map chgD = CG at *
        generalize sn.map sndD = SN at *
        generalize rs.map Rod.d = RD at *
        rcases hbb with c1 | ⟨c1, hx2⟩
        · simp [LIM, runB, startSl, MS.seq, SOut.bind, M.thn, Out.bindS, M.bind, Out.bind, M.pure, varM, setS, setSl, nextS, ifS, M.andM, M.tb, M.bl, cmpM, cmpP, peek, c_lt, c_le, c_gt, c_ge, c_nn, c_eqi, binM, b_add, b_addt, b_sub, b_fdiv, b_mod, b_pow, optM, lenM, pkM, lenD, flatD, iterM, itM, forQ, consM, tupM, capM, lstM, newL, idxM, idxD, callM, addM, addD, bin2M, m_int, sliceM, partM, isTupD, un1M, tupD, sumD, listM, meth1M, isLst, appendM, isCell, putC, setIxS, setIx, isNonD, Tg.go, Tg.gos, tgS, enumM, range1M, range2M, M.frz, frzM, M.noX, Out.noX, chainM, stepM, b22, negD, e1, e2, e4, c1, l1, f1, f2, f3, g1, g2, g3, hrl, glast, atI_2, atI_4, atI_0, atI_1, hcs]
        · simp [LIM, runB, startSl, MS.seq, SOut.bind, M.thn, Out.bindS, M.bind, Out.bind, M.pure, varM, setS, setSl, nextS, ifS, M.andM, M.tb, M.bl, cmpM, cmpP, peek, c_lt, c_le, c_gt, c_ge, c_nn, c_eqi, binM, b_add, b_addt, b_sub, b_fdiv, b_mod, b_pow, optM, lenM, pkM, lenD, flatD, iterM, itM, forQ, consM, tupM, capM, lstM, newL, idxM, idxD, callM, addM, addD, bin2M, m_int, sliceM, partM, isTupD, un1M, tupD, sumD, listM, meth1M, isLst, appendM, isCell, putC, setIxS, setIx, isNonD, Tg.go, Tg.gos, tgS, enumM, range1M, range2M, M.frz, frzM, M.noX, Out.noX, chainM, stepM, b22, negD, e1, e2, e4, c1, hx2, l1, f1, f2, f3, g1, g2, g3, hrl, glast, atI_2, atI_4, atI_0, atI_1, hcs]
      · show blw _ (.tup [.str (nmOf i 7), .str ra, wh, takD none, .lst (cg.map chgD), .lst (sn.map sndD), .str rg]) = true
        rw [htk]
        simp only [blw, blws, blh, bl4, blc4, Bool.and_true]
    · refine ⟨⟨nmOf i 7, ra, wh, none, cg.reverse, sn, rg⟩, k4, runF_at (junk := [.lst (cg.map chgD)]) ?_ ?_, mk cg.reverse (fun _ => List.mem_reverse) (by rw [List.map_reverse]; exact List.pairwise_reverse.mpr (hcnd.imp fun z => Ne.symm z)) (by simpa using hcln), by omega, by omega⟩
      · show _ = COut.ok (.tup [.str (nmOf i 7), .str ra, wh, takD none, .lst (cg.reverse.map chgD), .lst (sn.map sndD), .str rg]) _
        rw [htk, List.map_reverse]
        rw [ed] at *
        generalize tx CN = TC at *
        generalize tx f.whos = TW at *
        generalize tx SS = TS at *
        generalize tx f.rooms = TR at *
        generalize cg.map chgD = CG at *
        generalize sn.map sndD = SN at *
        generalize rs.map Rod.d = RD at *
        rcases hbb with c1 | ⟨c1, hx2⟩
        · simp [LIM, runB, startSl, MS.seq, SOut.bind, M.thn, Out.bindS, M.bind, Out.bind, M.pure, varM, setS, setSl, nextS, ifS, M.andM, M.tb, M.bl, cmpM, cmpP, peek, c_lt, c_le, c_gt, c_ge, c_nn, c_eqi, binM, b_add, b_addt, b_sub, b_fdiv, b_mod, b_pow, optM, lenM, pkM, lenD, flatD, iterM, itM, forQ, consM, tupM, capM, lstM, newL, idxM, idxD, callM, addM, addD, bin2M, m_int, sliceM, partM, isTupD, un1M, tupD, sumD, listM, meth1M, isLst, appendM, isCell, putC, setIxS, setIx, isNonD, Tg.go, Tg.gos, tgS, enumM, range1M, range2M, M.frz, frzM, M.noX, Out.noX, chainM, stepM, b22, negD, e1, e2, e4, c1, l1, f1, f2, f3, g1, g2, g3, hrl, glast, atI_2, atI_4, atI_0, atI_1, hcs]
        · simp [LIM, runB, startSl, MS.seq, SOut.bind, M.thn, Out.bindS, M.bind, Out.bind, M.pure, varM, setS, setSl, nextS, ifS, M.andM, M.tb, M.bl, cmpM, cmpP, peek, c_lt, c_le, c_gt, c_ge, c_nn, c_eqi, binM, b_add, b_addt, b_sub, b_fdiv, b_mod, b_pow, optM, lenM, pkM, lenD, flatD, iterM, itM, forQ, consM, tupM, capM, lstM, newL, idxM, idxD, callM, addM, addD, bin2M, m_int, sliceM, partM, isTupD, un1M, tupD, sumD, listM, meth1M, isLst, appendM, isCell, putC, setIxS, setIx, isNonD, Tg.go, Tg.gos, tgS, enumM, range1M, range2M, M.frz, frzM, M.noX, Out.noX, chainM, stepM, b22, negD, e1, e2, e4, c1, hx2, l1, f1, f2, f3, g1, g2, g3, hrl, glast, atI_2, atI_4, atI_0, atI_1, hcs]
      · show blw _ (.tup [.str (nmOf i 7), .str ra, wh, takD none, .lst (cg.reverse.map chgD), .lst (sn.map sndD), .str rg]) = true
        rw [htk]
        simp only [blw, blws, blh, bl4, blc5, Bool.and_true]
end K10
set_option Elab.async false
set_option linter.all false
set_option maxRecDepth 100000
set_option maxHeartbeats 8000000
namespace K10
open PySem PySem.Spec PyProof.Rows L2 DL
theorem frz_lastK (k : Nat) {ν R : List Cell} {m : Nat} {ds : List DL.D} (hm : ν.length = m) (hb : ∀ d ∈ ds, blw 0 d = true) (hl : ds.length + 3 ≤ k) : frzD k (.ref m) (ν ++ .lst ds :: R) = some (.lst ds, ν ++ .dead :: R) := by
  subst hm
  obtain ⟨k, rfl⟩ : ∃ j, k = j + 1 := ⟨k - 1, by omega⟩
  have h0 : blw 0 (.ref ν.length) = false := by rw [blw]; simp
  have g : (ν ++ .lst ds :: R)[ν.length]? = some (.lst ds) := by rw [List.getElem?_append_right (Nat.le_refl _)]; simp
  have s : (ν ++ .lst ds :: R).set ν.length .dead = ν ++ .dead :: R := by rw [List.set_append_right _ _ (Nat.le_refl _)]; simp
  unfold frzD
  rw [h0]
  simp only [Bool.false_eq_true, if_false, g, s]
  rw [frzL_plain k hb (by omega)]; rfl
theorem frzD_plain (k : Nat) {d : DL.D} {μ : List Cell} (hk : 0 < k) (hb : blw 0 d = true) : frzD k d μ = some (d, μ) := by
  obtain ⟨j, rfl⟩ : ∃ j, k = j + 1 := ⟨k - 1, by omega⟩
  unfold frzD
  rw [if_pos hb]
theorem cut4 {α : Type} {a b c d : α} {r : List α} : cutL (a :: b :: c :: d :: r) none (some 4) = [a, b, c, d] := by
  have := cut_take (a :: b :: c :: d :: r) 4 (by simp)
  simpa using this
theorem atI_6 {α : Type} {a b c d e f x : α} {xs : List α} : atI (a :: b :: c :: d :: e :: f :: x :: xs) 6 = some x := atI_n (k := 6) rfl
theorem copy_ok {n : Nat} {μ : List Cell} {p : Pln} (hf : p.fams.length ≤ 4) (hb : ∀ f ∈ p.fams, f.steps.length ≤ 8 ∧ ∀ m, blw m f.d = true) (hb2 : ∀ m, blw m p.d = true) : callF (n + 1) 24 [p.d] μ = .ok p.d μ := by
  show DL.runF 5 (b24 (callF n)) _ μ = _
  have ep : p.d = .tup [.lst (p.fams.map Fam.d), .lst (p.roads.map Rod.d), .lst (p.wishes.map Wsh.d)] := rfl
  have hL : 8 ≤ LIM := by decide
  obtain ⟨ρ', l1, y2, y3, rfl⟩ := forX_inv (xs := p.fams) (g := Fam.d) (t := .nm 2) (f := b24_l2 (callF n)) (fun pre ρ => ∃ y2 y3, ρ = ⟨[some p.d, some (.ref μ.length), y2, y3, none], μ ++ [.lst (pre.map Fam.d)]⟩)
    (ρ := ⟨[some p.d, some (.ref μ.length), none, none, none], μ ++ [.lst []]⟩) ⟨none, none, rfl⟩ (by
    rintro pre f post ρ e ⟨y2, y3, rfl⟩
    have hfm : f ∈ p.fams := by rw [e]; simp
    obtain ⟨h1, h2⟩ := hb f hfm
    have ed : f.d = .tup [.str f.nm, .int f.many, .lst (tx f.rooms), .lst (f.cells.map Cel.d), .lst (tx f.whos), .lst (f.steps.map Stp.d)] := rfl
    have hpl : (pre.map Fam.d).length < 16777216 := by have := congrArg List.length e; simp at this ⊢; omega
    have f1 : b24_c1 (callF n) ⟨[some p.d, some (.ref μ.length), some f.d, y3, none], μ ++ [.lst (pre.map Fam.d)]⟩ = _ := lcX_map (c := false) (vs := [4]) (t := .nm 4) (k := iterM (idxM (varM 2) (M.pure (.int 5)))) (te := b24_e0 (callF n)) (ρ1 := ⟨[some p.d, some (.ref μ.length), some f.d, y3, none], μ ++ [.lst (pre.map Fam.d)]⟩) (xs := f.steps) Stp.d Stp.d (by rw [ed]; simp [LIM, runB, startSl, MS.seq, SOut.bind, M.thn, Out.bindS, M.bind, Out.bind, M.pure, varM, setS, setSl, nextS, ifS, M.andM, M.tb, M.bl, cmpM, cmpP, peek, c_lt, c_le, c_gt, c_ge, c_nn, c_eqi, binM, b_add, b_addt, b_sub, b_fdiv, b_mod, b_pow, optM, lenM, pkM, lenD, flatD, iterM, itM, forQ, consM, tupM, capM, lstM, newL, idxM, idxD, callM, addM, addD, bin2M, m_int, sliceM, partM, isTupD, un1M, tupD, sumD, listM, meth1M, isLst, appendM, isCell, putC, setIxS, setIx, isNonD, minD, maxD, Tg.go, Tg.gos, tgS, enumM, range1M, range2M, M.frz, frzM, M.noX, Out.noX, chainM, stepM, atI_5]) (by omega) (fun s hs => ⟨_, [some p.d, some (.ref μ.length), some f.d, y3, some s.d], rfl, by
      have es : s.d = .tup [.str s.nm, .str s.at_, s.whn, takD s.tak, .lst (s.chg.map chgD), .lst (s.snd.map sndD), .str s.go] := rfl
      rw [es]
      simp [LIM, runB, startSl, MS.seq, SOut.bind, M.thn, Out.bindS, M.bind, Out.bind, M.pure, varM, setS, setSl, nextS, ifS, M.andM, M.tb, M.bl, cmpM, cmpP, peek, c_lt, c_le, c_gt, c_ge, c_nn, c_eqi, binM, b_add, b_addt, b_sub, b_fdiv, b_mod, b_pow, optM, lenM, pkM, lenD, flatD, iterM, itM, forQ, consM, tupM, capM, lstM, newL, idxM, idxD, callM, addM, addD, bin2M, m_int, sliceM, partM, isTupD, un1M, tupD, sumD, listM, meth1M, isLst, appendM, isCell, putC, setIxS, setIx, isNonD, minD, maxD, Tg.go, Tg.gos, tgS, enumM, range1M, range2M, M.frz, frzM, M.noX, Out.noX, chainM, stepM, b24_e0, cut4, atI_4, atI_5, atI_6, wipeL]⟩)
    have g0 := get_last μ (.lst (pre.map Fam.d))
    have s0 : ∀ c, (μ ++ [Cell.lst (pre.map Fam.d)]).set μ.length c = μ ++ [c] := fun c => set_last _ _ _
    refine ⟨_, ⟨[some p.d, some (.ref μ.length), some f.d, some (.lst (f.steps.map Stp.d)), none], μ ++ [.lst ((pre ++ [f]).map Fam.d)]⟩, rfl, .inl ?_, _, _, rfl⟩
    have hm : (pre ++ [f]).map Fam.d = pre.map Fam.d ++ [f.d] := by simp
    rw [hm]
    rw [ed] at f1 ⊢
    generalize pre.map Fam.d = PD at *
    simp [LIM, runB, startSl, MS.seq, SOut.bind, M.thn, Out.bindS, M.bind, Out.bind, M.pure, varM, setS, setSl, nextS, ifS, M.andM, M.tb, M.bl, cmpM, cmpP, peek, c_lt, c_le, c_gt, c_ge, c_nn, c_eqi, binM, b_add, b_addt, b_sub, b_fdiv, b_mod, b_pow, optM, lenM, pkM, lenD, flatD, iterM, itM, forQ, consM, tupM, capM, lstM, newL, idxM, idxD, callM, addM, addD, bin2M, m_int, sliceM, partM, isTupD, un1M, tupD, sumD, listM, meth1M, isLst, appendM, isCell, putC, setIxS, setIx, isNonD, minD, maxD, Tg.go, Tg.gos, tgS, enumM, range1M, range2M, M.frz, frzM, M.noX, Out.noX, chainM, stepM, b24_l2, f1, g0, s0, hpl, atI_0, atI_1, atI_2, atI_3, atI_4])
  refine runF_pure (junk := [.dead]) ?_ (hb2 _)
  have hbf : ∀ d ∈ p.fams.map Fam.d, blw 0 d = true := fun d hd => by
    obtain ⟨f, hf, rfl⟩ := List.mem_map.mp hd
    exact (hb f hf).2 0
  have hbp := hb2 0
  rw [ep, blw, blws, Bool.and_eq_true, blws, Bool.and_eq_true, blws, Bool.and_eq_true] at hbp
  have fz : frzD 64 (.tup [.ref μ.length, .lst (p.roads.map Rod.d), .lst (p.wishes.map Wsh.d)]) (μ ++ [.lst (p.fams.map Fam.d)]) = some (.tup [.lst (p.fams.map Fam.d), .lst (p.roads.map Rod.d), .lst (p.wishes.map Wsh.d)], μ ++ [.dead]) := by
    rw [show (64 : Nat) = 63 + 1 from rfl]
    unfold frzD
    have hn : blw 0 (.tup [.ref μ.length, .lst (p.roads.map Rod.d), .lst (p.wishes.map Wsh.d)]) = false := by rw [blw, blws, blw]; simp
    rw [hn]
    simp only [Bool.false_eq_true, if_false]
    rw [show (63 : Nat) = 62 + 1 from rfl]
    unfold frzL
    rw [frz_lastK 62 (ν := μ) (R := []) rfl hbf (by simp; omega)]
    dsimp only
    rw [frzL_plain 62 (fun d hd => by
      simp only [List.mem_cons, List.not_mem_nil, or_false] at hd
      rcases hd with rfl | rfl
      · exact hbp.2.1
      · exact hbp.2.2.1) (by simp)]
    rfl
  rw [ep] at l1 ⊢
  generalize p.fams.map Fam.d = FD at *
  generalize p.roads.map Rod.d = RD at *
  generalize p.wishes.map Wsh.d = WD at *
  simp [LIM, runB, startSl, MS.seq, SOut.bind, M.thn, Out.bindS, M.bind, Out.bind, M.pure, varM, setS, setSl, nextS, ifS, M.andM, M.tb, M.bl, cmpM, cmpP, peek, c_lt, c_le, c_gt, c_ge, c_nn, c_eqi, binM, b_add, b_addt, b_sub, b_fdiv, b_mod, b_pow, optM, lenM, pkM, lenD, flatD, iterM, itM, forQ, consM, tupM, capM, lstM, newL, idxM, idxD, callM, addM, addD, bin2M, m_int, sliceM, partM, isTupD, un1M, tupD, sumD, listM, meth1M, isLst, appendM, isCell, putC, setIxS, setIx, isNonD, minD, maxD, Tg.go, Tg.gos, tgS, enumM, range1M, range2M, M.frz, frzM, M.noX, Out.noX, chainM, stepM, b24, l1, atI_0, atI_1, atI_2, fz]
/-! the law, when the plan is drawn well -/
mutual
theorem eqv_refl : ∀ d : PyData, d.canLay0 = true → PyData.eqv d d = true
  | .none, _ => rfl
  | .bool b, _ => by cases b <;> rfl
  | .int i, _ => by simp [PyData.eqv]
  | .str x, _ => by simp [PyData.eqv]
  | .list xs, h => by rw [PyData.canLay0] at h; rw [PyData.eqv]; exact eqv_reflAll xs h
  | .tuple xs, h => by rw [PyData.canLay0] at h; rw [PyData.eqv]; exact eqv_reflAll xs h
  | .dict _, h => by simp [PyData.canLay0] at h
theorem eqv_reflAll : ∀ xs : List PyData, PyData.canLayAll0 xs = true → PyData.eqvAll xs xs = true
  | [], _ => rfl
  | x :: xs, h => by
    rw [PyData.canLayAll0, Bool.and_eq_true] at h
    rw [PyData.eqvAll, eqv_refl x h.1, eqv_reflAll xs h.2]; rfl
end
theorem eq_self {d : DL.D} {k : Nat} (h : Ok k d) (hk : k ≤ 64) : cmpD .eq d d = some true := by
  rw [cmpD, h.okD hk]
  simp [eqv_refl _ h.lay]
end K10
set_option Elab.async false
set_option linter.all false
set_option maxRecDepth 100000
set_option maxHeartbeats 8000000
namespace K10
open PySem PySem.Spec PyProof.Rows L2 DL
theorem forC_inv {α : Type} {xs : List α} {g : α → DL.D} {t : Tg} {f : MS} {nn : Nat} (I : List α → Rho → Prop) {ρ : Rho} (h0 : I [] ρ) (hc : ∀ pre ρ, I pre ρ → ρ.st[nn]? = some (.lst (xs.map g)))
    (hs : ∀ pre x post ρ, xs = pre ++ x :: post → I pre ρ → ∃ ρ1 ρ', t.go (g x) ρ = some ρ1 ∧ f ρ1 = .next ρ' ∧ I (pre ++ [x]) ρ') : ∃ ρ', forQ (.cel nn) t f ρ = .next ρ' ∧ I xs ρ' := by
  have key : ∀ (post pre : List α) (ρ : Rho), xs = pre ++ post → I pre ρ → ∃ ρ', forC (post.length + 1) nn pre.length t f ρ = .next ρ' ∧ I xs ρ' := by
    intro post
    induction post with
    | nil =>
      intro pre ρ e hI
      rw [List.append_nil] at e
      subst e
      have hz : (xs.map g)[xs.length]? = none := by simp
      exact ⟨ρ, by simp only [forC, hc _ _ hI, hz, List.length_nil], hI⟩
    | cons d post ih =>
      intro pre ρ e hI
      obtain ⟨ρ1, ρ', h1, h2, h3⟩ := hs pre d post ρ e hI
      obtain ⟨ρ2, h4, h5⟩ := ih (pre ++ [d]) ρ' (by rw [e]; simp) h3
      refine ⟨ρ2, ?_, h5⟩
      have hz : (xs.map g)[pre.length]? = some (g d) := by rw [e]; simp
      rw [List.length_append, List.length_singleton] at h4
      have e1 : (tgS t (g d)).seq f ρ = f ρ1 := by unfold MS.seq tgS; rw [h1]; rfl
      rw [List.length_cons]
      unfold forC
      simp only [hc _ _ hI, hz, e1, h2]
      exact h4
  have hl : lenC nn ρ = xs.length := by unfold lenC; rw [hc _ _ h0]; simp
  obtain ⟨ρ', h1, h2⟩ := key xs [] ρ rfl h0
  refine ⟨ρ', ?_, h2⟩
  show forC (lenC nn ρ + 1) nn 0 t f ρ = _
  rw [hl]; exact h1
theorem famsD_zip : ∀ (fs : List F0) (b : Nat), famsD b fs = (fs.zipIdx b).map fun p => p.1.dr p.2
  | [], _ => rfl
  | f :: fs, b => by rw [famsD, famsD_zip fs (b + 1), List.zipIdx_cons, List.map_cons]
theorem setA {μ R : List Cell} {c d : Cell} : (μ ++ c :: R).set μ.length d = μ ++ d :: R := by
  rw [List.set_append_right _ _ (Nat.le_refl _)]; simp
theorem getA {μ R : List Cell} {c : Cell} : (μ ++ c :: R)[μ.length]? = some c := by
  rw [List.getElem?_append_right (Nat.le_refl _)]; simp
def stC (ss : List Stp) : Cell := .lst (ss.map Stp.d)
structure GSS (f : F0) (rs : List Rod) (ss : List Stp) : Prop where
  len : ss.length ≤ 8
  all : ∀ (i : Nat) (s : Stp), ss[i]? = some s → GS0 f rs i s
/-- what a drawn family gives the steps -/
structure FOk (f : F0) : Prop where
  cl : f.cells.length ≤ 3 ∧ (f.cells.map (·.nm)).Nodup ∧ ∀ l ∈ f.cells.map (·.nm), Okl l
  nm : Okl f.nm
  wO : ∀ l ∈ f.whos, Okl l
  wl : f.whos.length ≤ 2
  rm : 0 < f.rooms.length ∧ f.rooms.length ≤ 8
  rO : ∀ l ∈ f.rooms, Okl l
abbrev sl23 (ns : List Int) (mm : Int) (L : Nat) (rs : List Rod) (left : Int) (w : Nat) (y7 y8 : Option DL.D) : List (Option DL.D) :=
  [some (scr ns), some (.int mm), some (.ref L), some (.ref (L + 1)), some (.lst (rs.map Rod.d)), some (.int left), some (.ref w), y7, y8, none, none]
theorem steps_loop {n : Nat} {μ : List Cell} {ns : List Int} (hns : ns.length ≤ 63) {mm : Int} {rs : List Rod} (hrs : rs.length ≤ 8) (hro : ∀ r ∈ rs, Okl r.one ∧ Okl r.other) {w : Nat} {FC : Cell} {SC R : List Cell} {f : F0} (hf : FOk f) {t : Nat} (ht : t ≤ 8) {left k : Int} (hk : 0 ≤ k) (hk2 : k < 900000) {y8 : Option DL.D} :
    ∃ (ss : List Stp) (z8 : Option DL.D) (k' : Int), forL ((List.range t).map fun i => DL.D.int (i : Nat)) (.nm 8) (b23_l3 (callF (n + 5))) ⟨sl23 ns mm μ.length rs left w (some (f.dr (μ.length + 2 + SC.length))) y8, μ ++ At k :: FC :: (SC ++ stC [] :: R)⟩ =
      .next ⟨sl23 ns mm μ.length rs (left - t) w (some (f.dr (μ.length + 2 + SC.length))) z8, μ ++ At k' :: FC :: (SC ++ stC ss :: R)⟩ ∧ ss.length = t ∧ GSS f rs ss ∧ k ≤ k' ∧ k' ≤ k + 15 * t := by
  obtain ⟨ρ', l1, ss, z8, k', rfl, i1, i2, i3, i4⟩ := forX_inv (xs := List.range t) (g := fun i => DL.D.int (i : Nat)) (t := .nm 8) (f := b23_l3 (callF (n + 5))) (fun pre ρ => ∃ ss z8 k', ρ = ⟨sl23 ns mm μ.length rs (left - pre.length) w (some (f.dr (μ.length + 2 + SC.length))) z8, μ ++ At k' :: FC :: (SC ++ stC ss :: R)⟩ ∧ ss.length = pre.length ∧ (∀ (i : Nat) (s : Stp), ss[i]? = some s → GS0 f rs i s) ∧ k ≤ k' ∧ k' ≤ k + 15 * pre.length)
    (ρ := ⟨sl23 ns mm μ.length rs left w (some (f.dr (μ.length + 2 + SC.length))) y8, μ ++ At k :: FC :: (SC ++ stC [] :: R)⟩) ⟨[], y8, k, by simp, rfl, by simp, by omega, by simp⟩ (by
    rintro pre i post ρ e ⟨ss, z8, k', rfl, i1, i2, i3, i4⟩
    have hidx : i = pre.length := by
      have : (List.range t)[pre.length]? = some i := by rw [e]; simp
      rw [List.getElem?_range] at this
      · exact (Option.some.inj this).symm
      · have := congrArg List.length e; simp at this; omega
    have hi : i < 8 := by have := congrArg List.length e; simp at this; omega
    obtain ⟨s, k2, f1, g1, g2, g3⟩ := step_ok (n := n) (μ := μ ++ At 0 :: FC :: (SC ++ stC ss :: R)) hns (h := μ.length) (by simp) (k := k') (by omega) (by omega) (f := f) (j := μ.length + 2 + SC.length) (i := i) hi (rs := rs) hf.cl hf.nm hf.wO hf.wl hf.rm hrs hro
    rw [setA, setA] at f1
    have hP : ∀ (k : Int) (c : Cell), (μ ++ At k :: FC :: (SC ++ c :: R))[μ.length + 2 + SC.length]? = some c := fun k c => by
      have := getA (μ := μ ++ At k :: FC :: SC) (c := c) (R := R)
      have e2 : (μ ++ At k :: FC :: SC).length = μ.length + 2 + SC.length := by simp; omega
      rw [e2] at this
      simpa using this
    have hS : ∀ (k : Int) (c d : Cell), (μ ++ At k :: FC :: (SC ++ c :: R)).set (μ.length + 2 + SC.length) d = μ ++ At k :: FC :: (SC ++ d :: R) := fun k c d => by
      have := setA (μ := μ ++ At k :: FC :: SC) (c := c) (d := d) (R := R)
      have e2 : (μ ++ At k :: FC :: SC).length = μ.length + 2 + SC.length := by simp; omega
      rw [e2] at this
      simpa using this
    refine ⟨_, ⟨sl23 ns mm μ.length rs (left - (pre ++ [i]).length) w (some (f.dr (μ.length + 2 + SC.length))) (some (.int (i : Nat))), μ ++ At k2 :: FC :: (SC ++ stC (ss ++ [s]) :: R)⟩, rfl, .inl ?_, ss ++ [s], _, k2, rfl, by simp [i1], ?_, by omega, by simp; omega⟩
    · have hl : left - ((pre ++ [i]).length : Int) = left - pre.length - 1 := by simp; omega
      rw [hl]
      have hsd : stC (ss ++ [s]) = .lst (ss.map Stp.d ++ [s.d]) := by simp [stC]
      rw [hsd]
      unfold stC at *
      have hsl : (ss.map Stp.d).length < 16777216 := by have := congrArg List.length e; simp at this ⊢; omega
      have ed : f.dr (μ.length + 2 + SC.length) = .lst [.str f.nm, .int f.many, .lst (tx f.rooms), .lst (f.cells.map Cel.d), .lst (tx f.whos), .ref (μ.length + 2 + SC.length)] := rfl
      rw [ed] at f1 ⊢
      generalize ss.map Stp.d = SD at *
      generalize μ.length + 2 + SC.length = idx at *
      simp [LIM, runB, startSl, MS.seq, SOut.bind, M.thn, Out.bindS, M.bind, Out.bind, M.pure, varM, setS, setSl, nextS, ifS, M.andM, M.tb, M.bl, cmpM, cmpP, peek, c_lt, c_le, c_gt, c_ge, c_nn, c_eqi, binM, b_add, b_addt, b_sub, b_fdiv, b_mod, b_pow, optM, lenM, pkM, lenD, flatD, iterM, itM, forQ, consM, tupM, capM, lstM, newL, idxM, idxD, callM, addM, addD, bin2M, m_int, sliceM, partM, isTupD, un1M, tupD, sumD, listM, meth1M, isLst, appendM, isCell, putC, setIxS, setIx, isNonD, minD, maxD, Tg.go, Tg.gos, tgS, enumM, range1M, range2M, M.frz, frzM, M.noX, Out.noX, chainM, stepM, b23_l3, f1, hP, hS, hsl, atI_5]
    · intro i' s' h'
      by_cases hz : i' < ss.length
      · rw [List.getElem?_append_left hz] at h'
        exact i2 i' s' h'
      · rw [List.getElem?_append_right (by omega)] at h'
        have : i' = ss.length := by
          have := (List.getElem?_eq_some_iff.mp h').1
          simp at this; omega
        subst this
        simp at h'
        subst h'
        rw [i1, ← hidx]
        exact g1)
  have hlen : (List.range t).length = t := List.length_range
  rw [hlen] at l1 i1 i4
  exact ⟨ss, z8, k', l1, i1, ⟨by omega, i2⟩, i3, i4⟩

theorem fams_loop {n : Nat} {μ : List Cell} {ns : List Int} (hns : ns.length ≤ 63) {mm : Int} {rs : List Rod} (hrs : rs.length ≤ 8) (hro : ∀ r ∈ rs, Okl r.one ∧ Okl r.other) {w : Nat} {fs : List F0} (hfl : fs.length ≤ 4) (hf : ∀ f ∈ fs, FOk f) {k : Int} (hk : 0 ≤ k) (hk2 : k < 800000) {WC : Cell} :
    ∃ (SS : List (List Stp)) (left : Int) (y7 y8 : Option DL.D) (k' : Int), forQ (.cel (μ.length + 1)) (.nm 7) (b23_l4 (callF (n + 5))) ⟨sl23 ns mm μ.length rs 9 w none none, μ ++ At k :: .lst (famsD (μ.length + 2) fs) :: (List.replicate fs.length (stC []) ++ [WC])⟩ =
      .next ⟨sl23 ns mm μ.length rs left w y7 y8, μ ++ At k' :: .lst (famsD (μ.length + 2) fs) :: (SS.map stC ++ [WC])⟩ ∧ SS.length = fs.length ∧ (∀ (i : Nat) (f : F0) (ss : List Stp), fs[i]? = some f → SS[i]? = some ss → GSS f rs ss) ∧ k ≤ k' ∧ k' ≤ k + 1000 := by
  obtain ⟨ρ', l1, SS, left, y7, y8, k', rfl, i1, i2, i3, i4, i5⟩ := forC_inv (xs := fs.zipIdx (μ.length + 2)) (g := fun p => p.1.dr p.2) (t := .nm 7) (f := b23_l4 (callF (n + 5))) (nn := μ.length + 1) (fun pre ρ => ∃ SS left y7 y8 k', ρ = ⟨sl23 ns mm μ.length rs left w y7 y8, μ ++ At k' :: .lst (famsD (μ.length + 2) fs) :: (SS.map stC ++ (List.replicate (fs.length - pre.length) (stC []) ++ [WC]))⟩ ∧ SS.length = pre.length ∧ (∀ (i : Nat) (f : F0) (ss : List Stp), fs[i]? = some f → SS[i]? = some ss → GSS f rs ss) ∧ 0 ≤ left ∧ k ≤ k' ∧ k' ≤ k + 150 * pre.length)
    (ρ := ⟨sl23 ns mm μ.length rs 9 w none none, μ ++ At k :: .lst (famsD (μ.length + 2) fs) :: (List.replicate fs.length (stC []) ++ [WC])⟩) ⟨[], 9, none, none, k, by simp, rfl, by simp, by omega, by omega, by simp⟩ (by
      rintro pre ρ ⟨SS, left, y7, y8, k', rfl, _⟩
      have := getA (μ := μ ++ [At k']) (c := .lst (famsD (μ.length + 2) fs)) (R := SS.map stC ++ (List.replicate (fs.length - pre.length) (stC []) ++ [WC]))
      rw [List.length_append, List.length_singleton] at this
      rw [← famsD_zip]
      simpa using this) (by
    rintro pre p post ρ e ⟨SS, left, y7, y8, k', rfl, i1, i2, i3, i4, i5⟩
    have hlen : fs.length = pre.length + (post.length + 1) := by have := congrArg List.length e; simp at this; omega
    have hp : (fs.zipIdx (μ.length + 2))[pre.length]? = some p := by rw [e]; simp
    rw [List.getElem?_zipIdx] at hp
    obtain ⟨f, hf1, hf2⟩ := Option.map_eq_some_iff.mp hp
    subst hf2
    have hfm : f ∈ fs := List.mem_of_getElem? hf1
    have hrep : List.replicate (fs.length - pre.length) (stC []) = stC [] :: List.replicate (fs.length - (pre.length + 1)) (stC []) := by
      rw [show fs.length - pre.length = (fs.length - (pre.length + 1)) + 1 by omega, List.replicate_succ]
    obtain ⟨y, hy, f1⟩ := next_ok (n := n + 3) (μ := μ ++ At 0 :: .lst (famsD (μ.length + 2) fs) :: (SS.map stC ++ (stC [] :: (List.replicate (fs.length - (pre.length + 1)) (stC []) ++ [WC])))) hns (h := μ.length) (by simp) (k := k') (by omega) (by omega)
    rw [setA, setA] at f1
    obtain ⟨t, ht⟩ : ∃ t : Nat, minD (.int left) (.int (y % 9)) = some (.int (t : Nat)) ∧ t ≤ 8 ∧ (t : Int) ≤ left := by
      by_cases hz : y % 9 < left
      · refine ⟨(y % 9).toNat, ?_, by omega, by omega⟩
        show some (DL.D.int (if y % 9 < left then y % 9 else left)) = _
        rw [if_pos hz, Int.toNat_of_nonneg (by omega)]
      · refine ⟨left.toNat, ?_, by omega, by omega⟩
        show some (DL.D.int (if y % 9 < left then y % 9 else left)) = _
        rw [if_neg hz, Int.toNat_of_nonneg (by omega)]
    obtain ⟨t1, t2, t3⟩ := ht
    obtain ⟨ss, z8, k2, l2, s1, s2, s3, s4⟩ := steps_loop (n := n) (μ := μ) hns (mm := mm) hrs hro (w := w) (FC := .lst (famsD (μ.length + 2) fs)) (SC := SS.map stC) (R := List.replicate (fs.length - (pre.length + 1)) (stC []) ++ [WC]) (hf f hfm) (t := t) t2 (left := left) (k := k' + 1) (by omega) (by omega) (y8 := y8)
    rw [List.length_map, i1] at l2
    have hidx : (μ.length + 2 + pre.length) = (pre.length + (μ.length + 2)) := by omega
    refine ⟨⟨sl23 ns mm μ.length rs left w (some (f.dr (μ.length + 2 + pre.length))) y8, μ ++ At k' :: .lst (famsD (μ.length + 2) fs) :: (SS.map stC ++ (List.replicate (fs.length - pre.length) (stC []) ++ [WC]))⟩, ⟨sl23 ns mm μ.length rs (left - t) w (some (f.dr (μ.length + 2 + pre.length))) z8, μ ++ At k2 :: .lst (famsD (μ.length + 2) fs) :: ((SS ++ [ss]).map stC ++ (List.replicate (fs.length - (pre ++ [(f, μ.length + 2 + pre.length)]).length) (stC []) ++ [WC]))⟩, by first | rfl | (rw [hidx]; rfl), ?_, SS ++ [ss], left - t, _, z8, k2, rfl, by simp [i1], ?_, by omega, by omega, by simp; omega⟩
    · have hm : (SS ++ [ss]).map stC ++ (List.replicate (fs.length - (pre ++ [(f, μ.length + 2 + pre.length)]).length) (stC []) ++ [WC]) = SS.map stC ++ stC ss :: (List.replicate (fs.length - (pre.length + 1)) (stC []) ++ [WC]) := by simp
      rw [hm, hrep]
      have g1 : -4611686018427387904 ≤ (t : Int) := by omega
      have g2 : (t : Int) < 4611686018427387904 := by omega
      generalize famsD (μ.length + 2) fs = FD at *
      generalize SS.map stC = SM at *
      generalize List.replicate (fs.length - (pre.length + 1)) (stC []) = RP at *
      generalize f.dr (μ.length + 2 + pre.length) = fd at *
      simp [LIM, runB, startSl, MS.seq, SOut.bind, M.thn, Out.bindS, M.bind, Out.bind, M.pure, varM, setS, setSl, nextS, ifS, M.andM, M.tb, M.bl, cmpM, cmpP, peek, c_lt, c_le, c_gt, c_ge, c_nn, c_eqi, binM, b_add, b_addt, b_sub, b_fdiv, b_mod, b_pow, optM, lenM, pkM, lenD, flatD, iterM, itM, forQ, consM, tupM, capM, lstM, newL, idxM, idxD, callM, addM, addD, bin2M, m_int, sliceM, partM, isTupD, un1M, tupD, sumD, listM, meth1M, isLst, appendM, isCell, putC, setIxS, setIx, isNonD, Tg.go, Tg.gos, tgS, enumM, range1M, range2M, M.frz, frzM, M.noX, Out.noX, chainM, stepM, b23_l4, f1, t1, g1, g2, l2]
    · intro i' f' ss' h1 h2
      by_cases hz : i' < SS.length
      · rw [List.getElem?_append_left hz] at h2
        exact i2 i' f' ss' h1 h2
      · rw [List.getElem?_append_right (by omega)] at h2
        have : i' = SS.length := by
          have := (List.getElem?_eq_some_iff.mp h2).1
          simp at this; omega
        subst this
        simp at h2
        subst h2
        rw [i1, hf1] at h1
        cases h1
        exact s2)
  have hlen : (fs.zipIdx (μ.length + 2)).length = fs.length := by simp
  rw [hlen] at l1 i1 i5
  exact ⟨SS, left, y7, y8, k', by simpa using l1, i1, i2, i4, by omega⟩
end K10
set_option Elab.async false
set_option linter.all false
set_option maxRecDepth 100000
set_option maxHeartbeats 8000000
namespace K10
open PySem PySem.Spec PyProof.Rows L2 DL
theorem ok_stp {f : F0} {rs : List Rod} {i : Nat} {s : Stp} (hf : FOk f) (hro : ∀ r ∈ rs, Okl r.one ∧ Okl r.other) (hi : i < 8) (G : GS0 f rs i s) : Ok 20 s.d := by
  have hC := hf.cl.2.2
  have hK : ∀ l ∈ (if s.tak.isSome then f.cells.map (·.nm) ++ [cs "it"] else f.cells.map (·.nm)), Okl l := by
    intro l hl
    split at hl
    · rcases List.mem_append.mp hl with hl | hl
      · exact hC l hl
      · obtain rfl : l = cs "it" := by simpa using hl
        exact okl_it
    · exact hC l hl
  have hpr : ∀ q ∈ rs.map Rod.pr, Okl q.1 ∧ Okl q.2 := fun q hq => by
    obtain ⟨r, hr, rfl⟩ := List.mem_map.mp hq
    exact hro r hr
  have h1 : Ok 19 (.str s.nm) := ok_str (by rw [G.nm]; exact (nm_Nm hi 7).okl)
  have h2 : Ok 19 (.str s.at_) := ok_str (hf.rO _ G.at_)
  have h3 : Ok 19 s.whn := (G.whn.ok hC).mono (by decide)
  have h4 : Ok 19 (takD s.tak) := by
    cases ht : s.tak with
    | none => exact ok_non
    | some tk =>
      obtain ⟨a, b, c, d⟩ := tk
      obtain ⟨t1, t2, t3, t4⟩ := G.tak a b c d ht
      refine ok_tup fun e he => ?_
      simp only [List.mem_cons, List.not_mem_nil, or_false] at he
      rcases he with rfl | rfl | rfl | rfl
      · exact ok_str t1.okl
      · exact ok_str (hpr _ t2).1
      · exact ok_str (t3.elim (fun z => z ▸ okl_nil) (hC c))
      · exact ok_str (t4.elim (fun z => z ▸ okl_nil) (hf.wO d))
  have h5 : Ok 19 (.lst (s.chg.map chgD)) := ok_lst fun e he => by
    obtain ⟨q, hq, rfl⟩ := List.mem_map.mp he
    obtain ⟨c1, _, c3⟩ := G.chg q hq
    refine ok_tup fun e he => ?_
    simp only [List.mem_cons, List.not_mem_nil, or_false] at he
    rcases he with rfl | rfl
    · exact ok_str (hC _ c1)
    · exact (c3.ok hK).mono (by decide)
  have h6 : Ok 19 (.lst (s.snd.map sndD)) := ok_lst fun e he => by
    obtain ⟨q, hq, rfl⟩ := List.mem_map.mp he
    obtain ⟨c1, c2, c3⟩ := G.snd q hq
    refine ok_tup fun e he => ?_
    simp only [List.mem_cons, List.not_mem_nil, or_false] at he
    rcases he with rfl | rfl | rfl | rfl
    · exact ok_str c1.okl
    · exact (c2.ok hK).mono (by decide)
    · refine ok_str ?_
      rcases c3 with ⟨z, _⟩ | ⟨z | z, _⟩ <;> rw [z] <;> exact okl_of (by decide +kernel)
    · rcases c3 with ⟨_, z⟩ | ⟨_, z⟩
      · exact ok_str (hf.wO _ z)
      · exact ok_str (hpr _ z).2
  have h7 : Ok 19 (.str s.go) := ok_str (hf.rO _ G.go)
  refine ok_tup fun e he => ?_
  simp only [List.mem_cons, List.not_mem_nil, or_false] at he
  rcases he with rfl | rfl | rfl | rfl | rfl | rfl | rfl <;> assumption
theorem ne_nilG {ds : List DL.D} (h : okD (.lst ds) = true) : cmpD .ne (.lst ds) (.lst []) = some (decide (ds ≠ [])) := by
  rw [cmpD, h]
  have h2 : okD (.lst []) = true := by decide +kernel
  rw [h2]
  cases ds <;> simp [pyOf, pyOfs, PyData.eqv, PyData.eqvAll]
theorem pickG {α : Type} {xs : List α} (g : α → DL.D) {y : Int} (hy : 0 ≤ y) (hl : 0 < xs.length) : ∃ (j : Nat) (x : α), xs[j]? = some x ∧ atI (xs.map g) (y % (xs.map g).length) = some (g x) := by
  rw [List.length_map]
  have g1 : 0 ≤ y % (xs.length : Int) := Int.emod_nonneg _ (by omega)
  have g2 : y % (xs.length : Int) < xs.length := Int.emod_lt_of_pos _ (by omega)
  obtain ⟨m, hm⟩ : ∃ m : Nat, y % (xs.length : Int) = m := ⟨(y % (xs.length : Int)).toNat, by omega⟩
  have hml : m < xs.length := by omega
  exact ⟨m, xs[m], List.getElem?_eq_getElem hml, by rw [hm]; exact atI_n (by rw [List.getElem?_map, List.getElem?_eq_getElem hml]; rfl)⟩
theorem wish_loop {n : Nat} {μ : List Cell} {ns : List Int} (hns : ns.length ≤ 63) {mm : Int} {rs : List Rod} (hro : ∀ r ∈ rs, Okl r.one ∧ Okl r.other) {fs : List F0} (hfl : 0 < fs.length) (hf : ∀ f ∈ fs, FOk f) {SS : List (List Stp)} (hSl : SS.length = fs.length) (hS : ∀ (i : Nat) (f : F0) (ss : List Stp), fs[i]? = some f → SS[i]? = some ss → GSS f rs ss) {left : Int} {t : Nat} (ht : t ≤ 6) {k : Int} (hk : 0 ≤ k) (hk2 : k < 900000) {y7 y8 : Option DL.D} :
    ∃ (ws : List Wsh) (sl : List (Option DL.D)) (k' : Int), (∃ z7 z8 z9 z10, sl = [some (scr ns), some (.int mm), some (.ref μ.length), some (.ref (μ.length + 1)), some (.lst (rs.map Rod.d)), some (.int left), some (.ref (μ.length + 2 + fs.length)), z7, z8, z9, z10]) ∧ forL ((List.range t).map fun i => DL.D.int (i : Nat)) (.nm 8) (b23_l2 (callF (n + 5))) ⟨sl23 ns mm μ.length rs left (μ.length + 2 + fs.length) y7 y8, μ ++ At k :: .lst (famsD (μ.length + 2) fs) :: (SS.map stC ++ [.lst []])⟩ =
      .next ⟨sl, μ ++ At k' :: .lst (famsD (μ.length + 2) fs) :: (SS.map stC ++ [.lst (ws.map Wsh.d)])⟩ ∧ ws.length ≤ t ∧ (∀ w ∈ ws, (w.kind = cs "weak" ∨ w.kind = cs "strong") ∧ ∃ (j : Nat) (f : F0) (ss : List Stp), fs[j]? = some f ∧ SS[j]? = some ss ∧ f.nm = w.nm ∧ ∃ s ∈ ss, s.nm = w.stp) := by
  obtain ⟨ρ', l1, ws, z7, z8, z9, z10, k', rfl, i1, i2, i3, i4⟩ := forX_inv (xs := List.range t) (g := fun i => DL.D.int (i : Nat)) (t := .nm 8) (f := b23_l2 (callF (n + 5))) (fun pre ρ => ∃ ws z7 z8 z9 z10 k', ρ = ⟨[some (scr ns), some (.int mm), some (.ref μ.length), some (.ref (μ.length + 1)), some (.lst (rs.map Rod.d)), some (.int left), some (.ref (μ.length + 2 + fs.length)), z7, z8, z9, z10], μ ++ At k' :: .lst (famsD (μ.length + 2) fs) :: (SS.map stC ++ [.lst (ws.map Wsh.d)])⟩ ∧ ws.length ≤ pre.length ∧ (∀ w ∈ ws, (w.kind = cs "weak" ∨ w.kind = cs "strong") ∧ ∃ (j : Nat) (f : F0) (ss : List Stp), fs[j]? = some f ∧ SS[j]? = some ss ∧ f.nm = w.nm ∧ ∃ s ∈ ss, s.nm = w.stp) ∧ k ≤ k' ∧ k' ≤ k + pre.length)
    (ρ := ⟨sl23 ns mm μ.length rs left (μ.length + 2 + fs.length) y7 y8, μ ++ At k :: .lst (famsD (μ.length + 2) fs) :: (SS.map stC ++ [.lst []])⟩) ⟨[], y7, y8, none, none, k, rfl, by simp, by simp, by omega, by simp⟩ (by
    rintro pre i post ρ e ⟨ws, z7, z8, z9, z10, k', rfl, i1, i2, i3, i4⟩
    have hpl : pre.length < 6 := by have := congrArg List.length e; simp at this; omega
    obtain ⟨y, hy, f1⟩ := next_ok (n := n + 3) (μ := μ ++ At 0 :: .lst (famsD (μ.length + 2) fs) :: (SS.map stC ++ [.lst (ws.map Wsh.d)])) hns (h := μ.length) (by simp) (k := k') (by omega) (by omega)
    rw [setA, setA] at f1
    obtain ⟨j, p, hj, f2⟩ := pickG (xs := fs.zipIdx (μ.length + 2)) (fun p => p.1.dr p.2) hy (by simpa using hfl)
    rw [← famsD_zip] at f2
    rw [List.getElem?_zipIdx] at hj
    obtain ⟨f, hf1, hf2⟩ := Option.map_eq_some_iff.mp hj
    subst hf2
    have hfm : f ∈ fs := List.mem_of_getElem? hf1
    have hjl : j < SS.length := by rw [hSl]; exact (List.getElem?_eq_some_iff.mp hf1).1
    obtain ⟨ss, hss⟩ : ∃ ss, SS[j]? = some ss := ⟨_, List.getElem?_eq_getElem hjl⟩
    have G := hS j f ss hf1 hss
    have hF : ∀ k, (μ ++ At k :: .lst (famsD (μ.length + 2) fs) :: (SS.map stC ++ [Cell.lst (ws.map Wsh.d)]))[μ.length + 1]? = some (.lst (famsD (μ.length + 2) fs)) := fun k => by
      have := getA (μ := μ ++ [At k]) (c := .lst (famsD (μ.length + 2) fs)) (R := SS.map stC ++ [Cell.lst (ws.map Wsh.d)])
      rw [List.length_append, List.length_singleton] at this
      simpa using this
    have hC : ∀ k, (μ ++ At k :: .lst (famsD (μ.length + 2) fs) :: (SS.map stC ++ [Cell.lst (ws.map Wsh.d)]))[μ.length + 2 + j]? = some (.lst (ss.map Stp.d)) := fun k => by
      rw [List.getElem?_append_right (by omega)]
      rw [show μ.length + 2 + j - μ.length = j + 1 + 1 by omega, List.getElem?_cons_succ, List.getElem?_cons_succ, List.getElem?_append_left (by simpa using hjl), List.getElem?_map, hss]; rfl
    have hWi : μ.length + 2 + fs.length = (μ ++ At k' :: Cell.lst (famsD (μ.length + 2) fs) :: SS.map stC).length := by simp [hSl]; omega
    have hW : ∀ (k : Int) (c : Cell), (μ ++ At k :: .lst (famsD (μ.length + 2) fs) :: (SS.map stC ++ [c]))[μ.length + 2 + fs.length]? = some c := fun k c => by
      have := getA (μ := μ ++ At k :: .lst (famsD (μ.length + 2) fs) :: SS.map stC) (c := c) (R := [])
      have e2 : (μ ++ At k :: Cell.lst (famsD (μ.length + 2) fs) :: SS.map stC).length = μ.length + 2 + fs.length := by simp [hSl]; omega
      rw [e2] at this
      simpa using this
    have hWs : ∀ (k : Int) (c d : Cell), (μ ++ At k :: .lst (famsD (μ.length + 2) fs) :: (SS.map stC ++ [c])).set (μ.length + 2 + fs.length) d = μ ++ At k :: .lst (famsD (μ.length + 2) fs) :: (SS.map stC ++ [d]) := fun k c d => by
      have := setA (μ := μ ++ At k :: .lst (famsD (μ.length + 2) fs) :: SS.map stC) (c := c) (d := d) (R := [])
      have e2 : (μ ++ At k :: Cell.lst (famsD (μ.length + 2) fs) :: SS.map stC).length = μ.length + 2 + fs.length := by simp [hSl]; omega
      rw [e2] at this
      simpa using this
    have hok : okD (.lst (ss.map Stp.d)) = true := (ok_lst (k := 20) fun d hd => by
      obtain ⟨s, hs, rfl⟩ := List.mem_map.mp hd
      obtain ⟨q, hq, eq⟩ := List.getElem_of_mem hs
      have hq2 : ss[q]? = some s := by rw [List.getElem?_eq_getElem hq, eq]
      exact ok_stp (hf f hfm) hro (by have := G.len; omega) (G.all q s hq2)).okD (by decide)
    have c1 := ne_nilG hok
    have hFl : 0 < (famsD (μ.length + 2) fs).length := by rw [famsD_len]; exact hfl
    have hwl : (ws.map Wsh.d).length < 16777216 := by simp; omega
    have ed : f.dr (μ.length + 2 + j) = .lst [.str f.nm, .int f.many, .lst (tx f.rooms), .lst (f.cells.map Cel.d), .lst (tx f.whos), .ref (μ.length + 2 + j)] := rfl
    dsimp only at f2
    by_cases hz : ss = []
    · subst hz
      have c1 : cmpD .ne (.lst []) (.lst []) = some false := by simpa using c1
      refine ⟨_, ⟨[some (scr ns), some (.int mm), some (.ref μ.length), some (.ref (μ.length + 1)), some (.lst (rs.map Rod.d)), some (.int left), some (.ref (μ.length + 2 + fs.length)), some (f.dr (μ.length + 2 + j)), some (.int (i : Nat)), some (.int y), z10], μ ++ At (k' + 1) :: .lst (famsD (μ.length + 2) fs) :: (SS.map stC ++ [.lst (ws.map Wsh.d)])⟩, rfl, .inl ?_, ws, _, _, _, _, k' + 1, rfl, by simp; omega, i2, by omega, by simp; omega⟩
      rw [ed] at f2 ⊢
      simp only [List.map_nil] at hC
      generalize famsD (μ.length + 2) fs = FD at *
      generalize SS.map stC = SM at *
      generalize ws.map Wsh.d = WD at *
      generalize μ.length + 2 + j = idx at *
      simp [LIM, runB, startSl, MS.seq, SOut.bind, M.thn, Out.bindS, M.bind, Out.bind, M.pure, varM, setS, setSl, nextS, ifS, M.andM, M.tb, M.bl, cmpM, cmpP, peek, c_lt, c_le, c_gt, c_ge, c_nn, c_eqi, binM, b_add, b_addt, b_sub, b_fdiv, b_mod, b_pow, optM, lenM, pkM, lenD, flatD, iterM, itM, forQ, consM, tupM, capM, lstM, newL, idxM, idxD, callM, addM, addD, bin2M, m_int, sliceM, partM, isTupD, un1M, tupD, sumD, listM, meth1M, isLst, appendM, isCell, putC, setIxS, setIx, isNonD, minD, maxD, Tg.go, Tg.gos, tgS, enumM, range1M, range2M, M.frz, frzM, M.noX, Out.noX, chainM, stepM, b23_l2, f1, f2, hF, hC, c1, hFl, atI_5]
    · have hpos : 0 < ss.length := List.length_pos_iff.mpr hz
      obtain ⟨q, s, hq, f3⟩ := pickG (xs := ss) Stp.d (y := y / 4) (by omega) hpos
      have hsm : s ∈ ss := List.mem_of_getElem? hq
      have hne : ss.map Stp.d ≠ [] := by simpa using hz
      rw [decide_eq_true hne] at c1
      obtain ⟨kd, f4, hkd⟩ : ∃ kd, atI [DL.D.str (cs "weak"), .str (cs "strong")] (y / 64 % 2) = some (.str kd) ∧ (kd = cs "weak" ∨ kd = cs "strong") := by
        have : y / 64 % 2 = 0 ∨ y / 64 % 2 = 1 := by omega
        rcases this with q | q <;> rw [q]
        · exact ⟨_, atI_0, .inl rfl⟩
        · exact ⟨_, atI_1, .inr rfl⟩
      have hSp : 0 < (ss.map Stp.d).length := by simpa using hpos
      have es : s.d = .tup [.str s.nm, .str s.at_, s.whn, takD s.tak, .lst (s.chg.map chgD), .lst (s.snd.map sndD), .str s.go] := rfl
      refine ⟨_, ⟨[some (scr ns), some (.int mm), some (.ref μ.length), some (.ref (μ.length + 1)), some (.lst (rs.map Rod.d)), some (.int left), some (.ref (μ.length + 2 + fs.length)), some (f.dr (μ.length + 2 + j)), some (.int (i : Nat)), some (.int y), some (.str s.nm)], μ ++ At (k' + 1) :: .lst (famsD (μ.length + 2) fs) :: (SS.map stC ++ [.lst ((ws ++ [Wsh.mk kd f.nm s.nm]).map Wsh.d)])⟩, rfl, .inl ?_, ws ++ [Wsh.mk kd f.nm s.nm], _, _, _, _, k' + 1, rfl, by simp; omega, ?_, by omega, by simp; omega⟩
      · have hw : (ws ++ [Wsh.mk kd f.nm s.nm]).map Wsh.d = ws.map Wsh.d ++ [.tup [.str kd, .str f.nm, .str s.nm]] := by simp [Wsh.d]
        rw [hw]
        rw [es] at f3
        rw [ed] at f2 ⊢
        generalize famsD (μ.length + 2) fs = FD at *
        generalize SS.map stC = SM at *
        generalize ws.map Wsh.d = WD at *
        generalize ss.map Stp.d = SD at *
        generalize μ.length + 2 + j = idx at *
        generalize μ.length + 2 + fs.length = wi at *
        simp [LIM, runB, startSl, MS.seq, SOut.bind, M.thn, Out.bindS, M.bind, Out.bind, M.pure, varM, setS, setSl, nextS, ifS, M.andM, M.tb, M.bl, cmpM, cmpP, peek, c_lt, c_le, c_gt, c_ge, c_nn, c_eqi, binM, b_add, b_addt, b_sub, b_fdiv, b_mod, b_pow, optM, lenM, pkM, lenD, flatD, iterM, itM, forQ, consM, tupM, capM, lstM, newL, idxM, idxD, callM, addM, addD, bin2M, m_int, sliceM, partM, isTupD, un1M, tupD, sumD, listM, meth1M, isLst, appendM, isCell, putC, setIxS, setIx, isNonD, minD, maxD, Tg.go, Tg.gos, tgS, enumM, range1M, range2M, M.frz, frzM, M.noX, Out.noX, chainM, stepM, b23_l2, f1, f2, f3, f4, hF, hC, hW, hWs, c1, hFl, hSp, hwl, atI_0, atI_5]
      · intro w hw
        rcases List.mem_append.mp hw with hw | hw
        · exact i2 w hw
        · obtain rfl : w = _ := by simpa using hw
          exact ⟨hkd, j, f, ss, hf1, hss, rfl, s, hsm, rfl⟩)
  have hlen : (List.range t).length = t := List.length_range
  rw [hlen] at i1
  exact ⟨ws, _, k', ⟨z7, z8, z9, z10, rfl⟩, l1, i1, i2⟩
end K10
set_option Elab.async false
set_option linter.all false
set_option maxRecDepth 100000
set_option maxHeartbeats 8000000
namespace K10
open PySem PySem.Spec PyProof.Rows L2 DL
def F0.full (f : F0) (ss : List Stp) : Fam := ⟨f.nm, f.many, f.rooms, f.cells, f.whos, ss⟩
def tupF (p : F0 × Nat) : DL.D := .tup [.str p.1.nm, .int p.1.many, .lst (tx p.1.rooms), .lst (p.1.cells.map Cel.d), .lst (tx p.1.whos), .ref p.2]
theorem frzL_snoc : ∀ (ds : List DL.D) (k : Nat) {d d' : DL.D} {μ μ' : List Cell}, (∀ e ∈ ds, blw 0 e = true) → ds.length + 2 ≤ k → frzD (k - ds.length - 1) d μ = some (d', μ') → frzL k (ds ++ [d]) μ = some (ds ++ [d'], μ')
  | [], k, d, d', μ, μ', _, hk, h => by
    obtain ⟨j, rfl⟩ : ∃ j, k = j + 1 + 1 := ⟨k - 2, by simp at hk; omega⟩
    have h : frzD (j + 1) d μ = some (d', μ') := h
    rw [List.nil_append, List.nil_append]
    unfold frzL
    rw [h]; rfl
  | e :: ds, k, d, d', μ, μ', hb, hk, h => by
    rw [List.length_cons] at hk h
    obtain ⟨j, rfl⟩ : ∃ j, k = j + 1 := ⟨k - 1, by omega⟩
    have h1 := frzL_snoc ds j (d := d) (d' := d') (μ := μ) (μ' := μ') (fun x hx => hb x (by simp [hx])) (by omega) (by rw [show j - ds.length - 1 = j + 1 - (ds.length + 1) - 1 by omega]; exact h)
    rw [List.cons_append]
    unfold frzL
    rw [frzD_plain j (by omega) (hb e (by simp))]
    dsimp only
    rw [h1]; rfl
theorem frz_fam {f : F0} {ss : List Stp} {P R : List Cell} {k m : Nat} (hm : P.length = m) (hk : 30 ≤ k) (hl : ss.length ≤ 8) (hs : ∀ s ∈ ss, blw 0 s.d = true) : frzD k (tupF (f, m)) (P ++ stC ss :: R) = some ((f.full ss).d, P ++ .dead :: R) := by
  obtain ⟨j, rfl⟩ : ∃ j, k = j + 1 := ⟨k - 1, by omega⟩
  have hn : blw 0 (tupF (f, m)) = false := by
    unfold tupF
    rw [blw, blws, blws, blws, blws, blws, blws, blw, blw, blw, blw]
    simp
  have h1 := frz_lastK (j - 5 - 1) (ν := P) (R := R) (m := m) hm (ds := ss.map Stp.d) (fun d hd => by obtain ⟨s, h2, rfl⟩ := List.mem_map.mp hd; exact hs s h2) (by simp; omega)
  have hc : ∀ m, blws m (f.cells.map Cel.d) = true := fun m => blws_map _ _ _ fun _ _ => rfl
  have h2 := frzL_snoc [.str f.nm, .int f.many, .lst (tx f.rooms), .lst (f.cells.map Cel.d), .lst (tx f.whos)] j (d := .ref m) (μ := P ++ stC ss :: R) (fun e he => by
    simp only [List.mem_cons, List.not_mem_nil, or_false] at he
    rcases he with rfl | rfl | rfl | rfl | rfl
    · rfl
    · rfl
    · exact blw_tx
    · rw [blw]; exact hc 0
    · exact blw_tx) (by simp; omega) h1
  unfold frzD
  rw [hn]
  simp only [Bool.false_eq_true, if_false]
  unfold tupF
  have h2 : frzL j [.str f.nm, .int f.many, .lst (tx f.rooms), .lst (f.cells.map Cel.d), .lst (tx f.whos), .ref m] (P ++ stC ss :: R) = _ := h2
  show Option.map (fun r => (DL.D.tup r.1, r.2)) (frzL j [.str f.nm, .int f.many, .lst (tx f.rooms), .lst (f.cells.map Cel.d), .lst (tx f.whos), .ref m] (P ++ stC ss :: R)) = _
  rw [h2]; rfl
theorem frz_fams : ∀ (fs : List F0) (SS : List (List Stp)) (P R : List Cell) (k m : Nat), P.length = m → fs.length = SS.length → (∀ ss ∈ SS, ss.length ≤ 8 ∧ ∀ s ∈ ss, blw 0 s.d = true) → fs.length + 40 ≤ k →
    frzL k ((fs.zipIdx m).map tupF) (P ++ (SS.map stC ++ R)) = some ((fs.zip SS).map (fun q => (q.1.full q.2).d), P ++ (List.replicate SS.length .dead ++ R))
  | [], [], P, R, k, m, _, _, _, hk => by
    obtain ⟨j, rfl⟩ : ∃ j, k = j + 1 := ⟨k - 1, by omega⟩
    rfl
  | [], _ :: _, _, _, _, _, _, h, _, _ => by simp at h
  | _ :: _, [], _, _, _, _, _, h, _, _ => by simp at h
  | f :: fs, ss :: SS, P, R, k, m, hm, hl, hs, hk => by
    rw [List.length_cons] at hk
    obtain ⟨j, rfl⟩ : ∃ j, k = j + 1 := ⟨k - 1, by omega⟩
    obtain ⟨h1, h2⟩ := hs ss (by simp)
    have e1 := frz_fam (f := f) (ss := ss) (P := P) (R := SS.map stC ++ R) (k := j) hm (by omega) h1 h2
    have e2 := frz_fams fs SS (P ++ [.dead]) R j (m + 1) (by simp [hm]) (by simpa using hl) (fun x hx => hs x (by simp [hx])) (by omega)
    rw [List.zipIdx_cons, List.map_cons, List.map_cons, List.cons_append]
    unfold frzL
    rw [e1]
    dsimp only
    have e3 : P ++ Cell.dead :: (SS.map stC ++ R) = P ++ [.dead] ++ (SS.map stC ++ R) := by simp
    rw [e3, e2]
    simp [List.replicate_succ]
theorem nms_nodup (x : Int) (m : Nat) (hm : m ≤ 8) : ((List.range m).map fun i => nmOf i x).Nodup := by
  rw [List.Nodup, List.pairwise_map]
  refine List.Pairwise.imp_of_mem ?_ (List.nodup_range (n := m))
  intro a b ha hb hne h
  exact hne (nm_inj (by have := List.mem_range.mp ha; omega) (by have := List.mem_range.mp hb; omega) h)
theorem nms_Nm {x : Int} {m : Nat} (hm : m ≤ 8) {l : List Nat} (h : l ∈ (List.range m).map fun i => nmOf i x) : Nm l ∧ l ∉ WORDS := by
  obtain ⟨i, hi, rfl⟩ := List.mem_map.mp h
  have hi8 : i < 8 := by have := List.mem_range.mp hi; omega
  exact ⟨nm_Nm hi8 x, fun hw => nm_word hi8 x hw rfl⟩
def chkW (l : List Nat) : Bool := decide (1 ≤ l.length) && (decide (l.length ≤ 10) && (l.all (fun c => (cs "abcdefghijklmnopqrstuvwxyz").contains c) && NEVERS.all fun w => decide (l ≠ w)))
theorem whos_good {W : List (List Nat)} (h : W ∈ WHOS) (j : Nat) : (W.take j).length ≤ 2 ∧ (W.take j).Nodup ∧ (∀ l ∈ W.take j, Nm l) ∧ ∀ l ∈ W.take j, l ∈ WORDS := by
  have key : ∀ W ∈ WHOS, W.length ≤ 2 ∧ W.Nodup ∧ (∀ l ∈ W, chkW l = true) ∧ ∀ l ∈ W, l ∈ WORDS := by decide +kernel
  obtain ⟨h1, h2, h3, h4⟩ := key W h
  refine ⟨by rw [List.length_take]; omega, h2.sublist (List.take_sublist _ _), fun l hl => ?_, fun l hl => h4 l (List.mem_of_mem_take hl)⟩
  have := h3 l (List.mem_of_mem_take hl)
  unfold chkW at this
  simp only [Bool.and_eq_true, decide_eq_true_eq, List.all_eq_true] at this
  obtain ⟨a1, a2, a3, a4⟩ := this
  exact ⟨⟨a1, a2⟩, fun c hc => by simpa using a3 c hc, fun w hw => a4 w hw⟩
theorem GF0.fok {f : F0} (G : GF0 f) (hn : Okl f.nm) : FOk f := by
  obtain ⟨r, x, r1, r2, r3⟩ := G.rooms
  obtain ⟨m, x2, m1, m2⟩ := G.cells
  obtain ⟨W, hW, j, hj⟩ := G.whos
  obtain ⟨w1, w2, w3, w4⟩ := whos_good hW j
  have hcl : f.cells.length = m := by
    have := congrArg List.length m2
    simpa using this
  refine ⟨⟨by omega, by rw [m2]; exact nms_nodup _ _ (by omega), fun l hl => by rw [m2] at hl; exact (nms_Nm (by omega) hl).1.okl⟩, hn, fun l hl => by rw [hj] at hl; exact (w3 l hl).okl, by rw [hj]; exact w1, by rw [r3]; simp; omega, fun l hl => by rw [r3] at hl; exact (nms_Nm (by omega) hl).1.okl⟩

def mkP (fs : List F0) (SS : List (List Stp)) (rs : List Rod) (ws : List Wsh) : Pln := ⟨(fs.zip SS).map fun q => q.1.full q.2, rs, ws⟩
theorem gpln {fs : List F0} {SS : List (List Stp)} {rs : List Rod} {ws : List Wsh} {x : Int} (f2 : fs.map (·.nm) = (List.range fs.length).map (fun i => nmOf i x)) (hfl : 0 < fs.length ∧ fs.length ≤ 4) (f3 : ∀ f ∈ fs, GF0 f) (f4 : (fs.map (·.many)).sum ≤ 5)
    (r1 : rs.length ≤ 8) (r2 : ∀ r ∈ rs, GRod (fs.map (·.nm)) r) (r3 : (rs.map Rod.pr).Nodup) (s1 : SS.length = fs.length) (s2 : ∀ (i : Nat) (f : F0) (ss : List Stp), fs[i]? = some f → SS[i]? = some ss → GSS f rs ss)
    (w1 : ws.length ≤ 6) (w2 : ∀ w ∈ ws, (w.kind = cs "weak" ∨ w.kind = cs "strong") ∧ ∃ (j : Nat) (f : F0) (ss : List Stp), fs[j]? = some f ∧ SS[j]? = some ss ∧ f.nm = w.nm ∧ ∃ s ∈ ss, s.nm = w.stp) : GPln (mkP fs SS rs ws) := by
  have hz1 : (fs.zip SS).map (·.1) = fs := by rw [List.map_fst_zip]; omega
  have hnm : (mkP fs SS rs ws).names = fs.map (·.nm) := by
    unfold Pln.names mkP
    rw [List.map_map]
    have : (fs.zip SS).map ((fun f : Fam => f.nm) ∘ fun q => q.1.full q.2) = ((fs.zip SS).map (·.1)).map (·.nm) := by rw [List.map_map]; rfl
    rw [this, hz1]
  have hlen : (mkP fs SS rs ws).fams.length = fs.length := by simp [mkP, s1]
  have hq : ∀ f ∈ (mkP fs SS rs ws).fams, ∃ (j : Nat) (g : F0) (ss : List Stp), fs[j]? = some g ∧ SS[j]? = some ss ∧ f = g.full ss := fun f hf => by
    obtain ⟨q, hq, rfl⟩ := List.mem_map.mp hf
    obtain ⟨j, hj, ej⟩ := List.getElem_of_mem hq
    have : (fs.zip SS)[j]? = some q := by rw [List.getElem?_eq_getElem hj, ej]
    obtain ⟨a1, a2⟩ := List.getElem?_zip_eq_some.mp this
    exact ⟨j, q.1, q.2, a1, a2, rfl⟩
  have hnNm : ∀ l ∈ fs.map (·.nm), Nm l := fun l hl => by
    rw [f2] at hl
    exact (nms_Nm (by omega) hl).1
  refine ⟨⟨by omega, by omega, r1, w1⟩, by rw [hnm, f2]; exact nms_nodup _ _ (by omega), r3, fun r hr => ?_, fun f hf => ?_, ?_, fun w hw => ?_⟩
  · rw [hnm]
    have := r2 r hr
    exact ⟨this.one, this.other, this.kind, this.cap.1, this.cap.2⟩
  · obtain ⟨j, g, ss, a1, a2, rfl⟩ := hq f hf
    have hg := List.mem_of_getElem? a1
    have G := f3 g hg
    have S := s2 j g ss a1 a2
    obtain ⟨r, y, b1, b2, b3⟩ := G.rooms
    obtain ⟨m, y2, c1, c2⟩ := G.cells
    obtain ⟨W, hW, jj, hj⟩ := G.whos
    obtain ⟨d1, d2, d3, d4⟩ := whos_good hW jj
    have hcl : g.cells.length = m := by have := congrArg List.length c2; simpa using this
    have hcn : (g.full ss).cn = g.cells.map (·.nm) := rfl
    have hsn : (g.full ss).sn = ss.map (·.nm) := rfl
    have hsn2 : ss.map (·.nm) = (List.range ss.length).map fun i => nmOf i 7 := by
      apply List.ext_getElem?
      intro i
      rw [List.getElem?_map, List.getElem?_map]
      by_cases hi : i < ss.length
      · rw [List.getElem?_eq_getElem hi, List.getElem?_range hi]
        show some (ss[i].nm) = some (nmOf i 7)
        rw [(S.all i ss[i] (List.getElem?_eq_getElem hi)).nm]
      · rw [List.getElem?_eq_none (by omega), List.getElem?_eq_none (by simpa using hi)]; rfl
    refine ⟨hnNm _ (List.mem_map_of_mem hg), G.many, ⟨by show 1 ≤ g.rooms.length; rw [b3]; simp; omega, by show g.rooms.length ≤ 8; rw [b3]; simp; omega, fun l hl => by
      have hl : l ∈ g.rooms := hl
      rw [b3] at hl; exact (nms_Nm (by omega) hl).1, by show g.rooms.Nodup; rw [b3]; exact nms_nodup _ _ (by omega)⟩, ⟨by show g.cells.length ≤ 3; omega, fun c hc => G.cel c hc⟩, by show g.whos.length ≤ 2; rw [hj]; exact d1, ⟨fun l hl => ?_, ?_, ?_⟩, ⟨S.len, fun l hl => ?_, ?_, fun s hs => ?_⟩⟩
    · rcases List.mem_append.mp hl with hl | hl
      · rw [hcn, c2] at hl; exact (nms_Nm (by omega) hl).1
      · have hl : l ∈ g.whos := hl
        rw [hj] at hl; exact d3 l hl
    · rw [hcn]
      show (g.cells.map (·.nm) ++ g.whos).Nodup
      rw [List.nodup_append, c2, hj]
      exact ⟨nms_nodup _ _ (by omega), d2, fun a ha b hb hab => (nms_Nm (by omega) ha).2 (hab ▸ d4 b hb)⟩
    · rw [hcn, c2]
      intro hit
      exact (nms_Nm (by omega) hit).2 (by decide +kernel)
    · rw [hsn, hsn2] at hl; exact (nms_Nm (by have := S.len; omega) hl).1
    · rw [hsn, hsn2]; exact nms_nodup _ _ (by have := S.len; omega)
    · have hs : s ∈ ss := hs
      obtain ⟨q, hq1, hq2⟩ := List.getElem_of_mem hs
      have A := S.all q s (by rw [List.getElem?_eq_getElem hq1, hq2])
      have hpr : (mkP fs SS rs ws).prs = rs.map Rod.pr := rfl
      refine ⟨A.at_, A.go, A.whn, fun a b c d ht => ?_, A.cnd, A.cln, A.chg, fun q hq => ?_⟩
      · obtain ⟨t1, t2, t3, t4⟩ := A.tak a b c d ht
        refine ⟨t1, ?_, by rw [hpr]; exact t2, t3, t4⟩
        rw [hnm]
        obtain ⟨r', hr', er⟩ := List.mem_map.mp t2
        have := (r2 r' hr').one
        have e1 : r'.one = b := congrArg Prod.fst er
        rwa [e1] at this
      · obtain ⟨t1, t2, t3⟩ := A.snd q hq
        refine ⟨t1, t2, t3.imp id fun t => ⟨t.1, ?_, by rw [hpr]; exact t.2⟩⟩
        rw [hnm]
        obtain ⟨r', hr', er⟩ := List.mem_map.mp t.2
        have := (r2 r' hr').other
        have e1 : r'.other = q.2.2.2 := congrArg Prod.snd er
        rwa [e1] at this
  · have : (mkP fs SS rs ws).fams.map (·.many) = fs.map (·.many) := by
      unfold mkP
      rw [List.map_map]
      have : (fs.zip SS).map ((fun f : Fam => f.many) ∘ fun q => q.1.full q.2) = ((fs.zip SS).map (·.1)).map (·.many) := by rw [List.map_map]; rfl
      rw [this, hz1]
    rw [this]; exact f4
  · obtain ⟨k1, j, f, ss, a1, a2, a3, s, a4, a5⟩ := w2 w hw
    refine ⟨k1, f.full ss, ?_, a3, ?_⟩
    · exact List.mem_map.mpr ⟨(f, ss), List.mem_of_getElem? (i := j) (List.getElem?_zip_eq_some.mpr ⟨a1, a2⟩), rfl⟩
    · exact List.mem_map.mpr ⟨s, a4, a5⟩
theorem plan_ok {n : Nat} {μ : List Cell} {ns : List Int} (hns : ns.length ≤ 63) {mm : Int} (hM : 0 ≤ mm) : ∃ p : Pln, callF (n + 6) 23 [scr ns, .int mm] μ = .ok p.d μ ∧ GPln p ∧ Ok 40 p.d ∧ (∀ f ∈ p.fams, f.steps.length ≤ 8 ∧ ∀ m, blw m f.d = true) := by
  obtain ⟨fs, x, k1, e1, f1, f2, f3, f4, f5, f6⟩ := first_ok (n := n + 1) (μ := μ ++ At 0 :: []) hns (h := μ.length) (by simp) (k := 0) (by omega) (by omega) hM
  rw [setA, setA] at e1
  have hL1 : (μ ++ At 0 :: []).length = μ.length + 1 := by simp
  rw [hL1] at e1
  have e1 : callF (n + 5) 19 [scr ns, .ref μ.length, .int mm] (μ ++ [At 0]) = .ok (.ref (μ.length + 1)) (μ ++ At k1 :: .lst (famsD (μ.length + 2) fs) :: List.replicate fs.length (.lst [])) := by simpa using e1
  have hfl : 0 < fs.length ∧ fs.length ≤ 4 := by omega
  have hnO : ∀ f ∈ fs, Nm f.nm := fun f hf => by
    have : f.nm ∈ fs.map (·.nm) := List.mem_map_of_mem hf
    rw [f2] at this
    exact (nms_Nm (by omega) this).1
  have hfok : ∀ f ∈ fs, FOk f := fun f hf => (f3 f hf).fok (hnO f hf).okl
  obtain ⟨rs, k2, e2, r1, r2, r3, r4, r5⟩ := roads_ok (n := n + 2) (μ := μ ++ At 0 :: .lst (famsD (μ.length + 2) fs) :: List.replicate fs.length (.lst [])) hns (h := μ.length) (fr := μ.length + 1) (b := μ.length + 2) (by simp) (fs := fs) (fun a => by
    rw [setA]
    have := getA (μ := μ ++ [a]) (c := .lst (famsD (μ.length + 2) fs)) (R := List.replicate fs.length (.lst []))
    rw [List.length_append, List.length_singleton] at this
    simpa using this) (by simp) hfl (fun f hf => (hnO f hf).okl) (k := k1) (by omega) (by omega)
  rw [setA, setA] at e2
  have nmO : ∀ l ∈ fs.map (·.nm), Okl l := fun l hl => by
    obtain ⟨f, hf, rfl⟩ := List.mem_map.mp hl
    exact (hnO f hf).okl
  have hro : ∀ r ∈ rs, Okl r.one ∧ Okl r.other := fun r hr => ⟨nmO _ (r2 r hr).one, nmO _ (r2 r hr).other⟩
  obtain ⟨SS, left, y7, y8, k3, e3, s1, s2, s3, s4⟩ := fams_loop (n := n) (μ := μ) hns (mm := mm) r1 hro (w := μ.length + 2 + fs.length) hfl.2 hfok (k := k2) (by omega) (by omega) (WC := .lst [])
  obtain ⟨x2, hx2, e4⟩ := next_ok (n := n + 3) (μ := μ ++ At 0 :: .lst (famsD (μ.length + 2) fs) :: (SS.map stC ++ [.lst []])) hns (h := μ.length) (by simp) (k := k3) (by omega) (by omega)
  rw [setA, setA] at e4
  obtain ⟨ws, sl, k5, ⟨z7, z8, z9, z10, rfl⟩, e5, w1, w2⟩ := wish_loop (n := n) (μ := μ) hns (mm := mm) hro hfl.1 hfok s1 s2 (left := left) (t := (x2 % 7).toNat) (by omega) (k := k3 + 1) (by omega) (by omega) (y7 := y7) (y8 := y8)
  have G := gpln f2 hfl f3 f4 r1 r2 r3 s1 s2 (by omega) w2
  have hpl : ∀ ss ∈ SS, ss.length ≤ 8 ∧ ∀ s ∈ ss, Ok 20 s.d := fun ss hss => by
    obtain ⟨j, hj, ej⟩ := List.getElem_of_mem hss
    have hj2 : j < fs.length := by omega
    have S := s2 j fs[j] ss (List.getElem?_eq_getElem hj2) (by rw [List.getElem?_eq_getElem hj, ej])
    refine ⟨S.len, fun s hs => ?_⟩
    obtain ⟨q, hq1, hq2⟩ := List.getElem_of_mem hs
    exact ok_stp (hfok _ (List.getElem_mem hj2)) hro (by have := S.len; omega) (S.all q s (by rw [List.getElem?_eq_getElem hq1, hq2]))
  have hokF : ∀ f ∈ (mkP fs SS rs ws).fams, f.steps.length ≤ 8 ∧ Ok 38 f.d := fun f hf => by
    obtain ⟨q, hq, rfl⟩ := List.mem_map.mp hf
    obtain ⟨hq1, hq2⟩ := List.of_mem_zip (a := q.1) (b := q.2) hq
    have F := hfok q.1 hq1
    obtain ⟨p1, p2⟩ := hpl q.2 hq2
    refine ⟨p1, ok_tup fun e he => ?_⟩
    simp only [List.mem_cons, List.not_mem_nil, or_false] at he
    rcases he with rfl | rfl | rfl | rfl | rfl | rfl
    · exact ok_str F.nm
    · exact ok_int
    · exact (ok_strs (k := 0) F.rO).mono (by decide)
    · refine (ok_lst (k := 1) fun e he => ?_).mono (by decide)
      obtain ⟨c, hc, rfl⟩ := List.mem_map.mp he
      refine ok_tup fun e he => ?_
      simp only [List.mem_cons, List.not_mem_nil, or_false] at he
      rcases he with rfl | rfl | rfl | rfl
      · exact ok_str (F.cl.2.2 _ (List.mem_map_of_mem hc))
      · exact ok_int
      · exact ok_int
      · exact ok_int
    · exact (ok_strs (k := 0) F.wO).mono (by decide)
    · refine (ok_lst (k := 20) fun e he => ?_).mono (by decide)
      obtain ⟨s, hs, rfl⟩ := List.mem_map.mp he
      exact p2 s hs
  have hokR : Ok 39 (.lst (rs.map Rod.d)) := (ok_lst (k := 1) fun e he => by
    obtain ⟨r, hr, rfl⟩ := List.mem_map.mp he
    refine ok_tup fun e he => ?_
    simp only [List.mem_cons, List.not_mem_nil, or_false] at he
    rcases he with rfl | rfl | rfl | rfl | rfl | rfl
    · exact ok_str (hro r hr).1
    · exact ok_str (hro r hr).2
    · refine ok_str ?_
      rcases (r2 r hr).kind with z | z <;> rw [z] <;> exact okl_of (by decide +kernel)
    · exact ok_int
    · exact ok_bl
    · exact ok_bl).mono (by decide)
  have hokW : Ok 39 (.lst (ws.map Wsh.d)) := (ok_lst (k := 1) fun e he => by
    obtain ⟨w, hw, rfl⟩ := List.mem_map.mp he
    obtain ⟨k1, j, f, ss, a1, a2, a3, s, a4, a5⟩ := w2 w hw
    have hs : ∃ q : Nat, ss[q]? = some s := by
      obtain ⟨q, hq1, hq2⟩ := List.getElem_of_mem a4
      exact ⟨q, by rw [List.getElem?_eq_getElem hq1, hq2]⟩
    obtain ⟨q, hq⟩ := hs
    have S := s2 j f ss a1 a2
    have hq8 : q < 8 := by have := (List.getElem?_eq_some_iff.mp hq).1; have := S.len; omega
    refine ok_tup fun e he => ?_
    simp only [List.mem_cons, List.not_mem_nil, or_false] at he
    rcases he with rfl | rfl | rfl
    · refine ok_str ?_
      rcases k1 with z | z <;> rw [z] <;> exact okl_of (by decide +kernel)
    · rw [← a3]; exact ok_str (hnO f (List.mem_of_getElem? a1)).okl
    · rw [← a5, (S.all q s hq).nm]; exact ok_str (nm_Nm hq8 7).okl).mono (by decide)
  have hokP : Ok 40 (mkP fs SS rs ws).d := ok_tup fun e he => by
    simp only [List.mem_cons, List.not_mem_nil, or_false] at he
    rcases he with rfl | rfl | rfl
    · exact ok_lst fun e he => by
        obtain ⟨f, hf, rfl⟩ := List.mem_map.mp he
        exact (hokF f hf).2
    · exact hokR
    · exact hokW
  refine ⟨mkP fs SS rs ws, ?_, G, hokP, fun f hf => ⟨(hokF f hf).1, fun m => (hokF f hf).2.blw⟩⟩
  show DL.runF 11 (b23 (callF (n + 5))) _ μ = _
  have hF : ∀ (k : Int) (X : List Cell), (μ ++ At k :: .lst (famsD (μ.length + 2) fs) :: X)[μ.length + 1]? = some (.lst (famsD (μ.length + 2) fs)) := fun k X => by
    have := getA (μ := μ ++ [At k]) (c := .lst (famsD (μ.length + 2) fs)) (R := X)
    rw [List.length_append, List.length_singleton] at this
    simpa using this
  have hL8 : 8 ≤ LIM := by decide
  have e6 : b23_c1 (callF (n + 5)) ⟨[some (scr ns), some (.int mm), some (.ref μ.length), some (.ref (μ.length + 1)), some (.lst (rs.map Rod.d)), some (.int left), some (.ref (μ.length + 2 + fs.length)), z7, z8, z9, z10], μ ++ At k5 :: .lst (famsD (μ.length + 2) fs) :: (SS.map stC ++ [.lst (ws.map Wsh.d)])⟩ = _ := lcX_cel (c := false) (vs := [7]) (t := .nm 7) (k := iterM (varM 3)) (te := b23_e0 (callF (n + 5))) (ρ1 := ⟨[some (scr ns), some (.int mm), some (.ref μ.length), some (.ref (μ.length + 1)), some (.lst (rs.map Rod.d)), some (.int left), some (.ref (μ.length + 2 + fs.length)), z7, z8, z9, z10], μ ++ At k5 :: .lst (famsD (μ.length + 2) fs) :: (SS.map stC ++ [.lst (ws.map Wsh.d)])⟩) (xs := fs.zipIdx (μ.length + 2)) (nn := μ.length + 1) (fun p => p.1.dr p.2) tupF (by simp [LIM, runB, startSl, MS.seq, SOut.bind, M.thn, Out.bindS, M.bind, Out.bind, M.pure, varM, setS, setSl, nextS, ifS, M.andM, M.tb, M.bl, cmpM, cmpP, peek, c_lt, c_le, c_gt, c_ge, c_nn, c_eqi, binM, b_add, b_addt, b_sub, b_fdiv, b_mod, b_pow, optM, lenM, pkM, lenD, flatD, iterM, itM, forQ, consM, tupM, capM, lstM, newL, idxM, idxD, callM, addM, addD, bin2M, m_int, sliceM, partM, isTupD, un1M, tupD, sumD, listM, meth1M, isLst, appendM, isCell, putC, setIxS, setIx, isNonD, minD, maxD, Tg.go, Tg.gos, tgS, enumM, range1M, range2M, M.frz, frzM, M.noX, Out.noX, chainM, stepM, hF]) (by rw [← famsD_zip]; exact hF _ _) (by simp; omega) (fun p hp => ⟨_, [some (scr ns), some (.int mm), some (.ref μ.length), some (.ref (μ.length + 1)), some (.lst (rs.map Rod.d)), some (.int left), some (.ref (μ.length + 2 + fs.length)), some (p.1.dr p.2), z8, z9, z10], rfl, by
    have ed : p.1.dr p.2 = .lst [.str p.1.nm, .int p.1.many, .lst (tx p.1.rooms), .lst (p.1.cells.map Cel.d), .lst (tx p.1.whos), .ref p.2] := rfl
    rw [ed]
    simp [LIM, runB, startSl, MS.seq, SOut.bind, M.thn, Out.bindS, M.bind, Out.bind, M.pure, varM, setS, setSl, nextS, ifS, M.andM, M.tb, M.bl, cmpM, cmpP, peek, c_lt, c_le, c_gt, c_ge, c_nn, c_eqi, binM, b_add, b_addt, b_sub, b_fdiv, b_mod, b_pow, optM, lenM, pkM, lenD, flatD, iterM, itM, forQ, consM, tupM, capM, lstM, newL, idxM, idxD, callM, addM, addD, bin2M, m_int, sliceM, partM, isTupD, un1M, tupD, sumD, listM, meth1M, isLst, appendM, isCell, putC, setIxS, setIx, isNonD, minD, maxD, Tg.go, Tg.gos, tgS, enumM, range1M, range2M, M.frz, frzM, M.noX, Out.noX, chainM, stepM, b23_e0, wipeL, tupF]⟩)
  have e7 : frzD 64 (.tup [.lst ((fs.zipIdx (μ.length + 2)).map tupF), .lst (rs.map Rod.d), .ref (μ.length + 2 + fs.length)]) (μ ++ At k5 :: .lst (famsD (μ.length + 2) fs) :: (SS.map stC ++ [.lst (ws.map Wsh.d)])) = some ((mkP fs SS rs ws).d, μ ++ (At k5 :: .lst (famsD (μ.length + 2) fs) :: (List.replicate SS.length .dead ++ [.dead]))) := by
    have e8 := frz_fams fs SS (μ ++ [At k5, .lst (famsD (μ.length + 2) fs)]) [.lst (ws.map Wsh.d)] 61 (μ.length + 2) (by simp) s1.symm (fun ss hss => ⟨(hpl ss hss).1, fun s hs => ((hpl ss hss).2 s hs).blw⟩) (by omega)
    have e9 : μ ++ [At k5, .lst (famsD (μ.length + 2) fs)] ++ (SS.map stC ++ [Cell.lst (ws.map Wsh.d)]) = μ ++ At k5 :: .lst (famsD (μ.length + 2) fs) :: (SS.map stC ++ [.lst (ws.map Wsh.d)]) := by simp
    rw [e9] at e8
    have hnL : blw 0 (.lst ((fs.zipIdx (μ.length + 2)).map tupF)) = false := by
      cases hfs : fs with
      | nil => rw [hfs] at hfl; simp at hfl
      | cons f fs' =>
        rw [List.zipIdx_cons, List.map_cons, blw, blws]
        have : blw 0 (tupF (f, μ.length + 2)) = false := by
          unfold tupF
          rw [blw, blws, blws, blws, blws, blws, blws, blw, blw, blw, blw]
          simp
        rw [this]; rfl
    have e10 : frzD 62 (.lst ((fs.zipIdx (μ.length + 2)).map tupF)) (μ ++ At k5 :: .lst (famsD (μ.length + 2) fs) :: (SS.map stC ++ [.lst (ws.map Wsh.d)])) = some (.lst ((fs.zip SS).map fun q => (q.1.full q.2).d), μ ++ [At k5, .lst (famsD (μ.length + 2) fs)] ++ (List.replicate SS.length .dead ++ [.lst (ws.map Wsh.d)])) := by
      rw [show (62 : Nat) = 61 + 1 from rfl]
      unfold frzD
      rw [hnL]
      simp only [Bool.false_eq_true, if_false]
      rw [e8]; rfl
    have e11 := frz_lastK 60 (ν := μ ++ [At k5, .lst (famsD (μ.length + 2) fs)] ++ List.replicate SS.length .dead) (R := []) (m := μ.length + 2 + fs.length) (by simp [s1]; omega) (ds := ws.map Wsh.d) (fun d hd => by obtain ⟨w, _, rfl⟩ := List.mem_map.mp hd; rfl) (by simp; omega)
    have e12 := frzL_snoc [.lst (rs.map Rod.d)] 62 (d := .ref (μ.length + 2 + fs.length)) (fun e he => by
      obtain rfl : e = _ := by simpa using he
      exact hokR.blw) (by simp) e11
    have e13 : μ ++ [At k5, .lst (famsD (μ.length + 2) fs)] ++ (List.replicate SS.length .dead ++ [Cell.lst (ws.map Wsh.d)]) = μ ++ [At k5, .lst (famsD (μ.length + 2) fs)] ++ List.replicate SS.length .dead ++ .lst (ws.map Wsh.d) :: [] := by simp
    rw [e13] at e10
    have e12 : frzL 62 [.lst (rs.map Rod.d), .ref (μ.length + 2 + fs.length)] _ = _ := e12
    rw [show (64 : Nat) = 63 + 1 from rfl]
    unfold frzD
    have hn : blw 0 (.tup [.lst ((fs.zipIdx (μ.length + 2)).map tupF), .lst (rs.map Rod.d), .ref (μ.length + 2 + fs.length)]) = false := by rw [blw, blws, hnL]; rfl
    rw [hn]
    simp only [Bool.false_eq_true, if_false]
    rw [show (63 : Nat) = 62 + 1 from rfl]
    unfold frzL
    rw [e10]
    dsimp only
    rw [e12]
    simp only [Option.map_some, Option.some.injEq, Prod.mk.injEq, List.singleton_append]
    refine ⟨?_, by simp⟩
    show _ = DL.D.tup [.lst (((fs.zip SS).map fun q => q.1.full q.2).map Fam.d), .lst (rs.map Rod.d), .lst (ws.map Wsh.d)]
    rw [List.map_map]; rfl
  refine runF_pure (junk := At k5 :: .lst (famsD (μ.length + 2) fs) :: (List.replicate SS.length .dead ++ [.dead])) ?_ hokP.blw
  unfold forQ at e3
  unfold stC at e3 e4 e5 e6 e7
  simp only [List.map_nil] at e3
  have hw : μ.length + 2 + fs.length = μ.length + (fs.length + 1 + 1) := by omega
  rw [hw] at e3 e5 e6 e7
  have g1 : -4611686018427387904 ≤ x2 % 7 := by omega
  have g2 : x2 % 7 < 4611686018427387904 := by omega
  generalize (mkP fs SS rs ws).d = PD at *
  generalize famsD (μ.length + 2) fs = FD at *
  generalize (fs.zipIdx (μ.length + 2)).map tupF = TF at *
  simp [LIM, runB, startSl, MS.seq, SOut.bind, M.thn, Out.bindS, M.bind, Out.bind, M.pure, varM, setS, setSl, nextS, ifS, M.andM, M.tb, M.bl, cmpM, cmpP, peek, c_lt, c_le, c_gt, c_ge, c_nn, c_eqi, binM, b_add, b_addt, b_sub, b_fdiv, b_mod, b_pow, optM, lenM, pkM, lenD, flatD, iterM, itM, forQ, consM, tupM, capM, lstM, newL, idxM, idxD, callM, addM, addD, bin2M, m_int, sliceM, partM, isTupD, un1M, tupD, sumD, listM, meth1M, isLst, appendM, isCell, putC, setIxS, setIx, isNonD, Tg.go, Tg.gos, tgS, enumM, range1M, range2M, M.frz, frzM, M.noX, Out.noX, chainM, stepM, b23, e1, e2, e3, e4, e5, e6, e7, hF, g1, g2]
theorem law_plain (n : Nat) (hn : 20 ≤ n) : Plain n := fun ns hns => by
  obtain ⟨m, rfl⟩ : ∃ m, n = m + 12 := ⟨n - 12, by omega⟩
  obtain ⟨x, e1⟩ := at_ok (n := m + 11) (μ := []) hns (k := 0) (by omega)
  obtain ⟨y, hy, e2⟩ := mix_ok (n := m + 11) (μ := []) (x := x) (k := 1) (by omega) (by omega)
  obtain ⟨p, e3, G, O, B⟩ := plan_ok (n := m + 6) (μ := []) hns (mm := y) hy
  have e4 := copy_ok (n := m + 11) (μ := []) (p := p) G.len.2.1 B (fun k => O.blw)
  have e5 := check_plan_ok (n := m) (μ := []) G
  have e6 := eq_self O (by decide)
  have e7 : cmpD .isN .non .non = some true := rfl
  refine ⟨[], ?_⟩
  show DL.runF 3 (b25 (callF (m + 12))) _ [] = _
  refine runF_pure0 ?_ rfl
  obtain ⟨d1, d2, d3, hd⟩ : ∃ d1 d2 d3, p.d = .tup [d1, d2, d3] := ⟨_, _, _, rfl⟩
  rw [hd] at e3 e4 e5 e6
  simp [LIM, runB, startSl, MS.seq, SOut.bind, M.thn, Out.bindS, M.bind, Out.bind, M.pure, varM, setS, setSl, nextS, ifS, M.andM, M.tb, M.bl, cmpM, cmpP, peek, c_lt, c_le, c_gt, c_ge, c_nn, c_eqi, binM, b_add, b_addt, b_sub, b_fdiv, b_mod, b_pow, optM, lenM, pkM, lenD, flatD, iterM, itM, forQ, consM, tupM, capM, lstM, newL, idxM, idxD, callM, addM, addD, bin2M, m_int, sliceM, partM, isTupD, un1M, tupD, sumD, listM, meth1M, isLst, appendM, isCell, putC, setIxS, setIx, isNonD, Tg.go, Tg.gos, tgS, enumM, range1M, range2M, M.frz, frzM, M.noX, Out.noX, chainM, stepM, b25, e1, e2, e3, e4, e5, e6, e7]
end K10

theorem PySem.Challenge.cw_roadsall_k10_plans_let_by_holds : PySem.Challenge.rw_roadsall_k10_plans_let_by.Holds :=
  K10.done 20 ⟨rfl, by decide, by decide⟩ (K10.law_plain 20 (by omega))
#print axioms PySem.Challenge.cw_roadsall_k10_plans_let_by_holds
