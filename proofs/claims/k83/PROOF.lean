import PyProof.Rows.All
import Wide.All
import OpenK.AllK
import Wide.FinOn
import HandS.ForMost
import HandS.ForExc
import HandS.TryMany
import HandS.Flow
import HandS.Wide
import HandS.TupAny
import HandS.Conv
import HandS.ExcCtx
import HandS.TupMul
import HandS.IsInst
import HandS.ExcIs
import HandS.Deep
import KE.DataMinMax
import HandS.SortKw
import HandS.Strs
import HandS.Hot
import HandS.HotCalls
import HandS.ExcBuiltin
import PySem.Challenge.RW_boughswap_k83_things_counted_up_to_a_siz
set_option Elab.async false
set_option linter.all false
set_option maxRecDepth 100000
set_option maxHeartbeats 4000000
namespace Y
open PySem PySem.Spec PyProof.Rows L2
abbrev St := L2.St

/-- a value with its data: frozen tuples, lists and instances are told whole; ref: an object of the store, a def, a class -/
inductive D where
  | non | bl (b : Bool) | int (i : Int) | str (x : Str) | tup (ds : List D) | lst (ds : List D)
  | obj (C : Addr) (ns : List Str) (ds : List D) | ref (a : Addr) | ty (n : String)
  | exc (a : Addr) (c : Value) (d : Option Addr) (ns : List Str) (ds : List D)

theorem sameT {K : PySem.W.Frag} {H H' : Hp} {a : Addr} {xs : List V} (e : Same H H') (h : SqT K H a xs) : SqT K H' a xs := by
  rcases h with (h | ⟨o, h⟩) | h
  · exact .inl (.inl (e _ _ h))
  · exact .inl (.inr ⟨o, e _ _ h⟩)
  · exact .inr h

theorem sameL {K : PySem.W.Frag} {H H' : Hp} {a : Addr} {xs : List V} (e : Same H H') (h : SqL K H a xs) : SqL K H' a xs := by
  rcases h with (h | ⟨o, h⟩) | h
  · exact .inl (.inl (e _ _ h))
  · exact .inl (.inr ⟨o, e _ _ h⟩)
  · exact .inr h
theorem sameRd {H H' : Hp} {a : Addr} {u : HO} (e : Same H H') (h : Rd H a u) : Rd H' a u := by
  rcases h with h | ⟨o, h⟩
  · exact .inl (e _ _ h)
  · exact .inr ⟨o, e _ _ h⟩

mutual
inductive Rp (K : PySem.W.Frag) (G : Hp) : V → D → Prop
  | non : Rp K G .non .non
  | bl (b : Bool) : Rp K G (.bl b) (.bl b)
  | int (i : Int) : Rp K G (.int i) (.int i)
  | str (x : Str) : Rp K G (.str x) (.str x)
  | ty (n : String) : Rp K G (.ty n) (.ty n)
  | ref (a : Addr) : Rp K G (.ref a) (.ref a)
  | lst {a : Addr} {xs : List V} {ds : List D} : SqL K G a xs → RpAll K G xs ds → Rp K G (.ref a) (.lst ds)
  | tup {a : Addr} {xs : List V} {ds : List D} : SqT K G a xs → RpAll K G xs ds → Rp K G (.ref a) (.tup ds)
  | obj {a C dx : Addr} {ns : List Str} {xs : List V} {ds : List D} : G a = some (.ins C dx (ns.zip xs)) → ns.length = xs.length → RpAll K G xs ds → Rp K G (.ref a) (.obj C ns ds)
  | exc0 {a : Addr} {c : Value} : Rp K G (.ref a) (.exc a c none [] [])
  | exc1 {a d : Addr} {c : Value} {ns : List Str} {xs : List V} {ds : List D} : G d = some (.xd (ns.zip xs)) → ns.length = xs.length → RpAll K G xs ds → Rp K G (.ref a) (.exc a c (some d) ns ds)
inductive RpAll (K : PySem.W.Frag) (G : Hp) : List V → List D → Prop
  | nil : RpAll K G [] []
  | cons {v : V} {vs : List V} {d : D} {ds : List D} : Rp K G v d → RpAll K G vs ds → RpAll K G (v :: vs) (d :: ds)
end

section
variable {K : PySem.W.Frag} {G G' G1 G2 H H' : Hp}
mutual
theorem Rp.mono (e : Same G G') : ∀ {v : V} {d : D}, Rp K G v d → Rp K G' v d
  | _, _, .non => .non
  | _, _, .bl b => .bl b
  | _, _, .int b => .int b
  | _, _, .str b => .str b
  | _, _, .ty b => .ty b
  | _, _, .ref b => .ref b
  | _, _, .lst h r => .lst (sameL e h) (RpAll.mono e r)
  | _, _, .tup h r => .tup (sameT e h) (RpAll.mono e r)
  | _, _, .obj h l r => .obj (e _ _ h) l (RpAll.mono e r)
  | _, _, .exc0 => .exc0
  | _, _, .exc1 h l r => .exc1 (e _ _ h) l (RpAll.mono e r)
theorem RpAll.mono (e : Same G G') : ∀ {vs : List V} {ds : List D}, RpAll K G vs ds → RpAll K G' vs ds
  | _, _, .nil => .nil
  | _, _, .cons h r => .cons (h.mono e) (r.mono e)
end
theorem RpAll.length : ∀ {vs : List V} {ds : List D}, RpAll K G vs ds → vs.length = ds.length
  | _, _, .nil => rfl
  | _, _, .cons _ r => by rw [List.length_cons, List.length_cons, r.length]
theorem RpAll.get : ∀ {vs : List V} {ds : List D} {i : Nat} {d : D}, RpAll K G vs ds → ds[i]? = some d → ∃ v, vs[i]? = some v ∧ Rp K G v d
  | _, _, _, _, .nil, e => by simp at e
  | _, _, 0, _, .cons r _, e => by simp at e; subst e; exact ⟨_, rfl, r⟩
  | _, _, i + 1, _, .cons _ t, e => RpAll.get (i := i) t (by simpa using e)
theorem RpAll.getV : ∀ {vs : List V} {ds : List D} {i : Nat} {v : V}, RpAll K G vs ds → vs[i]? = some v → ∃ d, ds[i]? = some d ∧ Rp K G v d
  | _, _, _, _, .nil, e => by simp at e
  | _, _, 0, _, .cons r _, e => by simp at e; subst e; exact ⟨_, rfl, r⟩
  | _, _, i + 1, _, .cons _ t, e => RpAll.getV (i := i) t (by simpa using e)
theorem RpAll.append : ∀ {vs ws : List V} {ds es : List D}, RpAll K G vs ds → RpAll K G ws es → RpAll K G (vs ++ ws) (ds ++ es)
  | _, _, _, _, .nil, s => s
  | _, _, _, _, .cons r t, s => .cons r (t.append s)
theorem RpAll.take : ∀ {vs : List V} {ds : List D} (n : Nat), RpAll K G vs ds → RpAll K G (vs.take n) (ds.take n)
  | _, _, 0, _ => .nil
  | _, _, _ + 1, .nil => .nil
  | _, _, n + 1, .cons r t => .cons r (t.take n)
theorem RpAll.drop : ∀ {vs : List V} {ds : List D} (n : Nat), RpAll K G vs ds → RpAll K G (vs.drop n) (ds.drop n)
  | _, _, 0, r => r
  | _, _, _ + 1, .nil => .nil
  | _, _, n + 1, .cons _ t => t.drop n
theorem RpAll.set {v : V} {d : D} (r : Rp K G v d) : ∀ {vs : List V} {ds : List D} (i : Nat), RpAll K G vs ds → RpAll K G (vs.set i v) (ds.set i d)
  | _, _, _, .nil => .nil
  | _, _, 0, .cons _ t => .cons r t
  | _, _, i + 1, .cons q t => .cons q (t.set r i)
theorem RpAll.reverse : ∀ {vs : List V} {ds : List D}, RpAll K G vs ds → RpAll K G vs.reverse ds.reverse
  | _, _, .nil => .nil
  | _, _, .cons r t => by
    rw [List.reverse_cons, List.reverse_cons]
    exact t.reverse.append (.cons r .nil)
theorem RpAll.dropLast {vs : List V} {ds : List D} (h : RpAll K G vs ds) : RpAll K G vs.dropLast ds.dropLast := by
  rw [List.dropLast_eq_take, List.dropLast_eq_take, h.length]; exact h.take _
theorem RpAll.replicate {v : V} {d : D} (r : Rp K G v d) : ∀ n : Nat, RpAll K G (List.replicate n v) (List.replicate n d)
  | 0 => .nil
  | n + 1 => .cons r (RpAll.replicate r n)
theorem RpAll.ints : ∀ {ns : List Int} {vs : List V}, RpAll K G vs (ns.map D.int) → vs = ns.map V.int
  | [], _, h => by cases h; rfl
  | n :: ns, _, h => by
    cases h with
    | cons r t =>
      cases r
      rw [RpAll.ints t]; rfl
theorem RpAll.of_ints : ∀ (ns : List Int), RpAll K G (ns.map V.int) (ns.map D.int)
  | [] => .nil
  | n :: ns => .cons (.int n) (RpAll.of_ints ns)
theorem RpAll.strs : ∀ {ns : List Str} {vs : List V}, RpAll K G vs (ns.map D.str) → vs = ns.map V.str
  | [], _, h => by cases h; rfl
  | n :: ns, _, h => by
    cases h with
    | cons r t =>
      cases r
      rw [RpAll.strs t]; rfl
theorem RpAll.of_strs : ∀ (ns : List Str), RpAll K G (ns.map V.str) (ns.map D.str)
  | [] => .nil
  | n :: ns => .cons (.str n) (RpAll.of_strs ns)
theorem RpAll.bls : ∀ {ns : List Bool} {vs : List V}, RpAll K G vs (ns.map D.bl) → vs = ns.map V.bl
  | [], _, h => by cases h; rfl
  | n :: ns, _, h => by
    cases h with
    | cons r t =>
      cases r
      rw [RpAll.bls t]; rfl
end

/-! ### the store of what may change -/
inductive SO where
  | lst (ds : List D)
  | dK (kvs : List (Key × D))
  | dT (kvs : List (List Key × D))
  | ins (C : Addr) (fs : List (Str × D))
abbrev Sto := Addr → Option SO
def sup (S : Sto) (a : Addr) (o : SO) : Sto := fun b => if b = a then some o else S b
def sdel (S : Sto) (a : Addr) : Sto := fun b => if b = a then none else S b
theorem sup_same {S : Sto} {a : Addr} {o : SO} : sup S a o a = some o := by unfold sup; rw [if_pos rfl]
theorem sup_ne {S : Sto} {a b : Addr} {o : SO} (h : b ≠ a) : sup S a o b = S b := by unfold sup; rw [if_neg h]
theorem sup_sup {S : Sto} {a : Addr} {o u : SO} : sup (sup S a o) a u = sup S a u := by funext b; unfold sup; split <;> rfl
theorem sdel_same {S : Sto} {a : Addr} : sdel S a a = none := by unfold sdel; rw [if_pos rfl]
theorem sdel_ne {S : Sto} {a b : Addr} (h : b ≠ a) : sdel S a b = S b := by unfold sdel; rw [if_neg h]
theorem sne {S : Sto} {a b : Addr} {o : SO} (h : S a = some o) (h' : S b = none) : a ≠ b := by
  intro e; subst e; rw [h] at h'; cases h'

section
variable (K : PySem.W.Frag)
def KVs {κ : Type} (G : Hp) : List (κ × V) → List (κ × D) → Prop := Paired fun (p : κ × V) (q : κ × D) => p.1 = q.1 ∧ Rp K G p.2 q.2
inductive RpO (G : Hp) : HO → SO → Prop
  | lst {xs : List V} {ds : List D} : RpAll K G xs ds → RpO G (.lst xs) (.lst ds)
  | dK {kvs : List (Key × V)} {ds : List (Key × D)} : KVs K G kvs ds → RpO G (.dK kvs) (.dK ds)
  | dT {kvs : List (List Key × V)} {ds : List (List Key × D)} : KVs K G kvs ds → RpO G (.dT kvs) (.dT ds)
  | ins {C dx : Addr} {fs : List (Str × V)} {ds : List (Str × D)} : KVs K G fs ds → RpO G (.ins C dx fs) (.ins C ds)
structure SR (F G : Hp) (S : Sto) (H : Hp) : Prop where
  sub : Same G H
  mu : ∀ a so, S a = some so → G a = none ∧ ∃ o, H a = some o ∧ RpO K G o so
  fr : Same F H
  fg : ∀ a o, F a = some o → G a = none
  fs : ∀ a o, F a = some o → S a = none
def RpSt (G : Hp) (σ : St) (ρ : List (Option D)) : Prop := σ.length = ρ.length ∧ ∀ (i : Nat) d, ρ[i]? = some (some d) → ∃ v, σ[i]? = some (some v) ∧ Rp K G v d
/-- an exception: its class, whether it has a dict of its own, the fields there -/
structure Ex2 where
  cls : Value
  own : Bool
  ns : List Str
  ds : List D
def XR (G : Hp) (c : Value) (dx : Option Addr) (x : Ex2) : Prop := x.cls = c ∧ match dx with
  | none => x.own = false ∧ x.ns = [] ∧ x.ds = []
  | some d => x.own = true ∧ ∃ xs, G d = some (.xd (x.ns.zip xs)) ∧ x.ns.length = xs.length ∧ RpAll K G xs x.ds
end

section
variable {K : PySem.W.Frag} {F G G' : Hp} {S : Sto} {H : Hp} {σ : St} {ρ : List (Option D)}
theorem KVs.mono {κ : Type} (e : Same G G') : ∀ {a : List (κ × V)} {b : List (κ × D)}, KVs K G a b → KVs K G' a b := fun h => Paired.mapP h fun _ _ ⟨x, y⟩ => ⟨x, y.mono e⟩
theorem RpO.mono (e : Same G G') {o : HO} {so : SO} (h : RpO K G o so) : RpO K G' o so := by
  cases h with
  | lst h => exact .lst (h.mono e)
  | dK h => exact .dK (h.mono e)
  | dT h => exact .dT (h.mono e)
  | ins h => exact .ins (h.mono e)
theorem RpSt.mono (e : Same G G') (h : RpSt K G σ ρ) : RpSt K G' σ ρ := ⟨h.1, fun i d hd => let ⟨v, a, b⟩ := h.2 i d hd; ⟨v, a, b.mono e⟩⟩
theorem XR.mono {c : Value} {dx : Option Addr} {x : Ex2} (e : Same G G') (h : XR K G c dx x) : XR K G' c dx x := by
  refine ⟨h.1, ?_⟩
  have h2 := h.2
  cases dx with
  | none => exact h2
  | some d =>
    obtain ⟨o, xs, a, b, c⟩ := h2
    exact ⟨o, xs, e _ _ a, b, c.mono e⟩
/-- the exception as a value at a -/
theorem XR.rp {c : Value} {dx : Option Addr} {x : Ex2} (a : Addr) (h : XR K G c dx x) : Rp K G (.ref a) (.exc a c dx x.ns x.ds) := by
  have h2 := h.2
  cases dx with
  | none => obtain ⟨_, e1, e2⟩ := h2; rw [e1, e2]; exact .exc0
  | some d =>
    obtain ⟨_, xs, g, l, r⟩ := h2
    exact .exc1 g l r
theorem RpSt.set {v : V} {d : D} (h : RpSt K G σ ρ) (r : Rp K G v d) (i : Nat) : RpSt K G (σ.set i (some v)) (ρ.set i (some d)) := by
  refine ⟨by simp [h.1], fun j e he => ?_⟩
  by_cases hj : i = j
  · subst hj
    rw [List.getElem?_set] at he
    by_cases hl : i < ρ.length
    · simp only [if_pos rfl, if_pos hl] at he
      simp at he; subst he
      refine ⟨v, ?_, r⟩
      rw [List.getElem?_set]; simp [h.1, hl]
    · rw [if_pos rfl, if_neg hl] at he; cases he
  · rw [List.getElem?_set_ne hj] at he
    obtain ⟨w, a, b⟩ := h.2 j e he
    exact ⟨w, by rw [List.getElem?_set_ne hj]; exact a, b⟩
/-- a frozen object laid -/
theorem Same.laid {a : Addr} {o : HO} (n : G a = none) : Same G (upd G a o) := fun b u h => by rw [upd_ne (ne_of_none h n)]; exact h
theorem SR.gfree (R : SR K F G S H) {a : Addr} (n : H a = none) : G a = none := by
  cases e : G a with
  | none => rfl
  | some o => rw [R.sub _ _ e] at n; cases n
theorem SR.sfree (R : SR K F G S H) {a : Addr} (n : H a = none) : S a = none := by
  cases e : S a with
  | none => rfl
  | some o => obtain ⟨_, u, h, _⟩ := R.mu a o e; rw [h] at n; cases n
theorem SR.ffree (R : SR K F G S H) {a : Addr} (n : H a = none) : F a = none := by
  cases e : F a with
  | none => rfl
  | some o => rw [R.fr _ _ e] at n; cases n
theorem SR.fof (R : SR K F G S H) {a : Addr} {so : SO} (n : S a = some so) : F a = none := by
  cases e : F a with
  | none => rfl
  | some o => rw [R.fs _ _ e] at n; cases n
theorem SR.laid (R : SR K F G S H) {a : Addr} {o : HO} (n : H a = none) : SR K F (upd G a o) S (upd H a o) := by
  refine ⟨fun b u h => ?_, fun b so h => ?_, fun b u h => ?_, fun b u h => ?_, R.fs⟩
  · by_cases hb : b = a
    · subst hb; rw [upd_same] at h ⊢; exact h
    · rw [upd_ne hb] at h ⊢; exact R.sub _ _ h
  · obtain ⟨g, u, hu, r⟩ := R.mu b so h
    have hb : b ≠ a := ne_of_none hu n
    exact ⟨by rw [upd_ne hb]; exact g, u, by rw [upd_ne hb]; exact hu, r.mono (Same.laid (R.gfree n))⟩
  · rw [upd_ne (ne_of_none h (R.ffree n))]; exact R.fr _ _ h
  · rw [upd_ne (ne_of_none h (R.ffree n))]; exact R.fg _ _ h
/-- a new object of the store -/
theorem SR.new (R : SR K F G S H) {a : Addr} {o : HO} {so : SO} (n : H a = none) (r : RpO K G o so) : SR K F G (sup S a so) (upd H a o) := by
  refine ⟨fun b u h => ?_, fun b so' h => ?_, fun b u h => ?_, R.fg, fun b u h => ?_⟩
  · rw [upd_ne (ne_of_none h (R.gfree n))]; exact R.sub _ _ h
  · by_cases hb : b = a
    · subst hb; rw [sup_same] at h; cases h
      exact ⟨R.gfree n, o, upd_same, r⟩
    · rw [sup_ne hb] at h
      obtain ⟨g, u, hu, r'⟩ := R.mu b so' h
      exact ⟨g, u, by rw [upd_ne hb]; exact hu, r'⟩
  · rw [upd_ne (ne_of_none h (R.ffree n))]; exact R.fr _ _ h
  · rw [sup_ne (ne_of_none h (R.ffree n))]; exact R.fs _ _ h
/-- an object of the store changed -/
theorem SR.write (R : SR K F G S H) {a : Addr} {o : HO} {so so0 : SO} (n : S a = some so0) (r : RpO K G o so) : SR K F G (sup S a so) (upd H a o) := by
  obtain ⟨ga, _⟩ := R.mu a so0 n
  have fa := R.fof n
  refine ⟨fun b u h => ?_, fun b so' h => ?_, fun b u h => ?_, R.fg, fun b u h => ?_⟩
  · rw [upd_ne (ne_of_none h ga)]; exact R.sub _ _ h
  · by_cases hb : b = a
    · subst hb; rw [sup_same] at h; cases h
      exact ⟨ga, o, upd_same, r⟩
    · rw [sup_ne hb] at h
      obtain ⟨g, u, hu, r'⟩ := R.mu b so' h
      exact ⟨g, u, by rw [upd_ne hb]; exact hu, r'⟩
  · rw [upd_ne (ne_of_none h fa)]; exact R.fr _ _ h
  · rw [sup_ne (ne_of_none h fa)]; exact R.fs _ _ h
/-- an object of the store is frozen -/
theorem SR.freeze (R : SR K F G S H) {a : Addr} {o : HO} (e : H a = some o) (ga : G a = none) (fa : F a = none) : SR K F (upd G a o) (sdel S a) H := by
  refine ⟨fun b u h => ?_, fun b so' h => ?_, R.fr, fun b u h => ?_, fun b u h => ?_⟩
  · by_cases hb : b = a
    · subst hb; rw [upd_same] at h; cases h; exact e
    · rw [upd_ne hb] at h; exact R.sub _ _ h
  · by_cases hb : b = a
    · subst hb; rw [sdel_same] at h; cases h
    · rw [sdel_ne hb] at h
      obtain ⟨g, u, hu, r'⟩ := R.mu b so' h
      exact ⟨by rw [upd_ne hb]; exact g, u, hu, r'.mono (Same.laid ga)⟩
  · rw [upd_ne (ne_of_none h fa)]; exact R.fg _ _ h
  · rw [sdel_ne (ne_of_none h fa)]; exact R.fs _ _ h
theorem SR.drop (R : SR K F G S H) {S' : Sto} (h : ∀ a so, S' a = some so → S a = some so) : SR K F G S' H := ⟨R.sub, fun a so e => R.mu a so (h a so e), R.fr, R.fg, fun a o e => by
  cases q : S' a with
  | none => rfl
  | some so => exact absurd (h a so q) (by rw [R.fs a o e]; intro z; cases z)⟩
/-- an object of the store is put aside -/
theorem SR.aside (R : SR K F G S H) {a : Addr} {o : HO} (e : H a = some o) (ga : G a = none) (sa : S a = none) : SR K (upd F a o) G S H := by
  refine ⟨R.sub, R.mu, fun b u h => ?_, fun b u h => ?_, fun b u h => ?_⟩
  · by_cases hb : b = a
    · subst hb; rw [upd_same] at h; cases h; exact e
    · rw [upd_ne hb] at h; exact R.fr _ _ h
  · by_cases hb : b = a
    · subst hb; exact ga
    · rw [upd_ne hb] at h; exact R.fg _ _ h
  · by_cases hb : b = a
    · subst hb; exact sa
    · rw [upd_ne hb] at h; exact R.fs _ _ h
theorem SR.back (R : SR K (upd F a o) G S H) (fa : F a = none) : SR K F G S H :=
  ⟨R.sub, R.mu, fun b u h => R.fr b u (by rw [upd_ne (ne_of_none h fa)]; exact h), fun b u h => R.fg b u (by rw [upd_ne (ne_of_none h fa)]; exact h), fun b u h => R.fs b u (by rw [upd_ne (ne_of_none h fa)]; exact h)⟩
end

/-! ### readings over data -/
abbrev Rho := List (Option D)
abbrev QK := D → Sto → Prop
abbrev EK := Ex2 → Sto → Prop
abbrev TE2 := Rho → Sto → QK → EK → Prop
abbrev TT2 := Rho → Sto → (Bool → Sto → Prop) → EK → Prop
abbrev TA2 := Rho → Sto → (List D → Sto → Prop) → EK → Prop
structure Ends2 where
  nx : Rho → Sto → Prop
  rt : QK
  bk : Rho → Sto → Prop
  ct : Rho → Sto → Prop
  xc : Ex2 → Rho → Sto → Prop
abbrev TS2 := Ends2 → Rho → Sto → Prop

section
variable (K : PySem.W.Frag)
def QT (F G : Hp) (Q2 : QK) (Q : VK) : Prop := ∀ v H' G' d S', Same G G' → SR K F G' S' H' → Rp K G' v d → Q2 d S' → Q v H'
def BT (F G : Hp) (Q2 : Bool → Sto → Prop) (Q : Bool → Hp → Prop) : Prop := ∀ b H' G' S', Same G G' → SR K F G' S' H' → Q2 b S' → Q b H'
def AT (F G : Hp) (Q2 : List D → Sto → Prop) (Q : List V → Hp → Prop) : Prop := ∀ vs H' G' ds S', Same G G' → SR K F G' S' H' → RpAll K G' vs ds → Q2 ds S' → Q vs H'
def XT (F G : Hp) (σ : St) (E2 : EK) (W : WX) : Prop := ∀ c dx H' G' x S', Same G G' → SR K F G' S' H' → XR K G' c dx x → E2 x S' → W c dx σ H'
def NT (F G : Hp) (N2 : Rho → Sto → Prop) (N : St → Hp → Prop) : Prop := ∀ σ' H' G' ρ' S', Same G G' → SR K F G' S' H' → RpSt K G' σ' ρ' → N2 ρ' S' → N σ' H'
def lo (W : WX) (T : TE2) : TE := fun σ H Q => ∃ F G ρ S Q2 E2, SR K F G S H ∧ RpSt K G σ ρ ∧ T ρ S Q2 E2 ∧ QT K F G Q2 Q ∧ XT K F G σ E2 W
def loT (W : WX) (T : TT2) : TT := fun σ H Q => ∃ F G ρ S Q2 E2, SR K F G S H ∧ RpSt K G σ ρ ∧ T ρ S Q2 E2 ∧ BT K F G Q2 Q ∧ XT K F G σ E2 W
def loA (W : WX) (T : TA2) : TA := fun σ H Q => ∃ F G ρ S Q2 E2, SR K F G S H ∧ RpSt K G σ ρ ∧ T ρ S Q2 E2 ∧ AT K F G Q2 Q ∧ XT K F G σ E2 W
structure DT (F G : Hp) (W : WX) (D2 : Ends2) (Dn : Ends) : Prop where
  nx : NT K F G D2.nx Dn.nx
  rt : QT K F G D2.rt Dn.rt
  bk : NT K F G D2.bk Dn.bk
  ct : NT K F G D2.ct Dn.ct
  xc : ∀ c dx σ' H' G' x ρ' S', Same G G' → SR K F G' S' H' → RpSt K G' σ' ρ' → XR K G' c dx x → D2.xc x ρ' S' → W c dx σ' H'
def loS (W : WX) (T : TS2) : TS := fun Dn σ H => ∃ F G ρ S D2, SR K F G S H ∧ RpSt K G σ ρ ∧ T D2 ρ S ∧ DT K F G W D2 Dn
end
section
variable {K : PySem.W.Frag} {F G G' : Hp} {σ : St} {W : WX}
theorem QT.le {Q2 : QK} {Q : VK} (e : Same G G') (h : QT K F G Q2 Q) : QT K F G' Q2 Q := fun v H' G1 d S' e1 => h v H' G1 d S' (e.trans e1)
theorem BT.le {Q2 : Bool → Sto → Prop} {Q : Bool → Hp → Prop} (e : Same G G') (h : BT K F G Q2 Q) : BT K F G' Q2 Q := fun v H' G1 S' e1 => h v H' G1 S' (e.trans e1)
theorem AT.le {Q2 : List D → Sto → Prop} {Q : List V → Hp → Prop} (e : Same G G') (h : AT K F G Q2 Q) : AT K F G' Q2 Q := fun v H' G1 d S' e1 => h v H' G1 d S' (e.trans e1)
theorem XT.le {E2 : EK} (e : Same G G') (h : XT K F G σ E2 W) : XT K F G' σ E2 W := fun c dx H' G1 x S' e1 => h c dx H' G1 x S' (e.trans e1)
theorem NT.le {N2 : Rho → Sto → Prop} {N : St → Hp → Prop} (e : Same G G') (h : NT K F G N2 N) : NT K F G' N2 N := fun v H' G1 d S' e1 => h v H' G1 d S' (e.trans e1)
theorem DT.le {D2 : Ends2} {Dn : Ends} (e : Same G G') (h : DT K F G W D2 Dn) : DT K F G' W D2 Dn :=
  ⟨h.nx.le e, h.rt.le e, h.bk.le e, h.ct.le e, fun c dx σ' H' G1 x ρ' S' e1 => h.xc c dx σ' H' G1 x ρ' S' (e.trans e1)⟩
theorem DT.xt {D2 : Ends2} {Dn : Ends} {ρ : Rho} (h : DT K F G W D2 Dn) (r : RpSt K G σ ρ) : XT K F G σ (fun x S => D2.xc x ρ S) W :=
  fun c dx H' G1 x S' e1 s xr q => h.xc c dx σ H' G1 x ρ S' e1 s (r.mono e1) xr q
end

def PE2 (X : Cx) (W : WX) (e : Expr) (T : TE2) : Prop := PE X e (lo X.K W T)
def PT2 (X : Cx) (W : WX) (e : Expr) (T : TT2) : Prop := PT X e (loT X.K W T)
def PW2 (X : Cx) (W : WX) (e : Expr) (T : TT2) : Prop := PW X e (loT X.K W T)
def PA2 (X : Cx) (W : WX) (es : List Expr) (T : TA2) : Prop := PA X es (loA X.K W T)
def PS2 (X : Cx) (W : WX) (st : Stmt) (T : TS2) : Prop := PS X st (loS X.K W T)
def PSs2 (X : Cx) (W : WX) (st : List Stmt) (T : TS2) : Prop := PSs X st (loS X.K W T)

theorem pe_w {X : Cx} {e : Expr} {t t' : TE} (h : PE X e t) (k : ∀ σ H Q, t' σ H Q → t σ H Q) : PE X e t' := ⟨fun pins s σ H Q I q => h.run pins s σ H Q I (k σ H Q q)⟩
theorem pt_w {X : Cx} {e : Expr} {t t' : TT} (h : PT X e t) (k : ∀ σ H Q, t' σ H Q → t σ H Q) : PT X e t' := ⟨fun pins s σ H Q I q => h.run pins s σ H Q I (k σ H Q q)⟩
theorem pw_w {X : Cx} {e : Expr} {t t' : TT} (h : PW X e t) (k : ∀ σ H Q, t' σ H Q → t σ H Q) : PW X e t' := ⟨fun wh pins s σ H Q I q => h.run wh pins s σ H Q I (k σ H Q q)⟩
theorem pa_w {X : Cx} {e : List Expr} {t t' : TA} (h : PA X e t) (k : ∀ σ H Q, t' σ H Q → t σ H Q) : PA X e t' := ⟨fun pos pins s σ H Q I q => h.run pos pins s σ H Q I (k σ H Q q)⟩
theorem ps_w {X : Cx} {e : Stmt} {t t' : TS} (h : PS X e t) (k : ∀ D σ H, t' D σ H → t D σ H) : PS X e t' := ⟨fun pins s σ H D I q => h.run pins s σ H D I (k D σ H q)⟩
theorem pss_w {X : Cx} {e : List Stmt} {t t' : TS} (h : PSs X e t) (k : ∀ D σ H, t' D σ H → t D σ H) : PSs X e t' := ⟨fun pins s σ H D I q => h.run pins s σ H D I (k D σ H q)⟩

/-! ### names, constants -/
section
variable {X : Cx} {W : WX} {pos : Pos}
def eVar (i : Nat) : TE2 := fun ρ S Q _ => ∃ d, ρ[i]? = some (some d) ∧ Q d S
def eC (d : D) : TE2 := fun _ S Q _ => Q d S
theorem e_var (i : Nat) {x : Str} (hN : X.N[i]? = some x := by rfl) (hv : Vis X.env.scope x := by first | exact Or.inl rfl | exact Or.inr (Or.inl rfl) | exact Or.inr (Or.inr rfl))
    (hd : (x == ("__debug__" : Str)) = false := by decide +kernel) (hcd : (x == ("__classdict__" : Str)) = false := by decide +kernel) : PE2 X W (.Name x pos) (eVar i) :=
  pe_w (pe_var hN hv hd hcd) fun σ H Q ⟨F, G, ρ, S, Q2, E2, R, rs, ⟨d, hd, q⟩, qt, xt⟩ => by
    obtain ⟨v, hv, r⟩ := rs.2 i d hd
    exact ⟨v, hv, qt v H G d S (Same.refl _) R r q⟩
theorem e_c {e : Expr} {v : V} {d : D} (h : PE X e (tC v)) (r : ∀ K G, Rp K G v d) : PE2 X W e (eC d) :=
  pe_w h fun σ H Q ⟨F, G, ρ, S, Q2, E2, R, rs, q, qt, xt⟩ => qt v H G d S (Same.refl _) R (r _ _) q
theorem e_int {i j} : PE2 X W (.Constant (.int i) j pos) (eC (.int i)) := e_c pe_int fun _ _ => .int i
theorem e_bl {i j} : PE2 X W (.Constant (.bool i) j pos) (eC (.bl i)) := e_c pe_bl fun _ _ => .bl i
theorem e_non {j} : PE2 X W (.Constant .none j pos) (eC .non) := e_c pe_non fun _ _ => .non
theorem e_str {i j} : PE2 X W (.Constant (.str i) j pos) (eC (.str i)) := e_c pe_str fun _ _ => .str i
theorem e_glob {x : Str} {v : V} {u : Value} {d : D} (hg : Gl X x) (hm : X.mg x = some u) (r : RelV v u) (rd : ∀ K G, Rp K G v d) (hd : (x == ("__debug__" : Str)) = false := by decide +kernel) : PE2 X W (.Name x pos) (eC d) := e_c (pe_glob hg hm r hd) rd
end
end Y
set_option Elab.async false
set_option linter.all false
set_option maxRecDepth 100000
set_option maxHeartbeats 4000000
namespace Y
open PySem PySem.Spec PyProof.Rows L2

/-! ### fresh lists -/
section
variable {K : PySem.W.Frag} {F G G' : Hp} {S : Sto} {H : Hp}
theorem SR.freezeN (R : SR K F G S H) {a : Addr} {o : HO} (e : H a = some o) (ga : G a = none) (sa : S a = none) (fa : F a = none) : SR K F (upd G a o) S H := by
  refine ⟨fun b u h => ?_, fun b so' h => ?_, R.fr, fun b u h => ?_, R.fs⟩
  · by_cases hb : b = a
    · subst hb; rw [upd_same] at h; cases h; exact e
    · rw [upd_ne hb] at h; exact R.sub _ _ h
  · have hb : b ≠ a := sne h sa
    obtain ⟨g, u, hu, r'⟩ := R.mu b so' h
    exact ⟨by rw [upd_ne hb]; exact g, u, hu, r'.mono (Same.laid ga)⟩
  · rw [upd_ne (ne_of_none h fa)]; exact R.fg _ _ h
theorem SR.adopt (R : SR K F G S H) {a : Addr} {o : HO} {so : SO} (e : H a = some o) (ga : G a = none) (fa : F a = none) (r : RpO K G o so) : SR K F G (sup S a so) H := by
  refine ⟨R.sub, fun b so' h => ?_, R.fr, R.fg, fun b u h => ?_⟩
  · by_cases hb : b = a
    · subst hb; rw [sup_same] at h; cases h; exact ⟨ga, o, e, r⟩
    · rw [sup_ne hb] at h; exact R.mu b so' h
  · rw [sup_ne (ne_of_none h fa)]; exact R.fs _ _ h
theorem SR.grow (R : SR K F G S H) {a : Addr} {o : HO} (n : H a = none) : SR K F G S (upd H a o) := by
  refine ⟨fun b u h => ?_, fun b so h => ?_, fun b u h => ?_, R.fg, R.fs⟩
  · rw [upd_ne (ne_of_none h (R.gfree n))]; exact R.sub _ _ h
  · obtain ⟨g, u, hu, r⟩ := R.mu b so h
    exact ⟨g, u, by rw [upd_ne (ne_of_none hu n)]; exact hu, r⟩
  · rw [upd_ne (ne_of_none h (R.ffree n))]; exact R.fr _ _ h
end
section
variable (K : PySem.W.Frag)
def LT (F G : Hp) (Q2 : List D → Sto → Prop) (Q : VK) : Prop := ∀ p vs H' G' ds S', Same G G' → SR K F G' S' H' → H' p = some (.lst vs) → G' p = none → S' p = none → F p = none → RpAll K G' vs ds → Q2 ds S' → Q (.ref p) H'
def loL (W : WX) (T : TA2) : TE := fun σ H Q => ∃ F G ρ S Q2 E2, SR K F G S H ∧ RpSt K G σ ρ ∧ T ρ S Q2 E2 ∧ LT K F G Q2 Q ∧ XT K F G σ E2 W
end
theorem LT.le {K : PySem.W.Frag} {F G G' : Hp} {Q2 : List D → Sto → Prop} {Q : VK} (e : Same G G') (h : LT K F G Q2 Q) : LT K F G' Q2 Q := fun p vs H' G1 d S' e1 => h p vs H' G1 d S' (e.trans e1)
/-- e makes a new list of these -/
def PL2 (X : Cx) (W : WX) (e : Expr) (T : TA2) : Prop := PE X e (loL X.K W T)
/-- .. where HandS lays a new list -/
theorem LT.new {K : PySem.W.Frag} {F G : Hp} {S : Sto} {H : Hp} {Q2 : List D → Sto → Prop} {Q : VK} (h : LT K F G Q2 Q) (R : SR K F G S H) {vs : List V} {ds : List D} (r : RpAll K G vs ds) (q : Q2 ds S) : ∀ p, H p = none → Q (.ref p) (upd H p (.lst vs)) :=
  fun p hp => h p vs _ G ds S (Same.refl _) (R.grow hp) upd_same (R.gfree hp) (R.sfree hp) (R.ffree hp) r q
theorem QT.tup {K : PySem.W.Frag} {F G : Hp} {S : Sto} {H : Hp} {Q2 : QK} {Q : VK} (h : QT K F G Q2 Q) (R : SR K F G S H) {vs : List V} {ds : List D} (r : RpAll K G vs ds) (q : Q2 (.tup ds) S) : ∀ p, H p = none → Q (.ref p) (upd H p (.tup vs)) :=
  fun p hp => h (.ref p) _ (upd G p (.tup vs)) (.tup ds) S (Same.laid (R.gfree hp)) (R.laid hp) (.tup (SqT.of upd_same) (r.mono (Same.laid (R.gfree hp)))) q

/-! ### what a list, a tuple holds -/
def lstOf (S : Sto) : D → Option (List D)
  | .lst xs => some xs
  | .ref a => match S a with
    | some (.lst xs) => some xs
    | _ => none
  | _ => none
def seqOf (S : Sto) : D → Option (List D)
  | .tup xs => some xs
  | d => lstOf S d
section
variable {K : PySem.W.Frag} {F G : Hp} {S : Sto} {H : Hp} {v : V} {d : D} {ds : List D}
theorem lstOf_ref {a : Addr} (h : S a = some (.lst ds)) : lstOf S (.ref a) = some ds := by unfold lstOf; simp only [h]
theorem lstOf_inv (h : lstOf S d = some ds) : d = .lst ds ∨ ∃ a, d = .ref a ∧ S a = some (.lst ds) := by
  cases d with
  | lst xs => left; cases h; rfl
  | ref a =>
    right
    refine ⟨a, rfl, ?_⟩
    unfold lstOf at h
    simp only at h
    split at h
    · rename_i xs e; cases h; exact e
    · cases h
  | _ => cases h
theorem lst_rd (R : SR K F G S H) (r : Rp K G v d) (h : lstOf S d = some ds) : ∃ p vs, v = .ref p ∧ SqL K H p vs ∧ RpAll K G vs ds := by
  rcases lstOf_inv h with rfl | ⟨a, rfl, e⟩
  · cases r with
    | lst q ra => exact ⟨_, _, rfl, sameL R.sub q, ra⟩
  · cases r
    obtain ⟨_, o, ho, ro⟩ := R.mu a _ e
    cases ro with
    | lst ra => exact ⟨a, _, rfl, .inl (.inl ho), ra⟩
theorem lst_sq (R : SR K F G S H) (r : Rp K G v d) (h : lstOf S d = some ds) : ∃ p vs, v = .ref p ∧ SqL K H p vs ∧ RpAll K G vs ds := by
  obtain ⟨p, vs, e, q, ra⟩ := lst_rd R r h
  exact ⟨p, vs, e, q, ra⟩
theorem tup_sq (R : SR K F G S H) (r : Rp K G v (.tup ds)) : ∃ p vs, v = .ref p ∧ SqT K H p vs ∧ RpAll K G vs ds := by
  cases r with
  | tup q ra => exact ⟨_, _, rfl, sameT R.sub q, ra⟩
theorem seqOf_inv (h : seqOf S d = some ds) : d = .tup ds ∨ lstOf S d = some ds := by
  cases d with
  | tup xs => left; cases h; rfl
  | _ => exact .inr h
end
section
variable {X : Cx} {pins : List (Addr × Obj)} {σ : St} {H : Hp} {s : Shared}
theorem rd_list (I : Inv X pins σ H s) {a : Addr} {xs : List V} (h : Rd H a (.lst xs)) : xs.length ≤ sizeLine ∧ ∃ (its : List Value) (n : Nat), Vals xs its ∧ xs.length = its.length ∧ s.heap.get? a = some { cls := .type "list", data := .seq its.toArray n } := by
  obtain ⟨z, its, n, r, e⟩ := h.ok I.hok
  exact ⟨z, its, n, r, r.length, e⟩
end

/-! ### arguments, displays -/
section
variable {X : Cx} {W : WX} {e : Expr} {es : List Expr} {pos : Pos} {Ta Tb : TE2} {T : TA2}
def aNil : TA2 := fun _ S Q _ => Q [] S
def aCons (ta : TE2) (tr : TA2) : TA2 := fun ρ S Q E => ta ρ S (fun x S1 => tr ρ S1 (fun xs S2 => Q (x :: xs) S2) E) E
theorem a_nil : PA2 X W [] aNil := pa_w pa_nil fun σ H Q ⟨F, G, ρ, S, Q2, E2, R, rs, q, at_, xt⟩ => at_ [] H G [] S (Same.refl _) R .nil q
theorem a_cons (ha : PE2 X W e Ta) (hr : PA2 X W es T) (hs : starEach (e :: es) X.env = (false, eval e X.env) :: starEach es X.env := by rfl) : PA2 X W (e :: es) (aCons Ta T) :=
  pa_w (pa_cons ha hr hs) fun σ H Q ⟨F, G, ρ, S, Q2, E2, R, rs, q, at_, xt⟩ =>
    ⟨F, G, ρ, S, _, E2, R, rs, q, fun v H1 G1 d S1 e1 R1 r1 q1 => ⟨F, G1, ρ, S1, _, E2, R1, rs.mono e1, q1, fun vs H2 G2 ds S2 e2 R2 r2 q2 => at_ (v :: vs) H2 G2 (d :: ds) S2 (e1.trans e2) R2 (.cons (r1.mono e2) r2) q2, xt.le e1⟩, xt⟩
def eTup (t : TA2) : TE2 := fun ρ S Q E => t ρ S (fun xs S1 => xs.length ≤ sizeLine ∧ Q (.tup xs) S1) E
def lDisp (t : TA2) : TA2 := fun ρ S Q E => t ρ S (fun xs S1 => xs.length ≤ sizeLine ∧ Q xs S1) E
theorem e_tup {x1} (h : PA2 X W es T) : PE2 X W (.Tuple es x1 pos) (eTup T) :=
  pe_w (pe_tup h) fun σ H Q ⟨F, G, ρ, S, Q2, E2, R, rs, q, qt, xt⟩ => ⟨F, G, ρ, S, _, E2, R, rs, q, fun vs H1 G1 ds S1 e1 R1 r1 ⟨hl, q1⟩ =>
    ⟨by rw [r1.length]; exact hl, (qt.le e1).tup R1 r1 q1⟩, xt⟩
theorem l_disp (h : PA2 X W es T) : PL2 X W (.List es pos) (lDisp T) :=
  pe_w (pe_lst h) fun σ H Q ⟨F, G, ρ, S, Q2, E2, R, rs, q, qt, xt⟩ => ⟨F, G, ρ, S, _, E2, R, rs, q, fun vs H1 G1 ds S1 e1 R1 r1 ⟨hl, q1⟩ =>
    ⟨by rw [r1.length]; exact hl, (qt.le e1).new R1 r1 q1⟩, xt⟩
/-- a new list as a frozen one, as one of the store -/
def eFr (t : TA2) : TE2 := fun ρ S Q E => t ρ S (fun ds S' => Q (.lst ds) S') E
def eMu (t : TA2) : TE2 := fun ρ S Q E => t ρ S (fun ds S' => ∀ p, S' p = none → Q (.ref p) (sup S' p (.lst ds))) E
theorem fr_imp {K : PySem.W.Frag} {T : TA2} {σ : St} {H : Hp} {Q : VK} (h : lo K W (eFr T) σ H Q) : loL K W T σ H Q := by
  obtain ⟨F, G, ρ, S, Q2, E2, R, rs, q, qt, xt⟩ := h
  exact ⟨F, G, ρ, S, _, E2, R, rs, q, fun p vs H' G' ds S' e R' hp gp sp fp ra q' =>
    qt (.ref p) H' (upd G' p (.lst vs)) (.lst ds) S' (e.trans (Same.laid gp)) (R'.freezeN hp gp sp fp) (.lst (.inl (.inl upd_same)) (ra.mono (Same.laid gp))) q', xt⟩
theorem mu_imp {K : PySem.W.Frag} {T : TA2} {σ : St} {H : Hp} {Q : VK} (h : lo K W (eMu T) σ H Q) : loL K W T σ H Q := by
  obtain ⟨F, G, ρ, S, Q2, E2, R, rs, q, qt, xt⟩ := h
  exact ⟨F, G, ρ, S, _, E2, R, rs, q, fun p vs H' G' ds S' e R' hp gp sp fp ra q' =>
    qt (.ref p) H' G' (.ref p) _ e (R'.adopt hp gp fp (.lst ra)) (.ref p) (q' p sp), xt⟩
theorem e_fr (h : PL2 X W e T) : PE2 X W e (eFr T) := pe_w h fun _ _ _ q => fr_imp q
theorem e_mu (h : PL2 X W e T) : PE2 X W e (eMu T) := pe_w h fun _ _ _ q => mu_imp q
end

/-! ### operators by data -/
abbrev R2D := D → D → Sto → QK → Prop
section
variable (K : PySem.W.Frag)
def loR (r : R2D) : R2 := fun x y H Q => ∃ F G S d e Q2, SR K F G S H ∧ Rp K G x d ∧ Rp K G y e ∧ r d e S Q2 ∧ QT K F G Q2 Q
def loRL (r : D → D → Sto → (List D → Sto → Prop) → Prop) : R2 := fun x y H Q => ∃ F G S d e Q2, SR K F G S H ∧ Rp K G x d ∧ Rp K G y e ∧ r d e S Q2 ∧ LT K F G Q2 Q
def loC (r : List D → Sto → QK → Prop) : List V → Hp → VK → Prop := fun xs H Q => ∃ F G S ds Q2, SR K F G S H ∧ RpAll K G xs ds ∧ r ds S Q2 ∧ QT K F G Q2 Q
def loCL (r : List D → Sto → (List D → Sto → Prop) → Prop) : List V → Hp → VK → Prop := fun xs H Q => ∃ F G S ds Q2, SR K F G S H ∧ RpAll K G xs ds ∧ r ds S Q2 ∧ LT K F G Q2 Q
def loM (r : D → List D → Sto → QK → Prop) : V → List V → Hp → VK → Prop := fun x xs H Q => ∃ F G S d ds Q2, SR K F G S H ∧ Rp K G x d ∧ RpAll K G xs ds ∧ r d ds S Q2 ∧ QT K F G Q2 Q
def loML (r : D → List D → Sto → (List D → Sto → Prop) → Prop) : V → List V → Hp → VK → Prop := fun x xs H Q => ∃ F G S d ds Q2, SR K F G S H ∧ Rp K G x d ∧ RpAll K G xs ds ∧ r d ds S Q2 ∧ LT K F G Q2 Q
end
def eOp (r : R2D) (ta tb : TE2) : TE2 := fun ρ S Q E => ta ρ S (fun x S1 => tb ρ S1 (fun y S2 => r x y S2 Q) E) E
def lOp (r : D → D → Sto → (List D → Sto → Prop) → Prop) (ta tb : TE2) : TA2 := fun ρ S Q E => ta ρ S (fun x S1 => tb ρ S1 (fun y S2 => r x y S2 Q) E) E
section
variable {X : Cx} {W : WX} {a b c : Expr} {pos : Pos} {Ta Tb Tc : TE2}
theorem tOp_of {r : R2D} {σ : St} {H : Hp} {Q : VK} (h : lo X.K W (eOp r Ta Tb) σ H Q) : tOp (loR X.K r) (lo X.K W Ta) (lo X.K W Tb) σ H Q := by
  obtain ⟨F, G, ρ, S, Q2, E2, R, rs, q, qt, xt⟩ := h
  exact ⟨F, G, ρ, S, _, E2, R, rs, q, fun v H1 G1 d S1 e1 R1 r1 q1 => ⟨F, G1, ρ, S1, _, E2, R1, rs.mono e1, q1, fun v2 H2 G2 d2 S2 e2 R2 r2 q2 => ⟨F, G2, S2, d, d2, Q2, R2, r1.mono e2, r2, q2, qt.le (e1.trans e2)⟩, xt.le e1⟩, xt⟩
theorem tOpL_of {r : D → D → Sto → (List D → Sto → Prop) → Prop} {σ : St} {H : Hp} {Q : VK} (h : loL X.K W (lOp r Ta Tb) σ H Q) : tOp (loRL X.K r) (lo X.K W Ta) (lo X.K W Tb) σ H Q := by
  obtain ⟨F, G, ρ, S, Q2, E2, R, rs, q, qt, xt⟩ := h
  exact ⟨F, G, ρ, S, _, E2, R, rs, q, fun v H1 G1 d S1 e1 R1 r1 q1 => ⟨F, G1, ρ, S1, _, E2, R1, rs.mono e1, q1, fun v2 H2 G2 d2 S2 e2 R2 r2 q2 => ⟨F, G2, S2, d, d2, Q2, R2, r1.mono e2, r2, q2, qt.le (e1.trans e2)⟩, xt.le e1⟩, xt⟩
theorem e_op {op : Operator} {r : R2D} (ho : OpR X (binaryOp op) (loR X.K r)) (ha : PE2 X W a Ta) (hb : PE2 X W b Tb) : PE2 X W (.BinOp a op b pos) (eOp r Ta Tb) := pe_w (pe_op ho ha hb) fun _ _ _ h => tOp_of h
theorem l_op {op : Operator} {r : D → D → Sto → (List D → Sto → Prop) → Prop} (ho : OpR X (binaryOp op) (loRL X.K r)) (ha : PE2 X W a Ta) (hb : PE2 X W b Tb) : PL2 X W (.BinOp a op b pos) (lOp r Ta Tb) := pe_w (pe_op ho ha hb) fun _ _ _ h => tOpL_of h
theorem e_cmp {op : CmpOp} {r : R2D} (ho : OpR X (compareOp op) (loR X.K r)) (ha : PE2 X W a Ta) (hb : PE2 X W b Tb) (hm : behindInMarks op b = false) : PE2 X W (.Compare a [op] [b] pos) (eOp r Ta Tb) := pe_w (pe_cmpR ho ha hb hm) fun _ _ _ h => tOp_of h
/-- an expression that gives a truth, as a test -/
def tBl (t : TE2) : TT2 := fun ρ S Q E => t ρ S (fun x S1 => ∃ k, x = .bl k ∧ Q k S1) E
theorem t_cmp {op : CmpOp} {r : R2D} (ho : OpR X (compareOp op) (loR X.K r)) (ha : PE2 X W a Ta) (hb : PE2 X W b Tb) (hm : behindInMarks op b = false) : PT2 X W (.Compare a [op] [b] pos) (tBl (eOp r Ta Tb)) :=
  pt_w (pt_cmpR ho ha hb hm) fun σ H Q ⟨F, G, ρ, S, Q2, E2, R, rs, q, qt, xt⟩ => tOp_of ⟨F, G, ρ, S, _, E2, R, rs, q, fun v H1 G1 d S1 e1 R1 r1 ⟨k, hk, q1⟩ => by
    subst hk; cases r1; exact ⟨k, rfl, qt k H1 G1 S1 e1 R1 q1⟩, xt⟩
/-- a op b op c -/
def eChain (r r' : R2D) (ta tb tc : TE2) : TE2 := fun ρ S Q E => ta ρ S (fun x S1 => tb ρ S1 (fun y S2 => r x y S2 fun z S3 => ∃ k, z = .bl k ∧ (if k = true then tc ρ S3 (fun w S4 => r' y w S4 Q) E else Q (.bl false) S3)) E) E
theorem tChain_of {r r' : R2D} {σ : St} {H : Hp} {Q : VK} (h : lo X.K W (eChain r r' Ta Tb Tc) σ H Q) : tChain (loR X.K r) (loR X.K r') (lo X.K W Ta) (lo X.K W Tb) (lo X.K W Tc) σ H Q := by
  obtain ⟨F, G, ρ, S, Q2, E2, R, rs, q, qt, xt⟩ := h
  refine ⟨F, G, ρ, S, _, E2, R, rs, q, fun v H1 G1 d S1 e1 R1 r1 q1 => ⟨F, G1, ρ, S1, _, E2, R1, rs.mono e1, q1, fun v2 H2 G2 d2 S2 e2 R2 r2 q2 => ⟨F, G2, S2, d, d2, _, R2, r1.mono e2, r2, q2, fun v3 H3 G3 d3 S3 e3 R3 r3 ⟨k, hk, q3⟩ => ?_⟩, xt.le e1⟩, xt⟩
  subst hk; cases r3
  refine ⟨k, rfl, ?_⟩
  cases k with
  | false =>
    have q3' : Q2 (.bl false) S3 := by simpa using q3
    simp only [Bool.false_eq_true, if_false]
    exact qt (.bl false) H3 G3 (.bl false) S3 ((e1.trans e2).trans e3) R3 (.bl false) q3'
  | true =>
    simp only [if_true] at q3 ⊢
    exact ⟨F, G3, ρ, S3, _, E2, R3, rs.mono ((e1.trans e2).trans e3), q3, fun v4 H4 G4 d4 S4 e4 R4 r4 q4 => ⟨F, G4, S4, d2, d4, Q2, R4, (r2.mono e3).mono e4, r4, q4, qt.le (((e1.trans e2).trans e3).trans e4)⟩, xt.le ((e1.trans e2).trans e3)⟩
theorem e_chain {op op' : CmpOp} {r r' : R2D} (ho : OpR X (compareOp op) (loR X.K r)) (ho' : OpR X (compareOp op') (loR X.K r')) (ha : PE2 X W a Ta) (hb : PE2 X W b Tb) (hc : PE2 X W c Tc)
    (hm : lastMarks [op, op'] [b, c] = false := by with_unfolding_all rfl) : PE2 X W (.Compare a [op, op'] [b, c] pos) (eChain r r' Ta Tb Tc) := pe_w (pe_chain ho ho' ha hb hc hm) fun _ _ _ h => tChain_of h
theorem t_chain {op op' : CmpOp} {r r' : R2D} (ho : OpR X (compareOp op) (loR X.K r)) (ho' : OpR X (compareOp op') (loR X.K r')) (ha : PE2 X W a Ta) (hb : PE2 X W b Tb) (hc : PE2 X W c Tc)
    (hm : lastMarks [op, op'] [b, c] = false := by with_unfolding_all rfl) : PT2 X W (.Compare a [op, op'] [b, c] pos) (tBl (eChain r r' Ta Tb Tc)) :=
  pt_w (pt_chain ho ho' ha hb hc hm) fun σ H Q ⟨F, G, ρ, S, Q2, E2, R, rs, q, qt, xt⟩ => tChain_of ⟨F, G, ρ, S, _, E2, R, rs, q, fun v H1 G1 d S1 e1 R1 r1 ⟨k, hk, q1⟩ => by
    subst hk; cases r1; exact ⟨k, rfl, qt k H1 G1 S1 e1 R1 q1⟩, xt⟩
end

/-! ### truth -/
def truOf (S : Sto) : D → Option Bool
  | .non => some false
  | .bl b => some b
  | .int i => some (i != 0)
  | .str x => if x.length ≤ sizeLine then some ((x.length : Int) != 0) else none
  | .tup xs => some !xs.isEmpty
  | .lst xs => some !xs.isEmpty
  | .ref a => match S a with
    | some (.lst xs) => some !xs.isEmpty
    | some (.dK xs) => some !xs.isEmpty
    | _ => none
  | _ => none
section
variable {K : PySem.W.Frag} {F G : Hp} {S : Sto} {H : Hp} {v : V} {d : D}
theorem RpAll.isEmpty {vs : List V} {ds : List D} (h : RpAll K G vs ds) : vs.isEmpty = ds.isEmpty := by cases h <;> rfl
theorem KVs.isEmpty {κ : Type} {a : List (κ × V)} {b : List (κ × D)} (h : KVs K G a b) : a.isEmpty = b.isEmpty := by cases h <;> rfl
theorem tru_of (R : SR K F G S H) (r : Rp K G v d) {k : Bool} (h : truOf S d = some k) : TruV K v H k := by
  cases r with
  | non => cases h; rfl
  | bl b => cases h; rfl
  | int b => cases h; rfl
  | str b =>
    have h' : (if b.length ≤ sizeLine then some ((b.length : Int) != 0) else none) = some k := h
    by_cases hl : b.length ≤ sizeLine
    · rw [if_pos hl] at h'; cases h'; exact ⟨hl, rfl⟩
    · rw [if_neg hl] at h'; cases h'
  | ty => cases h
  | lst q ra =>
    cases h
    refine .inl ⟨_, sameL R.sub q, ?_⟩
    rw [ra.isEmpty]
  | tup q ra =>
    cases h
    refine .inr (.inl ⟨_, sameT R.sub q, ?_⟩)
    rw [ra.isEmpty]
  | obj => cases h
  | exc0 => cases h
  | exc1 => cases h
  | ref a =>
    have h' : (match S a with | some (.lst xs) => some !xs.isEmpty | some (.dK xs) => some !xs.isEmpty | _ => none) = some k := h
    clear h
    split at h'
    · rename_i xs e
      cases h'
      obtain ⟨_, o, ho, ro⟩ := R.mu a _ e
      cases ro with
      | lst ra => exact .inl ⟨_, .inl (.inl ho), by rw [ra.isEmpty]⟩
    · rename_i xs e
      cases h'
      obtain ⟨_, o, ho, ro⟩ := R.mu a _ e
      cases ro with
      | dK ra => exact .inr (.inr ⟨_, ho, by rw [ra.isEmpty]⟩)
    · cases h'
end
section
variable {X : Cx} {W : WX} {a b c : Expr} {rest : List Expr} {pos : Pos} {Ta Tb : TE2} {T U : TT2}
def tTru (t : TE2) : TT2 := fun ρ S Q E => t ρ S (fun x S1 => ∃ k, truOf S1 x = some k ∧ Q k S1) E
theorem t_tru (ha : PE2 X W a Ta) (he : ∀ whole, isTrue a X.env whole = (do let v ← whole; standAt a.pos; holding [v] (truthy v)) := by intro _; rfl) : PT2 X W a (tTru Ta) :=
  pt_w (pt_truth ha he) fun σ H Q ⟨F, G, ρ, S, Q2, E2, R, rs, q, qt, xt⟩ => ⟨F, G, ρ, S, _, E2, R, rs, q, fun v H1 G1 d S1 e1 R1 r1 ⟨k, hk, q1⟩ => ⟨k, tru_of R1 r1 hk, qt k H1 G1 S1 e1 R1 q1⟩, xt⟩
/-- .. whose value is a truth -/
theorem t_val (ha : PE2 X W a Ta) (he : ∀ whole, isTrue a X.env whole = (do let v ← whole; standAt a.pos; holding [v] (truthy v)) := by intro _; rfl) : PT2 X W a (tBl Ta) :=
  pt_w (pt_val ha he) fun σ H Q ⟨F, G, ρ, S, Q2, E2, R, rs, q, qt, xt⟩ => ⟨F, G, ρ, S, _, E2, R, rs, q, fun v H1 G1 d S1 e1 R1 r1 ⟨k, hk, q1⟩ => by
    subst hk; cases r1; exact ⟨k, rfl, qt k H1 G1 S1 e1 R1 q1⟩, xt⟩
def tAnd2 (t u : TT2) : TT2 := fun ρ S Q E => t ρ S (fun c S1 => if c = true then u ρ S1 Q E else Q false S1) E
def tOr2 (t u : TT2) : TT2 := fun ρ S Q E => t ρ S (fun c S1 => if c = true then Q true S1 else u ρ S1 Q E) E
def tNot2 (t : TT2) : TT2 := fun ρ S Q E => t ρ S (fun c S1 => Q (!c) S1) E
theorem w_and1 (ha : PT2 X W a T) : PW2 X W (.BoolOp .And [a] pos) T := pw_and1 ha
theorem w_or1 (ha : PT2 X W a T) : PW2 X W (.BoolOp .Or [a] pos) T := pw_or1 ha
theorem w_and (ha : PT2 X W a T) (hb : PW2 X W (.BoolOp .And (b :: rest) pos) U) : PW2 X W (.BoolOp .And (a :: b :: rest) pos) (tAnd2 T U) :=
  pw_w (pw_and ha hb) fun σ H Q ⟨F, G, ρ, S, Q2, E2, R, rs, q, qt, xt⟩ => ⟨F, G, ρ, S, _, E2, R, rs, q, fun c H1 G1 S1 e1 R1 q1 => by
    cases c with
    | true => simp only [if_true] at q1 ⊢; exact ⟨F, G1, ρ, S1, _, E2, R1, rs.mono e1, q1, qt.le e1, xt.le e1⟩
    | false => simp only [Bool.false_eq_true, if_false] at q1 ⊢; exact qt false H1 G1 S1 e1 R1 q1, xt⟩
theorem w_or (ha : PT2 X W a T) (hb : PW2 X W (.BoolOp .Or (b :: rest) pos) U) : PW2 X W (.BoolOp .Or (a :: b :: rest) pos) (tOr2 T U) :=
  pw_w (pw_or ha hb) fun σ H Q ⟨F, G, ρ, S, Q2, E2, R, rs, q, qt, xt⟩ => ⟨F, G, ρ, S, _, E2, R, rs, q, fun c H1 G1 S1 e1 R1 q1 => by
    cases c with
    | false => simp only [Bool.false_eq_true, if_false] at q1 ⊢; exact ⟨F, G1, ρ, S1, _, E2, R1, rs.mono e1, q1, qt.le e1, xt.le e1⟩
    | true => simp only [if_true] at q1 ⊢; exact qt true H1 G1 S1 e1 R1 q1, xt⟩
theorem t_w (h : PW2 X W a T) : PT2 X W a T := PW.pt h
theorem t_not (ha : PT2 X W a T) : PT2 X W (.UnaryOp .Not a pos) (tNot2 T) :=
  pt_w (pt_not ha) fun σ H Q ⟨F, G, ρ, S, Q2, E2, R, rs, q, qt, xt⟩ => ⟨F, G, ρ, S, _, E2, R, rs, q, fun c H1 G1 S1 e1 R1 q1 => qt (!c) H1 G1 S1 e1 R1 q1, xt⟩
/-- and, or, not as values, by truth -/
def eAnd (ta tb : TE2) : TE2 := fun ρ S Q E => ta ρ S (fun x S1 => ∃ k, truOf S1 x = some k ∧ if k = true then tb ρ S1 Q E else Q x S1) E
def eOr (ta tb : TE2) : TE2 := fun ρ S Q E => ta ρ S (fun x S1 => ∃ k, truOf S1 x = some k ∧ if k = true then Q x S1 else tb ρ S1 Q E) E
def eNot (ta : TE2) : TE2 := fun ρ S Q E => ta ρ S (fun x S1 => ∃ k, truOf S1 x = some k ∧ Q (.bl (!k)) S1) E
theorem e_one {op} (h : PE2 X W a Ta) : PE2 X W (.BoolOp op [a] pos) Ta := pe_one h
theorem e_and (ha : PE2 X W a Ta) (hb : PE2 X W (.BoolOp .And (b :: rest) pos) Tb) : PE2 X W (.BoolOp .And (a :: b :: rest) pos) (eAnd Ta Tb) :=
  pe_w (pe_andT ha hb) fun σ H Q ⟨F, G, ρ, S, Q2, E2, R, rs, q, qt, xt⟩ => ⟨F, G, ρ, S, _, E2, R, rs, q, fun v H1 G1 d S1 e1 R1 r1 ⟨k, hk, q1⟩ => ⟨k, tru_of R1 r1 hk, by
    cases k with
    | true => simp only [if_true] at q1 ⊢; exact ⟨F, G1, ρ, S1, _, E2, R1, rs.mono e1, q1, qt.le e1, xt.le e1⟩
    | false => simp only [Bool.false_eq_true, if_false] at q1 ⊢; exact qt v H1 G1 d S1 e1 R1 r1 q1⟩, xt⟩
theorem e_or (ha : PE2 X W a Ta) (hb : PE2 X W (.BoolOp .Or (b :: rest) pos) Tb) : PE2 X W (.BoolOp .Or (a :: b :: rest) pos) (eOr Ta Tb) :=
  pe_w (pe_orT ha hb) fun σ H Q ⟨F, G, ρ, S, Q2, E2, R, rs, q, qt, xt⟩ => ⟨F, G, ρ, S, _, E2, R, rs, q, fun v H1 G1 d S1 e1 R1 r1 ⟨k, hk, q1⟩ => ⟨k, tru_of R1 r1 hk, by
    cases k with
    | false => simp only [Bool.false_eq_true, if_false] at q1 ⊢; exact ⟨F, G1, ρ, S1, _, E2, R1, rs.mono e1, q1, qt.le e1, xt.le e1⟩
    | true => simp only [if_true] at q1 ⊢; exact qt v H1 G1 d S1 e1 R1 r1 q1⟩, xt⟩
theorem e_not (ha : PE2 X W a Ta) : PE2 X W (.UnaryOp .Not a pos) (eNot Ta) :=
  pe_w (pe_notT ha) fun σ H Q ⟨F, G, ρ, S, Q2, E2, R, rs, q, qt, xt⟩ => ⟨F, G, ρ, S, _, E2, R, rs, q, fun v H1 G1 d S1 e1 R1 r1 ⟨k, hk, q1⟩ => ⟨k, tru_of R1 r1 hk, qt (.bl (!k)) H1 G1 (.bl (!k)) S1 e1 R1 (.bl _) q1⟩, xt⟩
def eIf (t : TT2) (ta tb : TE2) : TE2 := fun ρ S Q E => t ρ S (fun c S1 => if c = true then ta ρ S1 Q E else tb ρ S1 Q E) E
theorem e_if (hc : PT2 X W c T) (ha : PE2 X W a Ta) (hb : PE2 X W b Tb) : PE2 X W (.IfExp c a b pos) (eIf T Ta Tb) :=
  pe_w (pe_ifExp hc ha hb) fun σ H Q ⟨F, G, ρ, S, Q2, E2, R, rs, q, qt, xt⟩ => ⟨F, G, ρ, S, _, E2, R, rs, q, fun c H1 G1 S1 e1 R1 q1 => by
    cases c with
    | true => simp only [if_true] at q1 ⊢; exact ⟨F, G1, ρ, S1, _, E2, R1, rs.mono e1, q1, qt.le e1, xt.le e1⟩
    | false => simp only [Bool.false_eq_true, if_false] at q1 ⊢; exact ⟨F, G1, ρ, S1, _, E2, R1, rs.mono e1, q1, qt.le e1, xt.le e1⟩, xt⟩
end

/-! ### blocks, small statements -/
section
variable {X : Cx} {W : WX} {st : Stmt} {rest : List Stmt} {T U : TS2} {e : Expr} {Te : TE2} {Tc : TT2} {pos : Pos}
def sNext : TS2 := fun D ρ S => D.nx ρ S
def sSeq (t u : TS2) : TS2 := fun D ρ S => t { D with nx := u D } ρ S
theorem ss_nil : PSs2 X W [] sNext := pss_w pss_nil fun D σ H ⟨F, G, ρ, S, D2, R, rs, q, dt⟩ => dt.nx σ H G ρ S (Same.refl _) R rs q
theorem ss_cons (h1 : PS2 X W st T) (h2 : PSs2 X W rest U) : PSs2 X W (st :: rest) (sSeq T U) :=
  pss_w (pss_cons h1 h2) fun D σ H ⟨F, G, ρ, S, D2, R, rs, q, dt⟩ => ⟨F, G, ρ, S, { D2 with nx := U D2 }, R, rs, q, ⟨fun σ' H' G' ρ' S' e R' rs' q' => ⟨F, G', ρ', S', D2, R', rs', q', dt.le e⟩, dt.rt, dt.bk, dt.ct, dt.xc⟩⟩
theorem ss_one (h1 : PS2 X W st T) : PSs2 X W [st] T := pss_one h1
def sBreak : TS2 := fun D ρ S => D.bk ρ S
def sCont : TS2 := fun D ρ S => D.ct ρ S
theorem s_pass : PS2 X W (.Pass pos) sNext := ps_w ps_pass fun D σ H ⟨F, G, ρ, S, D2, R, rs, q, dt⟩ => dt.nx σ H G ρ S (Same.refl _) R rs q
theorem s_break : PS2 X W (.Break pos) sBreak := ps_w ps_break fun D σ H ⟨F, G, ρ, S, D2, R, rs, q, dt⟩ => dt.bk σ H G ρ S (Same.refl _) R rs q
theorem s_continue : PS2 X W (.Continue pos) sCont := ps_w ps_continue fun D σ H ⟨F, G, ρ, S, D2, R, rs, q, dt⟩ => dt.ct σ H G ρ S (Same.refl _) R rs q
def sExpr (te : TE2) : TS2 := fun D ρ S => te ρ S (fun _ S1 => D.nx ρ S1) (fun x S1 => D.xc x ρ S1)
theorem s_expr (he : PE2 X W e Te) (hs : swapsWith e none pos.line X.env = pure false := by rfl) : PS2 X W (.Expr e pos) (sExpr Te) :=
  ps_w (ps_expr he hs) fun D σ H ⟨F, G, ρ, S, D2, R, rs, q, dt⟩ => ⟨F, G, ρ, S, _, _, R, rs, q, fun v H1 G1 d S1 e1 R1 r1 q1 => dt.nx σ H1 G1 ρ S1 e1 R1 (rs.mono e1) q1, dt.xt rs⟩
def sRet (te : TE2) : TS2 := fun D ρ S => te ρ S D.rt (fun x S1 => D.xc x ρ S1)
theorem s_ret (he : PE2 X W e Te) : PS2 X W (.Return (some e) pos) (sRet Te) :=
  ps_w (ps_ret he) fun D σ H ⟨F, G, ρ, S, D2, R, rs, q, dt⟩ => ⟨F, G, ρ, S, _, _, R, rs, q, dt.rt, dt.xt rs⟩
/-- what is handed back is frozen first -/
def sRetZ (te : TE2) : TS2 := fun D ρ S => te ρ S (fun d S1 => ∃ a xs, d = .ref a ∧ S1 a = some (.lst xs) ∧ D.rt (.lst xs) (sdel S1 a)) (fun x S1 => D.xc x ρ S1)
theorem s_retZ (he : PE2 X W e Te) : PS2 X W (.Return (some e) pos) (sRetZ Te) :=
  ps_w (ps_ret he) fun D σ H ⟨F, G, ρ, S, D2, R, rs, q, dt⟩ => ⟨F, G, ρ, S, _, _, R, rs, q, fun v H1 G1 d S1 e1 R1 r1 ⟨a, xs, ed, ea, q1⟩ => by
    subst ed; cases r1
    obtain ⟨ga, o, ho, ro⟩ := R1.mu a _ ea
    cases ro with
    | lst ra => exact dt.rt (.ref a) H1 _ (.lst xs) _ (e1.trans (Same.laid ga)) (R1.freeze ho ga (R1.fof ea)) (.lst (.inl (.inl upd_same)) (ra.mono (Same.laid ga))) q1, dt.xt rs⟩
def sRetN : TS2 := fun D _ S => D.rt .non S
theorem s_retN : PS2 X W (.Return none pos) sRetN := ps_w ps_retN fun D σ H ⟨F, G, ρ, S, D2, R, rs, q, dt⟩ => dt.rt .non H G .non S (Same.refl _) R .non q
def sIf (c : TT2) (t u : TS2) : TS2 := fun D ρ S => c ρ S (fun b S1 => if b = true then t D ρ S1 else u D ρ S1) (fun x S1 => D.xc x ρ S1)
theorem s_if {c : Expr} {a b : List Stmt} (hc : PT2 X W c Tc) (ha : PSs2 X W a T) (hb : PSs2 X W b U) : PS2 X W (.If c a b pos) (sIf Tc T U) :=
  ps_w (ps_if hc ha hb) fun D σ H ⟨F, G, ρ, S, D2, R, rs, q, dt⟩ => ⟨F, G, ρ, S, _, _, R, rs, q, fun c H1 G1 S1 e1 R1 q1 => by
    cases c with
    | true => simp only [if_true] at q1 ⊢; exact ⟨F, G1, ρ, S1, D2, R1, rs.mono e1, q1, dt.le e1⟩
    | false => simp only [Bool.false_eq_true, if_false] at q1 ⊢; exact ⟨F, G1, ρ, S1, D2, R1, rs.mono e1, q1, dt.le e1⟩, dt.xt rs⟩
/-- a slot's list is frozen from here on -/
def sFz (i : Nat) (t : TS2) : TS2 := fun D ρ S => ∃ a xs, ρ[i]? = some (some (.ref a)) ∧ S a = some (.lst xs) ∧ t D (ρ.set i (some (.lst xs))) (sdel S a)
theorem ss_fz (i : Nat) (h : PSs2 X W rest T) : PSs2 X W rest (sFz i T) :=
  pss_w h fun D σ H ⟨F, G, ρ, S, D2, R, rs, ⟨a, xs, er, ea, q⟩, dt⟩ => by
    obtain ⟨ga, o, ho, ro⟩ := R.mu a _ ea
    cases ro with
    | @lst vs _ ra =>
      have sm : Same G (upd G a (.lst vs)) := Same.laid ga
      obtain ⟨v, hv, rv⟩ := rs.2 i _ er
      cases rv
      refine ⟨F, _, _, _, D2, R.freeze ho ga (R.fof ea), ⟨by rw [rs.1, List.length_set], fun j d hd => ?_⟩, q, dt.le sm⟩
      by_cases hj : i = j
      · subst hj
        rw [List.getElem?_set] at hd
        by_cases hl : i < ρ.length
        · simp [hl] at hd; subst hd
          exact ⟨_, hv, .lst (.inl (.inl upd_same)) (ra.mono sm)⟩
        · simp [hl] at hd
      · rw [List.getElem?_set_ne hj] at hd
        obtain ⟨w, x, y⟩ := rs.2 j d hd
        exact ⟨w, x, y.mono sm⟩
end
end Y
set_option Elab.async false
set_option linter.all false
set_option maxRecDepth 100000
set_option maxHeartbeats 4000000
namespace Y
open PySem PySem.Spec PyProof.Rows L2

/-! ### targets -/
abbrev TG2 := D → Rho → Sto → (Rho → Sto → Prop) → EK → Prop
abbrev TGs2 := List D → Rho → Sto → (Rho → Sto → Prop) → EK → Prop
def SameBut (vs : List Nat) (σ σ' : St) : Prop := σ'.length = σ.length ∧ ∀ j, j ∉ vs → σ'[j]? = σ[j]?
section
variable (K : PySem.W.Frag)
def VT (F G : Hp) (vs : List Nat) (σ : St) (N2 : Rho → Sto → Prop) (N : St → Hp → Prop) : Prop := ∀ σ' H' G' ρ' S', SameBut vs σ σ' → Same G G' → SR K F G' S' H' → RpSt K G' σ' ρ' → N2 ρ' S' → N σ' H'
def loG (W : WX) (vs : List Nat) (T : TG2) : TG := fun v σ H Q => ∃ F G ρ S d Q2 E2, SR K F G S H ∧ RpSt K G σ ρ ∧ Rp K G v d ∧ T d ρ S Q2 E2 ∧ VT K F G vs σ Q2 Q ∧ (∀ σ', SameBut vs σ σ' → XT K F G σ' E2 W)
def loGs (W : WX) (vs : List Nat) (T : TGs2) : TGs := fun us σ H Q => ∃ F G ρ S ds Q2 E2, SR K F G S H ∧ RpSt K G σ ρ ∧ RpAll K G us ds ∧ T ds ρ S Q2 E2 ∧ VT K F G vs σ Q2 Q ∧ (∀ σ', SameBut vs σ σ' → XT K F G σ' E2 W)
end
theorem SameBut.refl {vs : List Nat} {σ : St} : SameBut vs σ σ := ⟨rfl, fun _ _ => rfl⟩
theorem SameBut.trans {vs : List Nat} {σ σ1 σ2 : St} (a : SameBut vs σ σ1) (b : SameBut vs σ1 σ2) : SameBut vs σ σ2 := ⟨b.1.trans a.1, fun j h => (b.2 j h).trans (a.2 j h)⟩
theorem SameBut.set {vs : List Nat} {σ : St} {i : Nat} {o : Option V} (h : i ∈ vs) : SameBut vs σ (σ.set i o) := ⟨by simp, fun j hj => by
  have : i ≠ j := fun e => hj (e ▸ h)
  rw [List.getElem?_set_ne this]⟩
def PG2 (X : Cx) (W : WX) (vs : List Nat) (tg : Expr) (T : TG2) : Prop := PG X tg (loG X.K W vs T)
def PGs2 (X : Cx) (W : WX) (vs : List Nat) (tg : List Expr) (T : TGs2) : Prop := PGs X tg (loGs X.K W vs T)
theorem pg_w {X : Cx} {tg : Expr} {t t' : TG} (h : PG X tg t) (k : ∀ v σ H Q, t' v σ H Q → t v σ H Q) : PG X tg t' := ⟨fun pins s σ H v u Q I r q => h.run pins s σ H v u Q I r (k v σ H Q q)⟩
theorem pgs_w {X : Cx} {tg : List Expr} {t t' : TGs} (h : PGs X tg t) (k : ∀ v σ H Q, t' v σ H Q → t v σ H Q) : PGs X tg t' := ⟨fun pins s σ H v u Q I r q => h.run pins s σ H v u Q I r (k v σ H Q q)⟩
section
variable {X : Cx} {W : WX} {vs : List Nat} {pos : Pos}
def gN (i : Nat) : TG2 := fun d ρ S Q _ => Q (ρ.set i (some d)) S
theorem g_name {x : Str} (i : Nat) (hN : X.N.Nodup) (hi : X.N[i]? = some x := by rfl) (hx : Loc X.env.scope x := by first | exact .inl rfl | exact .inr rfl) (hv : i ∈ vs := by first | exact List.mem_cons_self | simp)
    (hf : X.fn x = true ∨ X.env.scope.names.lookup x = some .local := by first | exact .inl rfl | exact .inr rfl | assumption) : PG2 X W vs (.Name x pos) (gN i) :=
  pg_w (pg_name hN hi hx hf) fun v σ H Q ⟨F, G, ρ, S, d, Q2, E2, R, rs, r, q, nt, xt⟩ => nt (σ.set i (some v)) H G (ρ.set i (some d)) S (SameBut.set hv) (Same.refl _) R (rs.set r i) q
def gsNil : TGs2 := fun ds ρ S Q _ => ds = [] ∧ Q ρ S
def gsCons (t : TG2) (u : TGs2) : TGs2 := fun ds ρ S Q E => ∃ d r, ds = d :: r ∧ t d ρ S (fun ρ1 S1 => u r ρ1 S1 Q E) E
theorem gs_nil : PGs2 X W vs [] gsNil := pgs_w pgs_nil fun v σ H Q ⟨F, G, ρ, S, ds, Q2, E2, R, rs, r, ⟨e, q⟩, nt, xt⟩ => by
  subst e; cases r; exact ⟨rfl, nt σ H G ρ S .refl (Same.refl _) R rs q⟩
theorem gs_cons {e : Expr} {es : List Expr} {t : TG2} {u : TGs2} (h1 : PG2 X W vs e t) (h2 : PGs2 X W vs es u) (hs : (assignEach (e :: es) X.env).map (·.2) = assign e X.env :: (assignEach es X.env).map (·.2) := by rfl) : PGs2 X W vs (e :: es) (gsCons t u) :=
  pgs_w (pgs_cons h1 h2 hs) fun v σ H Q ⟨F, G, ρ, S, ds, Q2, E2, R, rs, r, ⟨d, dr, e, q⟩, nt, xt⟩ => by
    subst e
    cases r with
    | cons r1 r2 =>
      exact ⟨_, _, rfl, F, G, ρ, S, d, _, E2, R, rs, r1, q, fun σ' H' G' ρ' S' sb e' R' rs' q' => ⟨F, G', ρ', S', dr, Q2, E2, R', rs', r2.mono e', q', fun σ2 H2 G2 ρ2 S2 sb2 e2 => nt σ2 H2 G2 ρ2 S2 (sb.trans sb2) (e'.trans e2), fun σ2 sb2 => (xt σ2 (sb.trans sb2)).le e'⟩, xt⟩
def gTup2 (n : Nat) (t : TGs2) : TG2 := fun d ρ S Q E => ∃ ds, d = .tup ds ∧ ds.length = n ∧ t ds ρ S Q E
theorem g_tup {es : List Expr} {k : Nat} {t : TGs2} {n : Nat} (hc : X.calm = true) (h : PGs2 X W vs es t) (hn : (assignEach es X.env).length = n := by rfl) (hst : (assignEach es X.env).findIdx? (·.1) = none := by rfl) : PG2 X W vs (.Tuple es k pos) (gTup2 n t) :=
  pg_w (pg_tup hc h hn hst) fun v σ H Q ⟨F, G, ρ, S, d, Q2, E2, R, rs, r, ⟨ds, e, hl, q⟩, nt, xt⟩ => by
    subst e
    obtain ⟨p, vs, e, sq, ra⟩ := tup_sq R r
    exact ⟨p, vs, e, sq, by rw [ra.length, hl], F, G, ρ, S, ds, Q2, E2, R, rs, ra, q, nt, xt⟩
/-- o[i] = v, by data -/
abbrev TSet2 := D → D → D → Sto → (Sto → Prop) → Prop
def loSet (K : PySem.W.Frag) (r : TSet2) : TSet := fun o i v H Q => ∃ F G S d1 d2 d3 Q2, SR K F G S H ∧ Rp K G o d1 ∧ Rp K G i d2 ∧ Rp K G v d3 ∧ r d1 d2 d3 S Q2 ∧ ∀ H' G' S', Same G G' → SR K F G' S' H' → Q2 S' → Q H'
def gSub2 (to ti : TE2) (r : TSet2) : TG2 := fun d ρ S Q E => to ρ S (fun o S1 => ti ρ S1 (fun i S2 => r o i d S2 fun S3 => Q ρ S3) E) E
theorem g_sub {o i : Expr} {To Ti : TE2} {r : TSet2} (ho : PE2 X W o To) (hi : PE2 X W i Ti) (hs : PSet X (loSet X.K r))
    (ha : ∀ v, assign (.Subscript o i pos) X.env v = (do
      let ov ← holding [v] (eval o X.env)
      let iv ← holding [v, ov] (eval i X.env)
      standAt pos
      holding [v, ov, iv] (setItem ov iv v)
      release [v, ov, iv] []) := by intro _; rfl) : PG2 X W vs (.Subscript o i pos) (gSub2 To Ti r) :=
  pg_w (pg_sub ho hi hs ha) fun v σ H Q ⟨F, G, ρ, S, d, Q2, E2, R, rs, rv, q, nt, xt⟩ =>
    ⟨F, G, ρ, S, _, E2, R, rs, q, fun v1 H1 G1 d1 S1 e1 R1 r1 q1 => ⟨F, G1, ρ, S1, _, E2, R1, rs.mono e1, q1, fun v2 H2 G2 d2 S2 e2 R2 r2 q2 => ⟨F, G2, S2, d1, d2, d, _, R2, r1.mono e2, r2, rv.mono (e1.trans e2), q2, fun H3 G3 S3 e3 R3 q3 => nt σ H3 G3 ρ S3 .refl ((e1.trans e2).trans e3) R3 (rs.mono ((e1.trans e2).trans e3)) q3⟩, (xt σ .refl).le e1⟩, xt σ .refl⟩
end

/-! ### assignments -/
section
variable {X : Cx} {W : WX} {vs : List Nat} {pos : Pos} {e : Expr} {Te : TE2} {g g' : TG2}
def sAsg (te : TE2) (g : TG2) : TS2 := fun D ρ S => te ρ S (fun d S1 => g d ρ S1 D.nx (fun x S2 => ∀ ρ', D.xc x ρ' S2)) (fun x S1 => D.xc x ρ S1)
/-- xc behind a half-stored tuple target: for any slots -/
theorem DT.xtAny {K : PySem.W.Frag} {F G : Hp} {D2 : Ends2} {Dn : Ends} {ρ : Rho} {σ : St} (h : DT K F G W D2 Dn) (hl : σ.length = ρ.length) : XT K F G σ (fun x S => ∀ ρ', D2.xc x ρ' S) W :=
  fun c dx H' G1 x S' e1 s xr q => h.xc c dx σ H' G1 x (List.replicate σ.length none) S' e1 s ⟨by simp, fun i d hd => by rw [List.getElem?_replicate] at hd; split at hd <;> cases hd⟩ xr (q _)
theorem s_asg {tg : Expr} (he : PE2 X W e Te) (hg : PG2 X W vs tg g) (hs : swapsWithSole [tg] e pos.line X.env = pure false := by rfl) (hw : swappedStores [tg] e X.env = pure none := by rfl) (h1 : (assignEach [tg] X.env).map (·.2) = [assign tg X.env] := by rfl) : PS2 X W (.Assign [tg] e pos) (sAsg Te g) :=
  ps_w (ps_asg he hg hs hw h1) fun D σ H ⟨F, G, ρ, S, D2, R, rs, q, dt⟩ => ⟨F, G, ρ, S, _, _, R, rs, q, fun v H1 G1 d S1 e1 R1 r1 q1 => ⟨F, G1, ρ, S1, d, _, _, R1, rs.mono e1, r1, q1, fun σ' H' G' ρ' S' _ e' R' rs' q' => dt.nx σ' H' G' ρ' S' (e1.trans e') R' rs' q', fun σ' sb => (dt.le e1).xtAny (ρ := ρ) (sb.1.trans rs.1)⟩, dt.xt rs⟩
def sSet (i : Nat) (te : TE2) : TS2 := fun D ρ S => te ρ S (fun d S1 => D.nx (ρ.set i (some d)) S1) (fun x S1 => D.xc x ρ S1)
theorem s_set {x : Str} {pos' : Pos} (i : Nat) (hN : X.N.Nodup) (he : PE2 X W e Te) (hi : X.N[i]? = some x := by rfl) (hx : Loc X.env.scope x := by first | exact .inl rfl | exact .inr rfl) (hs : swapsWith e (some (.Name x pos')) pos.line X.env = pure false := by rfl)
    (hf : X.fn x = true ∨ X.env.scope.names.lookup x = some .local := by first | exact .inl rfl | exact .inr rfl | assumption) : PS2 X W (.Assign [.Name x pos'] e pos) (sSet i Te) :=
  ps_w (ps_set hN hi hx he hs hf) fun D σ H ⟨F, G, ρ, S, D2, R, rs, q, dt⟩ => ⟨F, G, ρ, S, _, _, R, rs, q, fun v H1 G1 d S1 e1 R1 r1 q1 => dt.nx _ H1 G1 _ S1 e1 R1 ((rs.mono e1).set r1 i) q1, dt.xt rs⟩
def sPar (i j : Nat) (ta : TA2) : TS2 := fun D ρ S => ta ρ S (fun ds S1 => ∃ a b, ds = [a, b] ∧ D.nx ((ρ.set i (some a)).set j (some b)) S1) (fun x S1 => D.xc x ρ S1)
theorem s_par {x y : Str} {a b : Expr} {Ta : TA2} {px py pt : Pos} {kt k2 pt2} (i j : Nat) (hc : X.calm = true) (hN : X.N.Nodup) (ha : PA2 X W [a, b] Ta) (hi : X.N[i]? = some x := by rfl) (hj : X.N[j]? = some y := by rfl) (hij : i ≠ j := by decide)
    (hx : X.env.scope.names.lookup x = some .local := by rfl) (hy : X.env.scope.names.lookup y = some .local := by rfl)
    (hw : swappedStores [.Tuple [.Name x px, .Name y py] kt pt] (.Tuple [a, b] k2 pt2) X.env = pure (some [x, y]) := by rfl)
    (hs : swapsWithSole [.Tuple [.Name x px, .Name y py] kt pt] (.Tuple [a, b] k2 pt2) pos.line X.env = pure false := by rfl) :
    PS2 X W (.Assign [.Tuple [.Name x px, .Name y py] kt pt] (.Tuple [a, b] k2 pt2) pos) (sPar i j Ta) :=
  ps_w (ps_par hc hN hi hj hij hx hy ha hw hs) fun D σ H ⟨F, G, ρ, S, D2, R, rs, q, dt⟩ => ⟨F, G, ρ, S, _, _, R, rs, q, fun us H1 G1 ds S1 e1 R1 r1 ⟨c, d, e, q1⟩ => by
    subst e
    cases r1 with
    | cons ra rr =>
      cases rr with
      | cons rb rn =>
        cases rn
        exact ⟨_, _, rfl, dt.nx _ H1 G1 _ S1 e1 R1 (((rs.mono e1).set ra i).set rb j) q1⟩, dt.xt rs⟩
def sAug (i : Nat) (te : TE2) (r : R2D) : TS2 := fun D ρ S => ∃ d, ρ[i]? = some (some d) ∧ te ρ S (fun y S1 => r d y S1 fun z S2 => D.nx (ρ.set i (some z)) S2) (fun x S1 => D.xc x ρ S1)
theorem s_aug {x : Str} {op : Operator} {r : R2D} {pos' : Pos} (i : Nat) (hN : X.N.Nodup) (he : PE2 X W e Te) (ho : PIp X op (loR X.K r)) (hi : X.N[i]? = some x := by rfl) (hx : Loc X.env.scope x := by first | exact .inl rfl | exact .inr rfl)
    (hf : X.fn x = true ∨ X.env.scope.names.lookup x = some .local := by first | exact .inl rfl | exact .inr rfl | assumption) : PS2 X W (.AugAssign (.Name x pos') op e pos) (sAug i Te r) :=
  ps_w (ps_aug hN hi hx he ho hf) fun D σ H ⟨F, G, ρ, S, D2, R, rs, ⟨d, hd, q⟩, dt⟩ => by
    obtain ⟨v, hv, rv⟩ := rs.2 i d hd
    exact ⟨v, hv, F, G, ρ, S, _, _, R, rs, q, fun v1 H1 G1 d1 S1 e1 R1 r1 q1 => ⟨F, G1, S1, d, d1, _, R1, rv.mono e1, r1, q1, fun v2 H2 G2 d2 S2 e2 R2 r2 q2 => dt.nx _ H2 G2 _ S2 (e1.trans e2) R2 ((rs.mono (e1.trans e2)).set r2 i) q2⟩, dt.xt rs⟩
/-- o[i] op= e -/
def loGet (K : PySem.W.Frag) (r : R2D) : V → V → Hp → VK → Prop := loR K r
def sAugS (to ti te : TE2) (rg : R2D) (ro : R2D) (rset : TSet2) : TS2 := fun D ρ S => to ρ S (fun o S1 => ti ρ S1 (fun i S2 => rg o i S2 fun x S3 => te ρ S3 (fun y S4 => ro x y S4 fun z S5 => rset o i z S5 fun S6 => D.nx ρ S6) (fun x S1 => D.xc x ρ S1)) (fun x S1 => D.xc x ρ S1)) (fun x S1 => D.xc x ρ S1)
theorem s_augS {o i : Expr} {To Ti : TE2} {rg ro : R2D} {rset : TSet2} {op : Operator} {tpos : Pos} (ho : PE2 X W o To) (hi : PE2 X W i Ti) (hg : PGet X (loR X.K rg)) (he : PE2 X W e Te) (hp : PIp X op (loR X.K ro)) (hs : PSet X (loSet X.K rset))
    (ha : ∀ ov iv new, augStore i ov iv new = (do holding [new, ov, iv] (setItem ov iv new); release [new, ov, iv] []; pure .next) := by intros; rfl) : PS2 X W (.AugAssign (.Subscript o i tpos) op e pos) (sAugS To Ti Te rg ro rset) :=
  ps_w (ps_augS ho hi hg he hp hs ha) fun D σ H ⟨F, G, ρ, S, D2, R, rs, q, dt⟩ =>
    ⟨F, G, ρ, S, _, _, R, rs, q, fun v1 H1 G1 d1 S1 e1 R1 r1 q1 => ⟨F, G1, ρ, S1, _, _, R1, rs.mono e1, q1, fun v2 H2 G2 d2 S2 e2 R2 r2 q2 =>
      ⟨F, G2, S2, d1, d2, _, R2, r1.mono e2, r2, q2, fun v3 H3 G3 d3 S3 e3 R3 r3 q3 => ⟨F, G3, ρ, S3, _, _, R3, rs.mono ((e1.trans e2).trans e3), q3, fun v4 H4 G4 d4 S4 e4 R4 r4 q4 =>
        ⟨F, G4, S4, d3, d4, _, R4, r3.mono e4, r4, q4, fun v5 H5 G5 d5 S5 e5 R5 r5 q5 => ⟨F, G5, S5, d1, d2, d5, _, R5, r1.mono (((e2.trans e3).trans e4).trans e5), r2.mono ((e3.trans e4).trans e5), r5, q5, fun H6 G6 S6 e6 R6 q6 =>
          dt.nx σ H6 G6 ρ S6 (((((e1.trans e2).trans e3).trans e4).trans e5).trans e6) R6 (rs.mono (((((e1.trans e2).trans e3).trans e4).trans e5).trans e6)) q6⟩⟩, ((dt.le e1).le (e2.trans e3)).xt (rs.mono ((e1.trans e2).trans e3))⟩⟩, (dt.le e1).xt (rs.mono e1)⟩, dt.xt rs⟩
end

/-! ### loops -/
/-- what an iterator J yields: the items ds, the store and the rest as they are -/
def ItOk (K : PySem.W.Frag) (J : It) (G : Hp) (ds : List D) : Prop := ∀ (i : Nat) F H S' G', Same G G' → SR K F G' S' H →
  (∀ d, ds[i]? = some d → J.go i H ∧ ∀ x H', J.yld i H x H' → ∃ G'', Same G' G'' ∧ SR K F G'' S' H' ∧ Rp K G'' x d) ∧ (ds.length ≤ i → J.stop i H)
abbrev TI2 := TA2
def loI (K : PySem.W.Frag) (W : WX) (T : TI2) : TI := fun σ H R => ∃ F G ρ S Q2 E2, SR K F G S H ∧ RpSt K G σ ρ ∧ T ρ S Q2 E2 ∧ (∀ J H' G' ds S', Same G G' → SR K F G' S' H' → ItOk K J G' ds → Q2 ds S' → R J H') ∧ XT K F G σ E2 W
def PI2 (X : Cx) (W : WX) (tg iter : Expr) (T : TI2) : Prop := PI X tg iter (loI X.K W T)
theorem pi_w {X : Cx} {tg iter : Expr} {t t' : TI} (h : PI X tg iter t) (k : ∀ σ H Q, t' σ H Q → t σ H Q) : PI X tg iter t' := ⟨fun pins s σ H R I q => h.run pins s σ H R I (k σ H R q)⟩
def forGo (g : TG2) (b : TS2) (D : Ends2) : List Y.D → Rho → Sto → Prop
  | [], ρ, S => D.nx ρ S
  | d :: ds, ρ, S => g d ρ S (fun ρ1 S1 => b { D with nx := forGo g b D ds, ct := forGo g b D ds, bk := D.nx } ρ1 S1) (fun x S2 => ∀ ρ', D.xc x ρ' S2)
def sFor (ti : TI2) (g : TG2) (b : TS2) : TS2 := fun D ρ S => ti ρ S (fun ds S1 => forGo g b D ds ρ S1) (fun x S1 => D.xc x ρ S1)
section
variable {X : Cx} {W : WX} {vs : List Nat} {pos : Pos}
theorem s_for {tg iter : Expr} {body : List Stmt} {ti : TI2} {g : TG2} {b : TS2} (hp : PassesOwn (model X.prog X.w) X.A X.env X.xe) (hc : X.calm = true) (hi : PI2 X W tg iter ti) (hg : PG2 X W vs tg g) (hb : PSs2 X W body b)
    (hs : ∀ x, foldedSetIterable iter X.env x = pure x := by intro _; rfl) : PS2 X W (.For tg iter body [] pos) (sFor ti g b) :=
  ps_w (ps_for hp hc hi hg hb hs) fun D σ H ⟨F, G, ρ, S, D2, R, rs, q, dt⟩ => by
    refine ⟨F, G, ρ, S, _, _, R, rs, q, fun J H1 G1 ds S1 e1 R1 ok q1 => ?_, dt.xt rs⟩
    refine ⟨fun i m σ H => m = ds.length - i ∧ i ≤ ds.length ∧ ∃ G' ρ' S', Same G1 G' ∧ SR X.K F G' S' H ∧ RpSt X.K G' σ ρ' ∧ forGo g b D2 (ds.drop i) ρ' S', ⟨ds.length, by simp, Nat.zero_le _, G1, ρ, S1, Same.refl _, R1, rs.mono e1, q1⟩, ?_⟩
    rintro i m σ H ⟨rfl, hi, G', ρ', S', e', R', rs', q'⟩
    by_cases hlt : i < ds.length
    · have hd : ds[i]? = some ds[i] := by simp [hlt]
      obtain ⟨go, yl⟩ := (ok i F H S' G' e' R').1 _ hd
      rw [List.drop_eq_getElem_cons hlt] at q'
      refine .inr ⟨go, fun σ H => i + 1 ≤ ds.length ∧ ∃ G' ρ' S', Same G1 G' ∧ SR X.K F G' S' H ∧ RpSt X.K G' σ ρ' ∧ forGo g b D2 (ds.drop (i + 1)) ρ' S', fun σ' H' h => ⟨ds.length - (i + 1), by omega, rfl, h⟩, fun x H' y => ?_⟩
      obtain ⟨G2, e2, R2, r2⟩ := yl x H' y
      refine ⟨F, G2, ρ', S', _, _, _, R2, rs'.mono e2, r2, q', fun σ3 H3 G3 ρ3 S3 _ e3 R3 rs3 q3 => ⟨F, G3, ρ3, S3, _, R3, rs3, q3, ?_⟩, fun σ3 sb => ((dt.le (e1.trans e')).le e2).xtAny (ρ := ρ') (sb.1.trans rs'.1)⟩
      have dt3 := (dt.le (e1.trans e')).le (e2.trans e3)
      have e13 : Same G1 G3 := e'.trans (e2.trans e3)
      exact ⟨fun σ4 H4 G4 ρ4 S4 e4 R4 rs4 q4 => ⟨hlt, G4, ρ4, S4, e13.trans e4, R4, rs4, q4⟩, dt3.rt, dt3.nx, fun σ4 H4 G4 ρ4 S4 e4 R4 rs4 q4 => ⟨hlt, G4, ρ4, S4, e13.trans e4, R4, rs4, q4⟩, dt3.xc⟩
    · have e : i = ds.length := by omega
      subst e
      rw [List.drop_length] at q'
      exact .inl ⟨(ok ds.length F H S' G' e' R').2 (Nat.le_refl _), (dt.le (e1.trans e')).nx σ H G' ρ' S' (Same.refl _) R' rs' q'⟩
/-- while: n bounds the turns -/
def whGo (c : TT2) (b : TS2) (D : Ends2) : Nat → Rho → Sto → Prop
  | 0, _, _ => False
  | n + 1, ρ, S => c ρ S (fun k S1 => if k = true then b { D with nx := whGo c b D n, ct := whGo c b D n, bk := D.nx } ρ S1 else D.nx ρ S1) (fun x S1 => D.xc x ρ S1)
def sWhile (c : TT2) (b : TS2) : TS2 := fun D ρ S => ∃ n, whGo c b D n ρ S
theorem s_while {c : Expr} {body : List Stmt} {tc : TT2} {b : TS2} (hp : PassesOwn (model X.prog X.w) X.A X.env X.xe) (hc : PT2 X W c tc) (hb : PSs2 X W body b) : PS2 X W (.While c body [] pos) (sWhile tc b) :=
  ps_w (ps_while hp hc hb) fun D σ H ⟨F, G, ρ, S, D2, R, rs, ⟨n, q⟩, dt⟩ => by
    refine ⟨fun m σ H => ∃ G' ρ' S', Same G G' ∧ SR X.K F G' S' H ∧ RpSt X.K G' σ ρ' ∧ whGo tc b D2 m ρ' S', ⟨n, G, ρ, S, Same.refl _, R, rs, q⟩, ?_⟩
    rintro m σ H ⟨G', ρ', S', e', R', rs', q'⟩
    cases m with
    | zero => exact q'.elim
    | succ m =>
      refine ⟨F, G', ρ', S', _, _, R', rs', q', fun k H1 G1 S1 e1 R1 q1 => ?_, (dt.le e').xt rs'⟩
      have dt1 := (dt.le e').le e1
      cases k with
      | false =>
        simp only [Bool.false_eq_true, if_false] at q1 ⊢
        exact dt1.nx σ H1 G1 ρ' S1 (Same.refl _) R1 (rs'.mono e1) q1
      | true =>
        simp only [if_true] at q1 ⊢
        refine ⟨fun σ H => ∃ G' ρ' S', Same G G' ∧ SR X.K F G' S' H ∧ RpSt X.K G' σ ρ' ∧ whGo tc b D2 m ρ' S', fun σ' H' h => ⟨m, Nat.lt_succ_self _, h⟩, ?_⟩
        exact ⟨F, G1, ρ', S1, _, R1, rs'.mono e1, q1, fun σ4 H4 G4 ρ4 S4 e4 R4 rs4 q4 => ⟨G4, ρ4, S4, (e'.trans e1).trans e4, R4, rs4, q4⟩, dt1.rt, dt1.nx, fun σ4 H4 G4 ρ4 S4 e4 R4 rs4 q4 => ⟨G4, ρ4, S4, (e'.trans e1).trans e4, R4, rs4, q4⟩, dt1.xc⟩
end

/-! ### what is walked -/
section
variable {X : Cx} {W : WX} {tg : Expr}
theorem itl_ok {K : PySem.W.Frag} {G : Hp} {a : Addr} {xs : List V} {ds : List D} (h : SqL K G a xs) (r : RpAll K G xs ds) : ItOk K (Itl K a) G ds := by
  intro i F H S' G' e R
  have sq : SqL K H a xs := sameL R.sub (sameL e h)
  refine ⟨fun d hd => ?_, fun hl => ⟨xs, sq, by rw [r.length]; exact hl⟩⟩
  obtain ⟨v, hv, rv⟩ := r.get hd
  refine ⟨⟨xs, v, sq, hv⟩, fun x H' y => ?_⟩
  obtain ⟨e1, y⟩ := y
  subst e1
  have q := y xs sq
  rw [hv] at q
  cases q
  exact ⟨G', Same.refl _, R, rv.mono e⟩
theorem itt_ok {K : PySem.W.Frag} {G : Hp} {a : Addr} {xs : List V} {ds : List D} (h : SqT K G a xs) (r : RpAll K G xs ds) : ItOk K (Itt K a) G ds := by
  intro i F H S' G' e R
  have sq : SqT K H a xs := sameT R.sub (sameT e h)
  refine ⟨fun d hd => ?_, fun hl => ⟨xs, sq, by rw [r.length]; exact hl⟩⟩
  obtain ⟨v, hv, rv⟩ := r.get hd
  refine ⟨⟨xs, v, sq, hv⟩, fun x H' y => ?_⟩
  obtain ⟨e1, y⟩ := y
  subst e1
  have q := y xs sq
  rw [hv] at q
  cases q
  exact ⟨G', Same.refl _, R, rv.mono e⟩
def intsD (lo : Int) (n : Nat) : List D := (List.range n).map fun (i : Nat) => D.int (lo + (i : Int))
theorem itr_ok {K : PySem.W.Frag} {G : Hp} (lo : Int) (n : Nat) : ItOk K (Itr lo n) G (intsD lo n) := by
  intro i F H S' G' e R
  refine ⟨fun d hd => ?_, fun hl => show n ≤ i by simpa [intsD] using hl⟩
  have hi : i < n := by
    have := (List.getElem?_eq_some_iff.mp hd).1
    simpa [intsD] using this
  have hd' : d = D.int (lo + (i : Int)) := by
    rw [intsD, List.getElem?_map, List.getElem?_range hi] at hd
    exact (Option.some.inj hd).symm
  subst hd'
  refine ⟨hi, fun x H' y => ?_⟩
  obtain ⟨e1, e2⟩ := y
  subst e1 e2
  exact ⟨G', Same.refl _, R, .int _⟩
/-- a frozen list or a tuple -/
def seqZ : D → Option (List D)
  | .lst xs => some xs
  | .tup xs => some xs
  | _ => none
def iSeq (t : TE2) : TI2 := fun ρ S Q E => t ρ S (fun d S1 => ∃ xs, seqZ d = some xs ∧ Q xs S1) E
theorem i_seq {l : Expr} {T : TE2} (hl : PE2 X W l T) : PI2 X W tg l (iSeq T) := by
  refine ⟨fun pins s σ H R I ⟨F, G, ρ, S, Q2, E2, R0, rs, q, rt, xt⟩ => ?_⟩
  refine thn (hl.run pins s σ H (fun v H1 => ∃ G1 d S1 xs, Same G G1 ∧ SR X.K F G1 S1 H1 ∧ Rp X.K G1 v d ∧ seqZ d = some xs ∧ Q2 xs S1) I ⟨F, G, ρ, S, _, E2, R0, rs, q, fun v H' G' d S' e R' r ⟨xs, hx, q'⟩ => ⟨G', d, S', xs, e, R', r, hx, q'⟩, xt⟩) fun v s1 ⟨x, H1, I1, r1, G1, d, S1, xs, e1, R1, rd, hx, q1⟩ => ?_
  cases rd with
  | @lst a vs ds h ra =>
    cases hx
    cases r1
    have hq : SqL X.K H1 a vs := sameL R1.sub h
    obtain ⟨its, rv, p, hz⟩ := I1.list hq
    refine wpAny_pyIter_list p.isList ?_
    refine ⟨s1.heap.objs.size, [s1.heap.objs.size], _, _, H1, rfl, I1.kept (t' := s1.toks) fun b o e => Heap.get?_push_of_some _ e, turn_list a _, ⟨_, Heap.get?_push_size _ rfl, rfl, rfl⟩, fun b hb => ?_, ?_⟩
    · have e : b = s1.heap.objs.size := by simpa using hb
      subst e
      exact I1.fpOk (Nat.le_refl _) (I1.hok.fresh (Nat.le_refl _))
    · exact rt (Itl X.K a) H1 G1 xs S1 e1 R1 (itl_ok h ra) q1
  | @tup a vs ds h ra =>
    cases hx
    cases r1
    have hq : SqT X.K H1 a vs := sameT R1.sub h
    obtain ⟨its, rv, p, hz⟩ := I1.tuple hq
    refine wpAny_pyIter_tuple (show s1.heap.IsTuple a its.toArray from p) ?_
    refine ⟨s1.heap.objs.size, [s1.heap.objs.size], _, _, H1, rfl, I1.kept (t' := s1.toks) fun b o e => Heap.get?_push_of_some _ e, turn_tuple a _, ⟨_, Heap.get?_push_size _ rfl, rfl, rfl⟩, fun b hb => ?_, rt (Itt X.K a) H1 G1 xs S1 e1 R1 (itt_ok h ra) q1⟩
    have e : b = s1.heap.objs.size := by simpa using hb
    subst e
    exact I1.fpOk (Nat.le_refl _) (I1.hok.fresh (Nat.le_refl _))
  | non => cases hx
  | bl => cases hx
  | int => cases hx
  | str => cases hx
  | ty => cases hx
  | ref => cases hx
  | obj => cases hx
  | exc0 => cases hx
  | exc1 => cases hx
def iRng (t : TA2) : TI2 := fun ρ S Q E => t ρ S (fun ds S1 => ∃ j : Int, ds = [.int j] ∧ -(2 ^ 62) ≤ j ∧ j < 2 ^ 62 ∧ Q (intsD 0 j.toNat) S1) E
def iRngB (t : TA2) : TI2 := fun ρ S Q E => t ρ S (fun ds S1 => ∃ i j : Int, ds = [.int i, .int j] ∧ (-(2 ^ 62) ≤ i ∧ i < 2 ^ 62 ∧ -(2 ^ 62) ≤ j ∧ j < 2 ^ 62) ∧ Q (intsD i (j - i).toNat) S1) E
theorem i_rng {a : Expr} {T : TA2} {p pos : Pos} (hg : Gl X "range") (hm : X.mg "range" = none) (ha : PA2 X W [a] T) (hs : starEach [a] X.env = [(false, eval a X.env)] := by rfl) : PI2 X W tg (.Call (.Name "range" p) [a] [] pos) (iRng T) :=
  pi_w (pi_range1 hg hm ha hs) fun σ H R ⟨F, G, ρ, S, Q2, E2, R0, rs, q, rt, xt⟩ => ⟨F, G, ρ, S, _, E2, R0, rs, q, fun us H1 G1 ds S1 e1 R1 r1 ⟨j, e, h1, h2, q1⟩ => by
    subst e
    cases r1 with
    | cons r rr => cases rr; cases r; exact ⟨j, rfl, h1, h2, rt _ H1 G1 _ S1 e1 R1 (itr_ok 0 j.toNat) q1⟩, xt⟩
theorem i_rng2 {a b : Expr} {T : TA2} {p pos : Pos} (hg : Gl X "range") (hm : X.mg "range" = none) (ha : PA2 X W [a, b] T) (hs : starEach [a, b] X.env = [(false, eval a X.env), (false, eval b X.env)] := by rfl) (hs2 : starEach [b] X.env = [(false, eval b X.env)] := by rfl) :
    PI2 X W tg (.Call (.Name "range" p) [a, b] [] pos) (iRngB T) :=
  pi_w (pi_range2 hg hm ha hs hs2) fun σ H R ⟨F, G, ρ, S, Q2, E2, R0, rs, q, rt, xt⟩ => ⟨F, G, ρ, S, _, E2, R0, rs, q, fun us H1 G1 ds S1 e1 R1 r1 ⟨i, j, e, h, q1⟩ => by
    subst e
    cases r1 with
    | cons r rr => cases rr with
      | cons r' rr => cases rr; cases r; cases r'; exact ⟨i, j, rfl, h, rt _ H1 G1 _ S1 e1 R1 (itr_ok i _) q1⟩, xt⟩
end
end Y
set_option Elab.async false
set_option linter.all false
set_option maxRecDepth 100000
set_option maxHeartbeats 4000000
namespace Y
open PySem PySem.Spec PyProof.Rows L2

/-! ### list comprehensions -/
def WF : WX := fun _ _ _ _ => False
def noE : EK := fun _ _ => False
theorem xt_no {K : PySem.W.Frag} {F G : Hp} {σ : St} : XT K F G σ noE WF := fun _ _ _ _ _ _ _ _ _ h => h
def wipeD (ρ : Rho) : List Nat → Rho
  | [] => ρ
  | v :: vs => (wipeD ρ vs).set v none
theorem wipeD_length (ρ : Rho) : ∀ vs : List Nat, (wipeD ρ vs).length = ρ.length
  | [] => rfl
  | v :: vs => by unfold wipeD; rw [List.length_set, wipeD_length ρ vs]
theorem wipe_get (σ : St) (j : Nat) : ∀ vs : List Nat, (wipe σ vs)[j]? = if j ∈ vs then (if j < σ.length then some none else none) else σ[j]?
  | [] => by simp [wipe]
  | v :: vs => by
    unfold wipe
    rw [List.getElem?_set, wipe_length]
    by_cases h : v = j
    · subst h; simp
    · rw [if_neg h, wipe_get σ j vs]
      have : (j ∈ v :: vs) ↔ j ∈ vs := by simp [Ne.symm h]
      simp [this]
theorem wipeD_get (σ : Rho) (j : Nat) : ∀ vs : List Nat, (wipeD σ vs)[j]? = if j ∈ vs then (if j < σ.length then some none else none) else σ[j]?
  | [] => by simp [wipeD]
  | v :: vs => by
    unfold wipeD
    rw [List.getElem?_set, wipeD_length]
    by_cases h : v = j
    · subst h; simp
    · rw [if_neg h, wipeD_get σ j vs]
      have : (j ∈ v :: vs) ↔ j ∈ vs := by simp [Ne.symm h]
      simp [this]
theorem RpSt.wipe {K : PySem.W.Frag} {G : Hp} {σ : St} {ρ : Rho} (h : RpSt K G σ ρ) (vs : List Nat) : RpSt K G (L2.wipe σ vs) (wipeD ρ vs) := by
  refine ⟨by rw [wipe_length, wipeD_length, h.1], fun i d hd => ?_⟩
  rw [wipeD_get] at hd
  rw [wipe_get]
  by_cases hi : i ∈ vs
  · rw [if_pos hi] at hd; split at hd <;> cases hd
  · rw [if_neg hi] at hd ⊢; exact h.2 i d hd
theorem SameBut.wipe {σ σ' : St} {vs : List Nat} (h : SameBut vs (L2.wipe σ vs) σ') : L2.wipe σ' vs = L2.wipe σ vs := by
  apply List.ext_getElem?
  intro j
  rw [wipe_get, wipe_get]
  by_cases hj : j ∈ vs
  · rw [if_pos hj, if_pos hj, h.1, wipe_length]
  · rw [if_neg hj, if_neg hj, h.2 j hj, wipe_get, if_neg hj]
theorem SR.touch {K : PySem.W.Frag} {F G : Hp} {S : Sto} {H : Hp} {a : Addr} {o : HO} (R : SR K F G S H) (f : F a = none) (g : G a = none) (s : S a = none) : SR K F G S (upd H a o) := by
  refine ⟨fun b u h => ?_, fun b so h => ?_, fun b u h => ?_, R.fg, R.fs⟩
  · rw [upd_ne (ne_of_none h g)]; exact R.sub _ _ h
  · obtain ⟨g', u, hu, r⟩ := R.mu b so h
    exact ⟨g', u, by rw [upd_ne (sne h s)]; exact hu, r⟩
  · rw [upd_ne (ne_of_none h f)]; exact R.fr _ _ h
def lcGo (g : TG2) (tt : TT2) (te : TE2) (ρ : Rho) (Q : List D → Sto → Prop) : List D → List D → Sto → Prop
  | [], acc, S => Q acc S
  | d :: ds, acc, S => g d ρ S (fun ρ1 S1 => tt ρ1 S1 (fun b S2 => if b = true then te ρ1 S2 (fun y S3 => acc.length < sizeLine ∧ lcGo g tt te ρ Q ds (acc ++ [y]) S3) noE else lcGo g tt te ρ Q ds acc S2) noE) noE
def lLc (vs : List Nat) (ti : TI2) (g : TG2) (tt : TT2) (te : TE2) : TA2 := fun ρ S Q E => ti ρ S (fun ds S1 => lcGo g tt te (wipeD ρ vs) Q ds [] S1) E
theorem lc_imp {K : PySem.W.Frag} {W : WX} {vs : List Nat} {ti : TI2} {g : TG2} {tt : TT2} {te : TE2} {σ : St} {H : Hp} {Q : VK} (h : loL K W (lLc vs ti g tt te) σ H Q) :
    tLc (loI K W ti) (loG K WF vs g) (loT K WF tt) (lo K WF te) vs σ H Q := by
  obtain ⟨F, G, ρ, S, Q2, E2, R, rs, q, lt, xt⟩ := h
  refine ⟨F, G, ρ, S, _, E2, R, rs, q, fun J H1 G1 ds S1 e1 R1 ok q1 => ?_, xt⟩
  intro A hA
  have fA : F A = none := R1.ffree hA
  have tk : ∀ {F' G' S' H'} {o : HO}, SR K F G' S' H' → F' = upd F A o → G' A = none → S' A = none → SR K F' G' S' (upd H' A o) := fun {F' G' S' H' o} R' e g s => by
    subst e; exact (R'.touch fA g s).aside upd_same g s
  refine ⟨fun i m H => m = ds.length - i ∧ i ≤ ds.length ∧ ∃ G' av acc S', Same G1 G' ∧ SR K (upd F A (.lst av)) G' S' H ∧ RpAll K G' av acc ∧ lcGo g tt te (wipeD ρ vs) Q2 (ds.drop i) acc S',
    ⟨ds.length, by simp, Nat.zero_le _, G1, [], [], S1, Same.refl _, tk R1 rfl (R1.gfree hA) (R1.sfree hA), .nil, q1⟩, ?_⟩
  rintro i m H ⟨rfl, hi, G', av, acc, S', e', R', ra, q'⟩
  have gA : G' A = none := R'.fg A _ upd_same
  have sA : S' A = none := R'.fs A _ upd_same
  by_cases hlt : i < ds.length
  · have hd : ds[i]? = some ds[i] := by simp [hlt]
    obtain ⟨go, yl⟩ := (ok i _ H S' G' e' R').1 _ hd
    rw [List.drop_eq_getElem_cons hlt] at q'
    refine .inr ⟨go, fun H => i + 1 ≤ ds.length ∧ ∃ G' av acc S', Same G1 G' ∧ SR K (upd F A (.lst av)) G' S' H ∧ RpAll K G' av acc ∧ lcGo g tt te (wipeD ρ vs) Q2 (ds.drop (i + 1)) acc S', fun H' h => ⟨ds.length - (i + 1), by omega, rfl, h⟩, fun x H' y => ?_⟩
    obtain ⟨G2, e2, R2, r2⟩ := yl x H' y
    refine ⟨upd F A (.lst av), G2, wipeD ρ vs, S', _, _, noE, R2, ((rs.mono e1).mono (e'.trans e2)).wipe vs, r2, q', fun σ3 H3 G3 ρ3 S3 sb e3 R3 rs3 q3 => ⟨sb.wipe, upd F A (.lst av), G3, ρ3, S3, _, noE, R3, rs3, q3, fun b H4 G4 S4 e4 R4 q4 => ?_, xt_no⟩, fun _ _ => xt_no⟩
    have e14 : Same G1 G4 := (e'.trans e2).trans (e3.trans e4)
    have e24 : Same G' G4 := e2.trans (e3.trans e4)
    cases b with
    | false =>
      simp only [Bool.false_eq_true, if_false] at q4 ⊢
      exact ⟨hlt, G4, av, acc, S4, e14, R4, ra.mono e24, q4⟩
    | true =>
      simp only [if_true] at q4 ⊢
      refine ⟨upd F A (.lst av), G4, ρ3, S4, _, noE, R4, rs3.mono e4, q4, fun v H5 G5 d S5 e5 R5 r5 ⟨hz, q5⟩ => ?_, xt_no⟩
      refine ⟨av, R5.fr A _ upd_same, by rw [(ra).length]; exact hz, hlt, G5, av ++ [v], acc ++ [d], S5, e14.trans e5, ?_, (ra.mono (e24.trans e5)).append (.cons r5 .nil), q5⟩
      exact tk (R5.back fA) rfl (R5.fg A _ upd_same) (R5.fs A _ upd_same)
  · have e : i = ds.length := by omega
    subst e
    rw [List.drop_length] at q'
    exact .inl ⟨(ok ds.length _ H S' G' e' R').2 (Nat.le_refl _), lt A av H G' acc S' (e1.trans e') (R'.back fA) (R'.fr A _ upd_same) gA sA fA ra q'⟩
def PTs2 (X : Cx) (W : WX) (ifs : List Expr) (T : TT2) : Prop := PTs X ifs (loT X.K W T)
def tYes2 : TT2 := fun _ S Q _ => Q true S
section
variable {X : Cx} {W : WX}
theorem ts_nil : PTs2 X W [] tYes2 := ⟨fun pins s σ H Q I ⟨F, G, ρ, S, Q2, E2, R, rs, q, bt, xt⟩ => (pts_nil (X := X)).run pins s σ H Q I (bt true H G S (Same.refl _) R q)⟩
theorem ts_one {c : Expr} {T : TT2} (h : PT2 X W c T) : PTs2 X W [c] T := pts_one h
variable {elt tg iter : Expr} {ifs : List Expr} {scope : Scope} {own : List (Str × Nat)} {pos : Pos} {ti : TI2} {g : TG2} {tt : TT2} {te : TE2}
theorem l_lc (own : List (Str × Nat)) (hc : X.calm = true) (hN : X.N.Nodup) (hi : PI2 X W tg iter ti) (ok : BlkOk X.N X.env.scope scope own)
    (hg : ∀ (s : Shared) (H : Hp) (C : Addr) (cl : List (Str × Addr)) (fp : List Addr), PG2 (X.blk s H scope (compEnvC scope cl C X.env) fp) WF (own.map (·.2)) tg g)
    (ht : ∀ (s : Shared) (H : Hp) (C : Addr) (cl : List (Str × Addr)) (fp : List Addr), PTs2 (X.blk s H scope (compEnvC scope cl C X.env) fp) WF ifs tt)
    (he : ∀ (s : Shared) (H : Hp) (C : Addr) (cl : List (Str × Addr)) (fp : List Addr), PE2 (X.blk s H scope (compEnvC scope cl C X.env) fp) WF elt te) (hs : ∀ x, foldedSetIterable iter X.env x = pure x := by intro _; rfl) :
    PL2 X W (.ListComp elt [⟨tg, iter, ifs, 0⟩] scope pos) (lLc (own.map (·.2)) ti g tt te) := pe_w (pe_lc (g := loG X.K WF (own.map fun p : Str × Nat => p.2) g) (tt := loT X.K WF tt) (te := lo X.K WF te) hc hN hi ok hg ht he hs) fun _ _ _ h => lc_imp h
/-- y = [..] in one line, y a local -/
theorem s_setLc {y : Str} {py spos : Pos} (i : Nat) (own : List (Str × Nat)) (hc : X.calm = true) (hN : X.N.Nodup) (hi : PI2 X W tg iter ti) (ok : BlkOk X.N X.env.scope scope own)
    (hg : ∀ (s : Shared) (H : Hp) (C : Addr) (cl : List (Str × Addr)) (fp : List Addr), PG2 (X.blk s H scope (compEnvC scope cl C X.env) fp) WF (own.map (·.2)) tg g)
    (ht : ∀ (s : Shared) (H : Hp) (C : Addr) (cl : List (Str × Addr)) (fp : List Addr), PTs2 (X.blk s H scope (compEnvC scope cl C X.env) fp) WF ifs tt)
    (he : ∀ (s : Shared) (H : Hp) (C : Addr) (cl : List (Str × Addr)) (fp : List Addr), PE2 (X.blk s H scope (compEnvC scope cl C X.env) fp) WF elt te)
    (hsw : swapsWith (.ListComp elt [⟨tg, iter, ifs, 0⟩] scope pos) (some (.Name y py)) spos.line X.env = pure true) (hy : X.N[i]? = some y := by rfl) (hyl : X.env.scope.names.lookup y = some .local := by rfl) (hs : ∀ x, foldedSetIterable iter X.env x = pure x := by intro _; rfl) :
    PS2 X W (.Assign [.Name y py] (.ListComp elt [⟨tg, iter, ifs, 0⟩] scope pos) spos) (sSet i (eFr (lLc (own.map (·.2)) ti g tt te))) :=
  ps_w (ps_setLc (g := loG X.K WF (own.map fun p : Str × Nat => p.2) g) (tt := loT X.K WF tt) (te := lo X.K WF te) hc hN hy hyl hsw hi ok hg ht he hs) fun D σ H ⟨F, G, ρ, S, D2, R, rs, q, dt⟩ =>
    lc_imp (fr_imp ⟨F, G, ρ, S, _, _, R, rs, q, fun v H1 G1 d S1 e1 R1 r1 q1 => dt.nx _ H1 G1 _ S1 e1 R1 ((rs.mono e1).set r1 i) q1, dt.xt rs⟩)
theorem s_setLcM {y : Str} {py spos : Pos} (i : Nat) (own : List (Str × Nat)) (hc : X.calm = true) (hN : X.N.Nodup) (hi : PI2 X W tg iter ti) (ok : BlkOk X.N X.env.scope scope own)
    (hg : ∀ (s : Shared) (H : Hp) (C : Addr) (cl : List (Str × Addr)) (fp : List Addr), PG2 (X.blk s H scope (compEnvC scope cl C X.env) fp) WF (own.map (·.2)) tg g)
    (ht : ∀ (s : Shared) (H : Hp) (C : Addr) (cl : List (Str × Addr)) (fp : List Addr), PTs2 (X.blk s H scope (compEnvC scope cl C X.env) fp) WF ifs tt)
    (he : ∀ (s : Shared) (H : Hp) (C : Addr) (cl : List (Str × Addr)) (fp : List Addr), PE2 (X.blk s H scope (compEnvC scope cl C X.env) fp) WF elt te)
    (hsw : swapsWith (.ListComp elt [⟨tg, iter, ifs, 0⟩] scope pos) (some (.Name y py)) spos.line X.env = pure true) (hy : X.N[i]? = some y := by rfl) (hyl : X.env.scope.names.lookup y = some .local := by rfl) (hs : ∀ x, foldedSetIterable iter X.env x = pure x := by intro _; rfl) :
    PS2 X W (.Assign [.Name y py] (.ListComp elt [⟨tg, iter, ifs, 0⟩] scope pos) spos) (sSet i (eMu (lLc (own.map (·.2)) ti g tt te))) :=
  ps_w (ps_setLc (g := loG X.K WF (own.map fun p : Str × Nat => p.2) g) (tt := loT X.K WF tt) (te := lo X.K WF te) hc hN hy hyl hsw hi ok hg ht he hs) fun D σ H ⟨F, G, ρ, S, D2, R, rs, q, dt⟩ =>
    lc_imp (mu_imp ⟨F, G, ρ, S, _, _, R, rs, q, fun v H1 G1 d S1 e1 R1 r1 q1 => dt.nx _ H1 G1 _ S1 e1 R1 ((rs.mono e1).set r1 i) q1, dt.xt rs⟩)
end

/-! ### defs, their promises -/
abbrev Sp2 := List D → Sto → QK → EK → Prop
/-- a def's wish about exceptions, whatever the slots -/
def XE2 (K : PySem.W.Frag) (F G : Hp) (E2 : EK) (E : XK) : Prop := ∀ c dx H' G' x S', Same G G' → SR K F G' S' H' → XR K G' c dx x → E2 x S' → E c dx H'
def loF (K : PySem.W.Frag) (sp : Sp2) : Sp := fun vs H Q E => ∃ F G S ds Q2 E2, SR K F G S H ∧ RpAll K G vs ds ∧ sp ds S Q2 E2 ∧ QT K F G Q2 Q ∧ XE2 K F G E2 E
def FnD (P : Program) (w : World) (K : PySem.W.Frag) (mg : Str → Option Value) (base : Heap) (k : Nat) (f : Addr) (fd : FuncData) (ps : List Str) (sp : Sp2) : Prop := FnOk P w K mg base (L2N.CX P w) k f fd ps (loF K sp)
def start2 (N : List Str) (ds : List D) : Rho := ds.map some ++ List.replicate (N.length - ds.length) none
theorem start_rp {K : PySem.W.Frag} {G : Hp} {vs : List V} {ds : List D} (N : List Str) (h : RpAll K G vs ds) : RpSt K G (L2.start N vs) (start2 N ds) := by
  have hl := h.length
  refine ⟨by simp [L2.start, start2, hl], fun i d hd => ?_⟩
  unfold start2 at hd
  unfold L2.start
  by_cases hi : i < ds.length
  · rw [List.getElem?_append_left (by simpa using hi), List.getElem?_map] at hd
    cases e : ds[i]? with
    | none => rw [e] at hd; cases hd
    | some x =>
      rw [e] at hd
      have : x = d := by simpa using hd
      subst this
      obtain ⟨v, hv, r⟩ := h.get e
      refine ⟨v, ?_, r⟩
      rw [List.getElem?_append_left (by rw [List.length_map, hl]; exact hi), List.getElem?_map, hv]
      rfl
  · rw [List.getElem?_append_right (by simpa using hi), List.getElem?_replicate] at hd
    split at hd <;> cases hd
/-- the ends of a def's body -/
def endsOf (Q : QK) (E : EK) : Ends2 := ⟨fun _ S => Q .non S, Q, fun _ _ => False, fun _ _ => False, fun x _ S => E x S⟩
section
variable {P : Program} {w : World} {K : PySem.W.Frag} {mg : Str → Option Value} {base : Heap}
theorem okN {x qual : Str} {st : Stmt} {f : Addr} {fd : FuncData} {N ps : List Str} {k : Nat} {sp : Sp} (F : Fun K x qual st f fd) (S : FnScope N ps (defScope st)) (len : ∀ vs H Q E, sp vs H Q E → vs.length = ps.length)
    (body : ∀ (cdv : Value) (A : Around) (outer : List Env) (s : Shared) (H : Hp) (vs : List V) (Q : VK) (E : XK), Room k (A.deeper (envOfC qual (defScope st) s.heap.objs.size f cdv)) → sp vs H Q E →
      ∃ t, PSs (cxOf (L2N.CX P w) P w K mg base N qual (defScope st) f cdv A outer s H E) (defBody st) t ∧ t { nx := fun _ H' => Q .non H', rt := Q } (L2.start N vs) H) : FnOk P w K mg base (L2N.CX P w) (k + 1) f fd ps sp := by
  obtain ⟨oc, od, kV, doc, pm, an, cdv, ct, osl, rfl, lk, hcd⟩ := F.ex
  exact fn_of lk hcd S len fun A outer s H vs Q E hr hsp => body cdv A outer s H vs Q E hr hsp
/-- THE RULE: a def's body as a term of rules (T: its reading), and its promise -/
theorem fnD {x qual : Str} {st : Stmt} {f : Addr} {fd : FuncData} {N ps : List Str} {k : Nat} {sp : Sp2} {T : TS2} (F : Fun K x qual st f fd) (S : FnScope N ps (defScope st)) (len : ∀ ds S Q E, sp ds S Q E → ds.length = ps.length)
    (body : ∀ (X : Cx) (W : WX), X.prog = P → X.w = w → X.K = K → X.mg = mg → X.base = base → X.N = N → X.env.scope = defScope st → X.calm = true → X.fn = (fun _ => true) → Room k X.A → X.stack = X.env :: X.outer → X.env.frame = some X.env.locals → L2N.Takes X W → PassesOwn (model X.prog X.w) X.A X.env X.xe → PSs2 X W (defBody st) T)
    (spec : ∀ ds S Q E, sp ds S Q E → T (endsOf Q E) (start2 N ds) S) : FnD P w K mg base (k + 1) f fd ps sp := by
  refine okN F S (fun vs H Q E ⟨F', G, S', ds, Q2, E2, R, ra, q, _⟩ => by rw [ra.length]; exact len _ _ _ _ q) fun cdv A outer s H vs Q E hr ⟨F', G, S', ds, Q2, E2, R, ra, q, qt, xt⟩ => ?_
  refine ⟨_, body _ (fun cls d _ H => E cls d H) rfl rfl rfl rfl rfl rfl rfl rfl rfl hr rfl rfl (L2N.takes_of rfl rfl rfl rfl) (passes_of rfl), ?_⟩
  refine ⟨F', G, start2 N ds, S', endsOf Q2 E2, R, start_rp N ra, spec _ _ _ _ q, ?_⟩
  exact ⟨fun σ' H' G' ρ' S1 e R' _ q' => qt .non H' G' .non S1 e R' .non q', qt, fun _ _ _ _ _ _ _ _ z => z.elim, fun _ _ _ _ _ _ _ _ z => z.elim, fun c dx σ' H' G' x' ρ' S1 e R' _ xr q' => xt c dx H' G' x' S1 e R' xr q'⟩
theorem FnD.mono {j k : Nat} {f : Addr} {fd : FuncData} {ps : List Str} {sp : Sp2} (F : FnD P w K mg base j f fd ps sp) (h : j ≤ k) : FnD P w K mg base k f fd ps sp := FnOk.mono F h
theorem FnD.imp {k : Nat} {f : Addr} {fd : FuncData} {ps : List Str} {sp sp' : Sp2} (F : FnD P w K mg base k f fd ps sp) (h : ∀ ds S Q E, sp' ds S Q E → sp ds S Q E) : FnD P w K mg base k f fd ps sp' :=
  FnOk.imp F fun vs H Q E ⟨F', G, S, ds, Q2, E2, R, ra, q, r⟩ => ⟨F', G, S, ds, Q2, E2, R, ra, h _ _ _ _ q, r⟩
end
/-! ### calls -/
section
variable {X : Cx} {W : WX} {k : Nat} {f C : Addr} {fd : FuncData} {ps : List Str} {sp : Sp2} {ds : List Value} {dvs : List V} {dds : List D} {x m : Str} {p pos apos : Pos} {e o : Expr} {es : List Expr} {Ta : TE2} {T : TA2}
theorem run_fnY {spv : Sp} {E : XK} {pins : List (Addr × Obj)} {σ : St} {H : Hp} {s : Shared} {Q : VK} {us : List Value} {vs : List V} (F : FnOk X.prog X.w X.K X.mg X.base (L2N.CX X.prog X.w) k f fd ps spv) (hr : Room k X.A) (hb : Binds X.K fd ps ds) (hd : Vals dvs ds)
    (hx : PassesAt (L2N.CX X.prog X.w) X σ E) (I : Inv X pins σ H s) (r : Vals vs us) (h : spv (vs ++ dvs) H Q E) : wpAny (model X.prog X.w) X.A (call (.ref f) us) (EP X pins σ Q) X.xe s := by
  have r2 : Vals (vs ++ dvs) (us ++ ds) := r.append hd
  have hl : (us ++ ds).length = ps.length := by rw [← r2.length]; exact F.len _ _ _ _ h
  refine wpAny_call (codeAny_mono (F.run X.A X.stack s H ⟨us, []⟩ (us ++ ds) (vs ++ dvs) Q E hr I.env0 (hb s us I.kIn hl) r2 h) fun r s' hq => ?_)
  cases r with
  | error e => exact hx pins H s e s' I hq
  | ok fl =>
    cases fl with
    | ret u => exact I.after hq
    | next => exact False.elim hq
    | brk => exact False.elim hq
    | cont => exact False.elim hq
def eCall (sp : Sp2) (dds : List D) (t : TA2) : TE2 := fun ρ S Q E => t ρ S (fun ds S1 => sp (ds ++ dds) S1 Q E) E
theorem e_call (F : FnD X.prog X.w X.K X.mg X.base k f fd ps sp) (hr : Room k X.A) (hg : Gl X x) (hm : X.mg x = some (.ref f)) (hk : PySem.W.keepIn X.K (.ref f) = true) (hb : Binds X.K fd ps ds) (hd : Vals dvs ds) (hdd : ∀ G, RpAll X.K G dvs dds) (tk : L2N.Takes X W)
    (ha : PA2 X W (e :: es) T) (hdb : (x == ("__debug__" : Str)) = false := by decide +kernel) (he : starEach (e :: es) X.env = (false, eval e X.env) :: starEach es X.env := by rfl) (hpl : (backTo pos (starEach es X.env)).any (·.1) = false := by rfl) :
    PE2 X W (.Call (.Name x p) (e :: es) [] pos) (eCall sp dds T) := by
  refine ⟨fun pins s σ H Q I ⟨F', G, ρ, S, Q2, E2, R, rs, q, qt, xt⟩ => ?_⟩
  refine wpAny_Call_Name_kw (ld_glob I hg hm ?_ hdb)
  refine PySem.W.callWith_K (h₀ := X.base) I.ok.mod.kin hk (thn (ha.run pos pins s σ H (fun vs H1 => loF X.K sp (vs ++ dvs) H1 Q (WE W σ)) I ⟨F', G, ρ, S, _, E2, R, rs, q, fun vs H1 G1 d S1 e1 R1 r1 q1 => ⟨F', G1, S1, d ++ dds, Q2, E2, R1, r1.append (hdd _), q1, qt.le e1, xt.le e1⟩, xt⟩) fun us s1 ⟨vs, H1, I1, r, q1⟩ => ⟨I1.kIn, ?_⟩) he hpl
  exact run_fnY F hr hb hd (L2N.passAt tk σ) I1 r q1
theorem e_call0 (F : FnD X.prog X.w X.K X.mg X.base k f fd ps sp) (hr : Room k X.A) (hg : Gl X x) (hm : X.mg x = some (.ref f)) (hk : PySem.W.keepIn X.K (.ref f) = true) (hb : Binds X.K fd ps ds) (hd : Vals dvs ds) (hdd : ∀ G, RpAll X.K G dvs dds) (tk : L2N.Takes X W)
    (hdb : (x == ("__debug__" : Str)) = false := by decide +kernel) : PE2 X W (.Call (.Name x p) [] [] pos) (eCall sp dds aNil) := by
  refine ⟨fun pins s σ H Q I ⟨F', G, ρ, S, Q2, E2, R, rs, q, qt, xt⟩ => ?_⟩
  refine wpAny_Call_Name_kw (ld_glob I hg hm ?_ hdb)
  exact PySem.W.callWith_K0 I.kIn hk (run_fnY (us := []) (vs := []) F hr hb hd (L2N.passAt tk σ) I .nil ⟨F', G, S, dds, Q2, E2, R, hdd _, q, qt, xt⟩)
/-! ### builtins by their names -/
def eCB (r : List D → Sto → QK → Prop) (t : TA2) : TE2 := fun ρ S Q E => t ρ S (fun ds S1 => r ds S1 Q) E
def lCB (r : List D → Sto → (List D → Sto → Prop) → Prop) (t : TA2) : TA2 := fun ρ S Q E => t ρ S (fun ds S1 => r ds S1 Q) E
variable {id Ty : String} {r2 : List D → Sto → QK → Prop} {rl : List D → Sto → (List D → Sto → Prop) → Prop}
theorem cb_imp {σ : St} {H : Hp} {Q : VK} (h : lo X.K W (eCB r2 T) σ H Q) : tCB (loC X.K r2) (loA X.K W T) σ H Q := by
  obtain ⟨F, G, ρ, S, Q2, E2, R, rs, q, qt, xt⟩ := h
  exact ⟨F, G, ρ, S, _, E2, R, rs, q, fun vs H1 G1 ds S1 e1 R1 r1 q1 => ⟨F, G1, S1, ds, Q2, R1, r1, q1, qt.le e1⟩, xt⟩
theorem cbl_imp {σ : St} {H : Hp} {Q : VK} (h : loL X.K W (lCB rl T) σ H Q) : tCB (loCL X.K rl) (loA X.K W T) σ H Q := by
  obtain ⟨F, G, ρ, S, Q2, E2, R, rs, q, qt, xt⟩ := h
  exact ⟨F, G, ρ, S, _, E2, R, rs, q, fun vs H1 G1 ds S1 e1 R1 r1 q1 => ⟨F, G1, S1, ds, Q2, R1, r1, q1, qt.le e1⟩, xt⟩
theorem e_callB (hc : CallR X (.builtin id) (loC X.K r2)) (hg : Gl X x) (hm : X.mg x = none) (hv : bootBuiltins x = some (.builtin id)) (ha : PA2 X W (e :: es) T) (hn : x ≠ "__name__" := by decide +kernel) (hdb : (x == ("__debug__" : Str)) = false := by decide +kernel)
    (he : starEach (e :: es) X.env = (false, eval e X.env) :: starEach es X.env := by rfl) (hpl : (backTo pos (starEach es X.env)).any (·.1) = false := by rfl) : PE2 X W (.Call (.Name x p) (e :: es) [] pos) (eCB r2 T) := pe_w (pe_callB hc hg hm hv ha hn hdb he hpl) fun _ _ _ h => cb_imp h
theorem e_callTy (hc : CallR X (.type Ty) (loC X.K r2)) (hg : Gl X x) (hm : X.mg x = none) (hv : bootBuiltins x = some (.type Ty)) (ha : PA2 X W (e :: es) T) (hn : x ≠ "__name__" := by decide +kernel) (hdb : (x == ("__debug__" : Str)) = false := by decide +kernel)
    (he : starEach (e :: es) X.env = (false, eval e X.env) :: starEach es X.env := by rfl) (hpl : (backTo pos (starEach es X.env)).any (·.1) = false := by rfl) : PE2 X W (.Call (.Name x p) (e :: es) [] pos) (eCB r2 T) := pe_w (pe_callTy hc hg hm hv ha hn hdb he hpl) fun _ _ _ h => cb_imp h
theorem l_callB (hc : CallR X (.builtin id) (loCL X.K rl)) (hg : Gl X x) (hm : X.mg x = none) (hv : bootBuiltins x = some (.builtin id)) (ha : PA2 X W (e :: es) T) (hn : x ≠ "__name__" := by decide +kernel) (hdb : (x == ("__debug__" : Str)) = false := by decide +kernel)
    (he : starEach (e :: es) X.env = (false, eval e X.env) :: starEach es X.env := by rfl) (hpl : (backTo pos (starEach es X.env)).any (·.1) = false := by rfl) : PL2 X W (.Call (.Name x p) (e :: es) [] pos) (lCB rl T) := pe_w (pe_callB hc hg hm hv ha hn hdb he hpl) fun _ _ _ h => cbl_imp h
theorem l_callTy (hc : CallR X (.type Ty) (loCL X.K rl)) (hg : Gl X x) (hm : X.mg x = none) (hv : bootBuiltins x = some (.type Ty)) (ha : PA2 X W (e :: es) T) (hn : x ≠ "__name__" := by decide +kernel) (hdb : (x == ("__debug__" : Str)) = false := by decide +kernel)
    (he : starEach (e :: es) X.env = (false, eval e X.env) :: starEach es X.env := by rfl) (hpl : (backTo pos (starEach es X.env)).any (·.1) = false := by rfl) : PL2 X W (.Call (.Name x p) (e :: es) [] pos) (lCB rl T) := pe_w (pe_callTy hc hg hm hv ha hn hdb he hpl) fun _ _ _ h => cbl_imp h
end
end Y
set_option Elab.async false
set_option linter.all false
set_option maxRecDepth 100000
set_option maxHeartbeats 4000000
namespace Y
open PySem PySem.Spec PyProof.Rows L2

/-! ### + - * and their kin, by data -/
def opAdd (x y : D) (S : Sto) (Q : QK) : Prop := match x, y with
  | .int i, .int j => Q (.int (i + j)) S
  | .str i, .str j => i.length + j.length ≤ sizeLine ∧ Q (.str (i ++ j)) S
  | .tup xs, .tup ys => xs.length + ys.length ≤ sizeLine ∧ Q (.tup (xs ++ ys)) S
  | _, _ => ∃ xs ys, lstOf S x = some xs ∧ lstOf S y = some ys ∧ xs.length + ys.length ≤ sizeLine ∧ Q (.lst (xs ++ ys)) S
def lCat (x y : D) (S : Sto) (Q : List D → Sto → Prop) : Prop := ∃ xs ys, lstOf S x = some xs ∧ lstOf S y = some ys ∧ xs.length + ys.length ≤ sizeLine ∧ Q (xs ++ ys) S
def opI (f : Int → Int → Int) (x y : D) (S : Sto) (Q : QK) : Prop := match x, y with
  | .int i, .int j => Q (.int (f i j)) S
  | _, _ => False
def opIC (C : Int → Int → Prop) (f : Int → Int → Int) (x y : D) (S : Sto) (Q : QK) : Prop := match x, y with
  | .int i, .int j => C i j ∧ Q (.int (f i j)) S
  | _, _ => False
def opB (f : Int → Int → Bool) (x y : D) (S : Sto) (Q : QK) : Prop := match x, y with
  | .int i, .int j => Q (.bl (f i j)) S
  | _, _ => False
def CMulA (i j : Int) : Prop := CMul i j ∨ CMulW i j
def CDivA (i j : Int) : Prop := 0 < j ∧ j.natAbs.log2 < 9000
abbrev opSub : R2D := opI fun i j => i - j
abbrev opMul : R2D := opIC CMulA fun i j => i * j
abbrev opDiv : R2D := opIC CDivA fun i j => i / j
abbrev opMod : R2D := opIC (fun _ j => 0 < j) fun i j => i % j
abbrev opPow : R2D := opIC CPow fun i j => i ^ j.toNat
abbrev opLt : R2D := opB fun i j => decide (i < j)
abbrev opLe : R2D := opB fun i j => decide (i ≤ j)
abbrev opGt : R2D := opB fun i j => decide (j < i)
abbrev opGe : R2D := opB fun i j => decide (j ≤ i)
section
variable {K : PySem.W.Frag} {F G : Hp} {S : Sto} {H : Hp}
theorem Rp.int_inv {v : V} {i : Int} (h : Rp K G v (.int i)) : v = .int i := by cases h; rfl
theorem Rp.str_inv {v : V} {i : Str} (h : Rp K G v (.str i)) : v = .str i := by cases h; rfl
end
section
variable {X : Cx}
theorem LT.at {K : PySem.W.Frag} {F G : Hp} {S : Sto} {H : Hp} {Q2 : List D → Sto → Prop} {Q : VK} (h : LT K F G Q2 Q) (R : SR K F G S H) {vs : List V} {ds : List D} (r : RpAll K G vs ds) (q : Q2 ds S) {p : Addr} (hp : H p = none) : Q (.ref p) (upd H p (.lst vs)) := h.new R r q p hp
/-- a new list at the heap's end, from a library rule -/
theorem new_list {pins : List (Addr × Obj)} {σ : St} {H : Hp} {s : Shared} {Q : VK} {vs : List V} {its : List Value} (I : Inv X pins σ H s) (r : Vals vs its) (hz : vs.length ≤ sizeLine) (q : Q (.ref s.heap.objs.size) (upd H s.heap.objs.size (.lst vs))) :
    EP X pins σ Q (.ref s.heap.objs.size) { s with heap := s.heap.push { cls := .type "list", data := .seq its.toArray } } :=
  ⟨.ref _, _, I.lnew (t' := s.toks) r hz, rfl, q⟩
theorem l_cat2 : OpR X (binaryOp .Add) (loRL X.K lCat) := by
  rintro pins s σ H x y v u Q I rx ry ⟨F, G, S, d, e, Q2, R, r1, r2, ⟨xs, ys, hx, hy, hz, q⟩, lt⟩
  obtain ⟨p1, v1, rfl, q1, a1⟩ := lst_rd R r1 hx
  obtain ⟨p2, v2, rfl, q2, a2⟩ := lst_rd R r2 hy
  cases rx
  cases ry
  obtain ⟨its, r, ⟨⟨c1, d1, dt1, s1⟩, n, g1, hc1, _, hd1⟩, z⟩ := I.list q1
  obtain ⟨its2, r', ⟨⟨c2, d2, dt2, s2⟩, n2, g2, hc2, _, hd2⟩, z2⟩ := I.list q2
  simp only at hc1 hd1 hc2 hd2
  subst hc1 hd1 hc2 hd2
  have hl := r.length
  have hl2 := r'.length
  have l1 := a1.length
  have l2 := a2.length
  refine concat_meets ⟨_, g1, rfl⟩ ⟨_, g2, rfl⟩ noFill_list_add seq_list_add PySem.F.slot_list_add PySem.F.entry_list_add (PySem.F.args_list_add_2 _ _) (list_addW p1 p2 its.toArray its2.toArray n n2 d1 d2 s1 s2 (by rw [List.size_toArray, List.size_toArray]; omega)) ⟨g1, g2, ?_⟩
  rw [show its.toArray ++ its2.toArray = (its ++ its2).toArray by simp]
  exact new_list I (r.append r') (by rw [List.length_append]; omega) (lt.at R (a1.append a2) q I.fresh)
theorem frz_of {r : D → D → Sto → (List D → Sto → Prop) → Prop} {f : Value → Value → Sem Value} (h : OpR X f (loRL X.K r)) : OpR X f (loR X.K fun x y S Q => r x y S fun ds S' => Q (.lst ds) S') := by
  rintro pins s σ H x y v u Q I rx ry ⟨F, G, S, d, e, Q2, R, r1, r2, q, qt⟩
  exact h pins s σ H x y v u Q I rx ry ⟨F, G, S, d, e, _, R, r1, r2, q, fun p vs H' G' ds S' e R' hp gp sp fp ra q' => qt (.ref p) H' (upd G' p (.lst vs)) (.lst ds) S' (e.trans (Same.laid gp)) (R'.freezeN hp gp sp fp) (.lst (.inl (.inl upd_same)) (ra.mono (Same.laid gp))) q'⟩
theorem op_add2 : OpR X (binaryOp .Add) (loR X.K opAdd) := by
  rintro pins s σ H x y v u Q I rx ry ⟨F, G, S, d, e, Q2, R, r1, r2, q, qt⟩
  unfold opAdd at q
  split at q
  · cases r1.int_inv; cases r2.int_inv
    exact op_add pins s σ H _ _ v u Q I rx ry ⟨_, _, rfl, rfl, qt _ H G _ S (Same.refl _) R (.int _) q⟩
  · cases r1.str_inv; cases r2.str_inv
    exact op_add_str pins s σ H _ _ v u Q I rx ry ⟨_, _, rfl, rfl, q.1, qt _ H G _ S (Same.refl _) R (.str _) q.2⟩
  · obtain ⟨p1, v1, rfl, q1, a1⟩ := tup_sq R r1
    obtain ⟨p2, v2, rfl, q2, a2⟩ := tup_sq R r2
    refine op_catA pins s σ H _ _ v u Q I rx ry ⟨_, _, _, _, rfl, rfl, q1, q2, by rw [a1.length, a2.length]; exact q.1, fun h => ?_, fun _ h => ?_, fun _ _ => qt.tup R (a1.append a2) q.2⟩
    · subst h; cases a1
      exact qt _ H G _ S (Same.refl _) R r2 q.2
    · subst h; cases a2
      have q' := q.2
      rw [List.append_nil] at q'
      exact qt _ H G _ S (Same.refl _) R r1 q'
  · exact frz_of l_cat2 pins s σ H _ _ v u Q I rx ry ⟨F, G, S, _, _, Q2, R, r1, r2, q, qt⟩
theorem RpAll.rep {K : PySem.W.Frag} {G : Hp} {vs : List V} {ds : List D} (h : RpAll K G vs ds) : ∀ n : Nat, RpAll K G (List.replicate n vs).flatten (List.replicate n ds).flatten
  | 0 => .nil
  | n + 1 => by
    rw [List.replicate_succ, List.replicate_succ, List.flatten_cons, List.flatten_cons]
    exact h.append (RpAll.rep h n)
theorem XT.aside {K : PySem.W.Frag} {F G : Hp} {σ : St} {E2 : EK} {W : WX} {p : Addr} {o : HO} (h : XT K F G σ E2 W) (fp : F p = none) : XT K (upd F p o) G σ E2 W := fun c dx H' G' x S' e R => h c dx H' G' x S' e (R.back fp)
variable {W : WX} {a b : Expr} {pos : Pos} {Ta : TA2} {Tb : TE2}
/-- [..] * n -/
def lRep (ta : TA2) (tb : TE2) : TA2 := fun ρ S Q E => ta ρ S (fun xs S1 => tb ρ S1 (fun y S2 => ∃ k, y = .int k ∧ -(2 ^ 63) ≤ k ∧ k < 2 ^ 63 ∧ xs.length * k.toNat ≤ sizeLine ∧ Q (List.replicate k.toNat xs).flatten S2) E) E
theorem l_rep (ha : PL2 X W a Ta) (hb : PE2 X W b Tb) : PL2 X W (.BinOp a .Mult b pos) (lRep Ta Tb) :=
  pe_w (pe_op op_rep ha hb) fun σ H Q ⟨F, G, ρ, S, Q2, E2, R, rs, q, lt, xt⟩ => ⟨F, G, ρ, S, _, E2, R, rs, q, fun p vs H1 G1 ds S1 e1 R1 hp gp sp fp ra q1 =>
    ⟨upd F p (.lst vs), G1, ρ, S1, _, E2, R1.aside hp gp sp, rs.mono e1, q1, fun v H2 G2 d S2 e2 R2 r2 ⟨k, hk, h1, h2, hz, q2⟩ => by
      subst hk; cases r2
      exact ⟨p, k, vs, rfl, rfl, R2.fr p _ upd_same, h1, h2, by rw [ra.length]; exact hz, (lt.le (e1.trans e2)).new (R2.back fp) ((ra.mono e2).rep _) q2⟩, (xt.le e1).aside fp⟩, xt⟩

/-! ### ints -/
theorem opI_of {op : Operator} {f : Int → Int → Int} (h : OpR X (binaryOp op) (rI0 fun i j => .int (f i j))) : OpR X (binaryOp op) (loR X.K (opI f)) := by
  rintro pins s σ H x y v u Q I rx ry ⟨F, G, S, d, e, Q2, R, r1, r2, q, qt⟩
  unfold opI at q
  split at q
  · cases r1.int_inv; cases r2.int_inv
    exact h pins s σ H _ _ v u Q I rx ry ⟨_, _, rfl, rfl, qt _ H G _ S (Same.refl _) R (.int _) q⟩
  · exact q.elim
theorem opIC_of {f' : Value → Value → Sem Value} {C C' : Int → Int → Prop} {f : Int → Int → Int} (h : OpR X f' (rI C' fun i j => .int (f i j))) (hc : ∀ i j, C i j → C' i j) : OpR X f' (loR X.K (opIC C f)) := by
  rintro pins s σ H x y v u Q I rx ry ⟨F, G, S, d, e, Q2, R, r1, r2, q, qt⟩
  unfold opIC at q
  split at q
  · cases r1.int_inv; cases r2.int_inv
    exact h pins s σ H _ _ v u Q I rx ry ⟨_, _, rfl, rfl, hc _ _ q.1, qt _ H G _ S (Same.refl _) R (.int _) q.2⟩
  · exact q.elim
theorem opB_of {op : CmpOp} {f : Int → Int → Bool} (h : OpR X (compareOp op) (rI0 fun i j => .bl (f i j))) : OpR X (compareOp op) (loR X.K (opB f)) := by
  rintro pins s σ H x y v u Q I rx ry ⟨F, G, S, d, e, Q2, R, r1, r2, q, qt⟩
  unfold opB at q
  split at q
  · cases r1.int_inv; cases r2.int_inv
    exact h pins s σ H _ _ v u Q I rx ry ⟨_, _, rfl, rfl, qt _ H G _ S (Same.refl _) R (.bl _) q⟩
  · exact q.elim
theorem op_sub2 : OpR X (binaryOp .Sub) (loR X.K opSub) := opI_of op_sub
theorem op_mod2 : OpR X (binaryOp .Mod) (loR X.K opMod) := opIC_of op_mod fun _ _ h => h
theorem op_pow2 : OpR X (binaryOp .Pow) (loR X.K opPow) := opIC_of op_pow fun _ _ h => h
theorem op_div2 : OpR X (binaryOp .FloorDiv) (loR X.K opDiv) := opIC_of op_fdivW fun _ _ h => h
theorem op_mul2 : OpR X (binaryOp .Mult) (loR X.K opMul) := by
  rintro pins s σ H x y v u Q I rx ry ⟨F, G, S, d, e, Q2, R, r1, r2, q, qt⟩
  unfold opMul opIC at q
  split at q
  · cases r1.int_inv; cases r2.int_inv
    rcases q.1 with c | c
    · exact op_mul pins s σ H _ _ v u Q I rx ry ⟨_, _, rfl, rfl, c, qt _ H G _ S (Same.refl _) R (.int _) q.2⟩
    · exact op_mulW pins s σ H _ _ v u Q I rx ry ⟨_, _, rfl, rfl, c, qt _ H G _ S (Same.refl _) R (.int _) q.2⟩
  · exact q.elim
theorem op_lt2 : OpR X (compareOp .Lt) (loR X.K opLt) := opB_of op_lt
theorem op_le2 : OpR X (compareOp .LtE) (loR X.K opLe) := opB_of op_le
theorem op_gt2 : OpR X (compareOp .Gt) (loR X.K opGt) := opB_of op_gt
theorem op_ge2 : OpR X (compareOp .GtE) (loR X.K opGe) := opB_of op_ge
theorem ip_of {op : Operator} {f : Int → Int → Int} (h : OpR X (inplaceOp op) (rI0 fun i j => .int (f i j))) : PIp X op (loR X.K (opI f)) := by
  rintro pins s σ H x y v u Q I rx ry ⟨F, G, S, d, e, Q2, R, r1, r2, q, qt⟩
  unfold opI at q
  split at q
  · cases r1.int_inv; cases r2.int_inv
    exact h pins s σ H _ _ v u Q I rx ry ⟨_, _, rfl, rfl, qt _ H G _ S (Same.refl _) R (.int _) q⟩
  · exact q.elim
abbrev opAddI : R2D := opI fun i j => i + j
theorem ip_add2 : PIp X .Add (loR X.K opAddI) := ip_of iop_add
theorem ip_sub2 : PIp X .Sub (loR X.K opSub) := ip_of iop_sub
theorem ip_mul2 : PIp X .Mult (loR X.K (opIC CMul fun i j => i * j)) := opIC_of iop_mul fun _ _ h => h
def unNeg (x : D) (S : Sto) (Q : QK) : Prop := match x with
  | .int i => Q (.int (-i)) S
  | _ => False
def eNeg (t : TE2) : TE2 := fun ρ S Q E => t ρ S (fun x S1 => unNeg x S1 Q) E
theorem e_neg {Te : TE2} (h : PE2 X W a Te) : PE2 X W (.UnaryOp .USub a pos) (eNeg Te) :=
  pe_w (pe_un un_neg h) fun σ H Q ⟨F, G, ρ, S, Q2, E2, R, rs, q, qt, xt⟩ => ⟨F, G, ρ, S, _, E2, R, rs, q, fun v H1 G1 d S1 e1 R1 r1 q1 => by
    have q2 : unNeg d S1 Q2 := q1
    cases d with
    | int i => cases r1; exact ⟨_, rfl, qt _ H1 G1 _ S1 e1 R1 (.int _) q2⟩
    | _ => exact q2.elim, xt⟩
/-! ### is None -/
def isN : D → Bool
  | .non => true
  | _ => false
theorem isN_of {K : PySem.W.Frag} {G : Hp} {v : V} {d : D} (h : Rp K G v d) : decide (v = .non) = isN d := by cases h <;> rfl
def opIsN (x y : D) (S : Sto) (Q : QK) : Prop := y = .non ∧ Q (.bl (isN x)) S
def opNotN (x y : D) (S : Sto) (Q : QK) : Prop := y = .non ∧ Q (.bl (!isN x)) S
theorem op_isN2 : OpR X (compareOp .Is) (loR X.K opIsN) := by
  rintro pins s σ H x y v u Q I rx ry ⟨F, G, S, d, e, Q2, R, r1, r2, ⟨rfl, q⟩, qt⟩
  cases r2
  refine op_isN pins s σ H _ _ v u Q I rx ry ⟨rfl, ?_⟩
  rw [isN_of r1]
  exact qt _ H G _ S (Same.refl _) R (.bl _) q
theorem op_notN2 : OpR X (compareOp .IsNot) (loR X.K opNotN) := by
  rintro pins s σ H x y v u Q I rx ry ⟨F, G, S, d, e, Q2, R, r1, r2, ⟨rfl, q⟩, qt⟩
  cases r2
  refine op_notN pins s σ H _ _ v u Q I rx ry ⟨rfl, ?_⟩
  rw [isN_of r1]
  exact qt _ H G _ S (Same.refl _) R (.bl _) q
end

/-! ### == of data -/
mutual
def toPy : D → PyData
  | .non => .none
  | .bl b => .bool b
  | .int i => .int i
  | .str x => .str x
  | .tup ds => .tuple (toPyAll ds)
  | .lst ds => .list (toPyAll ds)
  | _ => .none
def toPyAll : List D → List PyData
  | [] => []
  | d :: ds => toPy d :: toPyAll ds
end
mutual
/-- no objects within -/
def pureD : D → Bool
  | .non => true
  | .bl _ => true
  | .int _ => true
  | .str x => PyData.strOk x
  | .tup ds => pureAll ds
  | .lst ds => pureAll ds
  | _ => false
def pureAll : List D → Bool
  | [] => true
  | d :: ds => pureD d && pureAll ds
end
mutual
def depD : D → Nat
  | .tup ds => depAll ds + 1
  | .lst ds => depAll ds + 1
  | _ => 0
def depAll : List D → Nat
  | [] => 0
  | d :: ds => max (depD d) (depAll ds)
end
mutual
/-- == as Python has it -/
def eqD : D → D → Bool
  | .non, .non => true
  | .bl a, .bl b => a == b
  | .bl a, .int j => (if a then 1 else 0) == j
  | .int i, .bl b => i == (if b then 1 else 0)
  | .int i, .int j => i == j
  | .str x, .str y => x == y
  | .lst xs, .lst ys => eqAll xs ys
  | .tup xs, .tup ys => eqAll xs ys
  | _, _ => false
def eqAll : List D → List D → Bool
  | [], [] => true
  | x :: xs, y :: ys => eqD x y && eqAll xs ys
  | _, _ => false
end
mutual
theorem eqv_toPy : ∀ (x y : D), pureD x = true → pureD y = true → PyData.eqv (toPy x) (toPy y) = eqD x y
  | .non, y, _, h => by cases y <;> first | (simp [pureD] at h; done) | (simp only [toPy, PyData.eqv, eqD])
  | .bl _, y, _, h => by cases y <;> first | (simp [pureD] at h; done) | (simp only [toPy, PyData.eqv, eqD])
  | .int _, y, _, h => by cases y <;> first | (simp [pureD] at h; done) | (simp only [toPy, PyData.eqv, eqD])
  | .str _, y, _, h => by cases y <;> first | (simp [pureD] at h; done) | (simp only [toPy, PyData.eqv, eqD])
  | .tup xs, y, h0, h => by
    cases y with
    | tup ys => simp only [toPy, PyData.eqv, eqD]; exact eqv_toPyAll xs ys (by simpa [pureD] using h0) (by simpa [pureD] using h)
    | _ => first | (simp [pureD] at h; done) | (simp only [toPy, PyData.eqv, eqD])
  | .lst xs, y, h0, h => by
    cases y with
    | lst ys => simp only [toPy, PyData.eqv, eqD]; exact eqv_toPyAll xs ys (by simpa [pureD] using h0) (by simpa [pureD] using h)
    | _ => first | (simp [pureD] at h; done) | (simp only [toPy, PyData.eqv, eqD])
  | .obj _ _ _, _, h, _ => by simp [pureD] at h
  | .exc _ _ _ _ _, _, h, _ => by simp [pureD] at h
  | .ref _, _, h, _ => by simp [pureD] at h
  | .ty _, _, h, _ => by simp [pureD] at h
theorem eqv_toPyAll : ∀ (xs ys : List D), pureAll xs = true → pureAll ys = true → PyData.eqvAll (toPyAll xs) (toPyAll ys) = eqAll xs ys
  | [], [], _, _ => rfl
  | [], _ :: _, _, _ => rfl
  | _ :: _, [], _, _ => rfl
  | x :: xs, y :: ys, h0, h => by
    simp only [pureAll, Bool.and_eq_true] at h0 h
    simp only [toPyAll, PyData.eqvAll, eqAll]
    rw [eqv_toPy x y h0.1 h.1, eqv_toPyAll xs ys h0.2 h.2]
end
mutual
theorem lay_toPy : ∀ x : D, pureD x = true → (toPy x).canLay0 = true ∧ (toPy x).depth = depD x
  | .non, _ => ⟨rfl, rfl⟩
  | .bl _, _ => ⟨rfl, rfl⟩
  | .int _, _ => ⟨rfl, rfl⟩
  | .str x, h => ⟨by simpa [pureD, toPy, PyData.canLay0] using h, rfl⟩
  | .tup xs, h => by
    obtain ⟨a, b⟩ := lay_toPyAll xs (by simpa [pureD] using h)
    exact ⟨by simpa [toPy, PyData.canLay0] using a, by simp only [toPy, PyData.depth, depD, b]⟩
  | .lst xs, h => by
    obtain ⟨a, b⟩ := lay_toPyAll xs (by simpa [pureD] using h)
    exact ⟨by simpa [toPy, PyData.canLay0] using a, by simp only [toPy, PyData.depth, depD, b]⟩
  | .obj _ _ _, h => by simp [pureD] at h
  | .exc _ _ _ _ _, h => by simp [pureD] at h
  | .ref _, h => by simp [pureD] at h
  | .ty _, h => by simp [pureD] at h
theorem lay_toPyAll : ∀ xs : List D, pureAll xs = true → PyData.canLayAll0 (toPyAll xs) = true ∧ PyData.depthAll (toPyAll xs) = depAll xs
  | [], _ => ⟨rfl, rfl⟩
  | x :: xs, h => by
    simp only [pureAll, Bool.and_eq_true] at h
    obtain ⟨a, b⟩ := lay_toPy x h.1
    obtain ⟨c, d⟩ := lay_toPyAll xs h.2
    exact ⟨by simp only [toPyAll, PyData.canLayAll0, a, c, Bool.and_self], by simp only [toPyAll, PyData.depthAll, depAll, b, d]⟩
end
theorem shaped_of {x : D} (h : pureD x = true) (hd : depD x ≤ 64) : SeqAt.shaped (toPy x) = true := by
  obtain ⟨a, b⟩ := lay_toPy x h
  unfold SeqAt.shaped
  rw [a, b]
  simp [hd]
section
variable {K : PySem.W.Frag} {F G : Hp} {S : Sto} {H : Hp}
mutual
theorem dp_of (e : Same G H) : ∀ {v : V} {d : D}, Rp K G v d → pureD d = true → Dp K H v (toPy d)
  | _, _, .non, _ => .non
  | _, _, .bl b, _ => .bl b
  | _, _, .int b, _ => .int b
  | _, _, .str b, _ => .str b
  | _, _, .ty b, h => by simp [pureD] at h
  | _, _, .ref b, h => by simp [pureD] at h
  | _, _, .lst q r, h => by
    have h' := dp_ofAll e r (by simpa [pureD] using h)
    simp only [toPy]
    exact .lst (sameL e q) h'
  | _, _, .tup q r, h => by
    have h' := dp_ofAll e r (by simpa [pureD] using h)
    simp only [toPy]
    exact .tup (sameT e q) h'
  | _, _, .obj _ _ _, h => by simp [pureD] at h
  | _, _, .exc0, h => by simp [pureD] at h
  | _, _, .exc1 _ _ _, h => by simp [pureD] at h
theorem dp_ofAll (e : Same G H) : ∀ {vs : List V} {ds : List D}, RpAll K G vs ds → pureAll ds = true → DpAll K H vs (toPyAll ds)
  | _, _, .nil, _ => .nil
  | _, _, .cons a b, h => by
    simp only [pureAll, Bool.and_eq_true] at h
    exact .cons (dp_of e a h.1) (dp_ofAll e b h.2)
end
end
/-- a mutable list read as its items -/
def resD (S : Sto) (d : D) : D := match lstOf S d with
  | some xs => .lst xs
  | none => d
def okEq (d : D) : Prop := pureD d = true ∧ depD d ≤ 64
def opEq (x y : D) (S : Sto) (Q : QK) : Prop := okEq (resD S x) ∧ okEq (resD S y) ∧ Q (.bl (eqD (resD S x) (resD S y))) S
def opNe (x y : D) (S : Sto) (Q : QK) : Prop := okEq (resD S x) ∧ okEq (resD S y) ∧ Q (.bl (!eqD (resD S x) (resD S y))) S
theorem dp_res {K : PySem.W.Frag} {F G : Hp} {S : Sto} {H : Hp} {v : V} {d : D} (R : SR K F G S H) (r : Rp K G v d) (h : okEq (resD S d)) : Dp K H v (toPy (resD S d)) := by
  unfold resD at h ⊢
  split at h
  · rename_i xs e
    obtain ⟨p, vs, rfl, q, ra⟩ := lst_rd R r e
    have h' := dp_ofAll R.sub ra (by simpa [pureD] using h.1)
    simp only [toPy]
    exact .lst q h'
  · rename_i e
    exact dp_of R.sub r h.1
section
variable {X : Cx}
theorem op_eq2 (hu : X.A.units + 64 < cLine) : OpR X (compareOp .Eq) (loR X.K opEq) := by
  rintro pins s σ H x y v u Q I rx ry ⟨F, G, S, d, e, Q2, R, r1, r2, ⟨h1, h2, q⟩, qt⟩
  refine op_eqD hu pins s σ H _ _ v u Q I rx ry ⟨_, _, dp_res R r1 h1, dp_res R r2 h2, shaped_of h1.1 h1.2, shaped_of h2.1 h2.2, ?_⟩
  rw [eqv_toPy _ _ h1.1 h2.1]
  exact qt _ H G _ S (Same.refl _) R (.bl _) q
theorem op_ne2 (hu : X.A.units + 64 < cLine) : OpR X (compareOp .NotEq) (loR X.K opNe) := by
  rintro pins s σ H x y v u Q I rx ry ⟨F, G, S, d, e, Q2, R, r1, r2, ⟨h1, h2, q⟩, qt⟩
  refine op_neD hu pins s σ H _ _ v u Q I rx ry ⟨_, _, dp_res R r1 h1, dp_res R r2 h2, shaped_of h1.1 h1.2, shaped_of h2.1 h2.2, ?_⟩
  rw [eqv_toPy _ _ h1.1 h2.1]
  exact qt _ H G _ S (Same.refl _) R (.bl _) q
end
end Y
set_option Elab.async false
set_option linter.all false
set_option maxRecDepth 100000
set_option maxHeartbeats 4000000
namespace Y
open PySem PySem.Spec PyProof.Rows L2

/-! ### in -/
def opIn (x y : D) (S : Sto) (Q : QK) : Prop := match x, y with
  | .str i, .str j => ∃ c, i = ⟨#[c]⟩ ∧ Q (.bl (decide (c ∈ j.cps.toList))) S
  | x, .tup ys => okEq x ∧ okEq (.tup ys) ∧ Q (.bl (ys.any fun z => eqD z x)) S
  | x, y => ∃ xs, lstOf S y = some xs ∧ okEq x ∧ okEq (.lst xs) ∧ Q (.bl (xs.any fun z => eqD z x)) S
def opNotIn (x y : D) (S : Sto) (Q : QK) : Prop := opIn x y S fun d S' => ∃ k, d = .bl k ∧ Q (.bl (!k)) S'
theorem any_toPy (x : D) (hx : pureD x = true) : ∀ xs : List D, pureAll xs = true → (toPyAll xs).any (fun z => PyData.eqv z (toPy x)) = xs.any fun z => eqD z x
  | [], _ => rfl
  | y :: ys, h => by
    simp only [pureAll, Bool.and_eq_true] at h
    simp only [toPyAll, List.any_cons]
    rw [eqv_toPy y x h.1 hx, any_toPy x hx ys h.2]
section
variable {X : Cx}
theorem lst_dp {K : PySem.W.Frag} {F G : Hp} {S : Sto} {H : Hp} {v : V} {d : D} {xs : List D} (R : SR K F G S H) (r : Rp K G v d) (h : lstOf S d = some xs) (ok : okEq (.lst xs)) : Dp K H v (.list (toPyAll xs)) ∧ SeqAt.shaped (.list (toPyAll xs)) = true := by
  obtain ⟨p, vs, rfl, q, ra⟩ := lst_rd R r h
  have sh := shaped_of ok.1 ok.2
  simp only [toPy] at sh
  exact ⟨.lst q (dp_ofAll R.sub ra (by simpa [pureD] using ok.1)), sh⟩
theorem tup_dp {K : PySem.W.Frag} {F G : Hp} {S : Sto} {H : Hp} {v : V} {xs : List D} (R : SR K F G S H) (r : Rp K G v (.tup xs)) (ok : okEq (.tup xs)) : Dp K H v (.tuple (toPyAll xs)) ∧ PyData.canLayAll0 (toPyAll xs) = true ∧ PyData.depthAll (toPyAll xs) ≤ 63 := by
  have d := dp_of R.sub r ok.1
  simp only [toPy] at d
  obtain ⟨a, b⟩ := lay_toPyAll xs (by simpa [pureD] using ok.1)
  have h2 := ok.2
  simp only [depD] at h2
  exact ⟨d, a, by omega⟩
theorem op_in2 (hu : X.A.units + 65 < cLine) : OpR X (compareOp .In) (loR X.K opIn) := by
  rintro pins s σ H x y v u Q I rx ry ⟨F, G, S, d, e, Q2, R, r1, r2, q, qt⟩
  unfold opIn at q
  split at q
  · obtain ⟨c, rfl, q⟩ := q
    cases r1; cases r2
    exact op_in_sign pins s σ H _ _ v u Q I rx ry ⟨c, _, rfl, rfl, qt _ H G _ S (Same.refl _) R (.bl _) q⟩
  · obtain ⟨ox, oy, q⟩ := q
    obtain ⟨dy, l1, l2⟩ := tup_dp R r2 oy
    obtain ⟨a1, a2⟩ := lay_toPy _ ox.1
    obtain ⟨as, q1⟩ := Dp.reads I _ _ _ (dp_of R.sub r1 ox.1) rx
    obtain ⟨bs, q2⟩ := Dp.reads I _ _ _ dy ry
    refine SeqAt.in_tuple_reads q2 q1 l1 a1 (by omega) ?_
    rw [any_toPy _ ox.1 _ (by simpa [pureD] using oy.1)]
    exact ⟨.bl _, H, I, rfl, qt _ H G _ S (Same.refl _) R (.bl _) q⟩
  · obtain ⟨xs, hl, ox, oy, q⟩ := q
    obtain ⟨dy, sy⟩ := lst_dp R r2 hl oy
    refine op_inD hu pins s σ H _ _ v u Q I rx ry ⟨_, _, dp_of R.sub r1 ox.1, dy, shaped_of ox.1 ox.2, sy, ?_⟩
    rw [any_toPy _ ox.1 _ (by simpa [pureD] using oy.1)]
    exact qt _ H G _ S (Same.refl _) R (.bl _) q
theorem op_notIn2 (hu : X.A.units + 65 < cLine) : OpR X (compareOp .NotIn) (loR X.K opNotIn) := by
  rintro pins s σ H x y v u Q I rx ry ⟨F, G, S, d, e, Q2, R, r1, r2, q, qt⟩
  unfold opNotIn opIn at q
  split at q
  · obtain ⟨c, rfl, k, ek, q⟩ := q
    cases ek
    cases r1; cases r2
    exact op_notIn_sign pins s σ H _ _ v u Q I rx ry ⟨c, _, rfl, rfl, qt _ H G _ S (Same.refl _) R (.bl _) q⟩
  · obtain ⟨ox, oy, k, ek, q⟩ := q
    cases ek
    obtain ⟨dy, l1, l2⟩ := tup_dp R r2 oy
    obtain ⟨a1, a2⟩ := lay_toPy _ ox.1
    obtain ⟨as, q1⟩ := Dp.reads I _ _ _ (dp_of R.sub r1 ox.1) rx
    obtain ⟨bs, q2⟩ := Dp.reads I _ _ _ dy ry
    refine SeqAt.notIn_tuple_reads q2 q1 l1 a1 (by omega) ?_
    rw [any_toPy _ ox.1 _ (by simpa [pureD] using oy.1)]
    exact ⟨.bl _, H, I, rfl, qt _ H G _ S (Same.refl _) R (.bl _) q⟩
  · obtain ⟨xs, hl, ox, oy, k, ek, q⟩ := q
    cases ek
    obtain ⟨dy, sy⟩ := lst_dp R r2 hl oy
    refine op_notInD hu pins s σ H _ _ v u Q I rx ry ⟨_, _, dp_of R.sub r1 ox.1, dy, shaped_of ox.1 ox.2, sy, ?_⟩
    rw [any_toPy _ ox.1 _ (by simpa [pureD] using oy.1)]
    exact qt _ H G _ S (Same.refl _) R (.bl _) q
end

/-! ### items -/
theorem RpAll.atI {K : PySem.W.Frag} {G : Hp} {vs : List V} {ds : List D} {i : Int} {d : D} (h : RpAll K G vs ds) (e : L2.atI ds i = some d) : ∃ v, L2.atI vs i = some v ∧ Rp K G v d := by
  unfold L2.atI at e ⊢
  rw [h.length]
  cases q : ixN ds.length i with
  | none => rw [q] at e; cases e
  | some j =>
    rw [q] at e
    obtain ⟨v, hv, r⟩ := h.get (i := j) (d := d) e
    exact ⟨v, hv, r⟩
def opIx (x y : D) (S : Sto) (Q : QK) : Prop := match x, y with
  | .str z, .int i => z.length ≤ sizeLine ∧ ∃ c, atI z.cps.toList i = some c ∧ Q (.str ⟨#[c]⟩) S
  | .tup xs, .int i => ∃ d, atI xs i = some d ∧ Q d S
  | x, .int i => ∃ xs d, lstOf S x = some xs ∧ atI xs i = some d ∧ Q d S
  | _, _ => False
section
variable {X : Cx} {W : WX} {a b : Expr} {Ta Tb : TE2} {pos : Pos}
theorem ix2 : IxR X (loR X.K opIx) := by
  rintro value slice pins s σ H x y v u Q I rx ry ⟨F, G, S, d, e, Q2, R, r1, r2, q, qt⟩ hs
  unfold opIx at q
  split at q
  · obtain ⟨hz, c, hc, q⟩ := q
    cases r1; cases r2
    exact ix_str value slice pins s σ H _ _ v u Q I rx ry ⟨_, _, c, rfl, rfl, hz, hc, qt _ H G _ S (Same.refl _) R (.str _) q⟩ hs
  · obtain ⟨d, hd, q⟩ := q
    cases r2
    obtain ⟨p, vs, rfl, sq, ra⟩ := tup_sq R r1
    obtain ⟨w, hw, rw'⟩ := ra.atI hd
    exact ix_tup value slice pins s σ H _ _ v u Q I rx ry ⟨p, vs, _, w, rfl, rfl, sq, hw, qt _ H G _ S (Same.refl _) R (rw'.mono (Same.refl _)) q⟩ hs
  · obtain ⟨xs, d, hl, hd, q⟩ := q
    cases r2
    obtain ⟨p, vs, rfl, sq, ra⟩ := lst_sq R r1 hl
    obtain ⟨w, hw, rw'⟩ := ra.atI hd
    exact ix_list value slice pins s σ H _ _ v u Q I rx ry ⟨p, vs, _, w, rfl, rfl, sq, hw, qt _ H G _ S (Same.refl _) R rw' q⟩ hs
  · exact q.elim
theorem e_ix {r : R2D} (hr : IxR X (loR X.K r)) (ha : PE2 X W a Ta) (hb : PE2 X W b Tb) (hs : PlainIx b := by exact fun _ _ => rfl) : PE2 X W (.Subscript a b pos) (eOp r Ta Tb) := pe_w (pe_ix hr ha hb hs) fun _ _ _ h => tOp_of h
/-- xs[i], for xs[i] op= .. -/
def opGetL (x y : D) (S : Sto) (Q : QK) : Prop := match y with
  | .int i => ∃ xs d, lstOf S x = some xs ∧ atI xs i = some d ∧ Q d S
  | _ => False
theorem get2 : PGet X (loR X.K opGetL) := by
  rintro pins s σ H x y v u Q I rx ry ⟨F, G, S, d, e, Q2, R, r1, r2, q, qt⟩
  unfold opGetL at q
  split at q
  · rename_i i
    obtain ⟨xs, d, hl, hd, q⟩ := q
    cases r2
    obtain ⟨p, vs, rfl, sq, ra⟩ := lst_sq R r1 hl
    obtain ⟨w, hw, rw'⟩ := ra.atI hd
    cases rx
    obtain ⟨t, rfl⟩ := ry
    obtain ⟨its, rv, pl, hz⟩ := I.list sq
    obtain ⟨j, h1, h2, h3, h4, h5⟩ := atI_get hw
    obtain ⟨w', ew, rww⟩ := rv.get h2
    have hl := rv.length
    have hn := line63
    have fin : EP X pins σ Q w' s := ⟨w, H, I, rww, qt _ H G _ S (Same.refl _) R rw' q⟩
    by_cases h0 : 0 ≤ i
    · have hj' : i.toNat = j := Option.some.inj ((seqIndex_of h0 h5).symm.trans h1)
      refine PySem.wpAny_getItem_list pl.isList h0 (by omega) (x := w') ?_ fin
      rw [hj']; simpa using ew
    · have hj' : (i + (vs.length : Int)).toNat = j := Option.some.inj ((seqIndex_neg (by omega) h4).symm.trans h1)
      refine PySem.wpAny_getItem_list_neg pl.isList (by omega) (by rw [List.size_toArray]; omega) (by omega) (x := w') ?_ fin
      rw [List.size_toArray, ← hl, hj']; simpa using ew
  · exact q.elim
/-- xs[i] = v -/
def setL : TSet2 := fun o i v S Q => ∃ a xs k j, o = .ref a ∧ i = .int k ∧ S a = some (.lst xs) ∧ ixN xs.length k = some j ∧ Q (sup S a (.lst (xs.set j v)))
theorem set2 : PSet X (loSet X.K setL) := by
  rintro pins s σ H o i v ov iv u Q I ro ri rv ⟨F, G, S, d1, d2, d3, Q2, R, r1, r2, r3, ⟨a, xs, k, j, rfl, rfl, ea, hj, q⟩, qt⟩
  cases r1; cases r2
  obtain ⟨ga, o, ho, rr⟩ := R.mu a _ ea
  cases rr with
  | lst ra =>
    refine set_list pins s σ H _ _ _ ov iv u Q I ro ri rv ⟨a, _, k, j, rfl, rfl, ho, by rw [ra.length]; exact hj, ?_⟩
    exact qt _ G _ (Same.refl _) (R.write ea (.lst (ra.set r3 j))) q
end
/-! ### slices -/
abbrev TO2 := Rho → Sto → (Option Int → Sto → Prop) → EK → Prop
def OT (K : PySem.W.Frag) (F G : Hp) (Q2 : Option Int → Sto → Prop) (Q : Option Int → Hp → Prop) : Prop := ∀ o H' G' S', Same G G' → SR K F G' S' H' → Q2 o S' → Q o H'
def loO (K : PySem.W.Frag) (W : WX) (T : TO2) : TO := fun σ H Q => ∃ F G ρ S Q2 E2, SR K F G S H ∧ RpSt K G σ ρ ∧ T ρ S Q2 E2 ∧ OT K F G Q2 Q ∧ XT K F G σ E2 W
def PO2 (X : Cx) (W : WX) (e : Option Expr) (T : TO2) : Prop := PO X e (loO X.K W T)
theorem po_w {X : Cx} {e : Option Expr} {t t' : TO} (h : PO X e t) (k : ∀ σ H Q, t' σ H Q → t σ H Q) : PO X e t' := ⟨fun pins s σ H Q I q => h.run pins s σ H Q I (k σ H Q q)⟩
def oNo : TO2 := fun _ S Q _ => Q none S
def oSome (t : TE2) : TO2 := fun ρ S Q E => t ρ S (fun d S1 => ∃ i, d = .int i ∧ Q (some i) S1) E
def cutA {α : Type} (xs : List α) (lo hi : Option Int) : List α := (xs.drop (HT.sIx xs.length 0 lo)).take (HT.sIx xs.length xs.length hi - HT.sIx xs.length 0 lo)
theorem RpAll.cut {K : PySem.W.Frag} {G : Hp} {vs : List V} {ds : List D} (h : RpAll K G vs ds) (lo hi : Option Int) : RpAll K G (cutV vs lo hi) (cutA ds lo hi) := by
  unfold cutV cutA
  rw [h.length]
  exact (h.drop _).take _
theorem cutA_whole {α : Type} {xs : List α} {lo hi : Option Int} (h : HT.sIx xs.length 0 lo = 0 ∧ HT.sIx xs.length xs.length hi = xs.length) : cutA xs lo hi = xs := by
  unfold cutA; rw [h.1, h.2]; simp
section
variable {X : Cx} {W : WX} {e : Expr} {Te : TE2} {lo hi : Option Expr} {Tl Th : TO2} {pos p2 : Pos}
theorem o_no : PO2 X W none oNo := po_w po_none fun σ H Q ⟨F, G, ρ, S, Q2, E2, R, rs, q, ot, xt⟩ => ot none H G S (Same.refl _) R q
theorem o_some (h : PE2 X W e Te) : PO2 X W (some e) (oSome Te) := po_w (po_some h) fun σ H Q ⟨F, G, ρ, S, Q2, E2, R, rs, q, ot, xt⟩ => ⟨F, G, ρ, S, _, E2, R, rs, q, fun v H1 G1 d S1 e1 R1 r1 ⟨i, hi, q1⟩ => by
  subst hi; cases r1; exact ⟨i, rfl, ot _ H1 G1 S1 e1 R1 q1⟩, xt⟩
/-- a tuple's, a text's; a list's, frozen -/
def slD (x : D) (lo hi : Option Int) (S : Sto) (Q : QK) : Prop := match x with
  | .str z => z.length ≤ sizeLine ∧ Q (.str (cutS z lo hi)) S
  | .tup xs => Q (.tup (cutA xs lo hi)) S
  | x => ∃ xs, lstOf S x = some xs ∧ Q (.lst (cutA xs lo hi)) S
def eSl (te : TE2) (tl th : TO2) : TE2 := fun ρ S Q E => te ρ S (fun x S1 => tl ρ S1 (fun l S2 => th ρ S2 (fun u S3 => slD x l u S3 Q) E) E) E
def lSl (te : TE2) (tl th : TO2) : TA2 := fun ρ S Q E => te ρ S (fun x S1 => tl ρ S1 (fun l S2 => th ρ S2 (fun u S3 => ∃ xs, lstOf S3 x = some xs ∧ Q (cutA xs l u) S3) E) E) E
def loSl (K : PySem.W.Frag) (r : D → Option Int → Option Int → Sto → QK → Prop) : V → Option Int → Option Int → Hp → VK → Prop := fun x l u H Q => ∃ F G S d Q2, SR K F G S H ∧ Rp K G x d ∧ r d l u S Q2 ∧ QT K F G Q2 Q
def loSlL (K : PySem.W.Frag) : V → Option Int → Option Int → Hp → VK → Prop := fun x l u H Q => ∃ F G S d Q2 xs, SR K F G S H ∧ Rp K G x d ∧ lstOf S d = some xs ∧ Q2 (cutA xs l u) S ∧ LT K F G Q2 Q
theorem slL2 : SlR X (loSlL X.K) := by
  rintro pins s σ H x v vl vu l u sl Q I rx hs pl pu ⟨F, G, S, d, Q2, xs, R, r, hl, q, lt⟩
  obtain ⟨p, vs, rfl, sq, ra⟩ := lst_sq R r hl
  exact sl_list pins s σ H _ v vl vu l u sl Q I rx hs pl pu ⟨p, vs, rfl, sq, lt.new R (ra.cut l u) q⟩
theorem sl2 : SlR X (loSl X.K slD) := by
  rintro pins s σ H x v vl vu l u sl Q I rx hs pl pu ⟨F, G, S, d, Q2, R, r, q, qt⟩
  unfold slD at q
  split at q
  · cases r
    exact sl_str pins s σ H _ v vl vu l u sl Q I rx hs pl pu ⟨_, rfl, q.1, qt _ H G _ S (Same.refl _) R (.str _) q.2⟩
  · obtain ⟨p, vs, rfl, sq, ra⟩ := tup_sq R r
    refine sl_tupA pins s σ H _ v vl vu l u sl Q I rx hs pl pu ⟨p, vs, rfl, sq, fun h => ?_, fun h => qt.tup R (ra.cut l u) q⟩
    rw [ra.length] at h
    rw [cutA_whole h] at q
    exact qt _ H G _ S (Same.refl _) R r q
  · obtain ⟨xs, hl, q⟩ := q
    exact slL2 pins s σ H _ v vl vu l u sl Q I rx hs pl pu ⟨F, G, S, _, _, xs, R, r, hl, q, fun p vs H' G' ds S' e R' hp gp sp fp ra q' => qt (.ref p) H' (upd G' p (.lst vs)) (.lst ds) S' (e.trans (Same.laid gp)) (R'.freezeN hp gp sp fp) (.lst (.inl (.inl upd_same)) (ra.mono (Same.laid gp))) q'⟩
theorem e_slice (he : PE2 X W e Te) (hl : PO2 X W lo Tl) (hu : PO2 X W hi Th) : PE2 X W (.Subscript e (.Slice lo hi none p2) pos) (eSl Te Tl Th) :=
  pe_w (pe_slice sl2 he hl hu) fun σ H Q ⟨F, G, ρ, S, Q2, E2, R, rs, q, qt, xt⟩ => ⟨F, G, ρ, S, _, E2, R, rs, q, fun v H1 G1 d S1 e1 R1 r1 q1 => ⟨F, G1, ρ, S1, _, E2, R1, rs.mono e1, q1, fun l H2 G2 S2 e2 R2 q2 =>
    ⟨F, G2, ρ, S2, _, E2, R2, rs.mono (e1.trans e2), q2, fun u H3 G3 S3 e3 R3 q3 => ⟨F, G3, S3, d, Q2, R3, (r1.mono e2).mono e3, q3, qt.le ((e1.trans e2).trans e3)⟩, xt.le (e1.trans e2)⟩, xt.le e1⟩, xt⟩
theorem l_slice (he : PE2 X W e Te) (hl : PO2 X W lo Tl) (hu : PO2 X W hi Th) : PL2 X W (.Subscript e (.Slice lo hi none p2) pos) (lSl Te Tl Th) :=
  pe_w (pe_slice slL2 he hl hu) fun σ H Q ⟨F, G, ρ, S, Q2, E2, R, rs, q, qt, xt⟩ => ⟨F, G, ρ, S, _, E2, R, rs, q, fun v H1 G1 d S1 e1 R1 r1 q1 => ⟨F, G1, ρ, S1, _, E2, R1, rs.mono e1, q1, fun l H2 G2 S2 e2 R2 q2 =>
    ⟨F, G2, ρ, S2, _, E2, R2, rs.mono (e1.trans e2), q2, fun u H3 G3 S3 e3 R3 ⟨xs, hl, q3⟩ => ⟨F, G3, S3, d, Q2, xs, R3, (r1.mono e2).mono e3, hl, q3, qt.le ((e1.trans e2).trans e3)⟩, xt.le (e1.trans e2)⟩, xt.le e1⟩, xt⟩
end

/-! ### methods of built-in types -/
def tyD (T : String) (x : D) (S : Sto) : Prop := match x with
  | .str _ => T = "str"
  | x => (T = "list" ∧ ∃ xs, lstOf S x = some xs) ∨ (T = "dict" ∧ ∃ a kvs, x = .ref a ∧ (S a = some (.dK kvs))) ∨ (T = "dict" ∧ ∃ a kvs, x = .ref a ∧ (S a = some (.dT kvs)))
def eBM (T : String) (r : D → List D → Sto → QK → Prop) (to : TE2) (t : TA2) : TE2 := fun ρ S Q E => to ρ S (fun x S1 => tyD T x S1 ∧ t ρ S1 (fun ds S2 => r x ds S2 Q) E) E
def lBM (T : String) (r : D → List D → Sto → (List D → Sto → Prop) → Prop) (to : TE2) (t : TA2) : TA2 := fun ρ S Q E => to ρ S (fun x S1 => tyD T x S1 ∧ t ρ S1 (fun ds S2 => r x ds S2 Q) E) E
theorem tyV_of {K : PySem.W.Frag} {F G : Hp} {S : Sto} {H : Hp} {v : V} {d : D} {T : String} (R : SR K F G S H) (r : Rp K G v d) (h : tyD T d S) : tyV K T v H := by
  have key : (T = "list" ∧ ∃ xs, lstOf S d = some xs) ∨ (T = "dict" ∧ ∃ a kvs, d = .ref a ∧ (S a = some (.dK kvs))) ∨ (T = "dict" ∧ ∃ a kvs, d = .ref a ∧ (S a = some (.dT kvs))) → tyV K T v H := by
    rintro (⟨rfl, xs, hx⟩ | ⟨rfl, a, kvs, rfl, e⟩ | ⟨rfl, a, kvs, rfl, e⟩)
    · obtain ⟨p, vs, rfl, sq, _⟩ := lst_sq R r hx
      exact .inl ⟨rfl, vs, sq⟩
    · cases r
      obtain ⟨_, o, ho, ro⟩ := R.mu a _ e
      cases ro
      exact .inr (.inr (.inl ⟨rfl, .inl ⟨_, ho⟩⟩))
    · cases r
      obtain ⟨_, o, ho, ro⟩ := R.mu a _ e
      cases ro
      exact .inr (.inr (.inl ⟨rfl, .inr ⟨_, ho⟩⟩))
  unfold tyD at h
  split at h
  · cases r; exact h
  · exact key h
section
variable {X : Cx} {W : WX} {o e : Expr} {es : List Expr} {To : TE2} {t : TA2} {name : Str} {apos cpos : Pos} {T id : String} {r : D → List D → Sto → QK → Prop} {rl : D → List D → Sto → (List D → Sto → Prop) → Prop}
theorem bm_imp {σ : St} {H : Hp} {Q : VK} (h : lo X.K W (eBM T r To t) σ H Q) : tBM X.K T (loM X.K r) (lo X.K W To) (loA X.K W t) σ H Q := by
  obtain ⟨F, G, ρ, S, Q2, E2, R, rs, q, qt, xt⟩ := h
  exact ⟨F, G, ρ, S, _, E2, R, rs, q, fun v H1 G1 d S1 e1 R1 r1 ⟨ty, q1⟩ => ⟨tyV_of R1 r1 ty, F, G1, ρ, S1, _, E2, R1, rs.mono e1, q1, fun vs H2 G2 ds S2 e2 R2 r2 q2 => ⟨F, G2, S2, d, ds, Q2, R2, r1.mono e2, r2, q2, qt.le (e1.trans e2)⟩, xt.le e1⟩, xt⟩
theorem bml_imp {σ : St} {H : Hp} {Q : VK} (h : loL X.K W (lBM T rl To t) σ H Q) : tBM X.K T (loML X.K rl) (lo X.K W To) (loA X.K W t) σ H Q := by
  obtain ⟨F, G, ρ, S, Q2, E2, R, rs, q, qt, xt⟩ := h
  exact ⟨F, G, ρ, S, _, E2, R, rs, q, fun v H1 G1 d S1 e1 R1 r1 ⟨ty, q1⟩ => ⟨tyV_of R1 r1 ty, F, G1, ρ, S1, _, E2, R1, rs.mono e1, q1, fun vs H2 G2 ds S2 e2 R2 r2 q2 => ⟨F, G2, S2, d, ds, Q2, R2, r1.mono e2, r2, q2, qt.le (e1.trans e2)⟩, xt.le e1⟩, xt⟩
theorem e_bm (pa : PlainAttrs T) (slot : Slot T name id) (hty : typeOf (.builtin id) = pure (.type "method_descriptor")) (hm : MtR X id (loM X.K r)) (ho : PE2 X W o To) (ha : PA2 X W (e :: es) t)
    (hbase : attributeBase o name X.env (eval o X.env) = eval o X.env := by rfl)
    (hfew : ((backTo cpos (starEach (e :: es) X.env)).all (fun x => !x.1) && (backToKw cpos (keywordEach [] X.env)).all (fun x => x.1.isSome)
      && decide ((e :: es).length + ([] : List Keyword).length + (if ([] : List Keyword).isEmpty then 0 else 1) < 30)) = true := by rfl)
    (hline : (apos.endLine == cpos.line) = true := by rfl) (hs : starEach (e :: es) X.env = (false, eval e X.env) :: starEach es X.env := by rfl) (hplain : (backTo cpos (starEach es X.env)).any (·.1) = false := by rfl) :
    PE2 X W (.Call (.Attribute o name apos) (e :: es) [] cpos) (eBM T r To t) := pe_w (pe_bm pa slot hty hm ho ha hbase hfew hline hs hplain) fun _ _ _ h => bm_imp h
theorem l_bm (pa : PlainAttrs T) (slot : Slot T name id) (hty : typeOf (.builtin id) = pure (.type "method_descriptor")) (hm : MtR X id (loML X.K rl)) (ho : PE2 X W o To) (ha : PA2 X W (e :: es) t)
    (hbase : attributeBase o name X.env (eval o X.env) = eval o X.env := by rfl)
    (hfew : ((backTo cpos (starEach (e :: es) X.env)).all (fun x => !x.1) && (backToKw cpos (keywordEach [] X.env)).all (fun x => x.1.isSome)
      && decide ((e :: es).length + ([] : List Keyword).length + (if ([] : List Keyword).isEmpty then 0 else 1) < 30)) = true := by rfl)
    (hline : (apos.endLine == cpos.line) = true := by rfl) (hs : starEach (e :: es) X.env = (false, eval e X.env) :: starEach es X.env := by rfl) (hplain : (backTo cpos (starEach es X.env)).any (·.1) = false := by rfl) :
    PL2 X W (.Call (.Attribute o name apos) (e :: es) [] cpos) (lBM T rl To t) := pe_w (pe_bm pa slot hty hm ho ha hbase hfew hline hs hplain) fun _ _ _ h => bml_imp h
theorem e_bm0 (pa : PlainAttrs T) (slot : Slot T name id) (hty : typeOf (.builtin id) = pure (.type "method_descriptor")) (hm : MtR X id (loM X.K r)) (ho : PE2 X W o To)
    (hbase : attributeBase o name X.env (eval o X.env) = eval o X.env := by rfl) (hline : (apos.endLine == cpos.line) = true := by rfl) : PE2 X W (.Call (.Attribute o name apos) [] [] cpos) (eBM T r To aNil) :=
  pe_w (pe_bm0 pa slot hty hm ho hbase hline) fun σ H Q ⟨F, G, ρ, S, Q2, E2, R, rs, q, qt, xt⟩ => ⟨F, G, ρ, S, _, E2, R, rs, q, fun v H1 G1 d S1 e1 R1 r1 ⟨ty, q1⟩ => ⟨tyV_of R1 r1 ty, F, G1, S1, d, [], Q2, R1, r1, .nil, q1, qt.le e1⟩, xt⟩
def mAppend (x : D) (ds : List D) (S : Sto) (Q : QK) : Prop := ∃ a xs d, x = .ref a ∧ ds = [d] ∧ S a = some (.lst xs) ∧ xs.length < sizeLine ∧ Q .non (sup S a (.lst (xs ++ [d])))
theorem m_append : MtR X "list.append" (loM X.K mAppend) := by
  rintro pins s σ H x xs v us Q I rx rs ⟨F, G, S, d, ds, Q2, R, r1, r2, ⟨a, ys, y, rfl, rfl, ea, hz, q⟩, qt⟩
  cases r1
  cases r2 with
  | cons ry rn =>
    cases rn
    obtain ⟨ga, o, ho, ro⟩ := R.mu a _ ea
    cases ro with
    | lst ra => exact mt_append pins s σ H _ _ v us Q I rx rs ⟨a, _, _, rfl, rfl, ho, by rw [ra.length]; exact hz, qt _ _ G _ _ (Same.refl _) (R.write ea (.lst (ra.append (.cons ry .nil)))) .non q⟩
def mPop (x : D) (ds : List D) (S : Sto) (Q : QK) : Prop := ∃ a xs d, x = .ref a ∧ ds = [] ∧ S a = some (.lst xs) ∧ xs[xs.length - 1]? = some d ∧ Q d (sup S a (.lst xs.dropLast))
theorem m_pop : MtR X "list.pop" (loM X.K mPop) := by
  rintro pins s σ H x xs v us Q I rx rs ⟨F, G, S, d, ds, Q2, R, r1, r2, ⟨a, ys, y, rfl, rfl, ea, hz, q⟩, qt⟩
  cases r1
  cases r2
  obtain ⟨ga, o, ho, ro⟩ := R.mu a _ ea
  cases ro with
  | lst ra =>
    obtain ⟨w, hw, rw'⟩ := ra.get hz
    exact mt_pop pins s σ H _ _ v us Q I rx rs ⟨a, _, w, rfl, rfl, ho, by rw [ra.length]; exact hw, qt _ _ G _ _ (Same.refl _) (R.write ea (.lst ra.dropLast)) rw' q⟩
end
end Y
set_option Elab.async false
set_option linter.all false
set_option maxRecDepth 100000
set_option maxHeartbeats 4000000
namespace Y
open PySem PySem.Spec PyProof.Rows L2

def intsOf : List D → Option (List Int)
  | [] => some []
  | .int i :: r => (intsOf r).map (i :: ·)
  | _ => none
def blsOf : List D → Option (List Bool)
  | [] => some []
  | .bl i :: r => (blsOf r).map (i :: ·)
  | _ => none
theorem intsOf_map : ∀ ns : List Int, intsOf (ns.map D.int) = some ns
  | [] => rfl
  | n :: ns => by rw [List.map_cons, intsOf, intsOf_map ns]; rfl
theorem blsOf_map : ∀ ns : List Bool, blsOf (ns.map D.bl) = some ns
  | [] => rfl
  | n :: ns => by rw [List.map_cons, blsOf, blsOf_map ns]; rfl
theorem intsOf_inv : ∀ {ds : List D} {ns : List Int}, intsOf ds = some ns → ds = ns.map D.int
  | [], ns, h => by cases h; rfl
  | d :: ds, ns, h => by
    cases d with
    | int i =>
      simp only [intsOf, Option.map_eq_some_iff] at h
      obtain ⟨r, hr, rfl⟩ := h
      rw [intsOf_inv hr]; rfl
    | _ => simp [intsOf] at h
theorem blsOf_inv : ∀ {ds : List D} {ns : List Bool}, blsOf ds = some ns → ds = ns.map D.bl
  | [], ns, h => by cases h; rfl
  | d :: ds, ns, h => by
    cases d with
    | bl i =>
      simp only [blsOf, Option.map_eq_some_iff] at h
      obtain ⟨r, hr, rfl⟩ := h
      rw [blsOf_inv hr]; rfl
    | _ => simp [blsOf] at h
section
variable {K : PySem.W.Frag} {F G : Hp} {S : Sto} {H : Hp}
theorem RpAll.ints_of {ds : List D} {ns : List Int} {vs : List V} (h : RpAll K G vs ds) (e : intsOf ds = some ns) : vs = ns.map V.int := by rw [intsOf_inv e] at h; exact h.ints
theorem RpAll.bls_of {ds : List D} {ns : List Bool} {vs : List V} (h : RpAll K G vs ds) (e : blsOf ds = some ns) : vs = ns.map V.bl := by rw [blsOf_inv e] at h; exact h.bls
theorem seq_sq {v : V} {d : D} {ds : List D} (R : SR K F G S H) (r : Rp K G v d) (h : seqOf S d = some ds) : ∃ p vs, v = .ref p ∧ (SqL K H p vs ∨ SqT K H p vs) ∧ RpAll K G vs ds := by
  rcases seqOf_inv h with rfl | h
  · obtain ⟨p, vs, e, sq, ra⟩ := tup_sq R r
    exact ⟨p, vs, e, .inr sq, ra⟩
  · obtain ⟨p, vs, e, sq, ra⟩ := lst_sq R r h
    exact ⟨p, vs, e, .inl sq, ra⟩
theorem one_arg2 {vs : List V} {d : D} (h : RpAll K G vs [d]) : ∃ v, vs = [v] ∧ Rp K G v d := by
  cases h with
  | cons r t => cases t; exact ⟨_, rfl, r⟩
theorem two_args2 {vs : List V} {d e : D} (h : RpAll K G vs [d, e]) : ∃ v w, vs = [v, w] ∧ Rp K G v d ∧ Rp K G w e := by
  cases h with
  | cons r t => cases t with
    | cons r' t' => cases t'; exact ⟨_, _, rfl, r, r'⟩
end

/-! ### len, sum, all, any, abs, int, bool, str, divmod, list, tuple -/
def lenD (S : Sto) : D → Option Nat
  | .str z => if z.length ≤ sizeLine then some z.length else none
  | d => (seqOf S d).map List.length
def fLen (ds : List D) (S : Sto) (Q : QK) : Prop := ∃ d n, ds = [d] ∧ lenD S d = some n ∧ Q (.int (n : Nat)) S
def fSum (ds : List D) (S : Sto) (Q : QK) : Prop := ∃ d xs ns, ds = [d] ∧ lstOf S d = some xs ∧ intsOf xs = some ns ∧ Q (.int ns.sum) S
def fAll (ds : List D) (S : Sto) (Q : QK) : Prop := ∃ d xs ns, ds = [d] ∧ lstOf S d = some xs ∧ blsOf xs = some ns ∧ Q (.bl (ns.all id)) S
def fAbs (ds : List D) (S : Sto) (Q : QK) : Prop := ∃ i, ds = [.int i] ∧ Q (.int (if i < 0 then -i else i)) S
def fInt (ds : List D) (S : Sto) (Q : QK) : Prop := match ds with
  | [.int i] => Q (.int i) S
  | [.bl k] => Q (.int (if k then 1 else 0)) S
  | _ => False
def fStrI (ds : List D) (S : Sto) (Q : QK) : Prop := ∃ i, ds = [.int i] ∧ i.natAbs.log2 < 1920 ∧ Q (.str (toString i)) S
def fDivmod (ds : List D) (S : Sto) (Q : QK) : Prop := ∃ i j, ds = [.int i, .int j] ∧ CDiv i j ∧ Q (.tup [.int (i / j), .int (i % j)]) S
def fList (ds : List D) (S : Sto) (Q : List D → Sto → Prop) : Prop := ∃ d xs, ds = [d] ∧ seqOf S d = some xs ∧ Q xs S
def fTuple (ds : List D) (S : Sto) (Q : QK) : Prop := ∃ d xs, ds = [d] ∧ seqOf S d = some xs ∧ Q (.tup xs) S
def fMax2 (ds : List D) (S : Sto) (Q : QK) : Prop := ∃ i j, ds = [.int i, .int j] ∧ Q (.int (if j > i then j else i)) S
def fMin2 (ds : List D) (S : Sto) (Q : QK) : Prop := ∃ i j, ds = [.int i, .int j] ∧ Q (.int (if j < i then j else i)) S
section
variable {X : Cx}
theorem c_len : CallR X (.builtin "len") (loC X.K fLen) := by
  rintro pins s σ H xs us Q I r ⟨F, G, S, ds, Q2, R, ra, ⟨d, n, rfl, hn, q⟩, qt⟩
  obtain ⟨v, rfl, rv⟩ := one_arg2 ra
  refine call_len pins s σ H _ us Q I r ⟨v, n, rfl, ?_, qt _ H G _ S (Same.refl _) R (.int _) q⟩
  unfold lenD at hn
  split at hn
  · cases rv
    split at hn
    · rename_i h; cases hn; exact ⟨h, rfl⟩
    · cases hn
  · rw [Option.map_eq_some_iff] at hn
    obtain ⟨ys, hy, rfl⟩ := hn
    obtain ⟨p, vs, rfl, sq, rr⟩ := seq_sq R rv hy
    rcases sq with sq | sq
    · exact .inl ⟨vs, sq, rr.length.symm⟩
    · exact .inr ⟨vs, sq, rr.length.symm⟩
theorem c_sum (hc : X.calm = true) : CallR X (.builtin "sum") (loC X.K fSum) := by
  rintro pins s σ H xs us Q I r ⟨F, G, S, ds, Q2, R, ra, ⟨d, ys, ns, rfl, hy, hn, q⟩, qt⟩
  obtain ⟨v, rfl, rv⟩ := one_arg2 ra
  obtain ⟨p, vs, rfl, sq, rr⟩ := lst_sq R rv hy
  rw [rr.ints_of hn] at sq
  exact cr_sum hc pins s σ H _ us Q I r ⟨p, ns, rfl, sq, qt _ H G _ S (Same.refl _) R (.int _) q⟩
theorem c_all (hc : X.calm = true) : CallR X (.builtin "all") (loC X.K fAll) := by
  rintro pins s σ H xs us Q I r ⟨F, G, S, ds, Q2, R, ra, ⟨d, ys, ns, rfl, hy, hn, q⟩, qt⟩
  obtain ⟨v, rfl, rv⟩ := one_arg2 ra
  obtain ⟨p, vs, rfl, sq, rr⟩ := lst_sq R rv hy
  rw [rr.bls_of hn] at sq
  exact cr_all hc pins s σ H _ us Q I r ⟨p, ns, rfl, sq, qt _ H G _ S (Same.refl _) R (.bl _) q⟩
theorem c_abs : CallR X (.builtin "abs") (loC X.K fAbs) := by
  rintro pins s σ H xs us Q I r ⟨F, G, S, ds, Q2, R, ra, ⟨i, rfl, q⟩, qt⟩
  obtain ⟨v, rfl, rv⟩ := one_arg2 ra
  cases rv
  exact call_abs pins s σ H _ us Q I r ⟨i, rfl, qt _ H G _ S (Same.refl _) R (.int _) q⟩
theorem c_int : CallR X (.type "int") (loC X.K fInt) := by
  rintro pins s σ H xs us Q I r ⟨F, G, S, ds, Q2, R, ra, q, qt⟩
  unfold fInt at q
  split at q
  · obtain ⟨v, rfl, rv⟩ := one_arg2 ra
    cases rv
    exact call_int1 pins s σ H _ us Q I r (.inl ⟨_, rfl, qt _ H G _ S (Same.refl _) R (.int _) q⟩)
  · obtain ⟨v, rfl, rv⟩ := one_arg2 ra
    cases rv
    exact call_int1 pins s σ H _ us Q I r (.inr ⟨_, rfl, qt _ H G _ S (Same.refl _) R (.int _) q⟩)
  · exact q.elim
theorem c_strI : CallR X (.type "str") (loC X.K fStrI) := by
  rintro pins s σ H xs us Q I r ⟨F, G, S, ds, Q2, R, ra, ⟨i, rfl, hl, q⟩, qt⟩
  obtain ⟨v, rfl, rv⟩ := one_arg2 ra
  cases rv
  exact call_str_int pins s σ H _ us Q I r ⟨i, rfl, hl, qt _ H G _ S (Same.refl _) R (.str _) q⟩
theorem c_divmod : CallR X (.builtin "divmod") (loC X.K fDivmod) := by
  rintro pins s σ H xs us Q I r ⟨F, G, S, ds, Q2, R, ra, ⟨i, j, rfl, hc, q⟩, qt⟩
  obtain ⟨v, w, rfl, rv, rw'⟩ := two_args2 ra
  cases rv; cases rw'
  exact call_divmod pins s σ H _ us Q I r ⟨i, j, rfl, hc, qt.tup R (.cons (.int _) (.cons (.int _) .nil)) q⟩
theorem c_list : CallR X (.type "list") (loCL X.K fList) := by
  rintro pins s σ H xs us Q I r ⟨F, G, S, ds, Q2, R, ra, ⟨d, ys, rfl, hy, q⟩, lt⟩
  obtain ⟨v, rfl, rv⟩ := one_arg2 ra
  obtain ⟨p, vs, rfl, sq, rr⟩ := seq_sq R rv hy
  exact call_list_of pins s σ H _ us Q I r ⟨p, vs, rfl, sq, lt.new R rr q⟩
theorem c_tuple : CallR X (.type "tuple") (loC X.K fTuple) := by
  rintro pins s σ H xs us Q I r ⟨F, G, S, ds, Q2, R, ra, ⟨d, ys, rfl, hy, q⟩, qt⟩
  obtain ⟨v, rfl, rv⟩ := one_arg2 ra
  rcases seqOf_inv hy with rfl | hy
  · obtain ⟨p, vs, rfl, sq, rr⟩ := tup_sq R rv
    exact call_tuple_of pins s σ H _ us Q I r ⟨p, vs, rfl, .inr ⟨sq, qt _ H G _ S (Same.refl _) R rv q⟩⟩
  · obtain ⟨p, vs, rfl, sq, rr⟩ := lst_sq R rv hy
    exact call_tuple_of pins s σ H _ us Q I r ⟨p, vs, rfl, .inl ⟨sq, qt.tup R rr q⟩⟩
theorem c_max2 (hc : X.calm = true) : CallR X (.builtin "max") (loC X.K fMax2) := by
  rintro pins s σ H xs us Q I r ⟨F, G, S, ds, Q2, R, ra, ⟨i, j, rfl, q⟩, qt⟩
  obtain ⟨v, w, rfl, rv, rw'⟩ := two_args2 ra
  cases rv; cases rw'
  exact call_max2 hc pins s σ H _ us Q I r ⟨i, j, rfl, qt _ H G _ S (Same.refl _) R (.int _) q⟩
theorem c_min2 (hc : X.calm = true) : CallR X (.builtin "min") (loC X.K fMin2) := by
  rintro pins s σ H xs us Q I r ⟨F, G, S, ds, Q2, R, ra, ⟨i, j, rfl, q⟩, qt⟩
  obtain ⟨v, w, rfl, rv, rw'⟩ := two_args2 ra
  cases rv; cases rw'
  exact call_min2 hc pins s σ H _ us Q I r ⟨i, j, rfl, qt _ H G _ S (Same.refl _) R (.int _) q⟩

/-! ### max, min of ints -/
theorem alike_ints (ns : List Int) : PySem.W.AlikeAll (ns.map PyData.int) := by
  refine ⟨fun x hx y hy => ?_, fun x hx => ?_⟩
  · obtain ⟨i, _, rfl⟩ := List.mem_map.mp hx
    obtain ⟨j, _, rfl⟩ := List.mem_map.mp hy
    rfl
  · obtain ⟨i, _, rfl⟩ := List.mem_map.mp hx
    intro z; cases z
theorem depth_ints : ∀ ns : List Int, PyData.depthAll (ns.map PyData.int) = 0
  | [] => rfl
  | n :: ns => by simp only [List.map_cons, PyData.depthAll, depth_ints ns, PyData.depth]; rfl
theorem reads_ints (h : Heap) : ∀ {ns : List Int} {us : List Value}, Vals (ns.map V.int) us → ∃ as, ReadsAll h us (ns.map PyData.int) as
  | [], us, r => by cases r; exact ⟨_, .nil⟩
  | n :: ns, us, r => by
    cases r with
    | cons r1 r2 =>
      obtain ⟨t, rfl⟩ := r1
      obtain ⟨as, h'⟩ := reads_ints h r2
      exact ⟨_, .cons (.int n t) h'⟩
def fMaxL (ds : List D) (S : Sto) (Q : QK) : Prop := ∃ d xs n ns, ds = [d] ∧ seqOf S d = some xs ∧ intsOf xs = some (n :: ns) ∧ Q (.int (ns.foldl max n)) S
def fMinL (ds : List D) (S : Sto) (Q : QK) : Prop := ∃ d xs n ns, ds = [d] ∧ seqOf S d = some xs ∧ intsOf xs = some (n :: ns) ∧ Q (.int (ns.foldl min n)) S
theorem read_int {h : Heap} {v : Value} {m : Int} {bs : List Addr} (r : Reads h v (.int m) bs) : RelV (.int m) v := by cases r; exact ⟨_, rfl⟩
theorem c_max (hc : X.calm = true) (hu : X.A.units + 64 < cLine) : CallR X (.builtin "max") (loC X.K fMaxL) := by
  rintro pins s σ H xs us Q I r ⟨F, G, S, ds, Q2, R, ra, ⟨d, ys, n, ns, rfl, hy, hn, q⟩, qt⟩
  obtain ⟨v, rfl, rv⟩ := one_arg2 ra
  obtain ⟨p, vs, rfl, sq, rr⟩ := seq_sq R rv hy
  have ev := rr.ints_of hn
  subst ev
  rw [Vals.ref1 r]
  have al := alike_ints (n :: ns)
  have dp := depth_ints (n :: ns)
  have go : ∀ (v : Value) (h' : Heap) (tk : Nat) (bs : List Addr), Reads h' v (PySem.W.maxD (.int n) (ns.map .int)) bs → (∀ b o, s.heap.get? b = some o → h'.get? b = some o) → EP X pins σ Q v { s with heap := h', toks := tk } := fun v h' tk bs rd kp => by
    rw [PySem.W.maxD_ints] at rd
    exact ⟨_, H, I.kept kp, read_int rd, qt _ H G _ S (Same.refl _) R (.int _) q⟩
  rcases sq with sq | sq
  · obtain ⟨its, rel, pl, hz⟩ := I.list sq
    obtain ⟨as, rd⟩ := reads_ints s.heap rel
    exact PySem.W.max_list_data (I.ok.hd hc) pl.isList (x := .int n) (xs := ns.map .int) (as := as) (by simpa using rd) al (by simp only [List.map_cons] at dp; rw [dp]; omega) fun i v h' tk bs _ rd kp => go v h' tk bs rd kp
  · obtain ⟨its, rel, pl, hz⟩ := I.tuple sq
    obtain ⟨as, rd⟩ := reads_ints s.heap rel
    exact PySem.W.max_tuple_data (I.ok.hd hc) (show s.heap.IsTuple p its.toArray from pl) (x := .int n) (xs := ns.map .int) (as := as) (by simpa using rd) al (by simp only [List.map_cons] at dp; rw [dp]; omega) fun i v h' tk bs _ rd kp => go v h' tk bs rd kp
theorem c_min (hc : X.calm = true) (hu : X.A.units + 64 < cLine) : CallR X (.builtin "min") (loC X.K fMinL) := by
  rintro pins s σ H xs us Q I r ⟨F, G, S, ds, Q2, R, ra, ⟨d, ys, n, ns, rfl, hy, hn, q⟩, qt⟩
  obtain ⟨v, rfl, rv⟩ := one_arg2 ra
  obtain ⟨p, vs, rfl, sq, rr⟩ := seq_sq R rv hy
  have ev := rr.ints_of hn
  subst ev
  rw [Vals.ref1 r]
  have al := alike_ints (n :: ns)
  have dp := depth_ints (n :: ns)
  have go : ∀ (v : Value) (h' : Heap) (tk : Nat) (bs : List Addr), Reads h' v (PySem.W.minD (.int n) (ns.map .int)) bs → (∀ b o, s.heap.get? b = some o → h'.get? b = some o) → EP X pins σ Q v { s with heap := h', toks := tk } := fun v h' tk bs rd kp => by
    rw [PySem.W.minD_ints] at rd
    exact ⟨_, H, I.kept kp, read_int rd, qt _ H G _ S (Same.refl _) R (.int _) q⟩
  rcases sq with sq | sq
  · obtain ⟨its, rel, pl, hz⟩ := I.list sq
    obtain ⟨as, rd⟩ := reads_ints s.heap rel
    exact PySem.W.min_list_data (I.ok.hd hc) pl.isList (x := .int n) (xs := ns.map .int) (as := as) (by simpa using rd) al (by simp only [List.map_cons] at dp; rw [dp]; omega) fun i v h' tk bs _ rd kp => go v h' tk bs rd kp
  · obtain ⟨its, rel, pl, hz⟩ := I.tuple sq
    obtain ⟨as, rd⟩ := reads_ints s.heap rel
    exact PySem.W.min_tuple_data (I.ok.hd hc) (show s.heap.IsTuple p its.toArray from pl) (x := .int n) (xs := ns.map .int) (as := as) (by simpa using rd) al (by simp only [List.map_cons] at dp; rw [dp]; omega) fun i v h' tk bs _ rd kp => go v h' tk bs rd kp
/-- max(xs, default=d) -/
def maxOr (m : Int) : List Int → Int
  | [] => m
  | n :: ns => ns.foldl max n
def fMaxD (ds ks : List D) (S : Sto) (Q : QK) : Prop := ∃ d xs m ns, ds = [d] ∧ ks = [.int m] ∧ seqOf S d = some xs ∧ intsOf xs = some ns ∧ Q (.int (maxOr m ns)) S
def loCK (K : PySem.W.Frag) (r : List D → List D → Sto → QK → Prop) : List V → List V → Hp → VK → Prop := fun xs zs H Q => ∃ F G S ds ks Q2, SR K F G S H ∧ RpAll K G xs ds ∧ RpAll K G zs ks ∧ r ds ks S Q2 ∧ QT K F G Q2 Q
theorem c_maxD (hc : X.calm = true) (hu : X.A.units + 64 < cLine) : CallRK X (.builtin "max") ["default"] (loCK X.K fMaxD) := by
  rintro pins s σ H xs zs us ws Q I r rz ⟨F, G, S, ds, ks, Q2, R, ra, rk, ⟨d, ys, m, ns, rfl, rfl, hy, hn, q⟩, qt⟩
  obtain ⟨v, rfl, rv⟩ := one_arg2 ra
  obtain ⟨z, rfl, rzz⟩ := one_arg2 rk
  cases rzz
  obtain ⟨w', rfl, rw'⟩ := vals1 rz
  obtain ⟨t, rfl⟩ := rw'
  obtain ⟨p, vs, rfl, sq, rr⟩ := seq_sq R rv hy
  have ev := rr.ints_of hn
  subst ev
  rw [Vals.ref1 r]
  have al := alike_ints ns
  have dp := depth_ints ns
  have go0 : ns.map PyData.int = [] → ∀ (h' : Heap) (tk : Nat), (∀ b o, s.heap.get? b = some o → h'.get? b = some o) → EP X pins σ Q (.int m t) { s with heap := h', toks := tk } := fun e h' tk kp => by
    have e : ns = [] := by simpa using e
    subst e
    exact ⟨.int m, H, I.kept kp, ⟨t, rfl⟩, qt _ H G _ S (Same.refl _) R (.int _) q⟩
  have go : ∀ (y : PyData) (zs : List PyData) (i : Nat) (v : Value) (h' : Heap) (tk : Nat) (bs : List Addr), ns.map PyData.int = y :: zs → Reads h' v (PySem.W.maxD y zs) bs → (∀ b o, s.heap.get? b = some o → h'.get? b = some o) → EP X pins σ Q v { s with heap := h', toks := tk } := fun y zs i v h' tk bs e rd kp => by
    cases ns with
    | nil => cases e
    | cons n ns =>
      simp only [List.map_cons, List.cons.injEq] at e
      obtain ⟨rfl, rfl⟩ := e
      rw [PySem.W.maxD_ints] at rd
      exact ⟨_, H, I.kept kp, read_int rd, qt _ H G _ S (Same.refl _) R (.int _) q⟩
  rcases sq with sq | sq
  · obtain ⟨its, rel, pl, hz⟩ := I.list sq
    obtain ⟨as, rd⟩ := reads_ints s.heap rel
    exact PySem.W.max_list_default (I.ok.hd hc) pl.isList (xs := ns.map .int) (as := as) (by simpa using rd) al (by rw [dp]; omega) go0 fun y ys i v h' tk bs e _ rd kp => go y ys i v h' tk bs e rd kp
  · obtain ⟨its, rel, pl, hz⟩ := I.tuple sq
    obtain ⟨as, rd⟩ := reads_ints s.heap rel
    exact PySem.W.max_tuple_default (I.ok.hd hc) (show s.heap.IsTuple p its.toArray from pl) (xs := ns.map .int) (as := as) (by simpa using rd) al (by rw [dp]; omega) go0 fun y ys i v h' tk bs e _ rd kp => go y ys i v h' tk bs e rd kp
def PK2 (X : Cx) (W : WX) (kws : List Keyword) (T : TA2) : Prop := PK X kws (loA X.K W T)
theorem pk_w {kws : List Keyword} {t t' : TA} (h : PK X kws t) (k : ∀ σ H Q, t' σ H Q → t σ H Q) : PK X kws t' := ⟨fun pos pins s σ H Q I q => h.run pos pins s σ H Q I (k σ H Q q)⟩
variable {W : WX} {e : Expr} {es : List Expr} {kws : List Keyword} {Te : TE2} {T T' : TA2} {x : Str} {p pos kpos : Pos} {nm : Option Str} {id : String} {ks : List Str} {r : List D → List D → Sto → QK → Prop}
theorem k_nil : PK2 X W [] aNil := pk_w pk_nil fun σ H Q ⟨F, G, ρ, S, Q2, E2, R, rs, q, at_, xt⟩ => at_ [] H G [] S (Same.refl _) R .nil q
theorem k_cons (ha : PE2 X W e Te) (hr : PK2 X W kws T) : PK2 X W (⟨nm, e, kpos⟩ :: kws) (aCons Te T) :=
  pk_w (pk_cons ha hr) fun σ H Q ⟨F, G, ρ, S, Q2, E2, R, rs, q, at_, xt⟩ =>
    ⟨F, G, ρ, S, _, E2, R, rs, q, fun v H1 G1 d S1 e1 R1 r1 q1 => ⟨F, G1, ρ, S1, _, E2, R1, rs.mono e1, q1, fun vs H2 G2 ds S2 e2 R2 r2 q2 => at_ (v :: vs) H2 G2 (d :: ds) S2 (e1.trans e2) R2 (.cons (r1.mono e2) r2) q2, xt.le e1⟩, xt⟩
def eCBK (r : List D → List D → Sto → QK → Prop) (t tk : TA2) : TE2 := fun ρ S Q E => t ρ S (fun ds S1 => tk ρ S1 (fun ks S2 => r ds ks S2 Q) E) E
theorem e_callBK (hc : CallRK X (.builtin id) ks (loCK X.K r)) (hg : Gl X x) (hm : X.mg x = none) (hv : bootBuiltins x = some (.builtin id)) (ha : PA2 X W (e :: es) T) (hk : PK2 X W kws T') (hn : x ≠ "__name__" := by decide +kernel) (hdb : (x == ("__debug__" : Str)) = false := by decide +kernel)
    (he : backTo pos (starEach (e :: es) X.env) = (false, eval e X.env) :: backTo pos (starEach es X.env) := by rfl) (hpl : (backTo pos (starEach (e :: es) X.env)).any (·.1) = false := by rfl)
    (hall : (backToKw pos (keywordEach kws X.env)).all (·.1.isSome) = true := by rfl) (hnone : (backToKw pos (keywordEach kws X.env)).any (·.1.isNone) = false := by rfl) (hks : (backToKw pos (keywordEach kws X.env)).filterMap (·.1) = ks := by rfl) :
    PE2 X W (.Call (.Name x p) (e :: es) kws pos) (eCBK r T T') :=
  pe_w (pe_callBK hc hg hm hv ha hk hn hdb he hpl hall hnone hks) fun σ H Q ⟨F, G, ρ, S, Q2, E2, R, rs, q, qt, xt⟩ => ⟨F, G, ρ, S, _, E2, R, rs, q, fun vs H1 G1 ds S1 e1 R1 r1 q1 =>
    ⟨F, G1, ρ, S1, _, E2, R1, rs.mono e1, q1, fun zs H2 G2 ks S2 e2 R2 r2 q2 => ⟨F, G2, S2, ds, ks, Q2, R2, r1.mono e2, r2, q2, qt.le (e1.trans e2)⟩, xt.le e1⟩, xt⟩
end
/-! ### isinstance, against a built-in class -/
def clsOf (S : Sto) : D → Option String
  | .non => some "NoneType"
  | .bl _ => some "bool"
  | .int _ => some "int"
  | .str _ => some "str"
  | .tup _ => some "tuple"
  | .lst _ => some "list"
  | .ref a => match S a with
    | some (.lst _) => some "list"
    | some (.dK _) => some "dict"
    | some (.dT _) => some "dict"
    | _ => none
  | _ => none
def isB (a b : String) : Bool := a == b || (a == "bool" && b == "int")
theorem cls_ty {K : PySem.W.Frag} {F G : Hp} {S : Sto} {H : Hp} {v : V} {d : D} {n : String} (R : SR K F G S H) (r : Rp K G v d) (h : clsOf S d = some n) : TyX K H v (.type n) := by
  cases r with
  | non => cases h; exact .base .non
  | bl => cases h; exact .base (.bl _)
  | int => cases h; exact .base (.int _)
  | str => cases h; exact .base (.str _)
  | ty => cases h
  | obj => cases h
  | exc0 => cases h
  | exc1 => cases h
  | @lst a xs ds q ra =>
    cases h
    rcases q with (q | ⟨o, q⟩) | ⟨o, its, m, hk, hc, _⟩
    · exact .base (.lst (R.sub _ _ q))
    · exact .base (.frz (R.sub _ _ q))
    · first | exact .kList hk hc | exact .base (.kList hk hc) | exact .base (.kept hk hc)
  | @tup a xs ds q ra =>
    cases h
    rcases q with (q | ⟨o, q⟩) | ⟨o, its, m, hk, hc, _⟩
    · exact .base (.tup (R.sub _ _ q))
    · exact .fTuple (R.sub _ _ q)
    · exact .kTuple hk hc
  | ref a =>
    have h' : (match S a with | some (.lst _) => some "list" | some (.dK _) => some "dict" | some (.dT _) => some "dict" | _ => none) = some n := h
    clear h
    split at h'
    · rename_i e; cases h'
      obtain ⟨_, o, ho, ro⟩ := R.mu a _ e
      cases ro; exact .base (.lst ho)
    · rename_i e; cases h'
      obtain ⟨_, o, ho, ro⟩ := R.mu a _ e
      cases ro; exact .base (.dK ho)
    · rename_i e; cases h'
      obtain ⟨_, o, ho, ro⟩ := R.mu a _ e
      cases ro; exact .base (.dT ho)
    · cases h'
theorem clsOf_mem {S : Sto} {d : D} {n : String} (h : clsOf S d = some n) : n ∈ ["NoneType", "bool", "int", "str", "tuple", "list", "dict"] := by
  cases d with
  | ref a =>
    have h' : (match S a with | some (.lst _) => some "list" | some (.dK _) => some "dict" | some (.dT _) => some "dict" | _ => none) = some n := h
    split at h' <;> first | (cases h'; simp) | cases h'
  | _ => first | (cases h; simp) | cases h
theorem kitB_isB {K : PySem.W.Frag} {a b : String} (ha : a ∈ ["NoneType", "bool", "int", "str", "tuple", "list", "dict"]) (hb : b ∈ ["bool", "int", "str", "tuple", "list", "dict"]) : PySem.W.kitOne K (.type a) (.type b) = some (isB a b) := by
  have key : ∀ a ∈ ["NoneType", "bool", "int", "str", "tuple", "list", "dict"], ∀ b ∈ ["bool", "int", "str", "tuple", "list", "dict"], kitB a b = some (isB a b) := by decide +kernel
  exact kit_ty (key a ha b hb)
def fIsi (ds : List D) (S : Sto) (Q : QK) : Prop := ∃ d n m, ds = [d, .ty n] ∧ n ∈ ["bool", "int", "str", "tuple", "list", "dict"] ∧ clsOf S d = some m ∧ Q (.bl (isB m n)) S
section
variable {X : Cx}
theorem c_isi : CallR X (.builtin "isinstance") (loC X.K fIsi) := by
  rintro pins s σ H xs us Q I r ⟨F, G, S, ds, Q2, R, ra, ⟨d, n, m, rfl, hn, hm, q⟩, qt⟩
  obtain ⟨v, w, rfl, rv, rw'⟩ := two_args2 ra
  cases rw'
  exact call_isi pins s σ H _ us Q I r ⟨v, _, _, _, _, rfl, .ty n, cls_ty R rv hm, kitB_isB (clsOf_mem hm) hn, qt _ H G _ S (Same.refl _) R (.bl _) q⟩
end
/-- a built-in class as a value -/
theorem e_bty {X : Cx} {W : WX} {x : Str} {n : String} {pos : Pos} (hg : Gl X x) (hm : X.mg x = none) (hv : bootBuiltins x = some (.type n)) (hn : x ≠ "__name__" := by decide +kernel) (hd : (x == ("__debug__" : Str)) = false := by decide +kernel) : PE2 X W (.Name x pos) (eC (.ty n)) :=
  e_c (pe_bltn hg hm hv (show RelV (.ty n) (.type n) from rfl) hn hd) fun _ _ => .ty n
end Y
set_option Elab.async false
set_option linter.all false
set_option maxRecDepth 100000
set_option maxHeartbeats 4000000
namespace Y
open PySem PySem.Spec PyProof.Rows L2

/-! ### enumerate(list) -/
def enumD (n : Nat) : List D → List D
  | [] => []
  | d :: ds => .tup [.int (n : Nat), d] :: enumD (n + 1) ds
theorem enumD_length : ∀ (n : Nat) (ds : List D), (enumD n ds).length = ds.length
  | _, [] => rfl
  | n, d :: ds => by rw [enumD, List.length_cons, List.length_cons, enumD_length]
theorem enumD_get : ∀ (ds : List D) (n i : Nat) (e : D), (enumD n ds)[i]? = some e → ∃ d, ds[i]? = some d ∧ e = .tup [.int ((n + i : Nat)), d]
  | [], _, _, _, h => by simp [enumD] at h
  | d :: ds, n, 0, e, h => by simp [enumD] at h; exact ⟨d, rfl, h.symm⟩
  | d :: ds, n, i + 1, e, h => by
    rw [enumD, List.getElem?_cons_succ] at h
    obtain ⟨d', h1, h2⟩ := enumD_get ds (n + 1) i e h
    exact ⟨d', by rw [List.getElem?_cons_succ]; exact h1, by rw [h2, Nat.add_right_comm, Nat.add_assoc]⟩
section
variable {X : Cx} {W : WX}
theorem ite_ok {K : PySem.W.Frag} {G : Hp} {a : Addr} {xs : List V} {ds : List D} (h : SqL K G a xs) (r : RpAll K G xs ds) : ItOk K (Ite K a) G (enumD 0 ds) := by
  intro i F H S' G' e R
  have sq : SqL K H a xs := sameL R.sub (sameL e h)
  refine ⟨fun d hd => ?_, fun hl => ⟨xs, sq, by rw [r.length]; rw [enumD_length] at hl; exact hl⟩⟩
  obtain ⟨d', h1, rfl⟩ := enumD_get ds 0 i d hd
  obtain ⟨v, hv, rv⟩ := r.get h1
  refine ⟨⟨xs, v, sq, hv⟩, fun x H' y => ?_⟩
  obtain ⟨T, x', rfl, hT, rfl, hx⟩ := y
  have q := hx xs sq
  rw [hv] at q
  cases q
  have g := R.gfree hT
  refine ⟨_, Same.laid g, R.laid hT, .tup (SqT.of upd_same) (.cons ?_ (.cons ((rv.mono e).mono (Same.laid g)) .nil))⟩
  rw [Nat.zero_add]
  exact .int _
def iEnum2 (t : TA2) : TI2 := fun ρ S Q E => t ρ S (fun ds S1 => ∃ xs, ds = [.lst xs] ∧ Q (enumD 0 xs) S1) E
theorem i_enum {e : Expr} {T : TA2} {p pos tpos : Pos} {elts : List Expr} {kk : Nat} (hg : Gl X "enumerate") (hm : X.mg "enumerate" = none) (ha : PA2 X W [e] T) (hs : starEach [e] X.env = [(false, eval e X.env)] := by rfl) :
    PI2 X W (.Tuple elts kk tpos) (.Call (.Name "enumerate" p) [e] [] pos) (iEnum2 T) :=
  pi_w (pi_enum hg hm ha hs) fun σ H R ⟨F, G, ρ, S, Q2, E2, R0, rs, q, rt, xt⟩ => ⟨F, G, ρ, S, _, E2, R0, rs, q, fun us H1 G1 ds S1 e1 R1 r1 ⟨xs, e, q1⟩ => by
    subst e
    obtain ⟨v, rfl, rv⟩ := one_arg2 r1
    cases rv with
    | lst rd ra => exact ⟨_, _, rfl, sameL R1.sub rd, rt _ H1 G1 _ S1 e1 R1 (ite_ok rd ra) q1⟩, xt⟩
end

/-! ### instances -/
def putD (f : Str) (v : D) : List (Str × D) → List (Str × D)
  | [] => [(f, v)]
  | (g, x) :: r => if g = f then (g, v) :: r else (g, x) :: putD f v r
def fldOf (C : Addr) (S : Sto) (d : D) (f : Str) : Option D := match d with
  | .obj C' ns ds => if C' = C then (ns.zip ds).lookup f else none
  | .ref a => match S a with
    | some (.ins C' fs) => if C' = C then fs.lookup f else none
    | _ => none
  | _ => none
def hasM (C : Addr) (S : Sto) (d : D) (m : Str) : Prop := match d with
  | .obj C' ns ds => C' = C ∧ (ns.zip ds).lookup m = none
  | .ref a => ∃ fs, S a = some (.ins C fs) ∧ fs.lookup m = none
  | _ => False
section
variable {K : PySem.W.Frag} {F G : Hp} {S : Sto} {H : Hp}
theorem KVs.zip {ns : List Str} : ∀ {xs : List V} {ds : List D}, RpAll K G xs ds → KVs K G (ns.zip xs) (ns.zip ds) := by
  induction ns with
  | nil => intro xs ds _; exact .nil
  | cons n ns ih =>
    intro xs ds h
    cases h with
    | nil => exact .nil
    | cons r t => exact .cons ⟨rfl, r⟩ (ih t)
theorem KVs.look {f : Str} : ∀ {a : List (Str × V)} {b : List (Str × D)}, KVs K G a b → (∀ d, b.lookup f = some d → ∃ v, a.lookup f = some v ∧ Rp K G v d) ∧ (b.lookup f = none → a.lookup f = none)
  | _, _, .nil => ⟨fun d h => (by cases h), fun _ => rfl⟩
  | (n, v) :: _, (m, d) :: _, .cons ⟨e, r⟩ t => by
    simp only at e
    subst e
    obtain ⟨h1, h2⟩ := KVs.look (f := f) t
    by_cases hb : (f == n) = true
    · refine ⟨fun d' h => ?_, fun h => ?_⟩
      · simp only [List.lookup_cons, hb] at h ⊢; cases h; exact ⟨v, rfl, r⟩
      · simp only [List.lookup_cons, hb] at h; cases h
    · refine ⟨fun d' h => ?_, fun h => ?_⟩
      · simp only [List.lookup_cons, hb] at h ⊢; exact h1 d' h
      · simp only [List.lookup_cons, hb] at h ⊢; exact h2 h
theorem KVs.put {f : Str} {v : V} {d : D} (r : Rp K G v d) : ∀ {a : List (Str × V)} {b : List (Str × D)}, KVs K G a b → KVs K G (putF f v a) (putD f d b)
  | _, _, .nil => .cons ⟨rfl, r⟩ .nil
  | (n, w) :: _, (m, e) :: _, .cons ⟨q, r'⟩ t => by
    simp only at q
    subst q
    unfold putF putD
    by_cases h : n = f
    · rw [if_pos h, if_pos h]; exact .cons ⟨rfl, r⟩ t
    · rw [if_neg h, if_neg h]; exact .cons ⟨rfl, r'⟩ (KVs.put r t)
theorem KVs.split : ∀ {a : List (Str × V)} {b : List (Str × D)}, KVs K G a b → a = (b.map (·.1)).zip (a.map (·.2)) ∧ (b.map (·.1)).length = (a.map (·.2)).length ∧ RpAll K G (a.map (·.2)) (b.map (·.2))
  | _, _, .nil => ⟨rfl, rfl, .nil⟩
  | (n, w) :: r, (m, e) :: r', .cons ⟨q, h⟩ t => by
    simp only at q
    subst q
    obtain ⟨x, y, z⟩ := KVs.split t
    refine ⟨?_, ?_, .cons h z⟩
    · rw [List.map_cons, List.map_cons, List.zip_cons_cons, ← x]
    · rw [List.map_cons, List.map_cons, List.length_cons, List.length_cons, y]
theorem KVs.length {κ : Type} {a : List (κ × V)} {b : List (κ × D)} (h : KVs K G a b) : a.length = b.length := Paired.length h
theorem fld_of (R : SR K F G S H) {v : V} {d e : D} {C : Addr} {f : Str} (r : Rp K G v d) (h : fldOf C S d f = some e) : ∃ a dx fs w, v = .ref a ∧ H a = some (.ins C dx fs) ∧ fs.lookup f = some w ∧ Rp K G w e := by
  cases r with
  | obj g l ra =>
    unfold fldOf at h
    simp only at h
    split at h
    · rename_i hc; subst hc
      obtain ⟨w, hw, rw'⟩ := (KVs.zip ra).look.1 _ h
      exact ⟨_, _, _, w, rfl, R.sub _ _ g, hw, rw'⟩
    · cases h
  | ref a =>
    unfold fldOf at h
    simp only at h
    split at h
    · rename_i C' fs e'
      split at h
      · rename_i hc; subst hc
        obtain ⟨_, o, ho, ro⟩ := R.mu a _ e'
        cases ro with
        | ins kv =>
          obtain ⟨w, hw, rw'⟩ := kv.look.1 _ h
          exact ⟨a, _, _, w, rfl, ho, hw, rw'⟩
      · cases h
    · cases h
  | _ => simp [fldOf] at h
theorem hasM_of (R : SR K F G S H) {v : V} {d : D} {C : Addr} {m : Str} (r : Rp K G v d) (h : hasM C S d m) : ∃ a dx fs, v = .ref a ∧ H a = some (.ins C dx fs) ∧ fs.lookup m = none := by
  cases r with
  | obj g l ra =>
    obtain ⟨rfl, h⟩ := h
    exact ⟨_, _, _, rfl, R.sub _ _ g, (KVs.zip ra).look.2 h⟩
  | ref a =>
    obtain ⟨fs, e, h⟩ := h
    obtain ⟨_, o, ho, ro⟩ := R.mu a _ e
    cases ro with
    | ins kv => exact ⟨a, _, _, rfl, ho, kv.look.2 h⟩
  | _ => exact h.elim
end
section
variable {X : Cx} {W : WX} {e o value : Expr} {es : List Expr} {Te To Tv : TE2} {T : TA2} {C f : Addr} {fn m x : Str} {pos pos' apos p : Pos} {k : Nat} {fd : FuncData} {ps : List Str} {sp : Sp2} {ds : List Value} {dvs : List V} {dds : List D}
def eFld (C : Addr) (fn : Str) (t : TE2) : TE2 := fun ρ S Q E => t ρ S (fun x S1 => ∃ d, fldOf C S1 x fn = some d ∧ Q d S1) E
theorem e_fld (he : PE2 X W e Te) (c : Cls X.K C) (n : NoAttr X.K C fn) (hb : attributeBase e fn X.env (eval e X.env) = eval e X.env := by rfl) : PE2 X W (.Attribute e fn pos) (eFld C fn Te) :=
  pe_w (pe_fld he hb) fun σ H Q ⟨F, G, ρ, S, Q2, E2, R, rs, q, qt, xt⟩ => ⟨F, G, ρ, S, _, E2, R, rs, q, fun v H1 G1 d S1 e1 R1 r1 ⟨y, hy, q1⟩ => by
    obtain ⟨a, dx, fs, w, rfl, ha, hl, rw'⟩ := fld_of R1 r1 hy
    exact ⟨a, C, dx, fs, w, rfl, ha, c, n, hl, qt w H1 G1 y S1 e1 R1 rw' q1⟩, xt⟩
def sFldS (C : Addr) (fn : Str) (to tv : TE2) : TS2 := fun D ρ S => tv ρ S (fun y S1 => to ρ S1 (fun x S2 => ∃ a fs, x = .ref a ∧ S2 a = some (.ins C fs) ∧ fs.length < 1000 ∧ D.nx ρ (sup S2 a (.ins C (putD fn y fs)))) (fun x S => D.xc x ρ S)) (fun x S => D.xc x ρ S)
theorem s_fld (ho : PE2 X W o To) (hv : PE2 X W value Tv) (c : Cls X.K C) (n : NoAttr X.K C fn) (hs : swapsWith value (some (.Attribute o fn pos')) pos.line X.env = pure false := by rfl) : PS2 X W (.Assign [.Attribute o fn pos'] value pos) (sFldS C fn To Tv) :=
  ps_w (ps_fld ho hv hs) fun D σ H ⟨F, G, ρ, S, D2, R, rs, q, dt⟩ => ⟨F, G, ρ, S, _, _, R, rs, q, fun v H1 G1 d S1 e1 R1 r1 q1 => ⟨F, G1, ρ, S1, _, _, R1, rs.mono e1, q1, fun v2 H2 G2 d2 S2 e2 R2 r2 ⟨a, fs, ed, ea, hl, q2⟩ => by
    subst ed; cases r2
    obtain ⟨ga, o, ho, ro⟩ := R2.mu a _ ea
    cases ro with
    | ins kv => exact ⟨a, C, _, _, rfl, ho, c, n, by rw [kv.length]; exact hl, dt.nx σ _ G2 ρ _ (e1.trans e2) (R2.write ea (.ins (kv.put (r1.mono e2)))) (rs.mono (e1.trans e2)) q2⟩, (dt.le e1).xt (rs.mono e1)⟩, dt.xt rs⟩
/-- o.m(e, ..) of an own class -/
def eMeth (C : Addr) (m : Str) (sp : Sp2) (to : TE2) (t : TA2) : TE2 := fun ρ S Q E => to ρ S (fun x S1 => hasM C S1 x m ∧ t ρ S1 (fun ds S2 => sp (x :: ds) S2 Q E) E) E
theorem e_meth {pl : Sem Bool} (ho : PE2 X W o To) (c : Cls X.K C) (hm : Meth X.K C m f) (F : FnD X.prog X.w X.K X.mg X.base k f fd ps sp) (hr : Room k X.A) (hb : Binds X.K fd ps []) (tk : L2N.Takes X W) (ha : PA2 X W (e :: es) T)
    (hst : starEach (e :: es) X.env = (false, eval e X.env) :: starEach es X.env := by rfl) (hpl : (backTo pos (starEach es X.env)).any (·.1) = false := by rfl)
    (ht : eval (.Call (.Attribute o m apos) (e :: es) [] pos) X.env = (do
      let ov ← eval o X.env
      standAt apos.atName
      let (f, first) ← holding [ov] (getMethod ov m pl)
      callWith pos f first (backTo pos (starEach (e :: es) X.env)) (backToKw pos (keywordEach [] X.env))) := by rfl) :
    PE2 X W (.Call (.Attribute o m apos) (e :: es) [] pos) (eMeth C m sp To T) := by
  refine ⟨fun pins s σ H Q I ⟨F', G, ρ, S, Q2, E2, R, rs, q, qt, xt⟩ => ?_⟩
  refine PySem.W.methodCall_KW (pl := pl) (thn (ho.run pins s σ H (fun v H1 => ∃ G1 d S1, Same G G1 ∧ SR X.K F' G1 S1 H1 ∧ Rp X.K G1 v d ∧ hasM C S1 d m ∧ T ρ S1 (fun ds S2 => sp (d :: ds) S2 Q2 E2) E2) I ⟨F', G, ρ, S, _, E2, R, rs, q, fun v H1 G1 d S1 e1 R1 r1 ⟨hm, q1⟩ => ⟨G1, d, S1, e1, R1, r1, hm, q1⟩, xt⟩) fun u s1 ⟨x, H1, I1, rx, G1, d, S1, e1, R1, r1, hM, q1⟩ => ?_) ht
  obtain ⟨a, dx, fs, rfl, ea, l⟩ := hasM_of R1 r1 hM
  obtain rfl : u = Value.ref a := rx
  refine getmeth_ok I1 ea c hm l ?_
  refine PySem.W.callWith_K (first := [.ref a]) (h₀ := X.base) I.ok.mod.kin hm.kp (thn (ha.run pos pins s1 σ H1 (fun vs H2 => loF X.K sp (V.ref a :: vs) H2 Q (WE W σ)) I1 ⟨F', G1, ρ, S1, _, E2, R1, rs.mono e1, q1, fun vs H2 G2 ds S2 e2 R2 r2 q2 => ⟨F', G2, S2, d :: ds, Q2, E2, R2, .cons (r1.mono e2) r2, q2, qt.le (e1.trans e2), xt.le (e1.trans e2)⟩, xt.le e1⟩) fun us s2 ⟨vs, H2, I2, r, q2⟩ => ⟨I2.kIn, ?_⟩) hst hpl
  exact run_fnY (us := .ref a :: us) (vs := .ref a :: vs) F hr hb .nil (L2N.passAt tk σ) I2 (.cons rfl r) (by rw [List.append_nil]; exact q2)
theorem e_meth0 {pl : Sem Bool} (ho : PE2 X W o To) (c : Cls X.K C) (hm : Meth X.K C m f) (F : FnD X.prog X.w X.K X.mg X.base k f fd ps sp) (hr : Room k X.A) (hb : Binds X.K fd ps []) (tk : L2N.Takes X W)
    (ht : eval (.Call (.Attribute o m apos) [] [] pos) X.env = (do
      let ov ← eval o X.env
      standAt apos.atName
      let (f, first) ← holding [ov] (getMethod ov m pl)
      callWith pos f first (backTo pos (starEach [] X.env)) (backToKw pos (keywordEach [] X.env))) := by rfl) :
    PE2 X W (.Call (.Attribute o m apos) [] [] pos) (eMeth C m sp To aNil) := by
  refine ⟨fun pins s σ H Q I ⟨F', G, ρ, S, Q2, E2, R, rs, q, qt, xt⟩ => ?_⟩
  refine PySem.W.methodCall_KW (pl := pl) (thn (ho.run pins s σ H (fun v H1 => ∃ G1 d S1, Same G G1 ∧ SR X.K F' G1 S1 H1 ∧ Rp X.K G1 v d ∧ hasM C S1 d m ∧ sp [d] S1 Q2 E2) I ⟨F', G, ρ, S, _, E2, R, rs, q, fun v H1 G1 d S1 e1 R1 r1 ⟨hm, q1⟩ => ⟨G1, d, S1, e1, R1, r1, hm, q1⟩, xt⟩) fun u s1 ⟨x, H1, I1, rx, G1, d, S1, e1, R1, r1, hM, q1⟩ => ?_) ht
  obtain ⟨a, dx, fs, rfl, ea, l⟩ := hasM_of R1 r1 hM
  obtain rfl : u = Value.ref a := rx
  refine getmeth_ok I1 ea c hm l ?_
  refine PySem.W.callWith_K0 (first := [.ref a]) I1.kIn hm.kp ?_
  exact run_fnY (us := [.ref a]) (vs := [.ref a]) F hr hb .nil (L2N.passAt tk σ) I1 (.cons rfl .nil) ⟨F', G1, S1, [d], Q2, E2, R1, .cons r1 .nil, q1, qt.le e1, xt.le e1⟩
/-- C(e, ..): a new instance, then __init__ -/
def eMake (C : Addr) (sp : Sp2) (t : TA2) : TE2 := fun ρ S Q E => t ρ S (fun ds S1 => ∀ p, S1 p = none → sp (.ref p :: ds) (sup S1 p (.ins C [])) (fun v S2 => v = .non ∧ Q (.ref p) S2) E) E
/-- .. frozen then -/
def eMakeZ (C : Addr) (sp : Sp2) (t : TA2) : TE2 := fun ρ S Q E => t ρ S (fun ds S1 => ∀ p, S1 p = none → sp (.ref p :: ds) (sup S1 p (.ins C [])) (fun v S2 => v = .non ∧ ∃ p' fs, D.ref p = .ref p' ∧ S2 p' = some (.ins C fs) ∧ Q (.obj C (fs.map (·.1)) (fs.map (·.2))) (sdel S2 p')) E) E
theorem run_makeY {spv : Sp} {E : XK} {pins : List (Addr × Obj)} {σ : St} {H : Hp} {s : Shared} {Q : VK} {us : List Value} {vs : List V} (M : Mk X.K C f) (F : FnOk X.prog X.w X.K X.mg X.base (L2N.CX X.prog X.w) k f fd ps spv) (hr : Room (k + 1) X.A) (hb : Binds X.K fd ps []) (hx : PassesAt (L2N.CX X.prog X.w) X σ E)
    (I : Inv X pins σ H s) (r : Vals vs us) (h : ∀ x dx, H x = none → H dx = none → dx ≠ x → spv (.ref x :: vs) (upd (upd H dx (.own x)) x (.ins C dx [])) (fun v H2 => v = .non ∧ Q (.ref x) H2) E) :
    wpAny (model X.prog X.w) X.A (call (.ref C) us) (EP X pins σ Q) X.xe s := by
  have hq := h (s.heap.objs.size + 1) s.heap.objs.size (I.hok.fresh (Nat.le_succ _)) (I.hok.fresh (Nat.le_refl _)) (Nat.ne_of_lt (Nat.lt_succ_self _))
  have J := Inv.made (C := C) I
  have r2 : Vals (V.ref (s.heap.objs.size + 1) :: vs) (Value.ref (s.heap.objs.size + 1) :: us) := .cons rfl r
  have hl : (Value.ref (s.heap.objs.size + 1) :: us).length = ps.length := by rw [← r2.length, F.len _ _ _ _ hq]
  have bd := hb _ (Value.ref (s.heap.objs.size + 1) :: us) J.kIn (by rw [List.append_nil]; exact hl)
  rw [List.append_nil] at bd
  refine wpAny_call (make_map (f := f) I.kIn M.makes M.init (beq_iff_eq.mp M.fn) (codeAny_mono (F.run _ X.stack _ _ _ _ _ _ E (hr.make C us []) (J.env0.make C us []) bd r2 hq) fun r s' hq' => ?_))
  cases r with
  | error e => exact hx pins _ _ e s' J hq'
  | ok fl =>
    cases fl with
    | ret u =>
      obtain ⟨v, H', J2, rv, ev, q3⟩ := J.after hq'
      subst ev
      exact ⟨rv, V.ref (s.heap.objs.size + 1), H', J2, rfl, q3⟩
    | next => exact hq'.elim
    | brk => exact hq'.elim
    | cont => exact hq'.elim
theorem make_sr {K : PySem.W.Frag} {F G : Hp} {S : Sto} {H : Hp} (R : SR K F G S H) {x dx : Addr} (hx : H x = none) (hd : H dx = none) (ne : dx ≠ x) : SR K F G (sup S x (.ins C [])) (upd (upd H dx (.own x)) x (.ins C dx [])) :=
  (R.grow hd).new (by rw [upd_ne ne.symm]; exact hx) (.ins .nil)
theorem make_lo {σ : St} {H : Hp} {vs : List V} {Q : VK} {F G : Hp} {S : Sto} {Q2 : D → Sto → Prop} {E2 : EK} {ds : List D} (R : SR X.K F G S H) (r : RpAll X.K G vs ds) (h : ∀ p, S p = none → sp (.ref p :: ds) (sup S p (.ins C [])) (fun v S2 => v = .non ∧ Q2 (.ref p) S2) E2)
    (qt : ∀ p H' G' S', Same G G' → SR X.K F G' S' H' → Q2 (.ref p) S' → Q (.ref p) H') (xt : XT X.K F G σ E2 W) : ∀ x dx, H x = none → H dx = none → dx ≠ x → loF X.K sp (.ref x :: vs) (upd (upd H dx (.own x)) x (.ins C dx [])) (fun v H2 => v = .non ∧ Q (.ref x) H2) (WE W σ) :=
  fun x dx hx hd ne => ⟨F, G, _, _, _, E2, make_sr R hx hd ne, .cons (.ref x) r, h x (R.sfree hx), fun v H' G' d S' e R' rd ⟨ed, q⟩ => by subst ed; cases rd; exact ⟨rfl, qt x H' G' S' e R' q⟩, xt⟩
theorem e_make (M : Mk X.K C f) (F : FnD X.prog X.w X.K X.mg X.base k f fd ps sp) (hr : Room (k + 1) X.A) (hg : Gl X x) (hm : X.mg x = some (.ref C)) (hb : Binds X.K fd ps []) (tk : L2N.Takes X W)
    (ha : PA2 X W (e :: es) T) (hdb : (x == ("__debug__" : Str)) = false := by decide +kernel) (he : starEach (e :: es) X.env = (false, eval e X.env) :: starEach es X.env := by rfl) (hpl : (backTo pos (starEach es X.env)).any (·.1) = false := by rfl) :
    PE2 X W (.Call (.Name x p) (e :: es) [] pos) (eMake C sp T) := by
  refine ⟨fun pins s σ H Q I ⟨F', G, ρ, S, Q2, E2, R, rs, q, qt, xt⟩ => ?_⟩
  refine wpAny_Call_Name_kw (ld_glob I hg hm ?_ hdb)
  refine PySem.W.callWith_K (h₀ := X.base) I.ok.mod.kin M.kp (thn (ha.run pos pins s σ H (fun vs H1 => ∀ x dx, H1 x = none → H1 dx = none → dx ≠ x → loF X.K sp (.ref x :: vs) (upd (upd H1 dx (.own x)) x (.ins C dx [])) (fun v H2 => v = .non ∧ Q (.ref x) H2) (WE W σ)) I ⟨F', G, ρ, S, _, E2, R, rs, q, fun vs H1 G1 d S1 e1 R1 r1 q1 =>
    make_lo R1 r1 q1 (fun p H' G' S' e2 R2 q2 => qt (.ref p) H' G' (.ref p) S' (e1.trans e2) R2 (.ref p) q2) (xt.le e1), xt⟩) fun us s1 ⟨vs, H1, I1, r, q1⟩ => ⟨I1.kIn, ?_⟩) he hpl
  exact run_makeY M F hr hb (L2N.passAt tk σ) I1 r q1
theorem e_makeZ (M : Mk X.K C f) (F : FnD X.prog X.w X.K X.mg X.base k f fd ps sp) (hr : Room (k + 1) X.A) (hg : Gl X x) (hm : X.mg x = some (.ref C)) (hb : Binds X.K fd ps []) (tk : L2N.Takes X W)
    (ha : PA2 X W (e :: es) T) (hdb : (x == ("__debug__" : Str)) = false := by decide +kernel) (he : starEach (e :: es) X.env = (false, eval e X.env) :: starEach es X.env := by rfl) (hpl : (backTo pos (starEach es X.env)).any (·.1) = false := by rfl) :
    PE2 X W (.Call (.Name x p) (e :: es) [] pos) (eMakeZ C sp T) := by
  refine ⟨fun pins s σ H Q I ⟨F', G, ρ, S, Q2, E2, R, rs, q, qt, xt⟩ => ?_⟩
  refine wpAny_Call_Name_kw (ld_glob I hg hm ?_ hdb)
  refine PySem.W.callWith_K (h₀ := X.base) I.ok.mod.kin M.kp (thn (ha.run pos pins s σ H (fun vs H1 => ∀ x dx, H1 x = none → H1 dx = none → dx ≠ x → loF X.K sp (.ref x :: vs) (upd (upd H1 dx (.own x)) x (.ins C dx [])) (fun v H2 => v = .non ∧ Q (.ref x) H2) (WE W σ)) I ⟨F', G, ρ, S, _, E2, R, rs, q, fun vs H1 G1 d S1 e1 R1 r1 q1 =>
    make_lo (Q2 := fun d S2 => ∃ p fs, d = .ref p ∧ S2 p = some (.ins C fs) ∧ Q2 (.obj C (fs.map (·.1)) (fs.map (·.2))) (sdel S2 p)) R1 r1 (fun p hp => ?_) (fun p H' G' S' e2 R2 ⟨p', fs, ep, ea, q2⟩ => ?_) (xt.le e1), xt⟩) fun us s1 ⟨vs, H1, I1, r, q1⟩ => ⟨I1.kIn, ?_⟩) he hpl
  · exact q1 p hp
  · cases ep
    obtain ⟨ga, o, ho, ro⟩ := R2.mu p _ ea
    cases ro with
    | @ins _ dx fs' _ kv =>
      have sm : Same G' (upd G' p (.ins C dx fs')) := Same.laid ga
      refine qt (.ref p) H' _ _ _ ((e1.trans e2).trans sm) (R2.freeze ho ga (R2.fof ea)) ?_ q2
      have kk := kv.split
      exact .obj (by rw [← kk.1]; exact upd_same) kk.2.1 (kk.2.2.mono sm)
  · exact run_makeY M F hr hb (L2N.passAt tk σ) I1 r q1
end
end Y
set_option Elab.async false
set_option linter.all false
set_option maxRecDepth 100000
set_option maxHeartbeats 4000000
namespace Y
open PySem PySem.Spec PyProof.Rows L2

/-! ### raise C('..') -/
section
variable {X : Cx} {W : WX} {C : Addr} {bmB : List Value} {B newId initId : String}
def sRaise (C : Addr) : TS2 := fun D ρ S => D.xc ⟨.ref C, false, [], []⟩ ρ S
/-- what the text's own class of errors must have -/
structure ErrC (K : PySem.W.Frag) (C : Addr) : Prop where
  ex : PySem.W.excIn K C [.type "ValueError", .type "Exception", .type "BaseException", .type "object"] "ValueError.__new__" = true
  kp : PySem.W.keepIn K (.ref C) = true
  sb : PySem.W.subIn K (.ref C) (.type "BaseException") = some true
  ty : PySem.W.typeIn K (.ref C) = some (.type "type")
theorem s_raise {x m : Str} {j : Nat} {p p2 pos pos' : Pos} (e : ErrC X.K C) (hc : X.calm = true) (tk : L2N.Takes X W) (gC : X.mg x = some (.ref C)) (hg : Gl X x) (hdb : (x == ("__debug__" : Str)) = false := by decide +kernel) :
    PS2 X W (.Raise (some (.Call (.Name x p) [.Constant (.str m) j p2] [] pos)) none pos') (sRaise C) :=
  ps_w (L2N.ps_raise hc tk (L2N.pmk_own PySem.F.excBase_ValueError e.ex gC e.kp (raises_own e.sb e.ty) hg hdb)) fun D σ H ⟨F, G, ρ, S, D2, R, rs, q, dt⟩ => dt.xc _ none σ H G _ ρ S (Same.refl _) R rs ⟨rfl, rfl, rfl, rfl⟩ q
/-- code that is never reached -/
def sNever : TS2 := fun _ _ _ => False
theorem s_never {st : Stmt} : PS2 X W st sNever := ps_w ps_never fun D σ H ⟨F, G, ρ, S, D2, R, rs, q, dt⟩ => q.elim
theorem ss_never {st : List Stmt} : PSs2 X W st sNever := pss_w pss_never fun D σ H ⟨F, G, ρ, S, D2, R, rs, q, dt⟩ => q.elim
end
/-! ### try -/
section
variable {X : Cx} {W : WX} {x n : Str} {c : Value} {i : Nat} {body suite : List Stmt} {b₀ : Stmt} {h₀ : ExceptHandler} {hs : List ExceptHandler} {np pos pos' : Pos} {T : TS2} {U : Addr → Value → Option Addr → TS2}
/-- except x as n: the clause's own wish -/
def xcAs (K : PySem.W.Frag) (c : Value) (i : Nat) (U : Addr → Value → Option Addr → TS2) (D : Ends2) : Ex2 → Rho → Sto → Prop := fun x ρ S => ∃ b, PySem.W.exmOne K x.cls c = some b ∧
  (b = true → ∀ a d, U a x.cls d { D with nx := fun ρ' S' => D.nx (ρ'.set i none) S', bk := fun ρ' S' => D.bk (ρ'.set i none) S', ct := fun ρ' S' => D.ct (ρ'.set i none) S', xc := fun _ _ _ => False } (ρ.set i (some (.exc a x.cls d x.ns x.ds))) S) ∧ (b = false → D.xc x ρ S)
def sTryAs (K : PySem.W.Frag) (c : Value) (i : Nat) (T : TS2) (U : Addr → Value → Option Addr → TS2) : TS2 := fun D ρ S => T { D with xc := xcAs K c i U D } ρ S
theorem RpSt.unset {K : PySem.W.Frag} {G : Hp} {σ : St} {ρ : Rho} (h : RpSt K G σ ρ) (i : Nat) : RpSt K G (σ.set i none) (ρ.set i none) := by
  refine ⟨by simp [h.1], fun j d hd => ?_⟩
  by_cases hj : i = j
  · subst hj
    rw [List.getElem?_set] at hd
    by_cases hl : i < ρ.length
    · simp [hl] at hd
    · simp [hl] at hd
  · rw [List.getElem?_set_ne hj] at hd ⊢; exact h.2 j d hd
theorem s_tryAs (i : Nat) (hs : X.stack = X.env :: X.outer) (hf : X.env.frame = some X.env.locals) (hN : X.N.Nodup) (hc : Names X x c) (tk : L2N.Takes X W)
    (hb : ∀ (W' : WX) (pn : List (Addr × Obj)) (xe : Value → Shared → Prop), L2N.Takes (X.tr pn xe) W' → PassesOwn (model X.prog X.w) X.A X.env xe → PSs2 (X.tr pn xe) W' body T)
    (hsu : ∀ (a : Addr) (oe : Obj) (cls : Value) (d : Option Addr) (pn : List (Addr × Obj)), L2N.Zn cls d oe → (∃ vs, oe.data = .fields vs) → PSs2 (X.suite a ((a, oe) :: pn)) WF (b₀ :: suite) (U a cls d))
    (hi : X.N[i]? = some n := by rfl) (hln : X.env.kindOf n = some .local := by rfl) :
    PS2 X W (.Try body [.ExceptHandler (some (.Name x np)) (some n) (b₀ :: suite) pos'] [] [] pos) (sTryAs X.K c i T U) :=
  ps_w (L2N.ps_try_as (tb := fun W' => loS X.K W' T) (ts := fun a cls d => loS X.K WF (U a cls d)) hs hf hN hi hln hc tk hb hsu) fun D σ H ⟨F, G, ρ, S, D2, R, rs, q, dt⟩ => by
    refine ⟨F, G, ρ, S, _, R, rs, q, dt.nx, dt.rt, dt.bk, dt.ct, fun cls dx σ' H' G' y ρ' S' e R' rs' xr ⟨b, hb1, yes, no⟩ => ?_⟩
    have ec : y.cls = cls := xr.1
    rw [ec] at hb1 yes
    refine ⟨b, hb1, fun hb2 a ha => ?_, fun hb2 => dt.xc cls dx σ' H' G' y ρ' S' e R' rs' xr (no hb2)⟩
    refine ⟨F, G', _, S', _, R', rs'.set (xr.rp a) i, yes hb2 a dx, ?_⟩
    have dt' := dt.le e
    exact ⟨fun σ1 H1 G1 ρ1 S1 e1 R1 rs1 q1 => dt'.nx _ H1 G1 _ S1 e1 R1 (rs1.unset i) q1, dt'.rt, fun σ1 H1 G1 ρ1 S1 e1 R1 rs1 q1 => dt'.bk _ H1 G1 _ S1 e1 R1 (rs1.unset i) q1, fun σ1 H1 G1 ρ1 S1 e1 R1 rs1 q1 => dt'.ct _ H1 G1 _ S1 e1 R1 (rs1.unset i) q1, fun _ _ _ _ _ _ _ _ _ _ _ _ q1 => q1⟩
end
/-! ### isinstance of the error that a suite handles -/
section
variable {K : PySem.W.Frag}
theorem c_isiE {X : Cx} {a D : Addr} {oe : Obj} {pn : List (Addr × Obj)} (C : ExcC X.K D) (hz : Zc (.ref D) none oe) (hf : ∃ vs, oe.data = .fields vs) :
    CallR (X.suite a ((a, oe) :: pn)) (.builtin "isinstance") (loC X.K fun ds S Q => ∃ ns es c b, ds = [.exc a (.ref D) none ns es, c] ∧ ((∃ n, c = .ty n ∧ PySem.W.kitOne X.K (.ref D) (.type n) = some b) ∨ ∃ m, c = .ref m ∧ PySem.W.kitOne X.K (.ref D) (.ref m) = some b) ∧ Q (.bl b) S) := by
  rintro pins s σ H xs us Q I r ⟨F, G, S, ds, Q2, R, ra, ⟨ns, es, c, b, rfl, h, q⟩, qt⟩
  obtain ⟨v, w, rfl, rv, rw'⟩ := two_args2 ra
  cases rv
  rcases h with ⟨n, rfl, h⟩ | ⟨m, rfl, h⟩
  · cases rw'
    exact call_isE C hz hf pins s σ H _ us Q I r ⟨.ty n, .type n, b, rfl, fun u r => r, h, qt _ H G _ S (Same.refl _) R (.bl _) q⟩
  · cases rw'
    exact call_isE C hz hf pins s σ H _ us Q I r ⟨.ref m, .ref m, b, rfl, fun u r => r, h, qt _ H G _ S (Same.refl _) R (.bl _) q⟩
end
/-! ### f(k = e, ..): keywords alone -/
section
variable {X : Cx} {W : WX} {k : Nat} {f : Addr} {fd : FuncData} {ps ks : List Str} {sp : Sp2} {x : Str} {p pos : Pos} {kw0 : Keyword} {kws : List Keyword} {T : TA2} {g : List Value → List Value → List Value} {gV : List V → List V → List V}
def eCallK (sp : Sp2) (gD : List D → List D) (t : TA2) : TE2 := fun ρ S Q E => t ρ S (fun ds S1 => sp (gD ds) S1 Q E) E
theorem e_callK {gD : List D → List D} (F : FnD X.prog X.w X.K X.mg X.base k f fd ps sp) (hr : Room k X.A) (hg : Gl X x) (hm : X.mg x = some (.ref f)) (hk : PySem.W.keepIn X.K (.ref f) = true) (hb : KBinds X.K fd ps ks g gV) (tk : L2N.Takes X W)
    (hgD : ∀ {G : Hp} {vs : List V} {ds : List D}, RpAll X.K G vs ds → RpAll X.K G (gV [] vs) (gD ds)) (ha : PK2 X W (kw0 :: kws) T)
    (hall : (backToKw pos (keywordEach (kw0 :: kws) X.env)).all (·.1.isSome) = true := by rfl) (hks : (backToKw pos (keywordEach (kw0 :: kws) X.env)).filterMap (·.1) = ks := by rfl)
    (hdb : (x == ("__debug__" : Str)) = false := by decide +kernel)
    (hpl : ((backTo pos (starEach [] X.env)).any (·.1) || (backToKw pos (keywordEach (kw0 :: kws) X.env)).any (·.1.isNone)) = false := by rfl) :
    PE2 X W (.Call (.Name x p) [] (kw0 :: kws) pos) (eCallK sp gD T) := by
  refine ⟨fun pins s σ H Q I ⟨F', G, ρ, S, Q2, E2, R, rs, q, qt, xt⟩ => ?_⟩
  refine wpAny_Call_Name_kw (ld_glob I hg hm ?_ hdb)
  refine PySem.W.callWith_KW0 (h₀ := X.base) I.ok.mod.kin hk hall (thn (ha.run pos pins s σ H (fun vs H1 => loF X.K sp (gV [] vs) H1 Q (WE W σ)) I ⟨F', G, ρ, S, _, E2, R, rs, q, fun vs H1 G1 d S1 e1 R1 r1 q1 => ⟨F', G1, S1, gD d, Q2, E2, R1, hgD r1, q1, qt.le e1, xt.le e1⟩, xt⟩) fun us s1 ⟨vs, H1, I1, r, q1⟩ => ⟨I1.kIn, ?_⟩) hpl
  rw [hks]
  have r2 := hb.rel (vs := []) (us := []) .nil r
  have hl : (g [] us).length = ps.length := by rw [← r2.length]; exact FnOk.len F _ _ _ _ q1
  refine wpAny_call (codeAny_mono (FnOk.run F X.A X.stack s1 H1 ⟨[], ks.zip us⟩ (g [] us) (gV [] vs) Q (WE W σ) hr I1.env0 (hb.to s1 [] us I1.kIn hl) r2 q1) fun r s' hq => ?_)
  cases r with
  | error e => exact L2N.passAt tk σ pins H1 s1 e s' I1 hq
  | ok fl =>
    cases fl with
    | ret u => exact I1.after hq
    | next => exact hq.elim
    | brk => exact hq.elim
    | cont => exact hq.elim
end
end Y
set_option Elab.async false
set_option linter.all false
set_option maxRecDepth 100000
set_option maxHeartbeats 4000000
/-! len(set(xs)), xs a list of distinct texts -/
namespace Y
open PySem PySem.Spec PyProof.Rows L2
theorem any_take_succ (zs : List Str) (hz : zs.Nodup) (i : Nat) (hi : i < zs.length) (y : Str) : ((zs.take i).any (· == y) || decide (y = zs.getD i Str.empty)) = (zs.take (i + 1)).any (· == y) := by
  rw [List.take_succ, List.getElem?_eq_getElem hi, List.any_append, List.getD_eq_getElem?_getD, List.getElem?_eq_getElem hi]
  simp only [Option.getD_some, Option.toList_some, List.any_cons, List.any_nil, Bool.or_false]
  congr 1
  by_cases e : y = zs[i]
  · subst e; simp
  · have : (zs[i] == y) = false := by
      rw [beq_eq_false_iff_ne]; exact fun h => e h.symm
    simp [e, this]
theorem any_take_not (zs : List Str) (hz : zs.Nodup) (i : Nat) (hi : i < zs.length) : (zs.take i).any (· == zs.getD i Str.empty) = false := by
  rw [List.getD_eq_getElem?_getD, List.getElem?_eq_getElem hi, Option.getD_some]
  apply Bool.eq_false_iff.mpr
  intro h
  obtain ⟨x, hx, e⟩ := List.any_eq_true.mp h
  have ex : x = zs[i] := beq_iff_eq.mp e
  obtain ⟨j, hj, e3⟩ := List.getElem_of_mem hx
  rw [List.length_take] at hj
  have e4 : zs[j]'(by omega) = zs[i] := by rw [← ex, ← e3, List.getElem_take]
  exact absurd e4 (List.pairwise_iff_getElem.mp hz j i (by omega) hi (by omega))
section
variable {prog : Program} {w : World} {A : Around} {R : Result → Shared → Prop} {I : Addr} {fp wr : List Addr} {G : Array GenState → Array GenState → Prop} {n : Nat} {P : Nat → Value → Prop} {St : Nat → Shared → Prop}
theorem loopTexts (W : WalksS prog w A.in1 I fp wr G n P St) (S : Addr) (off : S ∉ fp) (zs : List Str) (nd : zs.Nodup) (hsz : zs.length = n) (few : n + 1 < scanBound)
    (vals : ∀ i v, P i v → ∃ t, v = .str (zs.getD i Str.empty) t) :
    ∀ (k i : Nat) (s : Shared), n - i = k → i ≤ n → St i s →
      s.heap.SetOf (PySem.strKind prog w) S (fun y => (zs.take i).any (· == y)) i →
      (∀ s', Moved (S :: wr) G s s' → s'.heap.SetOf (PySem.strKind prog w) S (fun y => (zs.take n).any (· == y)) n → R (.ok (.ret .none)) s') →
      codeAny (model prog w) A (.builtin "set.update.loop" ⟨[.ref S, .ref I], []⟩) R s := by
  have offW : S ∉ wr := fun h => off (W.sub _ h)
  have sub : ∀ b ∈ wr, b ∈ S :: wr := fun b hb => List.mem_cons_of_mem _ hb
  intro k
  induction k with
  | zero =>
    intro i s hk hi st so fin
    obtain rfl : i = n := by omega
    refine codeAny_builtin PyProof.Rows.F.entry_set_update_loop ?_
    rw [Around.under_plainId PyProof.Rows.F.plain_set_update_loop _]
    show wpAny _ A.in1 (pyNext (.ref I) >>= _) _ _ s
    refine wpAny_bind (W.done s _ _ st fun s2 mv => ?_)
    show wpAny _ A.in1 (ret Value.none) _ _ s2
    obtain ⟨o, es, ep, t, ho, rest⟩ := so
    exact wpAny_pure (fin s2 (mv.mono sub) ⟨o, es, ep, t, mv.heap S _ offW ho, rest⟩)
  | succ k ih =>
    intro i s hk hi st so fin
    have lt : i < n := by omega
    refine codeAny_builtin PyProof.Rows.F.entry_set_update_loop ?_
    rw [Around.under_plainId PyProof.Rows.F.plain_set_update_loop _]
    show wpAny _ A.in1 (pyNext (.ref I) >>= _) _ _ s
    refine wpAny_bind (W.item i s _ _ lt st fun v s2 hP st2 mv => ?_)
    obtain ⟨t, rfl⟩ := vals i v hP
    have so2 : s2.heap.SetOf (PySem.strKind prog w) S (fun y => (zs.take i).any (· == y)) i := by
      obtain ⟨o, es, ep, tb, ho, rest⟩ := so
      exact ⟨o, es, ep, tb, mv.heap S _ offW ho, rest⟩
    show wpAny _ A.in1 (holding [Value.str (zs.getD i Str.empty) t] (setAdd S (.str (zs.getD i Str.empty) t)) >>= _) _ _ s2
    refine wpAny_bind (wpAny_holding ?_)
    unfold setAdd
    refine wpAny_holding (wpAny_bind ((PySem.strKind prog w).pyHash (k := zs.getD i Str.empty) (strKind_is _ _ _ _) ?_))
    refine wpAny_setAddHashed_of (knd := PySem.strKind prog w) (s := { s2 with toks := s2.toks + 1 }) (strKind_is _ _ _ _) rfl so2 (by omega) fun h3 sb so3 => ?_
    have so4 : h3.SetOf (PySem.strKind prog w) S (fun y => (zs.take (i + 1)).any (· == y)) (i + 1) := by
      rw [any_take_not zs nd i (by omega)] at so3
      exact SetOf_congr so3 (fun y => any_take_succ zs nd i (by omega) y) (by simp)
    refine wpAny_pure ⟨plainId_quiet PyProof.Rows.F.plain_set_update_loop _, ih (i + 1) _ (by omega) lt (W.frame _ s2 _ _ st2 (Nat.le_succ _) fun b hb o e => ?_) so4 fun s5 mv5 so5 => ?_⟩
    · rw [sb.2 b (fun h : b = S => off (by rw [← h]; exact hb))]; exact e
    · refine fin s5 (Moved.trans W.gtrans ((mv.mono sub).then_heap (Nat.le_succ _) fun b o hb e => ?_) mv5) so5
      rw [sb.2 b (fun h : b = S => hb (by rw [h]; exact List.mem_cons_self))]; exact e
end
section
variable {prog : Program} {w : World} {A : Around} {E : Value → Shared → Prop} {s : Shared}
set_option maxHeartbeats 6400000 in
theorem call_set_texts {l : Addr} {its : Array Value} {zs : List Str} {Q : Value → Shared → Prop}
    (hh : A.handled = none) (hl : s.heap.IsList l its) (hi : PyProof.Rows.StrsAre its.toList zs) (nd : zs.Nodup) (few : zs.length + 1 < scanBound)
    (fin : ∀ (h2 : Heap) (tk : Nat), h2.SetOf (PySem.strKind prog w) s.heap.objs.size (fun y => (zs.take its.size).any (· == y)) its.size →
      (∀ b o, b < s.heap.objs.size → s.heap.get? b = some o → h2.get? b = some o) → Q (.ref s.heap.objs.size) { s with heap := h2, toks := tk }) :
    wpAny (model prog w) A (call (.type "set") [.ref l]) Q E s := by
  obtain ⟨c, tl, hmro⟩ := PySem.F.called_set.mro
  have m1 := PySem.F.called_set.made
  have m2 := PySem.F.called_set.sub
  refine wpAny_call (codeAny_of_tree ?_)
  show wpAny _ _ (callAny (.type "set") _) _ _ _
  refine wpAny_pure ⟨Code.quiet_builtin _ (by decide +kernel), codeAny_builtin PySem.F.entry_type_call ?_⟩
  rw [Around.under_plain (weight_type_call_type "set" [.ref l] []) rfl]
  have m3 := PySem.F.called_set.notType
  have m4 := PySem.F.called_set.canCreate
  have m5 := PySem.F.typeCall_set_1 (.ref l)
  repeat (any_goals (first | assumption | wp_step))
  refine codeAny_mono (code_set_new_1 (.ref l) (E := E) (Q₁ := fun obj s1 => ∃ led : Bool, obj = .ref s.heap.objs.size ∧ s1 = { s with heap := s.heap.push { cls := .type "set", dict := none, data := .set #[] 0 (.fresh 0 0 led) } }) fun led => ⟨led, rfl, rfl⟩) fun r s1 hr => ?_
  cases r with
  | error e => exact hr
  | ok fl =>
    cases fl with
    | ret obj =>
      obtain ⟨led, rfl, rfl⟩ := hr
      have get0 : (s.heap.push { cls := .type "set", dict := none, data := .set #[] 0 (.fresh 0 0 led) }).get? s.heap.objs.size = some { cls := .type "set", dict := none, data := .set #[] 0 (.fresh 0 0 led) } := Heap.get?_push_size _ rfl
      have ty0 : Shared.TypeIs { s with heap := s.heap.push { cls := .type "set", dict := none, data := .set #[] 0 (.fresh 0 0 led) } } (.ref s.heap.objs.size) "set" := ⟨_, get0, rfl⟩
      have i1 := PySem.F.called_set.init.lookup
      have i2 := PySem.F.called_set.init.bind (.ref s.heap.objs.size)
      repeat (any_goals (first | assumption | wp_step))
      refine codeAny_mono (codeAny_call_builtin (R := wants (fun r s2 => r = .none ∧ ∃ h2 tk, s2 = { s with heap := h2, toks := tk } ∧
          h2.SetOf (PySem.strKind prog w) s.heap.objs.size (fun y => (zs.take its.size).any (· == y)) its.size ∧
          (∀ b o, b < s.heap.objs.size → s.heap.get? b = some o → h2.get? b = some o)) E) PySem.F.called_set.init.plain PySem.F.entry_set_init (check_set_init_1 ty0 ?_)) fun r2 s2 hr2 => ?_
      · obtain ⟨ol, hol, hcl, nl, hdl⟩ := hl
        obtain ⟨c1, d1, dt1, sl1⟩ := ol
        simp only at hcl hdl
        subst hcl; subst hdl
        have hol2 : (s.heap.push { cls := .type "set", dict := none, data := .set #[] 0 (.fresh 0 0 led) }).get? l = some { cls := .type "list", dict := d1, data := .seq its nl, slots := sl1 } := Heap.get?_push_of_some _ hol
        have k1 := PySem.F.sub_list_set
        have k2 := PySem.F.sub_list_frozenset
        have k3 : (Value.type "list" == Value.type "dict") = false := by decide
        have hl1 : (s.heap.push { cls := .type "set", dict := none, data := .set #[] 0 (.fresh 0 0 led) }).IsList l its := ⟨_, hol2, rfl, nl, rfl⟩
        unfold Builtin.«set.__init__» noKeywords Builtin.Frozenset.updateFrom
        generalize hPI : pyIter = PI
        wp_walk
        subst hPI
        refine wpAny_pyIter_list hl1 ?_
        refine wpAny_bind (wpAny_runValue ?_)
        have lS : l < s.heap.objs.size := Heap.lt_size hol
        have hh3 : A.in1.in1.in1.handled = none := by simp [hh]
        have nI : l ≠ (s.heap.push { cls := .type "set", dict := none, data := .set #[] 0 (.fresh 0 0 led) }).objs.size := by
          rw [Heap.size_push]; exact Nat.ne_of_lt (Nat.lt_succ_of_lt lS)
        have off : s.heap.objs.size ∉ [(s.heap.push { cls := .type "set", dict := none, data := .set #[] 0 (.fresh 0 0 led) }).objs.size, l] := by
          rw [Heap.size_push]; simp only [List.mem_cons, List.mem_singleton, List.not_mem_nil, or_false, not_or]
          exact ⟨Nat.ne_of_lt (Nat.lt_succ_self _), Nat.ne_of_gt lS⟩
        have sz : zs.length = its.size := by rw [← StrsAre.len_eq hi, Array.length_toList]
        refine loopTexts ((Walks.list hh3 _ l nI its).toS) s.heap.objs.size
          off zs nd sz (by rw [← sz]; exact few) (fun i v hv => SS.strs_at hi i v (by rw [Array.getElem?_toList]; exact hv)) (its.size - 0) 0 _ (by omega) (Nat.zero_le _)
          ⟨⟨_, Heap.get?_push_size _ rfl, rfl, rfl⟩, (hl1.push _)⟩ ?h0 ?h1
        case h0 =>
          have g0 : ((s.heap.push { cls := .type "set", dict := none, data := .set #[] 0 (.fresh 0 0 led) }).push { cls := .type "list_iterator", data := .fields #[.ref l, .int 0 0] }).get? s.heap.objs.size
              = some { cls := .type "set", dict := none, data := .set #[] 0 (.fresh 0 0 led) } := Heap.get?_push_of_some _ get0
          exact PyProof.Rows.SetOf_congr ((PyProof.Rows.setObjOf_fresh (knd := PySem.strKind prog w) led).setOf g0 (by unfold scanBound; omega)) (fun _ => rfl) rfl
        case h1 =>
          intro s5 mv so
          obtain ⟨h2, g2, d2, tk, os2⟩ := s5
          have eg : g2 = s.gens := mv.gens
          have ed : d2 = s.drawn := mv.drawn
          have eo : os2 = s.os := mv.os
          subst eg; subst ed; subst eo
          show wpAny _ _ _ _ _ _
          refine wpAny_pure ?_
          show wpAny _ _ (ret Value.none) _ _ _
          refine wpAny_pure ⟨rfl, h2, tk, rfl, so, fun b o hb e => ?_⟩
          have b1 : b ≠ s.heap.objs.size := Nat.ne_of_lt hb
          have b2 : b ≠ (s.heap.push { cls := .type "set", dict := none, data := .set #[] 0 (.fresh 0 0 led) }).objs.size := by
            rw [Heap.size_push]; exact Nat.ne_of_lt (Nat.lt_succ_of_lt hb)
          exact mv.heap b o (by simp only [List.mem_cons, List.mem_singleton, List.not_mem_nil, or_false, not_or]; exact ⟨b1, b2⟩) (Heap.get?_push_of_some _ (Heap.get?_push_of_some _ e))
      · cases r2 with
        | error e => exact hr2
        | ok fl2 =>
          cases fl2 with
          | ret r =>
            obtain ⟨rfl, h2, tk, rfl, so, kp⟩ := hr2
            repeat (any_goals (first | assumption | wp_step))
            exact fin _ _ so kp
          | _ => exact hr2.elim
    | _ => exact hr.elim
end
def strsOf : List D → Option (List Str)
  | [] => some []
  | .str x :: r => (strsOf r).map (x :: ·)
  | _ => none
theorem strsOf_map : ∀ zs : List Str, strsOf (zs.map D.str) = some zs
  | [] => rfl
  | z :: zs => by rw [List.map_cons, strsOf, strsOf_map zs]; rfl
theorem strs_inv {K : PySem.W.Frag} {G : Hp} : ∀ {ds : List D} {zs : List Str} {vs : List V}, RpAll K G vs ds → strsOf ds = some zs → vs = zs.map V.str
  | [], zs, _, .nil, h => by cases h; rfl
  | d :: ds, zs, _, .cons r1 r2, h => by
    cases d with
    | str x =>
      simp only [strsOf, Option.map_eq_some_iff] at h
      obtain ⟨r, hr, rfl⟩ := h
      rw [strs_inv r2 hr, r1.str_inv]; rfl
    | _ => simp [strsOf] at h
section
variable {X : Cx} {W : WX} {a : Expr} {Ta : TE2} {p p2 q pos : Pos}
/-- len(set(xs)), the texts distinct -/
def eLenSet (t : TE2) : TE2 := fun ρ S Q E => t ρ S (fun d S1 => ∃ xs zs, lstOf S1 d = some xs ∧ strsOf xs = some zs ∧ zs.Nodup ∧ zs.length < 60 ∧ Q (.int (zs.length : Nat)) S1) E
theorem e_lenSet (hc : X.calm = true) (hg : Gl X "len") (hm : X.mg "len" = none) (hg2 : Gl X "set") (hm2 : X.mg "set" = none) (ha : PE2 X W a Ta)
    (na : starEach [a] X.env = (false, eval a X.env) :: starEach [] X.env := by rfl) : PE2 X W (.Call (.Name "len" p) [.Call (.Name "set" p2) [a] [] q] [] pos) (eLenSet Ta) := by
  refine ⟨fun pins s σ H Q I ⟨F, G, ρ, S, Q2, E2, R, rs, h, qt, xt⟩ => ?_⟩
  refine Call_ (ld_blt I hg hm PySem.boot_len ?_)
  refine PyProof.Rows.callWith_builtin1 (PyProof.Rows.args_cons ?_ rfl) rfl rfl
  refine Call_ (ld_blt I hg2 hm2 PyProof.Rows.boot_set ?_)
  refine PyProof.Rows.callWith_type1 (PyProof.Rows.args_cons (thn (ha.run pins s σ H (fun v H1 => ∃ G1 d S1 xs zs, Same G G1 ∧ SR X.K F G1 S1 H1 ∧ Rp X.K G1 v d ∧ lstOf S1 d = some xs ∧ strsOf xs = some zs ∧ zs.Nodup ∧ zs.length < 60 ∧ Q2 (.int (zs.length : Nat)) S1) I ⟨F, G, ρ, S, _, E2, R, rs, h, fun v H' G' d S' e R' r ⟨xs, zs, k⟩ => ⟨G', d, S', xs, zs, e, R', r, k⟩, xt⟩) fun v s1 ⟨x, H1, I1, r1, G1, d, S1, xs, zs, e1, R1, rd, hx, hz, nd, few, q1⟩ => PyProof.Rows.args_nil ?_) na) na rfl
  obtain ⟨l, vs, rfl, sq, ra⟩ := lst_sq R1 rd hx
  have ev := strs_inv ra hz
  subst ev
  cases r1
  obtain ⟨its, r, pl, hsz⟩ := I1.list sq
  refine call_set_texts (I1.ok.hd hc) pl.isList (by simpa using strsAre_of r) nd (by unfold scanBound; omega) fun h2 tk so kp => ?_
  refine PyProof.Rows.args_nil ?_
  have hl : its.toArray.size = zs.length := by rw [List.size_toArray, ← r.length, List.length_map]
  rw [hl] at so
  obtain ⟨o, es, ep, t, ho, hex, hd, _, _, _, hf, hn⟩ := so
  have I2 : Inv X pins σ H1 { s1 with heap := h2, toks := tk } := I1.kept fun b o e => kp b o (Heap.lt_size e) e
  refine call_len_set ho hex hd hf (by rw [hn] <;> omega) ⟨.int zs.length, H1, I2.tok _, ⟨_, by rw [hn]⟩, qt _ H1 G1 _ S1 e1 R1 (.int _) q1⟩
end
end Y
set_option Elab.async false
set_option linter.all false
set_option maxRecDepth 100000
set_option maxHeartbeats 4000000
/-! walking texts and lists that are changed between the walks; handing back lists of lists; short words -/
namespace Y
open PySem PySem.Spec PyProof.Rows L2
/-! ### a text, sign by sign -/
def signsD (x : Str) : List D := x.cps.toList.map fun c => D.str ⟨#[c]⟩
def iStr2 (t : TE2) : TI2 := fun ρ S Q E => t ρ S (fun d S1 => ∃ x, d = .str x ∧ Q (signsD x) S1) E
theorem its_ok {K : PySem.W.Frag} {G : Hp} (x : Str) : ItOk K (Its x) G (signsD x) := by
  intro i F H S' G' e R
  have hl : (signsD x).length = x.cps.size := by simp [signsD]
  refine ⟨fun d hd => ?_, fun h => by rw [hl] at h; exact h⟩
  have hi : i < x.cps.size := by rw [← hl]; exact (List.getElem?_eq_some_iff.mp hd).1
  refine ⟨hi, fun v H' ⟨e1, c, hc, ev⟩ => ?_⟩
  subst e1; subst ev
  have ed : d = .str ⟨#[c]⟩ := by
    unfold signsD at hd
    rw [List.getElem?_map, Array.getElem?_toList, hc] at hd
    exact (Option.some.inj hd).symm
  subst ed
  exact ⟨G', Same.refl _, R, .str _⟩
section
variable {X : Cx} {W : WX} {tg : Expr}
theorem i_str {e : Expr} {T : TE2} (he : PE2 X W e T) : PI2 X W tg e (iStr2 T) :=
  pi_w (pi_str he) fun σ H R ⟨F, G, ρ, S, Q2, E2, R0, rs, q, rt, xt⟩ => ⟨F, G, ρ, S, _, E2, R0, rs, q, fun v H1 G1 d S1 e1 R1 r1 ⟨x, ed, q1⟩ => by
    subst ed
    exact ⟨x, r1.str_inv, rt _ H1 G1 _ S1 e1 R1 (its_ok x) q1⟩, xt⟩
end
/-! ### [.. for .. in xs], xs a list that is changed before and behind -/
def lLcR (i : Nat) (vs : List Nat) (g : TG2) (tt : TT2) (te : TE2) : TA2 := fun ρ S Q _ => ∃ a xs, ρ[i]? = some (some (.ref a)) ∧ S a = some (.lst xs) ∧ lcGo g tt te (wipeD ρ vs) (fun ys S' => Q ys (sup S' a (.lst xs))) xs [] (sdel S a)
theorem lcr_imp {K : PySem.W.Frag} {W : WX} {i : Nat} {vs : List Nat} {g : TG2} {tt : TT2} {te : TE2} {σ : St} {H : Hp} {Q : VK} (h : loL K W (lLcR i vs g tt te) σ H Q) :
    tLc (iList K (tVar i)) (loG K WF vs g) (loT K WF tt) (lo K WF te) vs σ H Q := by
  obtain ⟨F0, G, ρ, S0, Q2, E2, R0, rs, ⟨a, ds, er, ea, q⟩, lt, xt⟩ := h
  obtain ⟨v, hv, rv⟩ := rs.2 i _ er
  cases rv
  obtain ⟨ga, o, ho, ro⟩ := R0.mu a _ ea
  have fa : F0 a = none := R0.fof ea
  cases ro with
  | @lst av0 _ ra0 =>
  refine ⟨.ref a, hv, a, rfl, ⟨av0, .inl (.inl ho)⟩, ?_⟩
  have R1 : SR K (upd F0 a (.lst av0)) G (sdel S0 a) H := (R0.drop (S' := sdel S0 a) fun b so hb => by
    unfold sdel at hb; split at hb
    · cases hb
    · exact hb).aside ho ga sdel_same
  intro A hA
  have nA : a ≠ A := fun z => by subst z; rw [ho] at hA; cases hA
  generalize hF : upd F0 a (.lst av0) = F at R1
  have fA : F A = none := R1.ffree hA
  have tk : ∀ {F' G' S' H'} {o : HO}, SR K F G' S' H' → F' = upd F A o → G' A = none → S' A = none → SR K F' G' S' (upd H' A o) := fun {F' G' S' H' o} R' e g s => by
    subst e; exact (R'.touch fA g s).aside upd_same g s
  have rd : ∀ {av : List V} {G' S' H'}, SR K (upd F A (.lst av)) G' S' H' → SqL K H' a av0 := fun {av G' S' H'} R' => .inl (.inl (R'.fr a _ (by rw [upd_ne nA, ← hF]; exact upd_same)))
  refine ⟨fun i m H => m = ds.length - i ∧ i ≤ ds.length ∧ ∃ G' av acc S', Same G G' ∧ SR K (upd F A (.lst av)) G' S' H ∧ RpAll K G' av acc ∧ lcGo g tt te (wipeD ρ vs) (fun ys S' => Q2 ys (sup S' a (.lst ds))) (ds.drop i) acc S',
    ⟨ds.length, by simp, Nat.zero_le _, G, [], [], sdel S0 a, Same.refl _, tk R1 rfl (R1.gfree hA) (R1.sfree hA), .nil, q⟩, ?_⟩
  rintro i m H2 ⟨rfl, hi, G', av, acc, S', e', R', ra, q'⟩
  have gA : G' A = none := R'.fg A _ upd_same
  have sA : S' A = none := R'.fs A _ upd_same
  by_cases hlt : i < ds.length
  · have hd : ds[i]? = some ds[i] := by simp [hlt]
    obtain ⟨v0, hv0, rv0⟩ := ra0.get hd
    rw [List.drop_eq_getElem_cons hlt] at q'
    refine .inr ⟨⟨av0, v0, rd R', hv0⟩, fun H => i + 1 ≤ ds.length ∧ ∃ G' av acc S', Same G G' ∧ SR K (upd F A (.lst av)) G' S' H ∧ RpAll K G' av acc ∧ lcGo g tt te (wipeD ρ vs) (fun ys S' => Q2 ys (sup S' a (.lst ds))) (ds.drop (i + 1)) acc S', fun H' h => ⟨ds.length - (i + 1), by omega, rfl, h⟩, fun x H' ⟨eH, y⟩ => ?_⟩
    subst eH
    have ex := y av0 (rd R')
    rw [hv0] at ex
    cases ex
    refine ⟨upd F A (.lst av), G', wipeD ρ vs, S', _, _, noE, R', (rs.mono e').wipe vs, rv0.mono e', q', fun σ3 H3 G3 ρ3 S3 sb e3 R3 rs3 q3 => ⟨sb.wipe, upd F A (.lst av), G3, ρ3, S3, _, noE, R3, rs3, q3, fun b H4 G4 S4 e4 R4 q4 => ?_, xt_no⟩, fun _ _ => xt_no⟩
    have e14 : Same G G4 := e'.trans (e3.trans e4)
    have e24 : Same G' G4 := e3.trans e4
    cases b with
    | false =>
      simp only [Bool.false_eq_true, if_false] at q4 ⊢
      exact ⟨hlt, G4, av, acc, S4, e14, R4, ra.mono e24, q4⟩
    | true =>
      simp only [if_true] at q4 ⊢
      refine ⟨upd F A (.lst av), G4, ρ3, S4, _, noE, R4, rs3.mono e4, q4, fun v H5 G5 d S5 e5 R5 r5 ⟨hz, q5⟩ => ?_, xt_no⟩
      refine ⟨av, R5.fr A _ upd_same, by rw [(ra).length]; exact hz, hlt, G5, av ++ [v], acc ++ [d], S5, e14.trans e5, ?_, (ra.mono (e24.trans e5)).append (.cons r5 .nil), q5⟩
      exact tk (R5.back fA) rfl (R5.fg A _ upd_same) (R5.fs A _ upd_same)
  · have e : i = ds.length := by omega
    subst e
    rw [List.drop_length] at q'
    refine .inl ⟨⟨av0, rd R', by rw [ra0.length]; exact Nat.le_refl _⟩, ?_⟩
    have R2 := R'.back fA
    have ha2 : H2 a = some (.lst av0) := R2.fr a _ (by rw [← hF]; exact upd_same)
    have ga2 : G' a = none := R2.fg a _ (by rw [← hF]; exact upd_same)
    subst hF
    have R3 : SR K F0 G' (sup S' a (.lst ds)) H2 := (R2.back fa).adopt ha2 ga2 fa (.lst (ra0.mono e'))
    have fA0 : F0 A = none := by rw [upd_ne nA.symm] at fA; exact fA
    exact lt A av H2 G' acc _ e' R3 (R'.fr A _ upd_same) gA (by rw [sup_ne nA.symm]; exact sA) fA0 ra q'
section
variable {X : Cx} {W : WX} {elt tg : Expr} {x : Str} {ifs : List Expr} {scope : Scope} {pos xp : Pos} {g : TG2} {tt : TT2} {te : TE2}
theorem l_lcR (i : Nat) (own : List (Str × Nat)) (hc : X.calm = true) (hN : X.N.Nodup) (ok : BlkOk X.N X.env.scope scope own)
    (hg : ∀ (s : Shared) (H : Hp) (C : Addr) (cl : List (Str × Addr)) (fp : List Addr), PG2 (X.blk s H scope (compEnvC scope cl C X.env) fp) WF (own.map (·.2)) tg g)
    (ht : ∀ (s : Shared) (H : Hp) (C : Addr) (cl : List (Str × Addr)) (fp : List Addr), PTs2 (X.blk s H scope (compEnvC scope cl C X.env) fp) WF ifs tt)
    (he : ∀ (s : Shared) (H : Hp) (C : Addr) (cl : List (Str × Addr)) (fp : List Addr), PE2 (X.blk s H scope (compEnvC scope cl C X.env) fp) WF elt te)
    (hi : X.N[i]? = some x := by rfl) (hv : Vis X.env.scope x := by first | exact Or.inl rfl | exact Or.inr (Or.inl rfl) | exact Or.inr (Or.inr rfl))
    (hd : (x == ("__debug__" : Str)) = false := by decide +kernel) (hcd : (x == ("__classdict__" : Str)) = false := by decide +kernel) (hs : ∀ y, foldedSetIterable (.Name x xp) X.env y = pure y := by intro _; rfl) :
    PL2 X W (.ListComp elt [⟨tg, .Name x xp, ifs, 0⟩] scope pos) (lLcR i (own.map (·.2)) g tt te) := pe_w (pe_lc (g := loG X.K WF (own.map fun p : Str × Nat => p.2) g) (tt := loT X.K WF tt) (te := lo X.K WF te) hc hN (pi_list (pe_var hi hv hd hcd)) ok hg ht he hs) fun _ _ _ h => lcr_imp h
end
/-! ### a list of lists is frozen, then handed back -/
def fzAll : List D → Sto → (List D → Sto → Prop) → Prop
  | [], S, Q => Q [] S
  | d :: ds, S, Q => (∃ xs, d = .lst xs ∧ fzAll ds S fun ys S' => Q (d :: ys) S') ∨ ∃ r xs, d = .ref r ∧ S r = some (.lst xs) ∧ fzAll ds (sdel S r) fun ys S' => Q (.lst xs :: ys) S'
theorem fz_all {K : PySem.W.Frag} {F H : Hp} : ∀ {ds : List D} {vs : List V} {G : Hp} {S : Sto} {Q : List D → Sto → Prop}, SR K F G S H → RpAll K G vs ds → fzAll ds S Q → ∃ G' ds' S', Same G G' ∧ SR K F G' S' H ∧ RpAll K G' vs ds' ∧ Q ds' S'
  | [], _, G, S, Q, R, .nil, q => ⟨G, [], S, Same.refl _, R, .nil, q⟩
  | d :: ds, _, G, S, Q, R, .cons r rr, q => by
    rcases q with ⟨xs, rfl, q⟩ | ⟨a, xs, rfl, ea, q⟩
    · obtain ⟨G', ds', S', e, R', r', q'⟩ := fz_all R rr q
      exact ⟨G', _, S', e, R', .cons (r.mono e) r', q'⟩
    · cases r
      obtain ⟨ga, o, ho, ro⟩ := R.mu a _ ea
      cases ro with
      | @lst av _ ra =>
        have e1 := Same.laid (G := G) (a := a) (o := HO.lst av) ga
        obtain ⟨G', ds', S', e, R', r', q'⟩ := fz_all (R.freeze ho ga (R.fof ea)) (rr.mono e1) q
        exact ⟨G', _, S', e1.trans e, R', .cons ((Rp.lst (.inl (.inl upd_same)) (ra.mono e1)).mono e) r', q'⟩
section
variable {X : Cx} {W : WX} {e : Expr} {Te : TE2} {pos : Pos}
def sRetZZ (te : TE2) : TS2 := fun D ρ S => te ρ S (fun d S1 => ∃ a xs, d = .ref a ∧ S1 a = some (.lst xs) ∧ fzAll xs (sdel S1 a) fun ys S2 => D.rt (.lst ys) S2) (fun x S1 => D.xc x ρ S1)
theorem s_retZZ (he : PE2 X W e Te) : PS2 X W (.Return (some e) pos) (sRetZZ Te) :=
  ps_w (ps_ret he) fun D σ H ⟨F, G, ρ, S, D2, R, rs, q, dt⟩ => ⟨F, G, ρ, S, _, _, R, rs, q, fun v H1 G1 d S1 e1 R1 r1 ⟨a, xs, ed, ea, q1⟩ => by
    subst ed; cases r1
    obtain ⟨ga, o, ho, ro⟩ := R1.mu a _ ea
    cases ro with
    | @lst av _ ra =>
      have fa := R1.fof ea
      have R2 : SR X.K (upd F a (.lst av)) G1 (sdel S1 a) H1 := (R1.drop (S' := sdel S1 a) fun b so hb => by
        unfold sdel at hb; split at hb
        · cases hb
        · exact hb).aside ho ga sdel_same
      obtain ⟨G2, ys, S2, e2, R3, r3, q3⟩ := fz_all R2 ra q1
      have g3 : G2 a = none := R3.fg a _ upd_same
      have s3 : S2 a = none := R3.fs a _ upd_same
      have R4 := (R3.back fa).freezeN ho g3 s3 fa
      have e3 := Same.laid (G := G2) (a := a) (o := HO.lst av) g3
      exact dt.rt (.ref a) H1 _ (.lst ys) _ ((e1.trans e2).trans e3) R4 (.lst (.inl (.inl upd_same)) (r3.mono e3)) q3, dt.xt rs⟩
end
/-! ### short words for the printed terms -/
theorem takesF {X : Cx} : L2N.Takes X WF := fun _ _ ⟨_, _, _, _, _, _, _, _, _, _, _, _, _, _, _, _, w⟩ => w.elim
theorem hu64 {A : Around} {k : Nat} (h : Room k A) : A.units + 64 < cLine := by have := h.un; omega
theorem hu65 {A : Around} {k : Nat} (h : Room k A) : A.units + 65 < cLine := by have := h.un; omega
section
variable {X : Cx} {W : WX} {x : Str} {pos : Pos}
theorem e_gint {i : Int} (hg : Gl X x) (h : ∃ t, X.mg x = some (.int i t)) (hd : (x == ("__debug__" : Str)) = false := by decide +kernel) : PE2 X W (.Name x pos) (eC (.int i)) := by
  obtain ⟨t, h⟩ := h
  exact e_glob (v := .int i) hg h ⟨t, rfl⟩ (fun _ _ => .int i) hd
theorem e_gstr {i : Str} (hg : Gl X x) (h : ∃ t, X.mg x = some (.str i t)) (hd : (x == ("__debug__" : Str)) = false := by decide +kernel) : PE2 X W (.Name x pos) (eC (.str i)) := by
  obtain ⟨t, h⟩ := h
  exact e_glob (v := .str i) hg h ⟨t, rfl⟩ (fun _ _ => .str i) hd
theorem e_cls {C : Addr} (hg : Gl X x) (h : X.mg x = some (.ref C)) (hd : (x == ("__debug__" : Str)) = false := by decide +kernel) : PE2 X W (.Name x pos) (eC (.ref C)) := e_glob (v := .ref C) hg h rfl (fun _ _ => .ref C) hd
end
section
variable {P : Program} {w : World} {K : PySem.W.Frag} {mg : Str → Option Value} {base : Heap}
/-- a def by its body, the context as it stands -/
theorem fnC {x qual : Str} {st : Stmt} {f : Addr} {fd : FuncData} {N ps : List Str} {k : Nat} {sp : Sp2} {T : TS2} (F : Fun K x qual st f fd) (S : FnScope N ps (defScope st)) (len : ∀ ds S Q E, sp ds S Q E → ds.length = ps.length)
    (body : ∀ (cdv : Value) (A : Around) (outer : List Env) (s : Shared) (H : Hp) (E : XK), Room k (cxOf (L2N.CX P w) P w K mg base N qual (defScope st) f cdv A outer s H E).A →
      PSs2 (cxOf (L2N.CX P w) P w K mg base N qual (defScope st) f cdv A outer s H E) (fun cls d _ H => E cls d H) (defBody st) T)
    (spec : ∀ ds S Q E, sp ds S Q E → T (endsOf Q E) (start2 N ds) S) : FnD P w K mg base (k + 1) f fd ps sp := by
  refine okN F S (fun vs H Q E ⟨F', G, S', ds, Q2, E2, R, ra, q, _⟩ => by rw [ra.length]; exact len _ _ _ _ q) fun cdv A outer s H vs Q E hr ⟨F', G, S', ds, Q2, E2, R, ra, q, qt, xt⟩ => ?_
  refine ⟨_, body cdv A outer s H E hr, ?_⟩
  refine ⟨F', G, start2 N ds, S', endsOf Q2 E2, R, start_rp N ra, spec _ _ _ _ q, ?_⟩
  exact ⟨fun σ' H' G' ρ' S1 e R' _ q' => qt .non H' G' .non S1 e R' .non q', qt, fun _ _ _ _ _ _ _ _ z => z.elim, fun _ _ _ _ _ _ _ _ z => z.elim, fun c dx σ' H' G' x' ρ' S1 e R' _ xr q' => xt c dx H' G' x' S1 e R' xr q'⟩
end
end Y
set_option Elab.async false
set_option linter.all false
set_option maxRecDepth 100000
set_option maxHeartbeats 4000000
namespace Y
open PySem PySem.Spec PyProof.Rows L2
theorem sdel_sup {S : Sto} {a : Addr} {x : SO} (h : S a = none) : sdel (sup S a x) a = S := by
  funext b; unfold sdel sup; split
  · rename_i e; subst e; exact h.symm
  · rfl
theorem sup_get {S : Sto} {a : Addr} {x : SO} : sup S a x a = some x := sup_same
theorem lstOf_sup {S : Sto} {a : Addr} {xs : List D} : lstOf (sup S a (.lst xs)) (.ref a) = some xs := lstOf_ref sup_same
theorem opIx_i {x : D} {i : Int} {S : Sto} {Q : QK} {xs : List D} (h : lstOf S x = some xs) : opIx x (.int i) S Q = ∃ d, L2.atI xs i = some d ∧ Q d S := by
  cases x <;> first | (simp [lstOf] at h; done) | simp [opIx, h]
theorem lstOf_lst {S : Sto} {xs : List D} : lstOf S (.lst xs) = some xs := rfl
theorem seqOf_lst {S : Sto} {xs : List D} : seqOf S (.lst xs) = some xs := rfl
theorem seqOf_tup {S : Sto} {xs : List D} : seqOf S (.tup xs) = some xs := rfl
theorem opIx_lst {xs : List D} {i : Int} {S : Sto} {Q : QK} : opIx (.lst xs) (.int i) S Q = ∃ d, L2.atI xs i = some d ∧ Q d S := opIx_i rfl
theorem opIx_tup {xs : List D} {i : Int} {S : Sto} {Q : QK} : opIx (.tup xs) (.int i) S Q = ∃ d, L2.atI xs i = some d ∧ Q d S := rfl
theorem atI_nat {α : Type} {xs : List α} {n : Nat} : L2.atI xs (n : Int) = xs[n]? := by
  unfold L2.atI L2.ixN
  by_cases h : n < xs.length
  · rw [if_pos (by omega), if_pos (by omega)]; simp
  · rw [if_pos (by omega), if_neg (by omega)]; simp; omega
theorem ixN_nat {m n : Nat} (h : n < m) : L2.ixN m (n : Int) = some n := by
  unfold L2.ixN
  rw [if_pos (by omega), if_pos (by omega)]; simp
theorem atI_get {α : Type} {xs : List α} {i : Int} {d : α} (h0 : 0 ≤ i) (h : xs[i.toNat]? = some d) : L2.atI xs i = some d := by
  obtain ⟨n, rfl⟩ := Int.eq_ofNat_of_zero_le h0
  rw [atI_nat]; simpa using h
theorem ixN_get {m : Nat} {i : Int} (h0 : 0 ≤ i) (h : i < m) : L2.ixN m i = some i.toNat := by
  obtain ⟨n, rfl⟩ := Int.eq_ofNat_of_zero_le h0
  rw [ixN_nat (by omega)]; simp
def iD (xs : List Int) : List D := xs.map D.int
theorem iD_len (xs : List Int) : (iD xs).length = xs.length := by simp [iD]
theorem intsOf_iD (xs : List Int) : intsOf (iD xs) = some xs := intsOf_map xs
theorem iD_get (xs : List Int) (i : Nat) : (iD xs)[i]? = (xs[i]?).map D.int := by simp [iD]
theorem iD_set (xs : List Int) (i : Nat) (v : Int) : (iD xs).set i (.int v) = iD (xs.set i v) := by simp [iD, List.map_set]
theorem iD_app (xs ys : List Int) : iD xs ++ iD ys = iD (xs ++ ys) := by simp [iD]
theorem rep_one {α : Type} (n : Nat) (x : α) : (List.replicate n [x]).flatten = List.replicate n x := by
  induction n with
  | zero => rfl
  | succ n ih => rw [List.replicate_succ, List.flatten_cons, ih, List.replicate_succ]; rfl
theorem iD_rep (n : Nat) (x : Int) : List.replicate n (D.int x) = iD (List.replicate n x) := by simp [iD]
theorem okEq_int (i : Int) : okEq (.int i) := ⟨rfl, Nat.zero_le _⟩
theorem okEq_str {z : Str} (h : PyData.strOk z = true) : okEq (.str z) := ⟨h, Nat.zero_le _⟩
theorem okEq_non : okEq .non := ⟨rfl, by decide⟩
theorem okEq_bl (b : Bool) : okEq (.bl b) := ⟨rfl, Nat.zero_le _⟩
theorem resD_int {S : Sto} {i : Int} : resD S (.int i) = .int i := rfl
theorem resD_str {S : Sto} {i : Str} : resD S (.str i) = .str i := rfl
theorem resD_non {S : Sto} : resD S .non = .non := rfl
theorem resD_bl {S : Sto} {b : Bool} : resD S (.bl b) = .bl b := rfl
theorem resD_tup {S : Sto} {b : List D} : resD S (.tup b) = .tup b := rfl
theorem resD_lst {S : Sto} {b : List D} : resD S (.lst b) = .lst b := rfl
theorem opEq_int {i j : Int} {S : Sto} {Q : QK} : opEq (.int i) (.int j) S Q = Q (.bl (i == j)) S := by
  simp [opEq, resD_int, okEq_int, eqD]
theorem opNe_int {i j : Int} {S : Sto} {Q : QK} : opNe (.int i) (.int j) S Q = Q (.bl (!(i == j))) S := by
  simp [opNe, resD_int, okEq_int, eqD]
theorem truOf_bl {S : Sto} {b : Bool} : truOf S (.bl b) = some b := rfl
theorem truOf_int {S : Sto} {i : Int} : truOf S (.int i) = some (i != 0) := rfl
section
variable {i j : Int} {S : Sto} {Q : QK}
theorem opAdd_int : opAdd (.int i) (.int j) S Q = Q (.int (i + j)) S := rfl
theorem opSub_int : opSub (.int i) (.int j) S Q = Q (.int (i - j)) S := rfl
theorem opMul_int : opMul (.int i) (.int j) S Q = (CMulA i j ∧ Q (.int (i * j)) S) := rfl
theorem opDiv_int : opDiv (.int i) (.int j) S Q = (CDivA i j ∧ Q (.int (i / j)) S) := rfl
theorem opMod_int : opMod (.int i) (.int j) S Q = (0 < j ∧ Q (.int (i % j)) S) := rfl
theorem opPow_int : opPow (.int i) (.int j) S Q = (CPow i j ∧ Q (.int (i ^ j.toNat)) S) := rfl
theorem opLt_int : opLt (.int i) (.int j) S Q = Q (.bl (decide (i < j))) S := rfl
theorem opLe_int : opLe (.int i) (.int j) S Q = Q (.bl (decide (i ≤ j))) S := rfl
theorem opGt_int : opGt (.int i) (.int j) S Q = Q (.bl (decide (j < i))) S := rfl
theorem opGe_int : opGe (.int i) (.int j) S Q = Q (.bl (decide (j ≤ i))) S := rfl
theorem opAddI_int : opAddI (.int i) (.int j) S Q = Q (.int (i + j)) S := rfl
theorem opIsN_eq {x : D} : opIsN x .non S Q = Q (.bl (isN x)) S := by simp [opIsN]
theorem opNotN_eq {x : D} : opNotN x .non S Q = Q (.bl (!isN x)) S := by simp [opNotN]
theorem isN_non : isN .non = true := rfl
theorem isN_int : isN (.int i) = false := rfl
theorem isN_bl {b : Bool} : isN (.bl b) = false := rfl
theorem isN_str {b : Str} : isN (.str b) = false := rfl
theorem isN_tup {b : List D} : isN (.tup b) = false := rfl
theorem isN_lst {b : List D} : isN (.lst b) = false := rfl
theorem seqZ_lst {b : List D} : seqZ (.lst b) = some b := rfl
theorem seqZ_tup {b : List D} : seqZ (.tup b) = some b := rfl
theorem fIsi_of {d : D} {n m : String} (hm : clsOf S d = some m) (hn : n ∈ ["bool", "int", "str", "tuple", "list", "dict"]) : fIsi [d, .ty n] S Q = Q (.bl (isB m n)) S := by
  simp only [fIsi, eq_iff_iff]
  constructor
  · rintro ⟨d', n', m', e, h1, h2, q⟩
    simp only [List.cons.injEq, and_true, D.ty.injEq] at e
    obtain ⟨rfl, rfl⟩ := e
    rw [hm] at h2; cases h2; exact q
  · intro q; exact ⟨d, n, m, rfl, hn, hm, q⟩
end
/-! ### loops by what they keep -/
theorem lcGo_inv {g : TG2} {te : TE2} {ρ : Rho} {Q : List D → Sto → Prop} {ds : List D} (I : Nat → List D → Sto → Prop)
    (h : ∀ i d acc S (K : QK), ds[i]? = some d → I i acc S → acc.length = i → (∀ y S', I (i + 1) (acc ++ [y]) S' → K y S') → g d ρ S (fun ρ1 S1 => te ρ1 S1 K noE) noE)
    {S : Sto} (h0 : I 0 [] S) (fin : ∀ acc S, I ds.length acc S → acc.length = ds.length → Q acc S) (hz : ds.length ≤ sizeLine) : lcGo g tYes2 te ρ Q ds [] S := by
  have key : ∀ (n i : Nat) (acc : List D) (S : Sto), ds.length - i = n → i ≤ ds.length → acc.length = i → I i acc S → lcGo g tYes2 te ρ Q (ds.drop i) acc S := by
    intro n
    induction n with
    | zero =>
      intro i acc S hn hi ha hI
      obtain rfl : i = ds.length := by omega
      rw [List.drop_length]
      exact fin acc S hI ha
    | succ n ih =>
      intro i acc S hn hi ha hI
      have hlt : i < ds.length := by omega
      rw [List.drop_eq_getElem_cons hlt]
      simp only [lcGo, tYes2, if_true]
      exact h i _ acc S _ (by simp [hlt]) hI ha fun y S' hI' => ⟨by omega, ih (i + 1) _ S' (by omega) hlt (by simp [ha]) hI'⟩
  have := key _ 0 [] S rfl (Nat.zero_le _) rfl h0
  simpa using this
theorem lcGo_map {g : TG2} {te : TE2} {ρ : Rho} {Q : List D → Sto → Prop} {ds : List D} {S : Sto} (f : D → D)
    (h : ∀ d ∈ ds, ∀ K : QK, K (f d) S → g d ρ S (fun ρ1 S1 => te ρ1 S1 K noE) noE) (hz : ds.length ≤ sizeLine) (q : Q (ds.map f) S) : lcGo g tYes2 te ρ Q ds [] S := by
  refine lcGo_inv (fun i acc S' => acc = (ds.take i).map f ∧ S' = S) (fun i d acc S' K hd ⟨ha, hs⟩ hl k => ?_) ⟨by simp, rfl⟩ (fun acc S' ⟨ha, hs⟩ _ => by rw [ha, hs]; simpa using q) hz
  subst hs
  refine h d (List.mem_of_getElem? hd) K (k _ _ ⟨?_, rfl⟩)
  obtain ⟨hlt, e⟩ := List.getElem?_eq_some_iff.mp hd
  rw [ha, List.take_succ, hd]; simp
theorem lcGo_filter {i : Nat} {tt : TT2} {te : TE2} {ρ : Rho} {Q : List D → Sto → Prop} {S : Sto} (p : D → Bool) (f : D → D) : ∀ (ds acc : List D),
    (∀ d ∈ ds, ∀ K : Bool → Sto → Prop, K (p d) S → tt (ρ.set i (some d)) S K noE) → (∀ d ∈ ds, p d = true → ∀ K : QK, K (f d) S → te (ρ.set i (some d)) S K noE) → acc.length + ds.length ≤ sizeLine → Q (acc ++ (ds.filter p).map f) S → lcGo (gN i) tt te ρ Q ds acc S
  | [], acc, _, _, _, q => by simpa [lcGo] using q
  | d :: ds, acc, ht, he, hz, q => by
    simp only [lcGo, gN]
    refine ht d List.mem_cons_self _ ?_
    simp only [List.length_cons] at hz
    cases hp : p d with
    | true =>
      simp only [if_true]
      exact he d List.mem_cons_self hp _ ⟨by omega, lcGo_filter p f ds _ (fun d' h' => ht d' (List.mem_cons_of_mem _ h')) (fun d' h' => he d' (List.mem_cons_of_mem _ h')) (by simp; omega) (by simpa [List.filter_cons, hp] using q)⟩
    | false =>
      simp only [Bool.false_eq_true, if_false]
      exact lcGo_filter p f ds _ (fun d' h' => ht d' (List.mem_cons_of_mem _ h')) (fun d' h' => he d' (List.mem_cons_of_mem _ h')) (by omega) (by simpa [List.filter_cons, hp] using q)
theorem forGo_inv {g : TG2} {b : TS2} {Dn : Ends2} {ds : List D} (I : Nat → Rho → Sto → Prop)
    (h : ∀ i d ρ S (nx bk ct : Rho → Sto → Prop), ds[i]? = some d → I i ρ S → (∀ ρ S, I (i + 1) ρ S → nx ρ S) → (∀ ρ S, I (i + 1) ρ S → ct ρ S) → (∀ ρ S, Dn.nx ρ S → bk ρ S) → g d ρ S (fun ρ1 S1 => b { nx := nx, rt := Dn.rt, bk := bk, ct := ct, xc := Dn.xc } ρ1 S1) (fun x S2 => ∀ ρ', Dn.xc x ρ' S2))
    {ρ : Rho} {S : Sto} (h0 : I 0 ρ S) (fin : ∀ ρ S, I ds.length ρ S → Dn.nx ρ S) : forGo g b Dn ds ρ S := by
  have key : ∀ (n i : Nat) (ρ : Rho) (S : Sto), ds.length - i = n → i ≤ ds.length → I i ρ S → forGo g b Dn (ds.drop i) ρ S := by
    intro n
    induction n with
    | zero =>
      intro i ρ S hn hi hI
      obtain rfl : i = ds.length := by omega
      rw [List.drop_length]
      exact fin ρ S hI
    | succ n ih =>
      intro i ρ S hn hi hI
      have hlt : i < ds.length := by omega
      rw [List.drop_eq_getElem_cons hlt]
      exact h i _ ρ S _ _ _ (by simp [hlt]) hI (fun ρ S k => ih (i + 1) ρ S (by omega) hlt k) (fun ρ S k => ih (i + 1) ρ S (by omega) hlt k) (fun ρ S k => k)
  have := key _ 0 ρ S rfl (Nat.zero_le _) h0
  simpa using this
theorem whGo_inv {c : TT2} {b : TS2} {Dn : Ends2} (I : Nat → Rho → Sto → Prop)
    (h : ∀ n ρ S (nx bk ct : Rho → Sto → Prop), I n ρ S → (∀ m ρ S, m < n → I m ρ S → nx ρ S) → (∀ m ρ S, m < n → I m ρ S → ct ρ S) → (∀ ρ S, Dn.nx ρ S → bk ρ S) → c ρ S (fun k S1 => if k = true then b { nx := nx, rt := Dn.rt, bk := bk, ct := ct, xc := Dn.xc } ρ S1 else Dn.nx ρ S1) (fun x S1 => Dn.xc x ρ S1)) :
    ∀ (N n : Nat) (ρ : Rho) (S : Sto), n < N → I n ρ S → whGo c b Dn N ρ S
  | 0, n, ρ, S, hn, _ => by omega
  | N + 1, n, ρ, S, hn, hI => h n ρ S _ _ _ hI (fun m ρ S hm k => whGo_inv I h N m ρ S (by omega) k) (fun m ρ S hm k => whGo_inv I h N m ρ S (by omega) k) (fun ρ S k => k)
theorem intsD_len (i : Int) (n : Nat) : (intsD i n).length = n := by simp [intsD]
theorem intsD_get {i : Int} {n j : Nat} {d : D} (h : (intsD i n)[j]? = some d) : j < n ∧ d = .int (i + (j : Int)) := by
  unfold intsD at h
  rw [List.getElem?_map] at h
  by_cases hj : j < n
  · rw [List.getElem?_range hj] at h; simp at h; exact ⟨hj, h.symm⟩
  · rw [List.getElem?_eq_none (by simpa using hj)] at h; simp at h
section
variable {S : Sto} {Q : QK} {xs : List D} {i j : Int}
theorem fLen_str {z : Str} (h : z.length ≤ sizeLine) : fLen [.str z] S Q = Q (.int (z.length : Nat)) S := by
  have e : lenD S (.str z) = some z.length := by simp [lenD, h]
  simp [fLen, e]
theorem fLen_seq {d : D} (h : seqOf S d = some xs) : fLen [d] S Q = Q (.int (xs.length : Nat)) S := by
  have e : lenD S d = some xs.length := by
    cases d <;> first | (simp [seqOf, lstOf] at h; done) | (simp [lenD, h])
  simp [fLen, e]
theorem fLen_lst : fLen [.lst xs] S Q = Q (.int (xs.length : Nat)) S := fLen_seq rfl
theorem fLen_tup : fLen [.tup xs] S Q = Q (.int (xs.length : Nat)) S := fLen_seq rfl
theorem fSum_iD {ns : List Int} : fSum [.lst (iD ns)] S Q = Q (.int ns.sum) S := by
  simp [fSum, lstOf_lst, intsOf_iD]
theorem fTuple_lst : fTuple [.lst xs] S Q = Q (.tup xs) S := by simp [fTuple, seqOf_lst]
theorem fList_lst {Q : List D → Sto → Prop} : fList [.lst xs] S Q = Q xs S := by simp [fList, seqOf_lst]
theorem fMin2_int : fMin2 [.int i, .int j] S Q = Q (.int (if j < i then j else i)) S := by
  simp only [fMin2, eq_iff_iff]
  constructor
  · rintro ⟨a, b, e, q⟩; simp only [List.cons.injEq, and_true, D.int.injEq] at e; obtain ⟨rfl, rfl⟩ := e; exact q
  · intro q; exact ⟨i, j, rfl, q⟩
theorem fMax2_int : fMax2 [.int i, .int j] S Q = Q (.int (if j > i then j else i)) S := by
  simp only [fMax2, eq_iff_iff]
  constructor
  · rintro ⟨a, b, e, q⟩; simp only [List.cons.injEq, and_true, D.int.injEq] at e; obtain ⟨rfl, rfl⟩ := e; exact q
  · intro q; exact ⟨i, j, rfl, q⟩
theorem fAll_map {α : Type} {xs : List α} (q : Q (.bl true) S) : fAll [.lst (xs.map fun _ => D.bl true)] S Q := by
  refine ⟨_, _, xs.map fun _ => true, rfl, rfl, ?_, ?_⟩
  · rw [← blsOf_map, List.map_map]; rfl
  · have e : (xs.map fun _ => true).all id = true := by simp
    rw [e]; exact q
end
end Y
set_option Elab.async false
set_option linter.all false
/-! the lists within a list are frozen from here on -/
namespace Y
open PySem PySem.Spec PyProof.Rows L2
section
variable {X : Cx} {W : WX} {rest : List Stmt} {T : TS2}
def sFzIn (i : Nat) (t : TS2) : TS2 := fun D ρ S => ∃ a xs, ρ[i]? = some (some (.ref a)) ∧ S a = some (.lst xs) ∧ fzAll xs (sdel S a) fun ys S2 => t D ρ (sup S2 a (.lst ys))
theorem ss_fzIn (i : Nat) (h : PSs2 X W rest T) : PSs2 X W rest (sFzIn i T) :=
  pss_w h fun D σ H ⟨F, G, ρ, S, D2, R, rs, ⟨a, xs, er, ea, q⟩, dt⟩ => by
    obtain ⟨ga, o, ho, ro⟩ := R.mu a _ ea
    cases ro with
    | @lst av _ ra =>
      have fa := R.fof ea
      have R2 : SR X.K (upd F a (.lst av)) G (sdel S a) H := (R.drop (S' := sdel S a) fun b so hb => by
        unfold sdel at hb; split at hb
        · cases hb
        · exact hb).aside ho ga sdel_same
      obtain ⟨G2, ys, S2, e2, R3, r3, q3⟩ := fz_all R2 ra q
      have g3 : G2 a = none := R3.fg a _ upd_same
      exact ⟨F, G2, ρ, _, D2, (R3.back fa).adopt ho g3 fa (.lst r3), rs.mono e2, q3, dt.le e2⟩
end
end Y
set_option Elab.async false
set_option linter.all false
set_option maxRecDepth 100000
set_option maxHeartbeats 4000000
/-! within a def that an except suite has called: a walk over a list, a comprehension over it, isinstance of the error -/
namespace Y
open PySem PySem.Spec PyProof.Rows L2 HotX L2H
section
variable {prog : Program} {w : World} {A : Around} {E : Value → Shared → Prop} {s : Shared}
theorem next_end_hot {it l x1 : Addr} {i : Nat} {its : Array Value} {Q : Option Value → Shared → Prop} (hot : HotAt A x1 s.heap) (hit : s.heap.IsListIter it l i) (hl : s.heap.IsList l its) (hx : its[i]? = none) (ne : x1 ≠ it)
    (fin : ∀ h2, (∀ b o, b ≠ it → s.heap.get? b = some o → h2.get? b = some o) → Q none { s with heap := h2 }) : wpAny (model prog w) A (pyNext (.ref it)) Q E s := by
  obtain ⟨o, ho, hc, hd⟩ := id hit
  obtain ⟨ol, hol, _, nl, hdl⟩ := hl
  obtain ⟨hh, o1, v1, g1, d1, c1⟩ := hot
  unfold pyNext
  refine wpAny_bind (wpAny_attempt (wpAny_callSpecial?_slot (name := Str.ofString "__next__") hit.typeIs slot_listiter_next
    (wpAny_call_entry slot_listiter_next hit.typeIs entry_listiter_next ?_ (args_listiter_next _))))
  show wpAny _ _ (field (.ref it) 0 >>= _) _ _ s
  refine wpAny_bind (wpAny_field ho hd (x := .ref l) rfl ?_)
  show wpAny _ _ (if (Value.ref l == Value.none) = true then _ else _) _ _ s
  rw [if_neg (show ¬ ((Value.ref l == Value.none) = true) from Bool.false_ne_true)]
  show wpAny _ _ (field (.ref it) 1 >>= _) _ _ s
  refine wpAny_bind (wpAny_field ho hd (x := .int i 0) rfl ?_)
  show wpAny _ _ (seqItems? (.ref l) >>= _) _ _ s
  refine wpAny_bind (wpAny_seqItems hol hdl ?_)
  simp only [Int.toNat_natCast, hx]
  refine wpAny_bind (wpAny_rule (wpAny_bind (wpAny_setField ho hd (by simp) ?_)))
  show wpAny _ _ (newExc (.type "StopIteration") [] >>= _) _ _ _
  refine wpAny_bind ?_
  simp only [newExc, newTuple]
  refine wpAny_bind (wpAny_newObj_type ?_ (by size_fits))
  refine wpAny_bind (m := firstArgMember _ _) (wpAny_of_eq (a := Value.none) (by first | rfl | (simp only [firstArgMember]; rfl)) ?_)
  refine wpAny_newObj_type ?_ (by size_fits)
  have k1 : ∀ (f : Obj → Obj), (s.heap.update it f).get? x1 = some o1 := fun f => by rw [Heap.get?_update_other _ _ ne.symm]; exact g1
  refine raiseNew_hot ⟨hh, o1, v1, Heap.get?_push_of_some _ (Heap.get?_push_of_some _ (k1 _)), d1, c1⟩ (Nat.ne_of_lt (Heap.lt_size (Heap.get?_push_of_some _ (k1 _)))) (Heap.get?_push_size _ rfl) rfl (by first | (simp; done) | (simp; omega) | (simp only [Array.size_append]; simp; omega)) ?_
  refine wpAny_bind (wpAny_isInstance (T := "StopIteration") (b := true) ⟨_, Heap.get?_update_self _ (Heap.get?_push_size _ rfl) rfl, rfl⟩ isSubtype_stop ?_)
  refine wpAny_pure (fin _ fun b u hb e => ?_)
  have e2 : ∀ (f : Obj → Obj), (s.heap.update it f).get? b = some u := fun f => by rw [Heap.get?_update_other _ _ (Ne.symm hb)]; exact e
  rw [Heap.get?_update_other _ _ (Nat.ne_of_gt (Heap.lt_size (Heap.get?_push_of_some _ (e2 _))))]
  exact Heap.get?_push_of_some _ (Heap.get?_push_of_some _ (e2 _))
end
section
variable {X : Cx} {a D : Addr} {oe : Obj}
/-- isinstance of the error that is pinned -/
theorem isE_pin (C : ExcC X.K D) (hp : (a, oe) ∈ X.pn) (hz : Zc (.ref D) none oe) (hf : ∃ vs, oe.data = .fields vs) : CallR X (.builtin "isinstance") (loC X.K fun ds S Q => ∃ ns es c b, ds = [.exc a (.ref D) none ns es, c] ∧ ((∃ n, c = .ty n ∧ PySem.W.kitOne X.K (.ref D) (.type n) = some b) ∨ ∃ m, c = .ref m ∧ PySem.W.kitOne X.K (.ref D) (.ref m) = some b) ∧ Q (.bl b) S) := by
  rintro pins s σ H xs us Q I r ⟨F, G, S, ds, Q2, R, ra, ⟨ns, es, c, b, rfl, h, q⟩, qt⟩
  obtain ⟨v, u, rfl, rv, ru⟩ := two_args2 ra
  have ev : v = .ref a := by cases rv; rfl
  subst ev
  have key : ∀ (cv : Value), (∀ y, RelV u y → y = cv) → PySem.W.kitOne X.K (.ref D) cv = some b → wpAny (model X.prog X.w) X.A (call (.builtin "isinstance") us) (EP X pins σ Q) X.xe s := fun cv hcv hb => by
    cases r with
    | cons r1 r2 =>
      cases r2 with
      | cons r3 r4 =>
        cases r4
        cases r1
        obtain rfl := hcv _ r3
        obtain ⟨g, _⟩ := I.pin (a, oe) (List.mem_append.mpr (.inl hp))
        obtain ⟨vs, hv⟩ := hf
        have J : PySem.W.InstAt s.heap a oe D none := by
          obtain ⟨oc, od, oda, osl⟩ := oe
          obtain ⟨z1, z2⟩ := hz
          dsimp only at z1 z2 hv
          subst z1 z2 hv
          exact ⟨g, rfl, rfl, trivial⟩
        exact PySem.W.kia_one (PySem.W.handS_kitx_exc C.hg C.hk C.hs C.hd C.ha C.hn C.ht C.hm) I.kIn J hb (fun z => nomatch z) fun tk => ⟨.bl b, H, I.kept (t' := tk) fun _ _ z => z, rfl, qt _ H G _ S (Same.refl _) R (.bl _) q⟩
  rcases h with ⟨n, rfl, h⟩ | ⟨m, rfl, h⟩
  · cases ru; exact key (.type n) (fun y r => r) h
  · cases ru; exact key (.ref m) (fun y r => r) h
end
/-! [.. for .. in xs] there -/
section
variable {X : Cx}
theorem lcH {p : Addr × Obj} (hot : Hot1 X.A p) (hpn : p ∈ X.pn) {elt tg : Expr} {x : Str} {xp : Pos} {i0 : Nat} {ifs : List Expr} {scope : Scope} {own : List (Str × Nat)} {pos : Pos} {g : TG} {tt : TT} {te : TE} (hN : X.N.Nodup) (ok : BlkOk X.N X.env.scope scope own)
    (hg : ∀ (s : Shared) (H : Hp) (C : Addr) (cl : List (Str × Addr)) (fp : List Addr), PG (X.blk s H scope (compEnvC scope cl C X.env) fp) tg g)
    (ht : ∀ (s : Shared) (H : Hp) (C : Addr) (cl : List (Str × Addr)) (fp : List Addr), PTs (X.blk s H scope (compEnvC scope cl C X.env) fp) ifs tt)
    (he : ∀ (s : Shared) (H : Hp) (C : Addr) (cl : List (Str × Addr)) (fp : List Addr), PE (X.blk s H scope (compEnvC scope cl C X.env) fp) elt te)
    (hi : PE X (.Name x xp) (tVar i0)) (hs : ∀ y, foldedSetIterable (.Name x xp) X.env y = pure y) :
    PE X (.ListComp elt [⟨tg, .Name x xp, ifs, 0⟩] scope pos) (tLc (iList X.K (tVar i0)) g tt te (own.map (·.2))) := by
  refine ⟨fun pins s σ H Q I h => ?_⟩
  rw [eval_ListComp]
  have free : ∀ y ∈ scope.names, y.2 = .free → ∃ c, X.env.cells.lookup y.1 = some c := fun y hy e => I.ok.has _ ((ok.free y hy e).elim .inl .inr)
  refine wpAny_comprehension_free (use := none) rfl hs (closure_ok free) ok.kind (fun y hy e => by rw [ok.uniq y hy, e]) (thn (hi.run pins s σ H (fun x H1 => ∃ a, x = V.ref a ∧ (∃ xs, SqL X.K H1 a xs) ∧ ∀ D, H1 D = none → ∃ W : Nat → Nat → Hp → Prop, (∃ m, W 0 m (upd H1 D (.lst []))) ∧ ∀ i m H, W i m H → ((Itl X.K a).stop i H ∧ Q (.ref D) H) ∨ ((Itl X.K a).go i H ∧ ∃ Nx : Hp → Prop, (∀ H', Nx H' → ∃ m', m' < m ∧ W (i + 1) m' H') ∧ ∀ x H', (Itl X.K a).yld i H x H' → g x (wipe σ (own.map (·.2))) H' fun σ2 H2 => wipe σ2 (own.map (·.2)) = wipe σ (own.map (·.2)) ∧ tt σ2 H2 fun b H3 => if b = true then te σ2 H3 fun y H4 => ∃ acc, H4 D = some (.lst acc) ∧ acc.length < sizeLine ∧ Nx (upd H4 D (.lst (acc ++ [y]))) else Nx H3)) I h) fun xv s1 hx => ?_)
  obtain ⟨v, H1, I1, rv, l, rfl, ⟨xs, sq⟩, q⟩ := hx
  cases rv
  obtain ⟨its, rel, pl, hz⟩ := I1.list sq
  refine wpAny_pyIter_list pl.isList ?_
  generalize hit : s1.heap.objs.size = it
  generalize hs2 : ({ s1 with heap := s1.heap.push { cls := .type "list_iterator", data := .fields #[.ref l, .int 0 0] } } : Shared) = s2
  have I2 : Inv X pins σ H1 s2 := by rw [← hs2]; exact I1.kept (t' := s1.toks) fun b o e => Heap.get?_push_of_some _ e
  have st2 : s2.heap.IsListIter it l 0 := by rw [← hs2, ← hit]; exact ⟨_, Heap.get?_push_size _ rfl, rfl, rfl⟩
  have f2 : FpOk X pins H1 it := by rw [← hit]; exact I1.fpOk (Nat.le_refl _) (I1.hok.fresh (Nat.le_refl _))
  refine wpAny_newObj_type (newEnv_comp ?_) (by show 0 ≤ sizeLine; decide)
  generalize hD : s2.heap.objs.size = D
  have hDn : H1 D = none := I2.hok.fresh (Nat.le_of_eq hD)
  obtain ⟨W, ⟨m0, w0⟩, turn⟩ := q D hDn
  generalize hs3 : ({ s2 with heap := s2.heap.push { cls := .type "list", data := .seq ([] : List Value).toArray } } : Shared) = s3
  have I3 : Inv X pins σ (upd H1 D (.lst [])) s3 := by
    rw [← hs3]
    refine I2.laid (t' := s2.toks) (fun b o e => Heap.get?_push_of_some _ e) (Nat.le_of_eq hD) ⟨Nat.zero_le _, [], 0, .nil, ?_⟩
    rw [← hD]
    exact Heap.get?_push_size _ rfl
  have h3 : s3.heap = s2.heap.push { cls := .type "list", data := .seq ([] : List Value).toArray } := by rw [← hs3]
  have szi : it < s2.heap.objs.size := by
    obtain ⟨o, e, _⟩ := st2
    exact Heap.lt_size e
  have f3 : ∀ b ∈ [it], FpOk X pins (upd H1 D (.lst [])) b ∧ b < s3.heap.objs.size := fun b hb => by
    obtain rfl : b = it := by simpa using hb
    refine ⟨⟨?_, f2.2⟩, by rw [h3, Heap.size_push]; exact Nat.lt_succ_of_lt szi⟩
    rw [upd_ne (by rw [← hD]; exact Nat.ne_of_lt szi)]
    exact f2.1
  have st3 : s3.heap.IsListIter it l 0 := by
    obtain ⟨o, e, z⟩ := st2
    exact ⟨o, by rw [h3]; exact Heap.get?_push_of_some _ e, z⟩
  have I4 := block_start I3 ok hN f3
  have pg := hg s3 (upd H1 D (.lst [])) s3.heap.objs.size (cellsFrom (s3.heap.objs.size + 1) scope.names (cloFrom X.env.cells scope.names [])) [it]
  have pt := ht s3 (upd H1 D (.lst [])) s3.heap.objs.size (cellsFrom (s3.heap.objs.size + 1) scope.names (cloFrom X.env.cells scope.names [])) [it]
  have pe := he s3 (upd H1 D (.lst [])) s3.heap.objs.size (cellsFrom (s3.heap.objs.size + 1) scope.names (cloFrom X.env.cells scope.names [])) [it]
  have pin3 := I3.pin p (List.mem_append_left _ hpn)
  have psz : p.1 < s3.heap.objs.size := Heap.lt_size pin3.1
  have pit : p.1 ≠ it := f2.2.2.2.2.2 p (List.mem_append_left _ hpn)
  show codeAny _ _ (.compStart (.ListComp elt [⟨tg, .Name x xp, ifs, 0⟩] scope pos) 0 (.ref it) (.ref D) (compEnvC scope (cellsFrom (s3.heap.objs.size + 1) scope.names (cloFrom X.env.cells scope.names [])) s3.heap.objs.size X.env)) (compPost (model X.prog X.w) X.A X.xe none _ (.ref D) s3.heap.objs.size) { s3 with heap := pushCells (s3.heap.push { cls := .type "dict", data := .dict #[] }) scope.names }
  have nit : (upd H1 D (.lst [])) it = none := (f3 it List.mem_cons_self).1.1
  generalize hce : compEnvC scope (cellsFrom (s3.heap.objs.size + 1) scope.names (cloFrom X.env.cells scope.names [])) s3.heap.objs.size X.env = ce at I4 pg pt pe ⊢
  have cL : ce.locals = s3.heap.objs.size := by subst hce; rfl
  generalize hH3 : upd H1 D (.lst []) = H3 at I3 I4 pg pt pe w0 nit f3 pin3
  have nof : p.1 ∉ (X.blk s3 H3 scope ce [it]).fs := fun hm => (List.mem_cons.mp (I3.stkSub p.1 hm)).elim pin3.2.2.1 pin3.2.2.2.1
  generalize hs4 : ({ s3 with heap := pushCells (s3.heap.push { cls := .type "dict", data := .dict #[] }) scope.names } : Shared) = s4 at I4 ⊢
  have keep4 : ∀ b o, s3.heap.get? b = some o → s4.heap.get? b = some o := fun b o e => by rw [← hs4]; exact pushCells_keeps _ _ _ _ (Heap.get?_push_of_some _ e)
  have st4 : s4.heap.IsListIter it l 0 := by
    obtain ⟨o, e, z⟩ := st3
    exact ⟨o, keep4 _ _ e, z⟩
  have I4p : Inv (X.blk s3 H3 scope ce [it]) [p] (wipe σ (own.map (·.2))) H3 s4 := I4.pins_of fun r hr => by
    have hr : r ∈ ([] : List (Addr × Obj)) ++ [p] := hr
    obtain rfl : r = p := by simpa using hr
    exact ⟨keep4 _ _ pin3.1, pin3.2.1, by show r.1 ≠ ce.locals; rw [cL]; exact Nat.ne_of_lt psz, nof, pin3.2.2.2.2⟩
  have stat : ∀ {σ' : St} {H' : Hp} {s' : Shared}, Inv (X.blk s3 H3 scope ce [it]) [p] σ' H' s' → H' it = none → FpOk (X.blk s3 H3 scope ce [it]) [p] H' it := fun {σ' H' s'} I' hn =>
    ⟨hn, (I'.ok.exf it List.mem_cons_self).1, I'.ok.exfs it List.mem_cons_self, .inl List.mem_cons_self, fun y c e => (I'.ok.exf it List.mem_cons_self).2 y c e, fun r hr => by
      have hr : r ∈ ([] : List (Addr × Obj)) ++ [p] := hr
      obtain rfl : r = p := by simpa using hr
      exact pit⟩
  have loop : codeAny (model X.prog X.w) X.A (.compLoop (.ListComp elt [⟨tg, .Name x xp, ifs, 0⟩] scope pos) 0 (.ref it) (.ref D) ce) (compPost (model X.prog X.w) X.A X.xe none (EP X pins σ Q) (.ref D) s3.heap.objs.size) s4 := by
    refine compLoop_any (fun n s' => ∃ i H', Inv (X.blk s3 H3 scope ce [it]) [p] (wipe σ (own.map (·.2))) H' s' ∧ s'.heap.IsListIter it l i ∧ H' it = none ∧ W i n H') ?_ m0 ⟨0, H3, I4p, st4, nit, w0⟩
    rintro n s5 ⟨i, H5, I5, st5, n5, w5⟩
    have f5 := stat I5 n5
    rcases turn i n H5 w5 with ⟨⟨ys, sq5, len5⟩, qq⟩ | ⟨⟨ys, y, sq5, hy⟩, Nx, hNx, step⟩
    · obtain ⟨its5, rel5, pl5, _⟩ := I5.list sq5
      obtain ⟨hh, vs, dv, cv⟩ := hot
      have hp5 := (I5.pin p (List.mem_append_right _ List.mem_cons_self)).1
      have hl := rel5.length
      refine next_end_hot ⟨hh, p.2, vs, hp5, dv, cv⟩ st5 pl5.isList (by simp; omega) pit fun h6 k6 => ?_
      obtain ⟨f50, f51, f52, f53, f54, f55⟩ := f5
      have I6 : Inv (X.blk s3 H3 scope ce [it]) [p] (wipe σ (own.map (·.2))) H5 { s5 with heap := h6 } := I5.turned (t' := s5.toks) (fun b o hb e => k6 b o hb e) f50 f51 f53 f54 f55
      have I7 : Inv X pins σ H5 { s5 with heap := h6 } := I3.call' (ch := [it]) I6.os I6.base I6.hok I6.bare fun b hb => ⟨(f3 b hb).1.2.2.2.1, (f3 b hb).1.2.1, (f3 b hb).1.2.2.2.2.1, (f3 b hb).1.2.2.2.2.2⟩
      have nC : H5 s3.heap.objs.size = none := by
        have z : H5 ce.locals = none := I6.free
        rw [cL] at z
        exact z
      obtain ⟨m, hn, _⟩ := I6.loc
      have hn : h6.Ns ce.locals m := hn
      rw [cL] at hn
      obtain ⟨g0, g1, g2, g3, g4, g5⟩ := I3.fpOk (H' := H5) (Nat.le_refl _) nC
      exact ⟨m, hn, fun h7 sb => ⟨.ref D, H5, I7.turned (t' := s5.toks) (fun b o hb e => (sb.2 b hb).trans e) g0 g1 g3 g4 g5, rfl, qq⟩⟩
    · obtain ⟨its5, rel5, pl5, _⟩ := I5.list sq5
      obtain ⟨u, hu, ru⟩ := rel5.get hy
      refine wpAny_pyNext_list_item st5 pl5.isList (x := u) (by simpa using hu) fun h6 st6 sb6 => ?_
      obtain ⟨f50, f51, f52, f53, f54, f55⟩ := f5
      have I6 : Inv (X.blk s3 H3 scope ce [it]) [p] (wipe σ (own.map (·.2))) H5 { s5 with heap := h6 } := I5.turned (t' := s5.toks) (fun b o hb e => (sb6.2 b hb).trans e) f50 f51 f53 f54 f55
      obtain ⟨o6, e6, c6, d6⟩ := id st6
      refine go_of (s := { s5 with heap := h6 }) e6 c6 d6 (by decide) ?_
      have ob6 : ∀ b ∈ [it], ∃ o, h6.get? b = some o ∧ ∀ v, o.data ≠ .cell v := fun b hb => by
        obtain rfl : b = it := by simpa using hb
        exact ⟨o6, e6, fun v z => by rw [d6] at z; cases z⟩
      have I7 := I6.pinned (fp := [it]) (fun b hb => by
        obtain rfl : b = it := by simpa using hb
        exact stat I6 n5) ob6
      refine thnF (pg.run _ _ _ H5 y u _ I7 ru (step y H5 ⟨rfl, fun zs hzs => by rw [I5.list_inj hzs sq5]; exact hy⟩)) fun _ s8 ⟨σ8, H8, I8, hw8, q8⟩ => ?_
      refine thnF (pt.run _ s8 σ8 H8 _ I8 q8) fun b s9 ⟨H9, I9, q9⟩ => ?_
      have fin : ∀ {s' : Shared} {H' : Hp}, Inv (X.blk s3 H3 scope ce [it]) ([p] ++ pinsAt [it] h6) σ8 H' s' → Nx H' → ∃ m, m < n ∧ ∃ i H', Inv (X.blk s3 H3 scope ce [it]) [p] (wipe σ (own.map (·.2))) H' s' ∧ s'.heap.IsListIter it l i ∧ H' it = none ∧ W i m H' := fun {s' H'} I' nx => by
        obtain ⟨m2, hm, w2⟩ := hNx H' nx
        have pin2 := I'.pin (it, o6) (List.mem_append_right _ (List.mem_append_right _ (mem_pinsAt List.mem_cons_self e6)))
        have hl : (wipe σ (own.map (·.2))).length = σ8.length := by rw [← hw8, wipe_length]
        refine ⟨m2, hm, i + 1, H', (I'.unpinned (pins := [p])).weak hl (fun j v e => ?_), ⟨o6, pin2.1, c6, d6⟩, pin2.2.1, w2⟩
        rw [← hw8] at e
        exact (wipe_some e).1
      cases b with
      | false =>
        simp only [Bool.false_eq_true, if_false] at q9 ⊢
        exact fin I9 q9
      | true =>
        simp only [if_true] at q9 ⊢
        refine thnF (pe.run _ s9 σ8 H9 _ I9 q9) fun z s10 ⟨yv, H10, I10, r10, acc, hD10, hz10, nx⟩ => ?_
        exact app_ok (X := X.blk s3 H3 scope ce [it]) I10 hD10 hz10 r10 fun s11 I11 => fin I11 nx
  exact codeAny_compStart_list loop (wpAny_pyIter_listiter st4 loop)
end
end Y
set_option Elab.async false
set_option linter.all false
set_option maxRecDepth 100000
set_option maxHeartbeats 4000000
/-! defs that an except suite calls with its error -/
namespace Y
open PySem PySem.Spec PyProof.Rows L2 HotX L2H
/-! ### comprehension over a frozen list -/
def iSeqL (i : Nat) : TI2 := fun ρ S Q _ => ∃ xs, ρ[i]? = some (some (.lst xs)) ∧ Q xs S
def lLcF (i : Nat) (vs : List Nat) (g : TG2) (tt : TT2) (te : TE2) : TA2 := lLc vs (iSeqL i) g tt te
theorem lcf_imp {K : PySem.W.Frag} {W : WX} {i : Nat} {vs : List Nat} {g : TG2} {tt : TT2} {te : TE2} {σ : St} {H : Hp} {Q : VK} (h : loL K W (lLcF i vs g tt te) σ H Q) :
    tLc (iList K (tVar i)) (loG K WF vs g) (loT K WF tt) (lo K WF te) vs σ H Q := by
  have z := lc_imp h
  obtain ⟨F, G, ρ, S, Q2, E2, R, rs, ⟨xs, er, q⟩, rt, xt⟩ := z
  obtain ⟨v, hv, rv⟩ := rs.2 i _ er
  cases rv with
  | @lst a ys _ hd ra => exact ⟨.ref a, hv, a, rfl, ⟨ys, sameL R.sub hd⟩, rt (Itl K a) H G xs S (Same.refl _) R (itl_ok hd ra) q⟩
section
variable {X : Cx} {W : WX} {elt tg : Expr} {x : Str} {ifs : List Expr} {scope : Scope} {pos xp : Pos} {g : TG2} {tt : TT2} {te : TE2}
theorem l_lcH {p : Addr × Obj} (hot : Hot1 X.A p) (hpn : p ∈ X.pn) (i : Nat) (own : List (Str × Nat)) (hN : X.N.Nodup) (ok : BlkOk X.N X.env.scope scope own)
    (hg : ∀ (s : Shared) (H : Hp) (C : Addr) (cl : List (Str × Addr)) (fp : List Addr), PG2 (X.blk s H scope (compEnvC scope cl C X.env) fp) WF (own.map (·.2)) tg g)
    (ht : ∀ (s : Shared) (H : Hp) (C : Addr) (cl : List (Str × Addr)) (fp : List Addr), PTs2 (X.blk s H scope (compEnvC scope cl C X.env) fp) WF ifs tt)
    (he : ∀ (s : Shared) (H : Hp) (C : Addr) (cl : List (Str × Addr)) (fp : List Addr), PE2 (X.blk s H scope (compEnvC scope cl C X.env) fp) WF elt te)
    (hi : X.N[i]? = some x := by rfl) (hv : Vis X.env.scope x := by first | exact Or.inl rfl | exact Or.inr (Or.inl rfl) | exact Or.inr (Or.inr rfl))
    (hd : (x == ("__debug__" : Str)) = false := by decide +kernel) (hcd : (x == ("__classdict__" : Str)) = false := by decide +kernel) (hs : ∀ y, foldedSetIterable (.Name x xp) X.env y = pure y := by intro _; rfl) :
    PL2 X W (.ListComp elt [⟨tg, .Name x xp, ifs, 0⟩] scope pos) (lLcF i (own.map (·.2)) g tt te) := pe_w (lcH hot hpn hN ok (g := loG X.K WF (own.map fun p : Str × Nat => p.2) g) (tt := loT X.K WF tt) (te := lo X.K WF te) hg ht he (pe_var hi hv hd hcd) hs) fun _ _ _ h => lcf_imp h
/-! ### index of a truth -/
def mIndex (x : D) (ds : List D) (S : Sto) (Q : QK) : Prop := ∃ xs bs b j, lstOf S x = some xs ∧ blsOf xs = some bs ∧ ds = [.bl b] ∧ bs[j]? = some b ∧ (∀ m c, m < j → bs[m]? = some c → c ≠ b) ∧ Q (.int (j : Nat)) S
theorem m_index : MtR X "list.index" (loM X.K mIndex) := by
  rintro pins s σ H v vs u us Q I rx rs ⟨F, G, S, d, ds, Q2, R, r1, r2, ⟨xs, bs, b, j, hx, hb, rfl, hj, hno, q⟩, qt⟩
  obtain ⟨p, ys, rfl, sq, ra⟩ := lst_sq R r1 hx
  have ev := ra.bls_of hb
  subst ev
  obtain ⟨w, rfl, rw'⟩ := one_arg2 r2
  cases rw'
  refine mt_index pins s σ H _ _ u us Q I rx rs ⟨p, _, .bl b, j, .bl b, rfl, rfl, sq, rfl, ?_, by rw [List.getElem?_map, hj]; rfl, ?_, fun m z hm hz => ?_, qt _ H G _ S (Same.refl _) R (.int _) q⟩
  · rw [List.all_eq_true]; intro z hz; obtain ⟨c, _, rfl⟩ := List.mem_map.mp hz; rfl
  · cases b <;> rfl
  · rw [List.getElem?_map] at hz
    obtain ⟨c, hc, rfl⟩ := Option.map_eq_some_iff.mp hz
    have := hno m c hm hc
    cases b <;> cases c <;> first | rfl | exact absurd rfl this
end
/-! ### the def and its call -/
def fIsE (K : PySem.W.Frag) (a E : Addr) (ds : List D) (S : Sto) (Q : QK) : Prop := ∃ ns es c b, ds = [.exc a (.ref E) none ns es, c] ∧ ((∃ n, c = .ty n ∧ PySem.W.kitOne K (.ref E) (.type n) = some b) ∨ ∃ m, c = .ref m ∧ PySem.W.kitOne K (.ref E) (.ref m) = some b) ∧ Q (.bl b) S
theorem c_isP {X : Cx} {E : Addr} {p : Addr × Obj} (C : ExcC X.K E) (hp : p ∈ X.pn) (hz : Zc (.ref E) none p.2) (hf : ∃ vs, p.2.data = .fields vs) : CallR X (.builtin "isinstance") (loC X.K (fIsE X.K p.1 E)) := isE_pin C hp hz hf
theorem hu64H {A : Around} {k : Nat} (h : RoomH k A) : A.units + 64 < cLine := by have := h.un; omega
abbrev SpE := Addr → Addr → Sp2
structure FnE (P : Program) (w : World) (K : PySem.W.Frag) (mg : Str → Option Value) (base : Heap) (k : Nat) (f : Addr) (fd : FuncData) (ps : List Str) (sp : SpE) : Prop where
  len : ∀ a E ds S Q E', sp a E ds S Q E' → ds.length = ps.length
  run : ∀ (A : Around) (outer : List Env) (s : Shared) (H : Hp) (args : Args) (us : List Value) (vs : List V) (Q : VK) (E : XK) (p : Addr × Obj) (C : Addr), RoomH k A → Hot1 A p → PinOk outer H s p → ExcC K C → Zc (.ref C) none p.2 → Env0 P w K mg base A outer s H → BindsTo s fd args (ps.zip us) → Vals vs us → loF K (sp p.1 C) vs H Q E →
    codeAny (model P w) A (.call (.ref f) args) (CR (L2N.CX P w) outer P w H s Q E) s
section
variable {P : Program} {w : World} {K : PySem.W.Frag} {mg : Str → Option Value} {base : Heap}
theorem fnE {x qual : Str} {st : Stmt} {f : Addr} {fd : FuncData} {N ps : List Str} {k : Nat} {sp : SpE} {T : Addr → Addr → TS2} (F : Fun K x qual st f fd) (S : FnScope N ps (defScope st)) (len : ∀ a E ds S Q E', sp a E ds S Q E' → ds.length = ps.length)
    (body : ∀ (cdv : Value) (A : Around) (outer : List Env) (s : Shared) (H : Hp) (E : XK) (p : Addr × Obj) (C : Addr), Hot1 A p → RoomH k (A.deeper (envOfC qual (defScope st) s.heap.objs.size f cdv)) → ExcC K C → Zc (.ref C) none p.2 → (∃ vs, p.2.data = .fields vs) →
      PSs2 (cxH (L2N.CX P w) P w K mg base N qual (defScope st) f cdv A outer s H E p) (fun cls d _ H => E cls d H) (defBody st) (T p.1 C))
    (spec : ∀ a C ds S Q E, sp a C ds S Q E → T a C (endsOf Q E) (start2 N ds) S) : FnE P w K mg base (k + 1) f fd ps sp := by
  obtain ⟨oc, od, kV, doc, pm, an, cdv, ct, osl, rfl, lk, hcd⟩ := F.ex
  refine ⟨len, fun A outer s H args us vs Q E p C hr hot hpin xc hz e0 hb r hsp => ?_⟩
  obtain ⟨F', G, S', ds, Q2, E2, R, ra, q, qt, xt⟩ := hsp
  have hl : vs.length = ps.length := by rw [ra.length]; exact len _ _ _ _ _ _ q
  have KX : K.In s.heap := e0.mod.kin.keeps fun b o e => (e0.bs b o e).1
  have lim : s.heap.NoLimit := e0.mod.nolimit.keeps fun b o e => (e0.bs b o e).1
  have kinds : ∀ y ∈ ps.zip us, (defScope st).names.lookup y.1 = some .local ∨ ((defScope st).names.lookup y.1 = some .cell ∧ ((cellsFrom (s.heap.objs.size + 1) (defScope st).names []).lookup y.1).isSome = true) := fun ⟨n, v⟩ hy => by
    rcases S.par n (List.of_mem_zip hy).1 with z | z
    · exact .inl z
    · exact .inr ⟨z, PySem.W.cellsFrom_some _ _ _ (.inl z)⟩
  refine codeAny_call_function hr.depth (KX _ _ lk) rfl S.co S.gen rfl (PySem.W.codeRec_of KX hcd) (hb _ _ _ _ ?_)
  refine wpAny_newFunctionEnv_cells S.kind kinds fun env he s1 y => ?_
  subst he
  refine ⟨lim.keeps y.toInCall.keep, codeAny_func ?_⟩
  obtain ⟨hh, v1, dv, cv⟩ := id hot
  have bd := body cdv A outer s H E p C hot (hr.deeper _) xc hz ⟨v1, dv⟩
  have I : Inv (cxH (L2N.CX P w) P w K mg base N qual (defScope st) f cdv A outer s H E p) [] (L2.start N vs) H s1 := inv_startH S hpin e0 hl r y
  refine wpAny_mono (bd.run [] s1 (L2.start N vs) H { nx := fun _ H' => Q .non H', rt := Q } I ?_) (fun fl s' hs => ?_) fun e s' hs => hs
  · refine ⟨F', G, start2 N ds, S', endsOf Q2 E2, R, start_rp N ra, spec _ _ _ _ _ _ q, ?_⟩
    exact ⟨fun σ' H' G' ρ' S1 e R' _ q' => qt .non H' G' .non S1 e R' .non q', qt, fun _ _ _ _ _ _ _ _ z => z.elim, fun _ _ _ _ _ _ _ _ z => z.elim, fun c dx σ' H' G' x' ρ' S1 e R' _ xr q' => xt c dx H' G' x' S1 e R' xr q'⟩
  have fin : ∀ {σ' : St} {H' : Hp} {v : V} {u : Value}, Inv (cxH (L2N.CX P w) P w K mg base N qual (defScope st) f cdv A outer s H E p) [] σ' H' s' → RelV v u → Q v H' → CE outer P w H s Q u s' :=
    fun {σ' H' v u} J rv q => ⟨v, H', J.os, J.bare, J.base, J.hok, rv, q⟩
  cases fl with
  | ret u =>
    obtain ⟨v, σ', H', J, rv, q⟩ := hs
    exact fin J rv q
  | next =>
    obtain ⟨σ', H', J, q⟩ := hs
    exact fin (v := V.non) (u := Value.none) J rfl q
  | brk =>
    obtain ⟨_, _, _, z⟩ := hs
    exact z.elim
  | cont =>
    obtain ⟨_, _, _, z⟩ := hs
    exact z.elim
end
section
variable {X : Cx} {W : WX} {k : Nat} {f : Addr} {fd : FuncData} {ps : List Str} {sp : SpE} {x : Str} {q pos : Pos} {e : Expr} {es : List Expr} {T : TA2}
def eCallE (K : PySem.W.Frag) (sp : SpE) (a : Addr) (cls : Value) (d : Option Addr) (t : TA2) : TE2 := fun ρ S Q E => t ρ S (fun ds S1 => ∃ C, cls = .ref C ∧ d = none ∧ ExcC K C ∧ sp a C ds S1 Q E) E
theorem e_callE {a : Addr} {oe : Obj} {cls : Value} {d : Option Addr} (F : FnE X.prog X.w X.K X.mg X.base k f fd ps sp) (hr : RoomH k X.A) (hot : Hot1 X.A (a, oe)) (hp : (a, oe) ∈ X.pn) (hz : Zc cls d oe) (hg : Gl X x) (hm : X.mg x = some (.ref f)) (hk : PySem.W.keepIn X.K (.ref f) = true) (hb : Binds X.K fd ps []) (tk : L2N.Takes X W)
    (ha : PA2 X W (e :: es) T) (hdb : (x == ("__debug__" : Str)) = false := by decide +kernel) (he : starEach (e :: es) X.env = (false, eval e X.env) :: starEach es X.env := by rfl) (hpl : (backTo pos (starEach es X.env)).any (·.1) = false := by rfl) :
    PE2 X W (.Call (.Name x q) (e :: es) [] pos) (eCallE X.K sp a cls d T) := by
  refine ⟨fun pins s σ H Q I ⟨F', G, ρ, S, Q2, E2, R, rs, h, qt, xt⟩ => ?_⟩
  refine wpAny_Call_Name_kw (ld_glob I hg hm ?_ hdb)
  refine PySem.W.callWith_K (h₀ := X.base) I.ok.mod.kin hk (thn (ha.run pos pins s σ H (fun vs H1 => ∃ C, cls = .ref C ∧ d = none ∧ ExcC X.K C ∧ loF X.K (sp a C) vs H1 Q (WE W σ)) I ⟨F', G, ρ, S, _, E2, R, rs, h, fun vs H1 G1 ds S1 e1 R1 r1 ⟨C, c1, c2, c3, q1⟩ => ⟨C, c1, c2, c3, F', G1, S1, ds, Q2, E2, R1, r1, q1, qt.le e1, xt.le e1⟩, xt⟩) fun us s1 ⟨vs, H1, I1, r, C, c1, c2, c3, q1⟩ => ⟨I1.kIn, ?_⟩) he hpl
  subst c1 c2
  obtain ⟨F1, G1, S1, ds, Q3, E3, R1, ra, q2, rest⟩ := id q1
  have hl : us.length = ps.length := by rw [← r.length, ra.length]; exact F.len _ _ _ _ _ _ q2
  have b := hb s1 us I1.kIn (by rw [List.append_nil]; exact hl)
  rw [List.append_nil] at b
  have P1 := I1.pin (a, oe) (List.mem_append_left _ hp)
  have hpin : PinOk X.stack H1 s1 (a, oe) := ⟨P1.1, P1.2.1, fun hm => (List.mem_cons.mp (I1.stkSub a hm)).elim P1.2.2.1 P1.2.2.2.1, P1.2.2.2.2⟩
  refine wpAny_call (codeAny_mono (F.run X.A X.stack s1 H1 ⟨us, []⟩ us vs Q (WE W σ) (a, oe) C hr hot hpin c3 hz I1.env0 b r q1) fun r s' hq => ?_)
  cases r with
  | error e => exact L2N.passAt tk σ pins H1 s1 e s' I1 hq
  | ok fl =>
    cases fl with
    | ret u => exact I1.after hq
    | next => exact False.elim hq
    | brk => exact False.elim hq
    | cont => exact False.elim hq
theorem hot_suite {X : Cx} {a : Addr} {oe : Obj} {cls : Value} {d : Option Addr} {pn : List (Addr × Obj)} (hz : L2N.Zn cls d oe) (hf : ∃ vs, oe.data = .fields vs) : Hot1 (X.suite a ((a, oe) :: pn)).A (a, oe) := by
  obtain ⟨vs, hv⟩ := hf
  exact ⟨rfl, vs, hv, hz.2.2 vs hv⟩
theorem room_suite {X : Cx} {a : Addr} {k : Nat} {pn : List (Addr × Obj)} (hr : Room k X.A) : RoomH k (X.suite a pn).A := ⟨hr.dp, hr.un⟩
end
end Y
set_option Elab.async false
set_option linter.all false
set_option maxRecDepth 100000
set_option maxHeartbeats 4000000
/-! try .. except X as n, the error's own dict as it is told -/
namespace Y
open PySem PySem.Spec PyProof.Rows L2
section
variable {X : Cx} {W : WX} {x n : Str} {c : Value} {i : Nat} {body suite : List Stmt} {b₀ : Stmt} {np pos pos' : Pos} {T : TS2} {U : Addr → Value → Option Addr → TS2}
def xcAsN (K : PySem.W.Frag) (c : Value) (i : Nat) (U : Addr → Value → Option Addr → TS2) (D : Ends2) : Ex2 → Rho → Sto → Prop := fun x ρ S => ∃ b, PySem.W.exmOne K x.cls c = some b ∧
  (b = true → ∀ a d, (x.own = false → d = none) → U a x.cls d { D with nx := fun ρ' S' => D.nx (ρ'.set i none) S', bk := fun ρ' S' => D.bk (ρ'.set i none) S', ct := fun ρ' S' => D.ct (ρ'.set i none) S', xc := fun _ _ _ => False } (ρ.set i (some (.exc a x.cls d x.ns x.ds))) S) ∧ (b = false → D.xc x ρ S)
def sTryN (K : PySem.W.Frag) (c : Value) (i : Nat) (T : TS2) (U : Addr → Value → Option Addr → TS2) : TS2 := fun D ρ S => T { D with xc := xcAsN K c i U D } ρ S
theorem s_tryN (i : Nat) (hs : X.stack = X.env :: X.outer) (hf : X.env.frame = some X.env.locals) (hN : X.N.Nodup) (hc : Names X x c) (tk : L2N.Takes X W)
    (hb : ∀ (W' : WX) (pn : List (Addr × Obj)) (xe : Value → Shared → Prop), L2N.Takes (X.tr pn xe) W' → PassesOwn (model X.prog X.w) X.A X.env xe → PSs2 (X.tr pn xe) W' body T)
    (hsu : ∀ (a : Addr) (oe : Obj) (cls : Value) (d : Option Addr) (pn : List (Addr × Obj)), L2N.Zn cls d oe → (∃ vs, oe.data = .fields vs) → PSs2 (X.suite a ((a, oe) :: pn)) WF (b₀ :: suite) (U a cls d))
    (hi : X.N[i]? = some n := by rfl) (hln : X.env.kindOf n = some .local := by rfl) :
    PS2 X W (.Try body [.ExceptHandler (some (.Name x np)) (some n) (b₀ :: suite) pos'] [] [] pos) (sTryN X.K c i T U) :=
  ps_w (L2N.ps_try_as (tb := fun W' => loS X.K W' T) (ts := fun a cls d => loS X.K WF (U a cls d)) hs hf hN hi hln hc tk hb hsu) fun D σ H ⟨F, G, ρ, S, D2, R, rs, q, dt⟩ => by
    refine ⟨F, G, ρ, S, _, R, rs, q, dt.nx, dt.rt, dt.bk, dt.ct, fun cls dx σ' H' G' y ρ' S' e R' rs' xr ⟨b, hb1, yes, no⟩ => ?_⟩
    have ec : y.cls = cls := xr.1
    rw [ec] at hb1 yes
    refine ⟨b, hb1, fun hb2 a ha => ?_, fun hb2 => dt.xc cls dx σ' H' G' y ρ' S' e R' rs' xr (no hb2)⟩
    refine ⟨F, G', _, S', _, R', rs'.set (xr.rp a) i, yes hb2 a dx (fun ho => ?_), ?_⟩
    · cases dx with
      | none => rfl
      | some z =>
        have h := xr.2
        simp only at h
        rw [ho] at h
        first | exact absurd h.1 (by simp) | exact absurd h (by simp)
    have dt' := dt.le e
    exact ⟨fun σ1 H1 G1 ρ1 S1 e1 R1 rs1 q1 => dt'.nx _ H1 G1 _ S1 e1 R1 (rs1.unset i) q1, dt'.rt, fun σ1 H1 G1 ρ1 S1 e1 R1 rs1 q1 => dt'.bk _ H1 G1 _ S1 e1 R1 (rs1.unset i) q1, fun σ1 H1 G1 ρ1 S1 e1 R1 rs1 q1 => dt'.ct _ H1 G1 _ S1 e1 R1 (rs1.unset i) q1, fun _ _ _ _ _ _ _ _ _ _ _ _ q1 => q1⟩
end
end Y
set_option Elab.async false
set_option linter.all false
set_option maxRecDepth 100000
set_option maxHeartbeats 4000000
/-! printed by gen.py: the bodies of the defs as terms of rules, and their readings -/
namespace L83
open PySem PySem.Spec PyProof.Rows L2 Y
def top (i : Nat) : Stmt := PySem.Challenge.pw_boughswap_k83_things_counted_up_to_a_siz.main.body.getD i (.Pass ⟨0, 0, 0, 0⟩)
abbrev st_row_ways : Stmt := top 16
abbrev st_product : Stmt := top 15
abbrev st_Kind_makers : Stmt := inClass (top 36) 3
abbrev st_tree_rows : Stmt := top 14
abbrev st_is_whole : Stmt := top 10
abbrev st_sure_size : Stmt := top 13
abbrev st_is_rack : Stmt := top 20
abbrev st_rack_unless : Stmt := top 25
abbrev st_count_to : Stmt := top 27
abbrev st__law_class : Stmt := top 49
abbrev st__law_word : Stmt := top 50
abbrev st__law_draw : Stmt := top 42
abbrev st__law_refusals_right : Stmt := top 51
abbrev st_sure_small : Stmt := top 22
abbrev st_sure_rack : Stmt := top 21
abbrev st_put_beside : Stmt := top 23
abbrev st__law_times : Stmt := top 46
abbrev st__law_rows : Stmt := top 47
abbrev st__law_due : Stmt := top 48
abbrev st__law_rack : Stmt := top 45
abbrev st_rack_rows : Stmt := top 38
abbrev st_how_many_things : Stmt := top 39
abbrev st_is_name : Stmt := top 33
abbrev st_is_maker_row : Stmt := top 34
abbrev st_are_makers : Stmt := top 35
abbrev st_Kind___init__ : Stmt := inClass (top 36) 0
abbrev st__law_name : Stmt := top 43
abbrev st__law_makers : Stmt := top 44
abbrev st__law_well : Stmt := top 41
abbrev st_law : Stmt := top 52
def perm_count_to {α : Type} : List α → List α → List α
  | [], [x0, x1, x2] => [x2, x1, x0]
  | _, _ => []
theorem perm_ok_count_to {K : PySem.W.Frag} {G : Hp} {vs : List V} {ds : List D} (h : RpAll K G vs ds) : RpAll K G (perm_count_to [] vs) (perm_count_to [] ds) := by
  cases h with
  | nil => exact .nil
  | cons r0 h =>
  cases h with
  | nil => exact .nil
  | cons r1 h =>
  cases h with
  | nil => exact .nil
  | cons r2 h =>
  cases h with
  | nil => exact .cons r2 (.cons r1 (.cons r0 (.nil)))
  | cons _ _ => exact .nil
/-- what the top has written -/
structure Tx (K : PySem.W.Frag) (mg : Str → Option Value) where
  f_row_ways : Addr
  d_row_ways : FuncData
  F_row_ways : Fun K "row_ways" "row_ways" st_row_ways f_row_ways d_row_ways
  b_row_ways : Binds K d_row_ways ["rows", "many", "total"] []
  m_row_ways : mg "row_ways" = some (.ref f_row_ways)
  f_product : Addr
  d_product : FuncData
  F_product : Fun K "product" "product" st_product f_product d_product
  b_product : Binds K d_product ["one", "two"] []
  m_product : mg "product" = some (.ref f_product)
  f_Kind_makers : Addr
  d_Kind_makers : FuncData
  F_Kind_makers : Fun K "makers" "Kind.makers" st_Kind_makers f_Kind_makers d_Kind_makers
  b_Kind_makers : Binds K d_Kind_makers ["self"] []
  f_tree_rows : Addr
  d_tree_rows : FuncData
  F_tree_rows : Fun K "tree_rows" "tree_rows" st_tree_rows f_tree_rows d_tree_rows
  b_tree_rows : Binds K d_tree_rows ["kind", "most", "wide"] []
  m_tree_rows : mg "tree_rows" = some (.ref f_tree_rows)
  f_is_whole : Addr
  d_is_whole : FuncData
  F_is_whole : Fun K "is_whole" "is_whole" st_is_whole f_is_whole d_is_whole
  b_is_whole : Binds K d_is_whole ["thing", "low", "high"] []
  m_is_whole : mg "is_whole" = some (.ref f_is_whole)
  f_sure_size : Addr
  d_sure_size : FuncData
  F_sure_size : Fun K "sure_size" "sure_size" st_sure_size f_sure_size d_sure_size
  b_sure_size : Binds K d_sure_size ["thing"] []
  m_sure_size : mg "sure_size" = some (.ref f_sure_size)
  f_is_rack : Addr
  d_is_rack : FuncData
  F_is_rack : Fun K "is_rack" "is_rack" st_is_rack f_is_rack d_is_rack
  b_is_rack : Binds K d_is_rack ["thing"] []
  m_is_rack : mg "is_rack" = some (.ref f_is_rack)
  f_rack_unless : Addr
  d_rack_unless : FuncData
  F_rack_unless : Fun K "rack_unless" "rack_unless" st_rack_unless f_rack_unless d_rack_unless
  b_rack_unless : Binds K d_rack_unless ["rack"] []
  m_rack_unless : mg "rack_unless" = some (.ref f_rack_unless)
  f_count_to : Addr
  d_count_to : FuncData
  F_count_to : Fun K "count_to" "count_to" st_count_to f_count_to d_count_to
  b_count_to : Binds K d_count_to ["kind", "rack", "size"] []
  k_count_to : KBinds K d_count_to ["kind", "rack", "size"] ["size", "rack", "kind"] perm_count_to perm_count_to
  m_count_to : mg "count_to" = some (.ref f_count_to)
  f__law_class : Addr
  d__law_class : FuncData
  F__law_class : Fun K "_law_class" "_law_class" st__law_class f__law_class d__law_class
  b__law_class : Binds K d__law_class ["_law_e"] []
  m__law_class : mg "_law_class" = some (.ref f__law_class)
  f__law_word : Addr
  d__law_word : FuncData
  F__law_word : Fun K "_law_word" "_law_word" st__law_word f__law_word d__law_word
  b__law_word : Binds K d__law_word ["_law_trade", "_law_shelf", "_law_great"] []
  m__law_word : mg "_law_word" = some (.ref f__law_word)
  f__law_draw : Addr
  d__law_draw : FuncData
  F__law_draw : Fun K "_law_draw" "_law_draw" st__law_draw f__law_draw d__law_draw
  b__law_draw : Binds K d__law_draw ["_law_well_here", "_law_many"] []
  m__law_draw : mg "_law_draw" = some (.ref f__law_draw)
  f__law_refusals_right : Addr
  d__law_refusals_right : FuncData
  F__law_refusals_right : Fun K "_law_refusals_right" "_law_refusals_right" st__law_refusals_right f__law_refusals_right d__law_refusals_right
  b__law_refusals_right : Binds K d__law_refusals_right ["_law_well_here", "_law_trade", "_law_shelf"] []
  m__law_refusals_right : mg "_law_refusals_right" = some (.ref f__law_refusals_right)
  f_sure_small : Addr
  d_sure_small : FuncData
  F_sure_small : Fun K "sure_small" "sure_small" st_sure_small f_sure_small d_sure_small
  b_sure_small : Binds K d_sure_small ["rack"] []
  m_sure_small : mg "sure_small" = some (.ref f_sure_small)
  f_sure_rack : Addr
  d_sure_rack : FuncData
  F_sure_rack : Fun K "sure_rack" "sure_rack" st_sure_rack f_sure_rack d_sure_rack
  b_sure_rack : Binds K d_sure_rack ["thing"] []
  m_sure_rack : mg "sure_rack" = some (.ref f_sure_rack)
  f_put_beside : Addr
  d_put_beside : FuncData
  F_put_beside : Fun K "put_beside" "put_beside" st_put_beside f_put_beside d_put_beside
  b_put_beside : Binds K d_put_beside ["one", "two"] []
  m_put_beside : mg "put_beside" = some (.ref f_put_beside)
  f__law_times : Addr
  d__law_times : FuncData
  F__law_times : Fun K "_law_times" "_law_times" st__law_times f__law_times d__law_times
  b__law_times : Binds K d__law_times ["_law_one", "_law_two"] []
  m__law_times : mg "_law_times" = some (.ref f__law_times)
  f__law_rows : Addr
  d__law_rows : FuncData
  F__law_rows : Fun K "_law_rows" "_law_rows" st__law_rows f__law_rows d__law_rows
  b__law_rows : Binds K d__law_rows ["_law_numbers", "_law_great"] []
  m__law_rows : mg "_law_rows" = some (.ref f__law_rows)
  f__law_due : Addr
  d__law_due : FuncData
  F__law_due : Fun K "_law_due" "_law_due" st__law_due f__law_due d__law_due
  b__law_due : Binds K d__law_due ["_law_numbers", "_law_shelf", "_law_great"] []
  m__law_due : mg "_law_due" = some (.ref f__law_due)
  f__law_rack : Addr
  d__law_rack : FuncData
  F__law_rack : Fun K "_law_rack" "_law_rack" st__law_rack f__law_rack d__law_rack
  b__law_rack : Binds K d__law_rack ["_law_well_here", "_law_few", "_law_high"] []
  m__law_rack : mg "_law_rack" = some (.ref f__law_rack)
  f_rack_rows : Addr
  d_rack_rows : FuncData
  F_rack_rows : Fun K "rack_rows" "rack_rows" st_rack_rows f_rack_rows d_rack_rows
  b_rack_rows : Binds K d_rack_rows ["kind", "rack", "size"] []
  m_rack_rows : mg "rack_rows" = some (.ref f_rack_rows)
  f_how_many_things : Addr
  d_how_many_things : FuncData
  F_how_many_things : Fun K "how_many_things" "how_many_things" st_how_many_things f_how_many_things d_how_many_things
  b_how_many_things : Binds K d_how_many_things ["kind", "rack", "size"] []
  m_how_many_things : mg "how_many_things" = some (.ref f_how_many_things)
  f_is_name : Addr
  d_is_name : FuncData
  F_is_name : Fun K "is_name" "is_name" st_is_name f_is_name d_is_name
  b_is_name : Binds K d_is_name ["thing"] []
  m_is_name : mg "is_name" = some (.ref f_is_name)
  f_is_maker_row : Addr
  d_is_maker_row : FuncData
  F_is_maker_row : Fun K "is_maker_row" "is_maker_row" st_is_maker_row f_is_maker_row d_is_maker_row
  b_is_maker_row : Binds K d_is_maker_row ["thing"] []
  m_is_maker_row : mg "is_maker_row" = some (.ref f_is_maker_row)
  f_are_makers : Addr
  d_are_makers : FuncData
  F_are_makers : Fun K "are_makers" "are_makers" st_are_makers f_are_makers d_are_makers
  b_are_makers : Binds K d_are_makers ["thing"] []
  m_are_makers : mg "are_makers" = some (.ref f_are_makers)
  f_Kind___init__ : Addr
  d_Kind___init__ : FuncData
  F_Kind___init__ : Fun K "__init__" "Kind.__init__" st_Kind___init__ f_Kind___init__ d_Kind___init__
  b_Kind___init__ : Binds K d_Kind___init__ ["self", "makers"] []
  f__law_name : Addr
  d__law_name : FuncData
  F__law_name : Fun K "_law_name" "_law_name" st__law_name f__law_name d__law_name
  b__law_name : Binds K d__law_name ["_law_well_here", "_law_taken"] []
  m__law_name : mg "_law_name" = some (.ref f__law_name)
  f__law_makers : Addr
  d__law_makers : FuncData
  F__law_makers : Fun K "_law_makers" "_law_makers" st__law_makers f__law_makers d__law_makers
  b__law_makers : Binds K d__law_makers ["_law_well_here"] []
  m__law_makers : mg "_law_makers" = some (.ref f__law_makers)
  f__law_well : Addr
  d__law_well : FuncData
  F__law_well : Fun K "_law_well" "_law_well" st__law_well f__law_well d__law_well
  b__law_well : Binds K d__law_well ["_law_cell"] []
  m__law_well : mg "_law_well" = some (.ref f__law_well)
  f_law : Addr
  d_law : FuncData
  F_law : Fun K "law" "law" st_law f_law d_law
  b_law : Binds K d_law ["_law_script"] []
  m_law : mg "law" = some (.ref f_law)
  C_SwapError : Addr
  m_SwapError : mg "SwapError" = some (.ref C_SwapError)
  C_NoNumber : Addr
  m_NoNumber : mg "NoNumber" = some (.ref C_NoNumber)
  C_NoRack : Addr
  m_NoRack : mg "NoRack" = some (.ref C_NoRack)
  C_NoTrees : Addr
  m_NoTrees : mg "NoTrees" = some (.ref C_NoTrees)
  C_Kind : Addr
  m_Kind : mg "Kind" = some (.ref C_Kind)
  cl_Kind : Cls K C_Kind
  Mk_Kind : Mk K C_Kind f_Kind___init__
  M_Kind_makers : Meth K C_Kind "makers" f_Kind_makers
  no_Kind_rows : NoAttr K C_Kind "rows"
  e_NoNumber : ErrC K C_NoNumber
  e_NoRack : ErrC K C_NoRack
  n_ValueError : mg "ValueError" = none
  n_all : mg "all" = none
  n_bool : mg "bool" = none
  n_divmod : mg "divmod" = none
  n_enumerate : mg "enumerate" = none
  n_int : mg "int" = none
  n_isinstance : mg "isinstance" = none
  n_len : mg "len" = none
  n_list : mg "list" = none
  n_max : mg "max" = none
  n_min : mg "min" = none
  n_range : mg "range" = none
  n_set : mg "set" = none
  n_str : mg "str" = none
  n_sum : mg "sum" = none
  n_tuple : mg "tuple" = none
  c_LETTERS : ∃ t, mg "LETTERS" = some (.str "abcdefghijklmnopqrstuvwxyz" t)
  c_MOST_FORMS : ∃ t, mg "MOST_FORMS" = some (.int 4000 t)
  c_MOST_LETTERS : ∃ t, mg "MOST_LETTERS" = some (.int 8 t)
  c_MOST_MAKERS : ∃ t, mg "MOST_MAKERS" = some (.int 5 t)
  c_MOST_SIZE : ∃ t, mg "MOST_SIZE" = some (.int 60 t)
  c_MOST_TREES : ∃ t, mg "MOST_TREES" = some (.int 200 t)
  c_MOST_WITHIN : ∃ t, mg "MOST_WITHIN" = some (.int 4 t)
section
variable {P : Program} {w : World} {K : PySem.W.Frag} {mg : Str → Option Value} {base : Heap}
/-! row_ways -/
abbrev N_row_ways : List Str := ["rows", "many", "total"]
theorem sc_row_ways : FnScope N_row_ways ["rows", "many", "total"] (defScope st_row_ways) := ⟨rfl, rfl, rfl, by decide +kernel, rfl, by decide +kernel, by decide +kernel⟩
def r_row_ways : TS2 :=
    (sRet (eIf (tBl (eOp opLt (eVar 1) (eCB fLen (aCons (eVar 0) aNil)))) (eOp opIx (eOp opIx (eVar 0) (eVar 1)) (eVar 2)) (eC (.int 0))))
theorem b_row_ways (T : Tx K mg)  {sp : Sp2} (len : ∀ ds S Q E, sp ds S Q E → ds.length = 3) (spec : ∀ ds S Q E, sp ds S Q E → r_row_ways (endsOf Q E) (start2 N_row_ways ds) S) : FnD P w K mg base 1 T.f_row_ways T.d_row_ways ["rows", "many", "total"] sp :=
  fnC T.F_row_ways sc_row_ways len (fun cdv A outer s H E hr =>
      (ss_one (s_ret (e_if (t_cmp op_lt2 (e_var 1) (e_callB c_len (by rfl) T.n_len PySem.boot_len (a_cons (e_var 0) a_nil)) (by rfl)) (e_ix ix2 (e_ix ix2 (e_var 0) (e_var 1)) (e_var 2)) e_int)))) spec
/-! product -/
abbrev N_product : List Str := ["one", "two", "found", "at", "number", "to"]
theorem sc_product : FnScope N_product ["one", "two"] (defScope st_product) := ⟨rfl, rfl, rfl, by decide +kernel, rfl, by decide +kernel, by decide +kernel⟩
def r_product : TS2 :=
    (sSeq (sSet 2 (eMu (lRep (lDisp (aCons (eC (.int 0)) aNil)) (eCB fLen (aCons (eVar 0) aNil)))))
    (sSeq (sFor (iEnum2 (aCons (eVar 0) aNil)) (gTup2 2 (gsCons (gN 3) (gsCons (gN 4) gsNil)))
    (sIf (tBl (eOp opNe (eVar 4) (eC (.int 0))))
    (sFor (iRng (aCons (eOp opSub (eCB fLen (aCons (eVar 0) aNil)) (eVar 3)) aNil)) (gN 5)
    (sAugS (eVar 2) (eOp opAdd (eVar 3) (eVar 5)) (eOp opMul (eVar 4) (eOp opIx (eVar 1) (eVar 5))) opGetL opAddI setL)) sNext))
    (sRetZ (eVar 2))))
theorem b_product (T : Tx K mg)  {sp : Sp2} (len : ∀ ds S Q E, sp ds S Q E → ds.length = 2) (spec : ∀ ds S Q E, sp ds S Q E → r_product (endsOf Q E) (start2 N_product ds) S) : FnD P w K mg base 1 T.f_product T.d_product ["one", "two"] sp :=
  fnC T.F_product sc_product len (fun cdv A outer s H E hr =>
      (ss_cons (s_set 2 sc_product.nd (e_mu (l_rep (l_disp (a_cons e_int a_nil)) (e_callB c_len (by rfl) T.n_len PySem.boot_len (a_cons (e_var 0) a_nil)))))
      (ss_cons (s_for (vs := [3, 4]) (passes_of rfl) rfl (i_enum (by rfl) T.n_enumerate (a_cons (e_var 0) a_nil)) (g_tup rfl (gs_cons (g_name 3 sc_product.nd) (gs_cons (g_name 4 sc_product.nd) gs_nil)))
      (ss_one (s_if (t_cmp (op_ne2 (hu64 hr)) (e_var 4) e_int (by rfl))
      (ss_one (s_for (vs := [5]) (passes_of rfl) rfl (i_rng (by rfl) T.n_range (a_cons (e_op op_sub2 (e_callB c_len (by rfl) T.n_len PySem.boot_len (a_cons (e_var 0) a_nil)) (e_var 3)) a_nil)) (g_name 5 sc_product.nd)
      (ss_one (s_augS (e_var 2) (e_op op_add2 (e_var 3) (e_var 5)) get2 (e_op op_mul2 (e_var 4) (e_ix ix2 (e_var 1) (e_var 5))) ip_add2 set2)))) ss_nil)))
      (ss_one (s_retZ (e_var 2)))))) spec
/-! Kind.makers -/
abbrev N_Kind_makers : List Str := ["self"]
theorem sc_Kind_makers : FnScope N_Kind_makers ["self"] (defScope st_Kind_makers) := ⟨rfl, rfl, rfl, by decide +kernel, rfl, by decide +kernel, by decide +kernel⟩
def r_Kind_makers (C_Kind : Addr) : TS2 :=
    (sRet (eFr (lCB fList (aCons (eFld C_Kind "rows" (eVar 0)) aNil))))
theorem b_Kind_makers (T : Tx K mg)  {sp : Sp2} (len : ∀ ds S Q E, sp ds S Q E → ds.length = 1) (spec : ∀ ds S Q E, sp ds S Q E → r_Kind_makers T.C_Kind (endsOf Q E) (start2 N_Kind_makers ds) S) : FnD P w K mg base 1 T.f_Kind_makers T.d_Kind_makers ["self"] sp :=
  fnC T.F_Kind_makers sc_Kind_makers len (fun cdv A outer s H E hr =>
      (ss_one (s_ret (e_fr (l_callTy c_list (by rfl) T.n_list boot_list (a_cons (e_fld (e_var 0) T.cl_Kind T.no_Kind_rows) a_nil)))))) spec
/-! tree_rows -/
abbrev N_tree_rows : List Str := ["kind", "most", "wide", "numbers", "rows", "total", "many", "ways", "name", "first"]
theorem sc_tree_rows : FnScope N_tree_rows ["kind", "most", "wide"] (defScope st_tree_rows) := ⟨rfl, rfl, rfl, by decide +kernel, rfl, by decide +kernel, by decide +kernel⟩
def r_tree_rows (C_Kind : Addr) (sp_product : Sp2) (sp_Kind_makers : Sp2) : TS2 :=
    (sSeq (sSet 3 (eFr (lLc [8, 6] (iSeq (eMeth C_Kind "makers" sp_Kind_makers (eVar 0) aNil)) (gTup2 2 (gsCons (gN 8) (gsCons (gN 6) gsNil))) tYes2 (eVar 6))))
    (sSeq (sSet 4 (eMu (lOp lCat (eFr (lDisp (aCons (eMu (lOp lCat (eFr (lDisp (aCons (eC (.int 1)) aNil))) (eFr (lRep (lDisp (aCons (eC (.int 0)) aNil)) (eVar 1))))) aNil))) (eFr (lLc [6] (iRng (aCons (eCB fMaxL (aCons (eVar 3) aNil)) aNil)) (gN 6) tYes2 (eMu (lRep (lDisp (aCons (eC (.int 0)) aNil)) (eOp opAdd (eVar 1) (eC (.int 1))))))))))
    (sSeq (sFor (iRngB (aCons (eC (.int 1)) (aCons (eOp opAdd (eVar 1) (eC (.int 1))) aNil))) (gN 5)
    (sSeq (sAsg (eCB fSum (aCons (eFr (lLc [6] (iSeq (eVar 3)) (gN 6) tYes2 (eOp opIx (eOp opIx (eVar 4) (eVar 6)) (eOp opSub (eVar 5) (eC (.int 1)))))) aNil)) (gSub2 (eOp opIx (eVar 4) (eC (.int 1))) (eVar 5) setL))
    (sFor (iRngB (aCons (eC (.int 2)) (aCons (eCB fLen (aCons (eVar 4) aNil)) aNil))) (gN 6)
    (sSeq (sSet 7 (eFr (lLc [9] (iRngB (aCons (eC (.int 1)) (aCons (eOp opAdd (eVar 5) (eC (.int 1))) aNil))) (gN 9) tYes2 (eOp opMul (eOp opIx (eOp opIx (eVar 4) (eC (.int 1))) (eVar 9)) (eOp opIx (eOp opIx (eVar 4) (eOp opSub (eVar 6) (eC (.int 1)))) (eOp opSub (eVar 5) (eVar 9)))))))
    (sAsg (eCB fSum (aCons (eVar 7) aNil)) (gSub2 (eOp opIx (eVar 4) (eVar 6)) (eVar 5) setL))))))
    (sFzIn 4 (sSeq (sWhile (tBl (eOp opLe (eCB fLen (aCons (eVar 4) aNil)) (eCB fMin2 (aCons (eVar 2) (aCons (eVar 1) aNil)))))
    (sExpr (eBM "list" mAppend (eVar 4) (aCons (eCall sp_product [] (aCons (eOp opIx (eVar 4) (eC (.int 1))) (aCons (eOp opIx (eVar 4) (eNeg (eC (.int 1)))) aNil))) aNil))))
    (sRetZZ (eVar 4)))))))
theorem b_tree_rows (T : Tx K mg) {sp_product : Sp2} {sp_Kind_makers : Sp2}  (D_product : FnD P w K mg base 1 T.f_product T.d_product ["one", "two"] sp_product) (D_Kind_makers : FnD P w K mg base 1 T.f_Kind_makers T.d_Kind_makers ["self"] sp_Kind_makers) {sp : Sp2} (len : ∀ ds S Q E, sp ds S Q E → ds.length = 3) (spec : ∀ ds S Q E, sp ds S Q E → r_tree_rows T.C_Kind sp_product sp_Kind_makers (endsOf Q E) (start2 N_tree_rows ds) S) : FnD P w K mg base 2 T.f_tree_rows T.d_tree_rows ["kind", "most", "wide"] sp :=
  fnC T.F_tree_rows sc_tree_rows len (fun cdv A outer s H E hr =>
      (ss_cons (s_setLc 3 [("name", 8), ("many", 6)] rfl sc_tree_rows.nd (i_seq (e_meth0 (e_var 0) T.cl_Kind T.M_Kind_makers D_Kind_makers (hr.mono (by decide)) T.b_Kind_makers (L2N.takes_of rfl rfl rfl rfl))) (blkOk_by (own := [("name", 8), ("many", 6)]) (N := N_tree_rows) (sc := defScope st_tree_rows) (by decide +kernel)) (fun _ _ _ _ _ => (g_tup rfl (gs_cons (g_name 8 sc_tree_rows.nd) (gs_cons (g_name 6 sc_tree_rows.nd) gs_nil)))) (fun _ _ _ _ _ => ts_nil) (fun _ _ _ _ _ => (e_var 6)) (sw_true rfl rfl rfl (by decide +kernel)))
      (ss_cons (s_set 4 sc_tree_rows.nd (e_mu (l_op l_cat2 (e_fr (l_disp (a_cons (e_mu (l_op l_cat2 (e_fr (l_disp (a_cons e_int a_nil))) (e_fr (l_rep (l_disp (a_cons e_int a_nil)) (e_var 1))))) a_nil))) (e_fr (l_lc [("many", 6)] rfl sc_tree_rows.nd (i_rng (by rfl) T.n_range (a_cons (e_callB (c_max rfl (hu64 hr)) (by rfl) T.n_max boot_max (a_cons (e_var 3) a_nil)) a_nil)) (blkOk_by (own := [("many", 6)]) (N := N_tree_rows) (sc := defScope st_tree_rows) (by decide +kernel)) (fun _ _ _ _ _ => (g_name 6 sc_tree_rows.nd)) (fun _ _ _ _ _ => ts_nil) (fun _ _ _ _ _ => (e_mu (l_rep (l_disp (a_cons e_int a_nil)) (e_op op_add2 (e_var 1) e_int)))))))))
      (ss_cons (s_for (vs := [5]) (passes_of rfl) rfl (i_rng2 (by rfl) T.n_range (a_cons e_int (a_cons (e_op op_add2 (e_var 1) e_int) a_nil))) (g_name 5 sc_tree_rows.nd)
      (ss_cons (s_asg (vs := []) (e_callB (c_sum rfl) (by rfl) T.n_sum boot_sum (a_cons (e_fr (l_lc [("many", 6)] rfl sc_tree_rows.nd (i_seq (e_var 3)) (blkOk_by (own := [("many", 6)]) (N := N_tree_rows) (sc := defScope st_tree_rows) (by decide +kernel)) (fun _ _ _ _ _ => (g_name 6 sc_tree_rows.nd)) (fun _ _ _ _ _ => ts_nil) (fun _ _ _ _ _ => (e_ix ix2 (e_ix ix2 (e_var 4) (e_var 6)) (e_op op_sub2 (e_var 5) e_int))))) a_nil)) (g_sub (e_ix ix2 (e_var 4) e_int) (e_var 5) set2))
      (ss_one (s_for (vs := [6]) (passes_of rfl) rfl (i_rng2 (by rfl) T.n_range (a_cons e_int (a_cons (e_callB c_len (by rfl) T.n_len PySem.boot_len (a_cons (e_var 4) a_nil)) a_nil))) (g_name 6 sc_tree_rows.nd)
      (ss_cons (s_setLc 7 [("first", 9)] rfl sc_tree_rows.nd (i_rng2 (by rfl) T.n_range (a_cons e_int (a_cons (e_op op_add2 (e_var 5) e_int) a_nil))) (blkOk_by (own := [("first", 9)]) (N := N_tree_rows) (sc := defScope st_tree_rows) (by decide +kernel)) (fun _ _ _ _ _ => (g_name 9 sc_tree_rows.nd)) (fun _ _ _ _ _ => ts_nil) (fun _ _ _ _ _ => (e_op op_mul2 (e_ix ix2 (e_ix ix2 (e_var 4) e_int) (e_var 9)) (e_ix ix2 (e_ix ix2 (e_var 4) (e_op op_sub2 (e_var 6) e_int)) (e_op op_sub2 (e_var 5) (e_var 9))))) (sw_true rfl rfl rfl (by decide +kernel)))
      (ss_one (s_asg (vs := []) (e_callB (c_sum rfl) (by rfl) T.n_sum boot_sum (a_cons (e_var 7) a_nil)) (g_sub (e_ix ix2 (e_var 4) (e_var 6)) (e_var 5) set2))))))))
      (ss_fzIn 4 (ss_cons (s_while (passes_of rfl) (t_cmp op_le2 (e_callB c_len (by rfl) T.n_len PySem.boot_len (a_cons (e_var 4) a_nil)) (e_callB (c_min2 rfl) (by rfl) T.n_min boot_min (a_cons (e_var 2) (a_cons (e_var 1) a_nil))) (by rfl))
      (ss_one (s_expr (e_bm PySem.F.plainAttrs_list PySem.F.slot_list_append PySem.F.type_list_append m_append (e_var 4) (a_cons (e_call D_product (hr.mono (by decide)) (by rfl) T.m_product T.F_product.kp T.b_product .nil (fun _ => .nil) (L2N.takes_of rfl rfl rfl rfl) (a_cons (e_ix ix2 (e_var 4) e_int) (a_cons (e_ix ix2 (e_var 4) (e_neg e_int)) a_nil))) a_nil)))))
      (ss_one (s_retZZ (e_var 4))))))))) spec
/-! is_whole -/
abbrev N_is_whole : List Str := ["thing", "low", "high"]
theorem sc_is_whole : FnScope N_is_whole ["thing", "low", "high"] (defScope st_is_whole) := ⟨rfl, rfl, rfl, by decide +kernel, rfl, by decide +kernel, by decide +kernel⟩
def r_is_whole : TS2 :=
    (sSeq (sIf (tOr2 (tNot2 (tTru (eCB fIsi (aCons (eVar 0) (aCons (eC (.ty "int")) aNil))))) (tTru (eCB fIsi (aCons (eVar 0) (aCons (eC (.ty "bool")) aNil)))))
    (sRet (eC (.bl false))) sNext)
    (sSeq (sIf (tAnd2 (tBl (eOp opNotN (eVar 1) (eC .non))) (tBl (eOp opLt (eVar 0) (eVar 1))))
    (sRet (eC (.bl false))) sNext)
    (sRet (eOr (eOp opIsN (eVar 2) (eC .non)) (eOp opLe (eVar 0) (eVar 2))))))
theorem b_is_whole (T : Tx K mg)  {sp : Sp2} (len : ∀ ds S Q E, sp ds S Q E → ds.length = 3) (spec : ∀ ds S Q E, sp ds S Q E → r_is_whole (endsOf Q E) (start2 N_is_whole ds) S) : FnD P w K mg base 1 T.f_is_whole T.d_is_whole ["thing", "low", "high"] sp :=
  fnC T.F_is_whole sc_is_whole len (fun cdv A outer s H E hr =>
      (ss_cons (s_if (t_w (w_or (t_not (t_tru (e_callB c_isi (by rfl) T.n_isinstance boot_isinstance (a_cons (e_var 0) (a_cons (e_bty (by rfl) T.n_int boot_int) a_nil))))) (w_or1 (t_tru (e_callB c_isi (by rfl) T.n_isinstance boot_isinstance (a_cons (e_var 0) (a_cons (e_bty (by rfl) T.n_bool boot_bool) a_nil)))))))
      (ss_one (s_ret e_bl)) ss_nil)
      (ss_cons (s_if (t_w (w_and (t_cmp op_notN2 (e_var 1) e_non (by rfl)) (w_and1 (t_cmp op_lt2 (e_var 0) (e_var 1) (by rfl)))))
      (ss_one (s_ret e_bl)) ss_nil)
      (ss_one (s_ret (e_or (e_cmp op_isN2 (e_var 2) e_non (by rfl)) (e_one (e_cmp op_le2 (e_var 0) (e_var 2) (by rfl))))))))) spec
/-! sure_size -/
abbrev N_sure_size : List Str := ["thing"]
theorem sc_sure_size : FnScope N_sure_size ["thing"] (defScope st_sure_size) := ⟨rfl, rfl, rfl, by decide +kernel, rfl, by decide +kernel, by decide +kernel⟩
def r_sure_size (C_NoNumber : Addr) (sp_is_whole : Sp2) : TS2 :=
    (sIf (tNot2 (tTru (eCall sp_is_whole [] (aCons (eVar 0) (aCons (eC (.int 0)) (aCons (eC (.int 60)) aNil))))))
    (sRaise C_NoNumber) sNext)
theorem b_sure_size (T : Tx K mg) {sp_is_whole : Sp2}  (D_is_whole : FnD P w K mg base 1 T.f_is_whole T.d_is_whole ["thing", "low", "high"] sp_is_whole) {sp : Sp2} (len : ∀ ds S Q E, sp ds S Q E → ds.length = 1) (spec : ∀ ds S Q E, sp ds S Q E → r_sure_size T.C_NoNumber sp_is_whole (endsOf Q E) (start2 N_sure_size ds) S) : FnD P w K mg base 2 T.f_sure_size T.d_sure_size ["thing"] sp :=
  fnC T.F_sure_size sc_sure_size len (fun cdv A outer s H E hr =>
      (ss_one (s_if (t_not (t_tru (e_call D_is_whole (hr.mono (by decide)) (by rfl) T.m_is_whole T.F_is_whole.kp T.b_is_whole .nil (fun _ => .nil) (L2N.takes_of rfl rfl rfl rfl) (a_cons (e_var 0) (a_cons e_int (a_cons (e_gint (by rfl) T.c_MOST_SIZE) a_nil))))))
      (ss_one (s_raise T.e_NoNumber rfl (L2N.takes_of rfl rfl rfl rfl) T.m_NoNumber (by rfl))) ss_nil))) spec
/-! is_rack -/
abbrev N_is_rack : List Str := ["thing", "form"]
theorem sc_is_rack : FnScope N_is_rack ["thing"] (defScope st_is_rack) := ⟨rfl, rfl, rfl, by decide +kernel, rfl, by decide +kernel, by decide +kernel⟩
def r_is_rack (sp_is_whole : Sp2) : TS2 :=
    (sSeq (sIf (tOr2 (tNot2 (tTru (eCB fIsi (aCons (eVar 0) (aCons (eC (.ty "tuple")) aNil))))) (tBl (eOp opGt (eCB fLen (aCons (eVar 0) aNil)) (eC (.int 4000)))))
    (sRet (eC (.bl false))) sNext)
    (sRet (eCB fAll (aCons (eFr (lLc [1] (iSeq (eVar 0)) (gN 1) tYes2 (eCall sp_is_whole [] (aCons (eVar 1) (aCons (eC (.int 0)) (aCons (eC (.int 200)) aNil)))))) aNil))))
theorem b_is_rack (T : Tx K mg) {sp_is_whole : Sp2}  (D_is_whole : FnD P w K mg base 1 T.f_is_whole T.d_is_whole ["thing", "low", "high"] sp_is_whole) {sp : Sp2} (len : ∀ ds S Q E, sp ds S Q E → ds.length = 1) (spec : ∀ ds S Q E, sp ds S Q E → r_is_rack sp_is_whole (endsOf Q E) (start2 N_is_rack ds) S) : FnD P w K mg base 2 T.f_is_rack T.d_is_rack ["thing"] sp :=
  fnC T.F_is_rack sc_is_rack len (fun cdv A outer s H E hr =>
      (ss_cons (s_if (t_w (w_or (t_not (t_tru (e_callB c_isi (by rfl) T.n_isinstance boot_isinstance (a_cons (e_var 0) (a_cons (e_bty (by rfl) T.n_tuple boot_tuple) a_nil))))) (w_or1 (t_cmp op_gt2 (e_callB c_len (by rfl) T.n_len PySem.boot_len (a_cons (e_var 0) a_nil)) (e_gint (by rfl) T.c_MOST_FORMS) (by rfl)))))
      (ss_one (s_ret e_bl)) ss_nil)
      (ss_one (s_ret (e_callB (c_all rfl) (by rfl) T.n_all boot_all (a_cons (e_fr (l_lc [("form", 1)] rfl sc_is_rack.nd (i_seq (e_var 0)) (blkOk_by (own := [("form", 1)]) (N := N_is_rack) (sc := defScope st_is_rack) (by decide +kernel)) (fun _ _ _ _ _ => (g_name 1 sc_is_rack.nd)) (fun _ _ _ _ _ => ts_nil) (fun _ _ _ _ _ => (e_call D_is_whole (hr.mono (by decide)) (by rfl) T.m_is_whole T.F_is_whole.kp T.b_is_whole .nil (fun _ => .nil) takesF (a_cons (e_var 1) (a_cons e_int (a_cons (e_gint (by rfl) T.c_MOST_TREES) a_nil))))))) a_nil)))))) spec
/-! rack_unless -/
abbrev N_rack_unless : List Str := ["rack"]
theorem sc_rack_unless : FnScope N_rack_unless ["rack"] (defScope st_rack_unless) := ⟨rfl, rfl, rfl, by decide +kernel, rfl, by decide +kernel, by decide +kernel⟩
def r_rack_unless (C_NoRack : Addr) (sp_is_rack : Sp2) : TS2 :=
    (sIf (tNot2 (tTru (eCall sp_is_rack [] (aCons (eVar 0) aNil))))
    (sRaise C_NoRack) sNext)
theorem b_rack_unless (T : Tx K mg) {sp_is_rack : Sp2}  (D_is_rack : FnD P w K mg base 2 T.f_is_rack T.d_is_rack ["thing"] sp_is_rack) {sp : Sp2} (len : ∀ ds S Q E, sp ds S Q E → ds.length = 1) (spec : ∀ ds S Q E, sp ds S Q E → r_rack_unless T.C_NoRack sp_is_rack (endsOf Q E) (start2 N_rack_unless ds) S) : FnD P w K mg base 3 T.f_rack_unless T.d_rack_unless ["rack"] sp :=
  fnC T.F_rack_unless sc_rack_unless len (fun cdv A outer s H E hr =>
      (ss_one (s_if (t_not (t_tru (e_call D_is_rack (hr.mono (by decide)) (by rfl) T.m_is_rack T.F_is_rack.kp T.b_is_rack .nil (fun _ => .nil) (L2N.takes_of rfl rfl rfl rfl) (a_cons (e_var 0) a_nil))))
      (ss_one (s_raise T.e_NoRack rfl (L2N.takes_of rfl rfl rfl rfl) T.m_NoRack (by rfl))) ss_nil))) spec
/-! count_to -/
abbrev N_count_to : List Str := ["kind", "rack", "size", "rows", "found", "total", "form"]
theorem sc_count_to : FnScope N_count_to ["kind", "rack", "size"] (defScope st_count_to) := ⟨rfl, rfl, rfl, by decide +kernel, rfl, by decide +kernel, by decide +kernel⟩
def r_count_to (sp_row_ways : Sp2) (sp_tree_rows : Sp2) (sp_sure_size : Sp2) (sp_rack_unless : Sp2) : TS2 :=
    (sSeq (sExpr (eCall sp_rack_unless [] (aCons (eVar 1) aNil)))
    (sSeq (sExpr (eCall sp_sure_size [] (aCons (eVar 2) aNil)))
    (sSeq (sSet 3 (eCall sp_tree_rows [] (aCons (eVar 0) (aCons (eVar 2) (aCons (eCBK fMaxD (aCons (eVar 1) aNil) (aCons (eC (.int 0)) aNil)) aNil)))))
    (sSeq (sSet 4 (eC (.int 0)))
    (sSeq (sFor (iRng (aCons (eOp opAdd (eVar 2) (eC (.int 1))) aNil)) (gN 5)
    (sAug 4 (eCB fSum (aCons (eFr (lLc [6] (iSeq (eVar 1)) (gN 6) tYes2 (eCall sp_row_ways [] (aCons (eVar 3) (aCons (eVar 6) (aCons (eVar 5) aNil)))))) aNil)) opAddI))
    (sRet (eVar 4)))))))
theorem b_count_to (T : Tx K mg) {sp_row_ways : Sp2} {sp_tree_rows : Sp2} {sp_sure_size : Sp2} {sp_rack_unless : Sp2}  (D_row_ways : FnD P w K mg base 1 T.f_row_ways T.d_row_ways ["rows", "many", "total"] sp_row_ways) (D_tree_rows : FnD P w K mg base 2 T.f_tree_rows T.d_tree_rows ["kind", "most", "wide"] sp_tree_rows) (D_sure_size : FnD P w K mg base 2 T.f_sure_size T.d_sure_size ["thing"] sp_sure_size) (D_rack_unless : FnD P w K mg base 3 T.f_rack_unless T.d_rack_unless ["rack"] sp_rack_unless) {sp : Sp2} (len : ∀ ds S Q E, sp ds S Q E → ds.length = 3) (spec : ∀ ds S Q E, sp ds S Q E → r_count_to sp_row_ways sp_tree_rows sp_sure_size sp_rack_unless (endsOf Q E) (start2 N_count_to ds) S) : FnD P w K mg base 4 T.f_count_to T.d_count_to ["kind", "rack", "size"] sp :=
  fnC T.F_count_to sc_count_to len (fun cdv A outer s H E hr =>
      (ss_cons (s_expr (e_call D_rack_unless (hr.mono (by decide)) (by rfl) T.m_rack_unless T.F_rack_unless.kp T.b_rack_unless .nil (fun _ => .nil) (L2N.takes_of rfl rfl rfl rfl) (a_cons (e_var 1) a_nil)))
      (ss_cons (s_expr (e_call D_sure_size (hr.mono (by decide)) (by rfl) T.m_sure_size T.F_sure_size.kp T.b_sure_size .nil (fun _ => .nil) (L2N.takes_of rfl rfl rfl rfl) (a_cons (e_var 2) a_nil)))
      (ss_cons (s_set 3 sc_count_to.nd (e_call D_tree_rows (hr.mono (by decide)) (by rfl) T.m_tree_rows T.F_tree_rows.kp T.b_tree_rows .nil (fun _ => .nil) (L2N.takes_of rfl rfl rfl rfl) (a_cons (e_var 0) (a_cons (e_var 2) (a_cons (e_callBK (c_maxD rfl (hu64 hr)) (by rfl) T.n_max boot_max (a_cons (e_var 1) a_nil) (k_cons e_int k_nil)) a_nil)))))
      (ss_cons (s_set 4 sc_count_to.nd e_int)
      (ss_cons (s_for (vs := [5]) (passes_of rfl) rfl (i_rng (by rfl) T.n_range (a_cons (e_op op_add2 (e_var 2) e_int) a_nil)) (g_name 5 sc_count_to.nd)
      (ss_one (s_aug 4 sc_count_to.nd (e_callB (c_sum rfl) (by rfl) T.n_sum boot_sum (a_cons (e_fr (l_lc [("form", 6)] rfl sc_count_to.nd (i_seq (e_var 1)) (blkOk_by (own := [("form", 6)]) (N := N_count_to) (sc := defScope st_count_to) (by decide +kernel)) (fun _ _ _ _ _ => (g_name 6 sc_count_to.nd)) (fun _ _ _ _ _ => ts_nil) (fun _ _ _ _ _ => (e_call D_row_ways (hr.mono (by decide)) (by rfl) T.m_row_ways T.F_row_ways.kp T.b_row_ways .nil (fun _ => .nil) takesF (a_cons (e_var 3) (a_cons (e_var 6) (a_cons (e_var 5) a_nil))))))) a_nil)) ip_add2)))
      (ss_one (s_ret (e_var 4))))))))) spec
/-! _law_class -/
abbrev N__law_class : List Str := ["_law_e", "_law_some", "_law_one"]
theorem sc__law_class : FnScope N__law_class ["_law_e"] (defScope st__law_class) := ⟨rfl, rfl, rfl, by decide +kernel, rfl, by decide +kernel, by decide +kernel⟩
def r__law_class (K : PySem.W.Frag) (a0 c0 : Addr) (C_NoTrees : Addr) (C_NoNumber : Addr) (C_NoRack : Addr) : TS2 :=
    (sSeq (sSet 1 (eFr (lDisp (aCons (eCB (fIsE K a0 c0) (aCons (eVar 0) (aCons (eC (.ref C_NoRack)) aNil))) (aCons (eCB (fIsE K a0 c0) (aCons (eVar 0) (aCons (eC (.ref C_NoNumber)) aNil))) (aCons (eCB (fIsE K a0 c0) (aCons (eVar 0) (aCons (eC (.ref C_NoTrees)) aNil))) aNil))))))
    (sSeq (sIf (tOr2 (tNot2 (tTru (eCB (fIsE K a0 c0) (aCons (eVar 0) (aCons (eC (.ty "ValueError")) aNil))))) (tBl (eOp opNe (eCB fLen (aCons (eFr (lLcF 1 [2] (gN 2) (tTru (eVar 2)) (eVar 2))) aNil)) (eC (.int 1)))))
    (sRet (eC (.str "other"))) sNext)
    (sRet (eOp opIx (eFr (lDisp (aCons (eC (.str "rack")) (aCons (eC (.str "number")) (aCons (eC (.str "other")) aNil))))) (eBM "list" mIndex (eVar 1) (aCons (eC (.bl true)) aNil))))))
theorem b__law_class (T : Tx K mg)  {sp : SpE} (len : ∀ a C ds S Q E, sp a C ds S Q E → ds.length = 1) (spec : ∀ a C ds S Q E, sp a C ds S Q E → r__law_class K a C T.C_NoTrees T.C_NoNumber T.C_NoRack (endsOf Q E) (start2 N__law_class ds) S) : FnE P w K mg base 1 T.f__law_class T.d__law_class ["_law_e"] sp :=
  fnE (T := fun a0 c0 => r__law_class K a0 c0 T.C_NoTrees T.C_NoNumber T.C_NoRack) T.F__law_class sc__law_class len (fun cdv A outer s H E p c0 hot hr xc hz hf =>
      (ss_cons (s_set 1 sc__law_class.nd (e_fr (l_disp (a_cons (e_callB (c_isP (p := p) xc List.mem_cons_self hz hf) (by rfl) T.n_isinstance boot_isinstance (a_cons (e_var 0) (a_cons (e_cls (by rfl) T.m_NoRack) a_nil))) (a_cons (e_callB (c_isP (p := p) xc List.mem_cons_self hz hf) (by rfl) T.n_isinstance boot_isinstance (a_cons (e_var 0) (a_cons (e_cls (by rfl) T.m_NoNumber) a_nil))) (a_cons (e_callB (c_isP (p := p) xc List.mem_cons_self hz hf) (by rfl) T.n_isinstance boot_isinstance (a_cons (e_var 0) (a_cons (e_cls (by rfl) T.m_NoTrees) a_nil))) a_nil))))))
      (ss_cons (s_if (t_w (w_or (t_not (t_tru (e_callB (c_isP (p := p) xc List.mem_cons_self hz hf) (by rfl) T.n_isinstance boot_isinstance (a_cons (e_var 0) (a_cons (e_bty (by rfl) T.n_ValueError boot_ValueError) a_nil))))) (w_or1 (t_cmp (op_ne2 (hu64H hr)) (e_callB c_len (by rfl) T.n_len PySem.boot_len (a_cons (e_fr (l_lcH (p := p) hot List.mem_cons_self 1 [("_law_one", 2)] sc__law_class.nd (blkOk_by (own := [("_law_one", 2)]) (N := N__law_class) (sc := defScope st__law_class) (by decide +kernel)) (fun _ _ _ _ _ => (g_name 2 sc__law_class.nd)) (fun _ _ _ _ _ => (ts_one (t_tru (e_var 2)))) (fun _ _ _ _ _ => (e_var 2)))) a_nil)) e_int (by rfl)))))
      (ss_one (s_ret e_str)) ss_nil)
      (ss_one (s_ret (e_ix ix2 (e_fr (l_disp (a_cons e_str (a_cons e_str (a_cons e_str a_nil))))) (e_bm PySem.F.plainAttrs_list PySem.F.slot_list_index PySem.F.type_list_index m_index (e_var 1) (a_cons e_bl a_nil)))))))) spec
/-! _law_word -/
abbrev N__law_word : List Str := ["_law_trade", "_law_shelf", "_law_great", "_law_e"]
theorem sc__law_word : FnScope N__law_word ["_law_trade", "_law_shelf", "_law_great"] (defScope st__law_word) := ⟨rfl, rfl, rfl, by decide +kernel, rfl, by decide +kernel, by decide +kernel⟩
def r__law_word (K : PySem.W.Frag) (C_SwapError : Addr) (sp_count_to : Sp2) (sp__law_class : SpE) : TS2 :=
    (sSeq (sTryN K (.ref C_SwapError) 3 (sExpr (eCall sp_count_to [] (aCons (eVar 0) (aCons (eVar 1) (aCons (eVar 2) aNil)))))
    (fun a cls d => (sRet (eCallE K sp__law_class a cls d (aCons (eVar 3) aNil)))))
    (sRet (eC (.str "told"))))
theorem b__law_word (T : Tx K mg) {sp_count_to : Sp2} {sp__law_class : SpE}  (D_count_to : FnD P w K mg base 4 T.f_count_to T.d_count_to ["kind", "rack", "size"] sp_count_to) (D__law_class : FnE P w K mg base 1 T.f__law_class T.d__law_class ["_law_e"] sp__law_class) {sp : Sp2} (len : ∀ ds S Q E, sp ds S Q E → ds.length = 3) (spec : ∀ ds S Q E, sp ds S Q E → r__law_word K T.C_SwapError sp_count_to sp__law_class (endsOf Q E) (start2 N__law_word ds) S) : FnD P w K mg base 5 T.f__law_word T.d__law_word ["_law_trade", "_law_shelf", "_law_great"] sp :=
  fnC T.F__law_word sc__law_word len (fun cdv A outer s H E hr =>
      (ss_cons (s_tryN 3 rfl rfl sc__law_word.nd ⟨by rfl, by decide +kernel, .inl T.m_SwapError⟩ (L2N.takes_of rfl rfl rfl rfl) (fun W pn xe tk po => (ss_one (s_expr (e_call D_count_to (hr.mono (by decide)) (by rfl) T.m_count_to T.F_count_to.kp T.b_count_to .nil (fun _ => .nil) tk (a_cons (e_var 0) (a_cons (e_var 1) (a_cons (e_var 2) a_nil)))))))
      (fun a oe cls d pn hz hf => (ss_one (s_ret (e_callE D__law_class (room_suite (hr.mono (by decide))) (hot_suite hz hf) List.mem_cons_self hz.zc (by rfl) T.m__law_class T.F__law_class.kp T.b__law_class takesF (a_cons (e_var 3) a_nil))))))
      (ss_one (s_ret e_str)))) spec
/-! _law_draw -/
abbrev N__law_draw : List Str := ["_law_well_here", "_law_many", "_law_found", "_law_one"]
theorem sc__law_draw : FnScope N__law_draw ["_law_well_here", "_law_many"] (defScope st__law_draw) := ⟨rfl, rfl, rfl, by decide +kernel, rfl, by decide +kernel, by decide +kernel⟩
def r__law_draw : TS2 :=
    (sSeq (sIf (tBl (eOp opGt (eOp opIx (eVar 0) (eC (.int 0))) (eC (.int 0))))
    (sSeq (sAsg (eCB fDivmod (aCons (eOp opIx (eVar 0) (eC (.int 0))) (aCons (eVar 1) aNil))) (gTup2 2 (gsCons (gSub2 (eVar 0) (eC (.int 0)) setL) (gsCons (gN 2) gsNil))))
    (sRet (eVar 2))) sNext)
    (sSeq (sAsg (eOp opAdd (eOp opIx (eVar 0) (eC (.int 2))) (eC (.int 1))) (gSub2 (eVar 0) (eC (.int 2)) setL))
    (sSeq (sSet 3 (eOp opMod (eOp opAdd (eOp opAdd (eOp opMul (eOp opIx (eVar 0) (eC (.int 1))) (eOp opAdd (eOp opMul (eC (.int 2)) (eOp opIx (eVar 0) (eC (.int 2)))) (eC (.int 1)))) (eOp opMul (eC (.int 104729)) (eOp opIx (eVar 0) (eC (.int 2))))) (eC (.int 17))) (eC (.int 2147483629))))
    (sSeq (sSet 3 (eOp opMod (eOp opPow (eVar 3) (eC (.int 5))) (eC (.int 2147483587))))
    (sSeq (sSet 3 (eOp opMod (eOp opMul (eVar 3) (eOp opAdd (eOp opDiv (eVar 3) (eC (.int 1301))) (eC (.int 50021)))) (eC (.int 2147483647))))
    (sRet (eOp opMod (eOp opDiv (eVar 3) (eC (.int 7))) (eVar 1))))))))
theorem b__law_draw (T : Tx K mg)  {sp : Sp2} (len : ∀ ds S Q E, sp ds S Q E → ds.length = 2) (spec : ∀ ds S Q E, sp ds S Q E → r__law_draw (endsOf Q E) (start2 N__law_draw ds) S) : FnD P w K mg base 1 T.f__law_draw T.d__law_draw ["_law_well_here", "_law_many"] sp :=
  fnC T.F__law_draw sc__law_draw len (fun cdv A outer s H E hr =>
      (ss_cons (s_if (t_cmp op_gt2 (e_ix ix2 (e_var 0) e_int) e_int (by rfl))
      (ss_cons (s_asg (vs := [2]) (e_callB c_divmod (by rfl) T.n_divmod boot_divmod (a_cons (e_ix ix2 (e_var 0) e_int) (a_cons (e_var 1) a_nil))) (g_tup rfl (gs_cons (g_sub (e_var 0) e_int set2) (gs_cons (g_name 2 sc__law_draw.nd) gs_nil))))
      (ss_one (s_ret (e_var 2)))) ss_nil)
      (ss_cons (s_asg (vs := []) (e_op op_add2 (e_ix ix2 (e_var 0) e_int) e_int) (g_sub (e_var 0) e_int set2))
      (ss_cons (s_set 3 sc__law_draw.nd (e_op op_mod2 (e_op op_add2 (e_op op_add2 (e_op op_mul2 (e_ix ix2 (e_var 0) e_int) (e_op op_add2 (e_op op_mul2 e_int (e_ix ix2 (e_var 0) e_int)) e_int)) (e_op op_mul2 e_int (e_ix ix2 (e_var 0) e_int))) e_int) e_int))
      (ss_cons (s_set 3 sc__law_draw.nd (e_op op_mod2 (e_op op_pow2 (e_var 3) e_int) e_int))
      (ss_cons (s_set 3 sc__law_draw.nd (e_op op_mod2 (e_op op_mul2 (e_var 3) (e_op op_add2 (e_op op_div2 (e_var 3) e_int) e_int)) e_int))
      (ss_one (s_ret (e_op op_mod2 (e_op op_div2 (e_var 3) e_int) (e_var 1)))))))))) spec
/-! _law_refusals_right -/
abbrev N__law_refusals_right : List Str := ["_law_well_here", "_law_trade", "_law_shelf", "_law_odd", "_law_bad", "_law_found"]
theorem sc__law_refusals_right : FnScope N__law_refusals_right ["_law_well_here", "_law_trade", "_law_shelf"] (defScope st__law_refusals_right) := ⟨rfl, rfl, rfl, by decide +kernel, rfl, by decide +kernel, by decide +kernel⟩
def r__law_refusals_right (sp__law_word : Sp2) (sp__law_draw : Sp2) : TS2 :=
    (sSeq (sSet 3 (eOp opIx (eFr (lDisp (aCons (eFr (lDisp (aCons (eC (.int 1)) aNil))) (aCons (eTup (aCons (eC (.int 1)) (aCons (eNeg (eC (.int 1))) aNil))) (aCons (eTup (aCons (eC (.int 201)) aNil)) (aCons (eTup (aCons (eC (.bl true)) aNil)) (aCons (eC .non) (aCons (eC (.str "1")) (aCons (eTup (aCons (eC (.int 1)) (aCons (eC .non) aNil))) (aCons (eTup (aCons (eTup (aCons (eC (.int 1)) aNil)) aNil)) aNil)))))))))) (eCall sp__law_draw [] (aCons (eVar 0) (aCons (eC (.int 8)) aNil)))))
    (sSeq (sSet 4 (eOp opIx (eFr (lDisp (aCons (eNeg (eC (.int 1))) (aCons (eC (.int 61)) (aCons (eC (.bl true)) (aCons (eC .non) (aCons (eC (.str "2")) (aCons (eTup (aCons (eC (.int 1)) aNil)) (aCons (eFr (lDisp (aCons (eC (.int 0)) aNil))) (aCons (eOp opPow (eC (.int 10)) (eC (.int 50))) aNil)))))))))) (eCall sp__law_draw [] (aCons (eVar 0) (aCons (eC (.int 8)) aNil)))))
    (sSeq (sSet 5 (eFr (lDisp (aCons (eCall sp__law_word [] (aCons (eVar 1) (aCons (eVar 3) (aCons (eC (.int 3)) aNil)))) (aCons (eCall sp__law_word [] (aCons (eVar 1) (aCons (eVar 3) (aCons (eVar 4) aNil)))) (aCons (eCall sp__law_word [] (aCons (eVar 1) (aCons (eVar 2) (aCons (eVar 4) aNil)))) aNil))))))
    (sRet (eOp opEq (eVar 5) (eFr (lDisp (aCons (eC (.str "rack")) (aCons (eC (.str "rack")) (aCons (eC (.str "number")) aNil))))))))))
theorem b__law_refusals_right (T : Tx K mg) {sp__law_word : Sp2} {sp__law_draw : Sp2}  (D__law_word : FnD P w K mg base 5 T.f__law_word T.d__law_word ["_law_trade", "_law_shelf", "_law_great"] sp__law_word) (D__law_draw : FnD P w K mg base 1 T.f__law_draw T.d__law_draw ["_law_well_here", "_law_many"] sp__law_draw) {sp : Sp2} (len : ∀ ds S Q E, sp ds S Q E → ds.length = 3) (spec : ∀ ds S Q E, sp ds S Q E → r__law_refusals_right sp__law_word sp__law_draw (endsOf Q E) (start2 N__law_refusals_right ds) S) : FnD P w K mg base 6 T.f__law_refusals_right T.d__law_refusals_right ["_law_well_here", "_law_trade", "_law_shelf"] sp :=
  fnC T.F__law_refusals_right sc__law_refusals_right len (fun cdv A outer s H E hr =>
      (ss_cons (s_set 3 sc__law_refusals_right.nd (e_ix ix2 (e_fr (l_disp (a_cons (e_fr (l_disp (a_cons e_int a_nil))) (a_cons (e_tup (a_cons e_int (a_cons (e_neg e_int) a_nil))) (a_cons (e_tup (a_cons e_int a_nil)) (a_cons (e_tup (a_cons e_bl a_nil)) (a_cons e_non (a_cons e_str (a_cons (e_tup (a_cons e_int (a_cons e_non a_nil))) (a_cons (e_tup (a_cons (e_tup (a_cons e_int a_nil)) a_nil)) a_nil)))))))))) (e_call D__law_draw (hr.mono (by decide)) (by rfl) T.m__law_draw T.F__law_draw.kp T.b__law_draw .nil (fun _ => .nil) (L2N.takes_of rfl rfl rfl rfl) (a_cons (e_var 0) (a_cons e_int a_nil)))))
      (ss_cons (s_set 4 sc__law_refusals_right.nd (e_ix ix2 (e_fr (l_disp (a_cons (e_neg e_int) (a_cons e_int (a_cons e_bl (a_cons e_non (a_cons e_str (a_cons (e_tup (a_cons e_int a_nil)) (a_cons (e_fr (l_disp (a_cons e_int a_nil))) (a_cons (e_op op_pow2 e_int e_int) a_nil)))))))))) (e_call D__law_draw (hr.mono (by decide)) (by rfl) T.m__law_draw T.F__law_draw.kp T.b__law_draw .nil (fun _ => .nil) (L2N.takes_of rfl rfl rfl rfl) (a_cons (e_var 0) (a_cons e_int a_nil)))))
      (ss_cons (s_set 5 sc__law_refusals_right.nd (e_fr (l_disp (a_cons (e_call D__law_word (hr.mono (by decide)) (by rfl) T.m__law_word T.F__law_word.kp T.b__law_word .nil (fun _ => .nil) (L2N.takes_of rfl rfl rfl rfl) (a_cons (e_var 1) (a_cons (e_var 3) (a_cons e_int a_nil)))) (a_cons (e_call D__law_word (hr.mono (by decide)) (by rfl) T.m__law_word T.F__law_word.kp T.b__law_word .nil (fun _ => .nil) (L2N.takes_of rfl rfl rfl rfl) (a_cons (e_var 1) (a_cons (e_var 3) (a_cons (e_var 4) a_nil)))) (a_cons (e_call D__law_word (hr.mono (by decide)) (by rfl) T.m__law_word T.F__law_word.kp T.b__law_word .nil (fun _ => .nil) (L2N.takes_of rfl rfl rfl rfl) (a_cons (e_var 1) (a_cons (e_var 2) (a_cons (e_var 4) a_nil)))) a_nil))))))
      (ss_one (s_ret (e_cmp (op_eq2 (hu64 hr)) (e_var 5) (e_fr (l_disp (a_cons e_str (a_cons e_str (a_cons e_str a_nil))))) (by rfl)))))))) spec
/-! sure_small -/
abbrev N_sure_small : List Str := ["rack"]
theorem sc_sure_small : FnScope N_sure_small ["rack"] (defScope st_sure_small) := ⟨rfl, rfl, rfl, by decide +kernel, rfl, by decide +kernel, by decide +kernel⟩
def r_sure_small (sp_is_rack : Sp2) : TS2 :=
    (sIf (tNot2 (tTru (eCall sp_is_rack [] (aCons (eVar 0) aNil))))
    sNever sNext)
theorem b_sure_small (T : Tx K mg) {sp_is_rack : Sp2}  (D_is_rack : FnD P w K mg base 2 T.f_is_rack T.d_is_rack ["thing"] sp_is_rack) {sp : Sp2} (len : ∀ ds S Q E, sp ds S Q E → ds.length = 1) (spec : ∀ ds S Q E, sp ds S Q E → r_sure_small sp_is_rack (endsOf Q E) (start2 N_sure_small ds) S) : FnD P w K mg base 3 T.f_sure_small T.d_sure_small ["rack"] sp :=
  fnC T.F_sure_small sc_sure_small len (fun cdv A outer s H E hr =>
      (ss_one (s_if (t_not (t_tru (e_call D_is_rack (hr.mono (by decide)) (by rfl) T.m_is_rack T.F_is_rack.kp T.b_is_rack .nil (fun _ => .nil) (L2N.takes_of rfl rfl rfl rfl) (a_cons (e_var 0) a_nil))))
      (ss_one s_never) ss_nil))) spec
/-! sure_rack -/
abbrev N_sure_rack : List Str := ["thing"]
theorem sc_sure_rack : FnScope N_sure_rack ["thing"] (defScope st_sure_rack) := ⟨rfl, rfl, rfl, by decide +kernel, rfl, by decide +kernel, by decide +kernel⟩
def r_sure_rack (C_NoRack : Addr) (sp_is_rack : Sp2) : TS2 :=
    (sIf (tNot2 (tTru (eCall sp_is_rack [] (aCons (eVar 0) aNil))))
    (sRaise C_NoRack) sNext)
theorem b_sure_rack (T : Tx K mg) {sp_is_rack : Sp2}  (D_is_rack : FnD P w K mg base 2 T.f_is_rack T.d_is_rack ["thing"] sp_is_rack) {sp : Sp2} (len : ∀ ds S Q E, sp ds S Q E → ds.length = 1) (spec : ∀ ds S Q E, sp ds S Q E → r_sure_rack T.C_NoRack sp_is_rack (endsOf Q E) (start2 N_sure_rack ds) S) : FnD P w K mg base 3 T.f_sure_rack T.d_sure_rack ["thing"] sp :=
  fnC T.F_sure_rack sc_sure_rack len (fun cdv A outer s H E hr =>
      (ss_one (s_if (t_not (t_tru (e_call D_is_rack (hr.mono (by decide)) (by rfl) T.m_is_rack T.F_is_rack.kp T.b_is_rack .nil (fun _ => .nil) (L2N.takes_of rfl rfl rfl rfl) (a_cons (e_var 0) a_nil))))
      (ss_one (s_raise T.e_NoRack rfl (L2N.takes_of rfl rfl rfl rfl) T.m_NoRack (by rfl))) ss_nil))) spec
/-! put_beside -/
abbrev N_put_beside : List Str := ["one", "two"]
theorem sc_put_beside : FnScope N_put_beside ["one", "two"] (defScope st_put_beside) := ⟨rfl, rfl, rfl, by decide +kernel, rfl, by decide +kernel, by decide +kernel⟩
def r_put_beside (sp_sure_small : Sp2) (sp_sure_rack : Sp2) : TS2 :=
    (sSeq (sExpr (eCall sp_sure_rack [] (aCons (eVar 0) aNil)))
    (sSeq (sExpr (eCall sp_sure_rack [] (aCons (eVar 1) aNil)))
    (sSeq (sExpr (eCall sp_sure_small [] (aCons (eOp opAdd (eVar 0) (eVar 1)) aNil)))
    (sRet (eOp opAdd (eVar 0) (eVar 1))))))
theorem b_put_beside (T : Tx K mg) {sp_sure_small : Sp2} {sp_sure_rack : Sp2}  (D_sure_small : FnD P w K mg base 3 T.f_sure_small T.d_sure_small ["rack"] sp_sure_small) (D_sure_rack : FnD P w K mg base 3 T.f_sure_rack T.d_sure_rack ["thing"] sp_sure_rack) {sp : Sp2} (len : ∀ ds S Q E, sp ds S Q E → ds.length = 2) (spec : ∀ ds S Q E, sp ds S Q E → r_put_beside sp_sure_small sp_sure_rack (endsOf Q E) (start2 N_put_beside ds) S) : FnD P w K mg base 4 T.f_put_beside T.d_put_beside ["one", "two"] sp :=
  fnC T.F_put_beside sc_put_beside len (fun cdv A outer s H E hr =>
      (ss_cons (s_expr (e_call D_sure_rack (hr.mono (by decide)) (by rfl) T.m_sure_rack T.F_sure_rack.kp T.b_sure_rack .nil (fun _ => .nil) (L2N.takes_of rfl rfl rfl rfl) (a_cons (e_var 0) a_nil)))
      (ss_cons (s_expr (e_call D_sure_rack (hr.mono (by decide)) (by rfl) T.m_sure_rack T.F_sure_rack.kp T.b_sure_rack .nil (fun _ => .nil) (L2N.takes_of rfl rfl rfl rfl) (a_cons (e_var 1) a_nil)))
      (ss_cons (s_expr (e_call D_sure_small (hr.mono (by decide)) (by rfl) T.m_sure_small T.F_sure_small.kp T.b_sure_small .nil (fun _ => .nil) (L2N.takes_of rfl rfl rfl rfl) (a_cons (e_op op_add2 (e_var 0) (e_var 1)) a_nil)))
      (ss_one (s_ret (e_op op_add2 (e_var 0) (e_var 1)))))))) spec
/-! _law_times -/
abbrev N__law_times : List Str := ["_law_one", "_law_two", "_law_found", "_law_k", "_law_number", "_law_j"]
theorem sc__law_times : FnScope N__law_times ["_law_one", "_law_two"] (defScope st__law_times) := ⟨rfl, rfl, rfl, by decide +kernel, rfl, by decide +kernel, by decide +kernel⟩
def r__law_times : TS2 :=
    (sSeq (sSet 2 (eMu (lRep (lDisp (aCons (eC (.int 0)) aNil)) (eCB fLen (aCons (eVar 0) aNil)))))
    (sSeq (sFor (iEnum2 (aCons (eVar 0) aNil)) (gTup2 2 (gsCons (gN 3) (gsCons (gN 4) gsNil)))
    (sIf (tBl (eOp opGt (eVar 4) (eC (.int 0))))
    (sFor (iRng (aCons (eOp opSub (eCB fLen (aCons (eVar 0) aNil)) (eVar 3)) aNil)) (gN 5)
    (sAsg (eOp opAdd (eOp opIx (eVar 2) (eOp opAdd (eVar 3) (eVar 5))) (eOp opMul (eVar 4) (eOp opIx (eVar 1) (eVar 5)))) (gSub2 (eVar 2) (eOp opAdd (eVar 3) (eVar 5)) setL))) sNext))
    (sRetZ (eVar 2))))
theorem b__law_times (T : Tx K mg)  {sp : Sp2} (len : ∀ ds S Q E, sp ds S Q E → ds.length = 2) (spec : ∀ ds S Q E, sp ds S Q E → r__law_times (endsOf Q E) (start2 N__law_times ds) S) : FnD P w K mg base 1 T.f__law_times T.d__law_times ["_law_one", "_law_two"] sp :=
  fnC T.F__law_times sc__law_times len (fun cdv A outer s H E hr =>
      (ss_cons (s_set 2 sc__law_times.nd (e_mu (l_rep (l_disp (a_cons e_int a_nil)) (e_callB c_len (by rfl) T.n_len PySem.boot_len (a_cons (e_var 0) a_nil)))))
      (ss_cons (s_for (vs := [3, 4]) (passes_of rfl) rfl (i_enum (by rfl) T.n_enumerate (a_cons (e_var 0) a_nil)) (g_tup rfl (gs_cons (g_name 3 sc__law_times.nd) (gs_cons (g_name 4 sc__law_times.nd) gs_nil)))
      (ss_one (s_if (t_cmp op_gt2 (e_var 4) e_int (by rfl))
      (ss_one (s_for (vs := [5]) (passes_of rfl) rfl (i_rng (by rfl) T.n_range (a_cons (e_op op_sub2 (e_callB c_len (by rfl) T.n_len PySem.boot_len (a_cons (e_var 0) a_nil)) (e_var 3)) a_nil)) (g_name 5 sc__law_times.nd)
      (ss_one (s_asg (vs := []) (e_op op_add2 (e_ix ix2 (e_var 2) (e_op op_add2 (e_var 3) (e_var 5))) (e_op op_mul2 (e_var 4) (e_ix ix2 (e_var 1) (e_var 5)))) (g_sub (e_var 2) (e_op op_add2 (e_var 3) (e_var 5)) set2))))) ss_nil)))
      (ss_one (s_retZ (e_var 2)))))) spec
/-! _law_rows -/
abbrev N__law_rows : List Str := ["_law_numbers", "_law_great", "_law_rows_here", "_law_total", "_law_many", "_law_found", "_law_k", "_law_number"]
theorem sc__law_rows : FnScope N__law_rows ["_law_numbers", "_law_great"] (defScope st__law_rows) := ⟨rfl, rfl, rfl, by decide +kernel, rfl, by decide +kernel, by decide +kernel⟩
def r__law_rows : TS2 :=
    (sSeq (sSet 2 (eMu (lOp lCat (eFr (lDisp (aCons (eMu (lOp lCat (eFr (lDisp (aCons (eC (.int 1)) aNil))) (eFr (lRep (lDisp (aCons (eC (.int 0)) aNil)) (eVar 1))))) aNil))) (eFr (lLc [6] (iRng (aCons (eC (.int 4)) aNil)) (gN 6) tYes2 (eMu (lRep (lDisp (aCons (eC (.int 0)) aNil)) (eOp opAdd (eVar 1) (eC (.int 1))))))))))
    (sSeq (sFor (iRngB (aCons (eC (.int 1)) (aCons (eOp opAdd (eVar 1) (eC (.int 1))) aNil))) (gN 3)
    (sSeq (sAsg (eCB fSum (aCons (eFr (lLc [7] (iSeq (eVar 0)) (gN 7) tYes2 (eOp opIx (eOp opIx (eVar 2) (eVar 7)) (eOp opSub (eVar 3) (eC (.int 1)))))) aNil)) (gSub2 (eOp opIx (eVar 2) (eC (.int 1))) (eVar 3) setL))
    (sFor (iSeq (eFr (lDisp (aCons (eC (.int 2)) (aCons (eC (.int 3)) (aCons (eC (.int 4)) aNil)))))) (gN 4)
    (sSeq (sSet 5 (eC (.int 0)))
    (sSeq (sFor (iRngB (aCons (eC (.int 1)) (aCons (eOp opAdd (eVar 3) (eC (.int 1))) aNil))) (gN 6)
    (sSet 5 (eOp opAdd (eVar 5) (eOp opMul (eOp opIx (eOp opIx (eVar 2) (eC (.int 1))) (eVar 6)) (eOp opIx (eOp opIx (eVar 2) (eOp opSub (eVar 4) (eC (.int 1)))) (eOp opSub (eVar 3) (eVar 6)))))))
    (sAsg (eVar 5) (gSub2 (eOp opIx (eVar 2) (eVar 4)) (eVar 3) setL)))))))
    (sRetZZ (eVar 2))))
theorem b__law_rows (T : Tx K mg)  {sp : Sp2} (len : ∀ ds S Q E, sp ds S Q E → ds.length = 2) (spec : ∀ ds S Q E, sp ds S Q E → r__law_rows (endsOf Q E) (start2 N__law_rows ds) S) : FnD P w K mg base 1 T.f__law_rows T.d__law_rows ["_law_numbers", "_law_great"] sp :=
  fnC T.F__law_rows sc__law_rows len (fun cdv A outer s H E hr =>
      (ss_cons (s_set 2 sc__law_rows.nd (e_mu (l_op l_cat2 (e_fr (l_disp (a_cons (e_mu (l_op l_cat2 (e_fr (l_disp (a_cons e_int a_nil))) (e_fr (l_rep (l_disp (a_cons e_int a_nil)) (e_var 1))))) a_nil))) (e_fr (l_lc [("_law_k", 6)] rfl sc__law_rows.nd (i_rng (by rfl) T.n_range (a_cons e_int a_nil)) (blkOk_by (own := [("_law_k", 6)]) (N := N__law_rows) (sc := defScope st__law_rows) (by decide +kernel)) (fun _ _ _ _ _ => (g_name 6 sc__law_rows.nd)) (fun _ _ _ _ _ => ts_nil) (fun _ _ _ _ _ => (e_mu (l_rep (l_disp (a_cons e_int a_nil)) (e_op op_add2 (e_var 1) e_int)))))))))
      (ss_cons (s_for (vs := [3]) (passes_of rfl) rfl (i_rng2 (by rfl) T.n_range (a_cons e_int (a_cons (e_op op_add2 (e_var 1) e_int) a_nil))) (g_name 3 sc__law_rows.nd)
      (ss_cons (s_asg (vs := []) (e_callB (c_sum rfl) (by rfl) T.n_sum boot_sum (a_cons (e_fr (l_lc [("_law_number", 7)] rfl sc__law_rows.nd (i_seq (e_var 0)) (blkOk_by (own := [("_law_number", 7)]) (N := N__law_rows) (sc := defScope st__law_rows) (by decide +kernel)) (fun _ _ _ _ _ => (g_name 7 sc__law_rows.nd)) (fun _ _ _ _ _ => ts_nil) (fun _ _ _ _ _ => (e_ix ix2 (e_ix ix2 (e_var 2) (e_var 7)) (e_op op_sub2 (e_var 3) e_int))))) a_nil)) (g_sub (e_ix ix2 (e_var 2) e_int) (e_var 3) set2))
      (ss_one (s_for (vs := [4]) (passes_of rfl) rfl (i_seq (e_fr (l_disp (a_cons e_int (a_cons e_int (a_cons e_int a_nil)))))) (g_name 4 sc__law_rows.nd)
      (ss_cons (s_set 5 sc__law_rows.nd e_int)
      (ss_cons (s_for (vs := [6]) (passes_of rfl) rfl (i_rng2 (by rfl) T.n_range (a_cons e_int (a_cons (e_op op_add2 (e_var 3) e_int) a_nil))) (g_name 6 sc__law_rows.nd)
      (ss_one (s_set 5 sc__law_rows.nd (e_op op_add2 (e_var 5) (e_op op_mul2 (e_ix ix2 (e_ix ix2 (e_var 2) e_int) (e_var 6)) (e_ix ix2 (e_ix ix2 (e_var 2) (e_op op_sub2 (e_var 4) e_int)) (e_op op_sub2 (e_var 3) (e_var 6))))))))
      (ss_one (s_asg (vs := []) (e_var 5) (g_sub (e_ix ix2 (e_var 2) (e_var 4)) (e_var 3) set2)))))))))
      (ss_one (s_retZZ (e_var 2)))))) spec
/-! _law_due -/
abbrev N__law_due : List Str := ["_law_numbers", "_law_shelf", "_law_great", "_law_rows_here", "_law_found", "_law_form", "_law_counts", "_law_k"]
theorem sc__law_due : FnScope N__law_due ["_law_numbers", "_law_shelf", "_law_great"] (defScope st__law_due) := ⟨rfl, rfl, rfl, by decide +kernel, rfl, by decide +kernel, by decide +kernel⟩
def r__law_due (sp__law_times : Sp2) (sp__law_rows : Sp2) : TS2 :=
    (sSeq (sSet 3 (eCall sp__law_rows [] (aCons (eVar 0) (aCons (eVar 2) aNil))))
    (sSeq (sSet 4 (eC (.int 0)))
    (sSeq (sFor (iSeq (eVar 1)) (gN 5)
    (sSeq (sSet 6 (eOp opIx (eVar 3) (eC (.int 0))))
    (sSeq (sFor (iRng (aCons (eCB fMin2 (aCons (eVar 5) (aCons (eOp opAdd (eVar 2) (eC (.int 1))) aNil))) aNil)) (gN 7)
    (sSet 6 (eCall sp__law_times [] (aCons (eOp opIx (eVar 3) (eC (.int 1))) (aCons (eVar 6) aNil)))))
    (sSet 4 (eOp opAdd (eVar 4) (eCB fSum (aCons (eVar 6) aNil)))))))
    (sRet (eVar 4)))))
theorem b__law_due (T : Tx K mg) {sp__law_times : Sp2} {sp__law_rows : Sp2}  (D__law_times : FnD P w K mg base 1 T.f__law_times T.d__law_times ["_law_one", "_law_two"] sp__law_times) (D__law_rows : FnD P w K mg base 1 T.f__law_rows T.d__law_rows ["_law_numbers", "_law_great"] sp__law_rows) {sp : Sp2} (len : ∀ ds S Q E, sp ds S Q E → ds.length = 3) (spec : ∀ ds S Q E, sp ds S Q E → r__law_due sp__law_times sp__law_rows (endsOf Q E) (start2 N__law_due ds) S) : FnD P w K mg base 2 T.f__law_due T.d__law_due ["_law_numbers", "_law_shelf", "_law_great"] sp :=
  fnC T.F__law_due sc__law_due len (fun cdv A outer s H E hr =>
      (ss_cons (s_set 3 sc__law_due.nd (e_call D__law_rows (hr.mono (by decide)) (by rfl) T.m__law_rows T.F__law_rows.kp T.b__law_rows .nil (fun _ => .nil) (L2N.takes_of rfl rfl rfl rfl) (a_cons (e_var 0) (a_cons (e_var 2) a_nil))))
      (ss_cons (s_set 4 sc__law_due.nd e_int)
      (ss_cons (s_for (vs := [5]) (passes_of rfl) rfl (i_seq (e_var 1)) (g_name 5 sc__law_due.nd)
      (ss_cons (s_set 6 sc__law_due.nd (e_ix ix2 (e_var 3) e_int))
      (ss_cons (s_for (vs := [7]) (passes_of rfl) rfl (i_rng (by rfl) T.n_range (a_cons (e_callB (c_min2 rfl) (by rfl) T.n_min boot_min (a_cons (e_var 5) (a_cons (e_op op_add2 (e_var 2) e_int) a_nil))) a_nil)) (g_name 7 sc__law_due.nd)
      (ss_one (s_set 6 sc__law_due.nd (e_call D__law_times (hr.mono (by decide)) (by rfl) T.m__law_times T.F__law_times.kp T.b__law_times .nil (fun _ => .nil) (L2N.takes_of rfl rfl rfl rfl) (a_cons (e_ix ix2 (e_var 3) e_int) (a_cons (e_var 6) a_nil))))))
      (ss_one (s_set 4 sc__law_due.nd (e_op op_add2 (e_var 4) (e_callB (c_sum rfl) (by rfl) T.n_sum boot_sum (a_cons (e_var 6) a_nil))))))))
      (ss_one (s_ret (e_var 4))))))) spec
/-! _law_rack -/
abbrev N__law_rack : List Str := ["_law_well_here", "_law_few", "_law_high", "_law_k"]
theorem sc__law_rack : FnScope N__law_rack ["_law_well_here", "_law_few", "_law_high"] (defScope st__law_rack) := ⟨rfl, rfl, rfl, by decide +kernel, rfl, by decide +kernel, by decide +kernel⟩
def r__law_rack (sp__law_draw : Sp2) : TS2 :=
    (sRet (eCB fTuple (aCons (eFr (lLc [3] (iRng (aCons (eCall sp__law_draw [] (aCons (eVar 0) (aCons (eOp opAdd (eVar 1) (eC (.int 1))) aNil))) aNil)) (gN 3) tYes2 (eCall sp__law_draw [] (aCons (eVar 0) (aCons (eOp opAdd (eVar 2) (eC (.int 1))) aNil))))) aNil)))
theorem b__law_rack (T : Tx K mg) {sp__law_draw : Sp2}  (D__law_draw : FnD P w K mg base 1 T.f__law_draw T.d__law_draw ["_law_well_here", "_law_many"] sp__law_draw) {sp : Sp2} (len : ∀ ds S Q E, sp ds S Q E → ds.length = 3) (spec : ∀ ds S Q E, sp ds S Q E → r__law_rack sp__law_draw (endsOf Q E) (start2 N__law_rack ds) S) : FnD P w K mg base 2 T.f__law_rack T.d__law_rack ["_law_well_here", "_law_few", "_law_high"] sp :=
  fnC T.F__law_rack sc__law_rack len (fun cdv A outer s H E hr =>
      (ss_one (s_ret (e_callTy c_tuple (by rfl) T.n_tuple boot_tuple (a_cons (e_fr (l_lc [("_law_k", 3)] rfl sc__law_rack.nd (i_rng (by rfl) T.n_range (a_cons (e_call D__law_draw (hr.mono (by decide)) (by rfl) T.m__law_draw T.F__law_draw.kp T.b__law_draw .nil (fun _ => .nil) (L2N.takes_of rfl rfl rfl rfl) (a_cons (e_var 0) (a_cons (e_op op_add2 (e_var 1) e_int) a_nil))) a_nil)) (blkOk_by (own := [("_law_k", 3)]) (N := N__law_rack) (sc := defScope st__law_rack) (by decide +kernel)) (fun _ _ _ _ _ => (g_name 3 sc__law_rack.nd)) (fun _ _ _ _ _ => ts_nil) (fun _ _ _ _ _ => (e_call D__law_draw (hr.mono (by decide)) (by rfl) T.m__law_draw T.F__law_draw.kp T.b__law_draw .nil (fun _ => .nil) takesF (a_cons (e_var 0) (a_cons (e_op op_add2 (e_var 2) e_int) a_nil)))))) a_nil))))) spec
/-! rack_rows -/
abbrev N_rack_rows : List Str := ["kind", "rack", "size"]
theorem sc_rack_rows : FnScope N_rack_rows ["kind", "rack", "size"] (defScope st_rack_rows) := ⟨rfl, rfl, rfl, by decide +kernel, rfl, by decide +kernel, by decide +kernel⟩
def r_rack_rows (sp_tree_rows : Sp2) : TS2 :=
    (sRet (eCall sp_tree_rows [] (aCons (eVar 0) (aCons (eVar 2) (aCons (eCBK fMaxD (aCons (eVar 1) aNil) (aCons (eC (.int 0)) aNil)) aNil)))))
theorem b_rack_rows (T : Tx K mg) {sp_tree_rows : Sp2}  (D_tree_rows : FnD P w K mg base 2 T.f_tree_rows T.d_tree_rows ["kind", "most", "wide"] sp_tree_rows) {sp : Sp2} (len : ∀ ds S Q E, sp ds S Q E → ds.length = 3) (spec : ∀ ds S Q E, sp ds S Q E → r_rack_rows sp_tree_rows (endsOf Q E) (start2 N_rack_rows ds) S) : FnD P w K mg base 3 T.f_rack_rows T.d_rack_rows ["kind", "rack", "size"] sp :=
  fnC T.F_rack_rows sc_rack_rows len (fun cdv A outer s H E hr =>
      (ss_one (s_ret (e_call D_tree_rows (hr.mono (by decide)) (by rfl) T.m_tree_rows T.F_tree_rows.kp T.b_tree_rows .nil (fun _ => .nil) (L2N.takes_of rfl rfl rfl rfl) (a_cons (e_var 0) (a_cons (e_var 2) (a_cons (e_callBK (c_maxD rfl (hu64 hr)) (by rfl) T.n_max boot_max (a_cons (e_var 1) a_nil) (k_cons e_int k_nil)) a_nil))))))) spec
/-! how_many_things -/
abbrev N_how_many_things : List Str := ["kind", "rack", "size", "rows", "form"]
theorem sc_how_many_things : FnScope N_how_many_things ["kind", "rack", "size"] (defScope st_how_many_things) := ⟨rfl, rfl, rfl, by decide +kernel, rfl, by decide +kernel, by decide +kernel⟩
def r_how_many_things (sp_row_ways : Sp2) (sp_rack_rows : Sp2) (sp_sure_size : Sp2) (sp_sure_rack : Sp2) : TS2 :=
    (sSeq (sExpr (eCall sp_sure_rack [] (aCons (eVar 1) aNil)))
    (sSeq (sExpr (eCall sp_sure_size [] (aCons (eVar 2) aNil)))
    (sSeq (sSet 3 (eCall sp_rack_rows [] (aCons (eVar 0) (aCons (eVar 1) (aCons (eVar 2) aNil)))))
    (sRet (eCB fSum (aCons (eFr (lLc [4] (iSeq (eVar 1)) (gN 4) tYes2 (eCall sp_row_ways [] (aCons (eVar 3) (aCons (eVar 4) (aCons (eVar 2) aNil)))))) aNil))))))
theorem b_how_many_things (T : Tx K mg) {sp_row_ways : Sp2} {sp_rack_rows : Sp2} {sp_sure_size : Sp2} {sp_sure_rack : Sp2}  (D_row_ways : FnD P w K mg base 1 T.f_row_ways T.d_row_ways ["rows", "many", "total"] sp_row_ways) (D_rack_rows : FnD P w K mg base 3 T.f_rack_rows T.d_rack_rows ["kind", "rack", "size"] sp_rack_rows) (D_sure_size : FnD P w K mg base 2 T.f_sure_size T.d_sure_size ["thing"] sp_sure_size) (D_sure_rack : FnD P w K mg base 3 T.f_sure_rack T.d_sure_rack ["thing"] sp_sure_rack) {sp : Sp2} (len : ∀ ds S Q E, sp ds S Q E → ds.length = 3) (spec : ∀ ds S Q E, sp ds S Q E → r_how_many_things sp_row_ways sp_rack_rows sp_sure_size sp_sure_rack (endsOf Q E) (start2 N_how_many_things ds) S) : FnD P w K mg base 4 T.f_how_many_things T.d_how_many_things ["kind", "rack", "size"] sp :=
  fnC T.F_how_many_things sc_how_many_things len (fun cdv A outer s H E hr =>
      (ss_cons (s_expr (e_call D_sure_rack (hr.mono (by decide)) (by rfl) T.m_sure_rack T.F_sure_rack.kp T.b_sure_rack .nil (fun _ => .nil) (L2N.takes_of rfl rfl rfl rfl) (a_cons (e_var 1) a_nil)))
      (ss_cons (s_expr (e_call D_sure_size (hr.mono (by decide)) (by rfl) T.m_sure_size T.F_sure_size.kp T.b_sure_size .nil (fun _ => .nil) (L2N.takes_of rfl rfl rfl rfl) (a_cons (e_var 2) a_nil)))
      (ss_cons (s_set 3 sc_how_many_things.nd (e_call D_rack_rows (hr.mono (by decide)) (by rfl) T.m_rack_rows T.F_rack_rows.kp T.b_rack_rows .nil (fun _ => .nil) (L2N.takes_of rfl rfl rfl rfl) (a_cons (e_var 0) (a_cons (e_var 1) (a_cons (e_var 2) a_nil)))))
      (ss_one (s_ret (e_callB (c_sum rfl) (by rfl) T.n_sum boot_sum (a_cons (e_fr (l_lc [("form", 4)] rfl sc_how_many_things.nd (i_seq (e_var 1)) (blkOk_by (own := [("form", 4)]) (N := N_how_many_things) (sc := defScope st_how_many_things) (by decide +kernel)) (fun _ _ _ _ _ => (g_name 4 sc_how_many_things.nd)) (fun _ _ _ _ _ => ts_nil) (fun _ _ _ _ _ => (e_call D_row_ways (hr.mono (by decide)) (by rfl) T.m_row_ways T.F_row_ways.kp T.b_row_ways .nil (fun _ => .nil) takesF (a_cons (e_var 3) (a_cons (e_var 4) (a_cons (e_var 2) a_nil))))))) a_nil)))))))) spec
/-! is_name -/
abbrev N_is_name : List Str := ["thing", "sign"]
theorem sc_is_name : FnScope N_is_name ["thing"] (defScope st_is_name) := ⟨rfl, rfl, rfl, by decide +kernel, rfl, by decide +kernel, by decide +kernel⟩
def r_is_name : TS2 :=
    (sSeq (sIf (tOr2 (tNot2 (tTru (eCB fIsi (aCons (eVar 0) (aCons (eC (.ty "str")) aNil))))) (tNot2 (tBl (eChain opLe opLe (eC (.int 1)) (eCB fLen (aCons (eVar 0) aNil)) (eC (.int 8))))))
    (sRet (eC (.bl false))) sNext)
    (sRet (eCB fAll (aCons (eFr (lLc [1] (iStr2 (eVar 0)) (gN 1) tYes2 (eOp opIn (eVar 1) (eC (.str "abcdefghijklmnopqrstuvwxyz"))))) aNil))))
theorem b_is_name (T : Tx K mg)  {sp : Sp2} (len : ∀ ds S Q E, sp ds S Q E → ds.length = 1) (spec : ∀ ds S Q E, sp ds S Q E → r_is_name (endsOf Q E) (start2 N_is_name ds) S) : FnD P w K mg base 1 T.f_is_name T.d_is_name ["thing"] sp :=
  fnC T.F_is_name sc_is_name len (fun cdv A outer s H E hr =>
      (ss_cons (s_if (t_w (w_or (t_not (t_tru (e_callB c_isi (by rfl) T.n_isinstance boot_isinstance (a_cons (e_var 0) (a_cons (e_bty (by rfl) T.n_str boot_str) a_nil))))) (w_or1 (t_not (t_chain op_le2 op_le2 e_int (e_callB c_len (by rfl) T.n_len PySem.boot_len (a_cons (e_var 0) a_nil)) (e_gint (by rfl) T.c_MOST_LETTERS))))))
      (ss_one (s_ret e_bl)) ss_nil)
      (ss_one (s_ret (e_callB (c_all rfl) (by rfl) T.n_all boot_all (a_cons (e_fr (l_lc [("sign", 1)] rfl sc_is_name.nd (i_str (e_var 0)) (blkOk_by (own := [("sign", 1)]) (N := N_is_name) (sc := defScope st_is_name) (by decide +kernel)) (fun _ _ _ _ _ => (g_name 1 sc_is_name.nd)) (fun _ _ _ _ _ => ts_nil) (fun _ _ _ _ _ => (e_cmp (op_in2 (hu65 hr)) (e_var 1) (e_gstr (by rfl) T.c_LETTERS) (by rfl))))) a_nil)))))) spec
/-! is_maker_row -/
abbrev N_is_maker_row : List Str := ["thing"]
theorem sc_is_maker_row : FnScope N_is_maker_row ["thing"] (defScope st_is_maker_row) := ⟨rfl, rfl, rfl, by decide +kernel, rfl, by decide +kernel, by decide +kernel⟩
def r_is_maker_row (sp_is_name : Sp2) (sp_is_whole : Sp2) : TS2 :=
    (sSeq (sIf (tOr2 (tNot2 (tTru (eCB fIsi (aCons (eVar 0) (aCons (eC (.ty "tuple")) aNil))))) (tBl (eOp opNe (eCB fLen (aCons (eVar 0) aNil)) (eC (.int 2)))))
    (sRet (eC (.bl false))) sNext)
    (sRet (eAnd (eCall sp_is_name [] (aCons (eOp opIx (eVar 0) (eC (.int 0))) aNil)) (eCall sp_is_whole [] (aCons (eOp opIx (eVar 0) (eC (.int 1))) (aCons (eC (.int 0)) (aCons (eC (.int 4)) aNil)))))))
theorem b_is_maker_row (T : Tx K mg) {sp_is_name : Sp2} {sp_is_whole : Sp2}  (D_is_name : FnD P w K mg base 1 T.f_is_name T.d_is_name ["thing"] sp_is_name) (D_is_whole : FnD P w K mg base 1 T.f_is_whole T.d_is_whole ["thing", "low", "high"] sp_is_whole) {sp : Sp2} (len : ∀ ds S Q E, sp ds S Q E → ds.length = 1) (spec : ∀ ds S Q E, sp ds S Q E → r_is_maker_row sp_is_name sp_is_whole (endsOf Q E) (start2 N_is_maker_row ds) S) : FnD P w K mg base 2 T.f_is_maker_row T.d_is_maker_row ["thing"] sp :=
  fnC T.F_is_maker_row sc_is_maker_row len (fun cdv A outer s H E hr =>
      (ss_cons (s_if (t_w (w_or (t_not (t_tru (e_callB c_isi (by rfl) T.n_isinstance boot_isinstance (a_cons (e_var 0) (a_cons (e_bty (by rfl) T.n_tuple boot_tuple) a_nil))))) (w_or1 (t_cmp (op_ne2 (hu64 hr)) (e_callB c_len (by rfl) T.n_len PySem.boot_len (a_cons (e_var 0) a_nil)) e_int (by rfl)))))
      (ss_one (s_ret e_bl)) ss_nil)
      (ss_one (s_ret (e_and (e_call D_is_name (hr.mono (by decide)) (by rfl) T.m_is_name T.F_is_name.kp T.b_is_name .nil (fun _ => .nil) (L2N.takes_of rfl rfl rfl rfl) (a_cons (e_ix ix2 (e_var 0) e_int) a_nil)) (e_one (e_call D_is_whole (hr.mono (by decide)) (by rfl) T.m_is_whole T.F_is_whole.kp T.b_is_whole .nil (fun _ => .nil) (L2N.takes_of rfl rfl rfl rfl) (a_cons (e_ix ix2 (e_var 0) e_int) (a_cons e_int (a_cons (e_gint (by rfl) T.c_MOST_WITHIN) a_nil)))))))))) spec
/-! are_makers -/
abbrev N_are_makers : List Str := ["thing", "numbers", "row", "name", "many"]
theorem sc_are_makers : FnScope N_are_makers ["thing"] (defScope st_are_makers) := ⟨rfl, rfl, rfl, by decide +kernel, rfl, by decide +kernel, by decide +kernel⟩
def r_are_makers (sp_is_maker_row : Sp2) : TS2 :=
    (sSeq (sIf (tOr2 (tNot2 (tTru (eCB fIsi (aCons (eVar 0) (aCons (eC (.ty "list")) aNil))))) (tNot2 (tBl (eChain opLe opLe (eC (.int 2)) (eCB fLen (aCons (eVar 0) aNil)) (eC (.int 5))))))
    (sRet (eC (.bl false))) sNext)
    (sSeq (sIf (tOr2 (tNot2 (tTru (eCB fAll (aCons (eFr (lLc [2] (iSeq (eVar 0)) (gN 2) tYes2 (eCall sp_is_maker_row [] (aCons (eVar 2) aNil)))) aNil)))) (tBl (eOp opLt (eLenSet (eFr (lLc [3, 4] (iSeq (eVar 0)) (gTup2 2 (gsCons (gN 3) (gsCons (gN 4) gsNil))) tYes2 (eVar 3)))) (eCB fLen (aCons (eVar 0) aNil)))))
    (sRet (eC (.bl false))) sNext)
    (sSeq (sSet 1 (eFr (lLc [3, 4] (iSeq (eVar 0)) (gTup2 2 (gsCons (gN 3) (gsCons (gN 4) gsNil))) tYes2 (eVar 4))))
    (sRet (eAnd (eOp opIn (eC (.int 0)) (eVar 1)) (eOp opGt (eCB fMaxL (aCons (eVar 1) aNil)) (eC (.int 1))))))))
theorem b_are_makers (T : Tx K mg) {sp_is_maker_row : Sp2}  (D_is_maker_row : FnD P w K mg base 2 T.f_is_maker_row T.d_is_maker_row ["thing"] sp_is_maker_row) {sp : Sp2} (len : ∀ ds S Q E, sp ds S Q E → ds.length = 1) (spec : ∀ ds S Q E, sp ds S Q E → r_are_makers sp_is_maker_row (endsOf Q E) (start2 N_are_makers ds) S) : FnD P w K mg base 3 T.f_are_makers T.d_are_makers ["thing"] sp :=
  fnC T.F_are_makers sc_are_makers len (fun cdv A outer s H E hr =>
      (ss_cons (s_if (t_w (w_or (t_not (t_tru (e_callB c_isi (by rfl) T.n_isinstance boot_isinstance (a_cons (e_var 0) (a_cons (e_bty (by rfl) T.n_list boot_list) a_nil))))) (w_or1 (t_not (t_chain op_le2 op_le2 e_int (e_callB c_len (by rfl) T.n_len PySem.boot_len (a_cons (e_var 0) a_nil)) (e_gint (by rfl) T.c_MOST_MAKERS))))))
      (ss_one (s_ret e_bl)) ss_nil)
      (ss_cons (s_if (t_w (w_or (t_not (t_tru (e_callB (c_all rfl) (by rfl) T.n_all boot_all (a_cons (e_fr (l_lc [("row", 2)] rfl sc_are_makers.nd (i_seq (e_var 0)) (blkOk_by (own := [("row", 2)]) (N := N_are_makers) (sc := defScope st_are_makers) (by decide +kernel)) (fun _ _ _ _ _ => (g_name 2 sc_are_makers.nd)) (fun _ _ _ _ _ => ts_nil) (fun _ _ _ _ _ => (e_call D_is_maker_row (hr.mono (by decide)) (by rfl) T.m_is_maker_row T.F_is_maker_row.kp T.b_is_maker_row .nil (fun _ => .nil) takesF (a_cons (e_var 2) a_nil))))) a_nil)))) (w_or1 (t_cmp op_lt2 (e_lenSet rfl (by rfl) T.n_len (by rfl) T.n_set (e_fr (l_lc [("name", 3), ("many", 4)] rfl sc_are_makers.nd (i_seq (e_var 0)) (blkOk_by (own := [("name", 3), ("many", 4)]) (N := N_are_makers) (sc := defScope st_are_makers) (by decide +kernel)) (fun _ _ _ _ _ => (g_tup rfl (gs_cons (g_name 3 sc_are_makers.nd) (gs_cons (g_name 4 sc_are_makers.nd) gs_nil)))) (fun _ _ _ _ _ => ts_nil) (fun _ _ _ _ _ => (e_var 3))))) (e_callB c_len (by rfl) T.n_len PySem.boot_len (a_cons (e_var 0) a_nil)) (by rfl)))))
      (ss_one (s_ret e_bl)) ss_nil)
      (ss_cons (s_setLc 1 [("name", 3), ("many", 4)] rfl sc_are_makers.nd (i_seq (e_var 0)) (blkOk_by (own := [("name", 3), ("many", 4)]) (N := N_are_makers) (sc := defScope st_are_makers) (by decide +kernel)) (fun _ _ _ _ _ => (g_tup rfl (gs_cons (g_name 3 sc_are_makers.nd) (gs_cons (g_name 4 sc_are_makers.nd) gs_nil)))) (fun _ _ _ _ _ => ts_nil) (fun _ _ _ _ _ => (e_var 4)) (sw_true rfl rfl rfl (by decide +kernel)))
      (ss_one (s_ret (e_and (e_cmp (op_in2 (hu65 hr)) e_int (e_var 1) (by rfl)) (e_one (e_cmp op_gt2 (e_callB (c_max rfl (hu64 hr)) (by rfl) T.n_max boot_max (a_cons (e_var 1) a_nil)) e_int (by rfl)))))))))) spec
/-! Kind.__init__ -/
abbrev N_Kind___init__ : List Str := ["self", "makers"]
theorem sc_Kind___init__ : FnScope N_Kind___init__ ["self", "makers"] (defScope st_Kind___init__) := ⟨rfl, rfl, rfl, by decide +kernel, rfl, by decide +kernel, by decide +kernel⟩
def r_Kind___init__ (C_Kind : Addr) (sp_are_makers : Sp2) : TS2 :=
    (sSeq (sIf (tNot2 (tTru (eCall sp_are_makers [] (aCons (eVar 1) aNil))))
    sNever sNext)
    (sFldS C_Kind "rows" (eVar 0) (eFr (lCB fList (aCons (eVar 1) aNil)))))
theorem b_Kind___init__ (T : Tx K mg) {sp_are_makers : Sp2}  (D_are_makers : FnD P w K mg base 3 T.f_are_makers T.d_are_makers ["thing"] sp_are_makers) {sp : Sp2} (len : ∀ ds S Q E, sp ds S Q E → ds.length = 2) (spec : ∀ ds S Q E, sp ds S Q E → r_Kind___init__ T.C_Kind sp_are_makers (endsOf Q E) (start2 N_Kind___init__ ds) S) : FnD P w K mg base 4 T.f_Kind___init__ T.d_Kind___init__ ["self", "makers"] sp :=
  fnC T.F_Kind___init__ sc_Kind___init__ len (fun cdv A outer s H E hr =>
      (ss_cons (s_if (t_not (t_tru (e_call D_are_makers (hr.mono (by decide)) (by rfl) T.m_are_makers T.F_are_makers.kp T.b_are_makers .nil (fun _ => .nil) (L2N.takes_of rfl rfl rfl rfl) (a_cons (e_var 1) a_nil))))
      (ss_one s_never) ss_nil)
      (ss_one (s_fld (e_var 0) (e_fr (l_callTy c_list (by rfl) T.n_list boot_list (a_cons (e_var 1) a_nil))) T.cl_Kind T.no_Kind_rows)))) spec
/-! _law_name -/
abbrev N__law_name : List Str := ["_law_well_here", "_law_taken", "_law_letters", "_law_name_here", "_law_k", "_law_word_here"]
theorem sc__law_name : FnScope N__law_name ["_law_well_here", "_law_taken"] (defScope st__law_name) := ⟨rfl, rfl, rfl, by decide +kernel, rfl, by decide +kernel, by decide +kernel⟩
def r__law_name (sp__law_draw : Sp2) : TS2 :=
    (sSeq (sSet 2 (eC (.str "abcdefghijklmnopqrstuvwxyz")))
    (sSeq (sSet 3 (eC (.str "")))
    (sSeq (sFor (iRng (aCons (eOp opAdd (eC (.int 1)) (eCall sp__law_draw [] (aCons (eVar 0) (aCons (eC (.int 8)) aNil)))) aNil)) (gN 4)
    (sSet 3 (eOp opAdd (eVar 3) (eOp opIx (eVar 2) (eCall sp__law_draw [] (aCons (eVar 0) (aCons (eC (.int 26)) aNil)))))))
    (sRet (eOp opIx (eFr (lLc [5] (iSeq (eFr (lDisp (aCons (eVar 3) (aCons (eC (.str "a")) (aCons (eC (.str "b")) (aCons (eC (.str "c")) (aCons (eC (.str "d")) (aCons (eC (.str "e")) aNil))))))))) (gN 5) (tBl (eOp opNotIn (eVar 5) (eVar 1))) (eVar 5))) (eC (.int 0)))))))
theorem b__law_name (T : Tx K mg) {sp__law_draw : Sp2}  (D__law_draw : FnD P w K mg base 1 T.f__law_draw T.d__law_draw ["_law_well_here", "_law_many"] sp__law_draw) {sp : Sp2} (len : ∀ ds S Q E, sp ds S Q E → ds.length = 2) (spec : ∀ ds S Q E, sp ds S Q E → r__law_name sp__law_draw (endsOf Q E) (start2 N__law_name ds) S) : FnD P w K mg base 2 T.f__law_name T.d__law_name ["_law_well_here", "_law_taken"] sp :=
  fnC T.F__law_name sc__law_name len (fun cdv A outer s H E hr =>
      (ss_cons (s_set 2 sc__law_name.nd e_str)
      (ss_cons (s_set 3 sc__law_name.nd e_str)
      (ss_cons (s_for (vs := [4]) (passes_of rfl) rfl (i_rng (by rfl) T.n_range (a_cons (e_op op_add2 e_int (e_call D__law_draw (hr.mono (by decide)) (by rfl) T.m__law_draw T.F__law_draw.kp T.b__law_draw .nil (fun _ => .nil) (L2N.takes_of rfl rfl rfl rfl) (a_cons (e_var 0) (a_cons e_int a_nil)))) a_nil)) (g_name 4 sc__law_name.nd)
      (ss_one (s_set 3 sc__law_name.nd (e_op op_add2 (e_var 3) (e_ix ix2 (e_var 2) (e_call D__law_draw (hr.mono (by decide)) (by rfl) T.m__law_draw T.F__law_draw.kp T.b__law_draw .nil (fun _ => .nil) (L2N.takes_of rfl rfl rfl rfl) (a_cons (e_var 0) (a_cons e_int a_nil))))))))
      (ss_one (s_ret (e_ix ix2 (e_fr (l_lc [("_law_word_here", 5)] rfl sc__law_name.nd (i_seq (e_fr (l_disp (a_cons (e_var 3) (a_cons e_str (a_cons e_str (a_cons e_str (a_cons e_str (a_cons e_str a_nil))))))))) (blkOk_by (own := [("_law_word_here", 5)]) (N := N__law_name) (sc := defScope st__law_name) (by decide +kernel)) (fun _ _ _ _ _ => (g_name 5 sc__law_name.nd)) (fun _ _ _ _ _ => (ts_one (t_cmp (op_notIn2 (hu65 hr)) (e_var 5) (e_var 1) (by rfl)))) (fun _ _ _ _ _ => (e_var 5)))) e_int))))))) spec
/-! _law_makers -/
abbrev N__law_makers : List Str := ["_law_well_here", "_law_many", "_law_numbers", "_law_leaf", "_law_wide", "_law_some", "_law_found", "_law_number", "_law_k", "_law_name_here"]
theorem sc__law_makers : FnScope N__law_makers ["_law_well_here"] (defScope st__law_makers) := ⟨rfl, rfl, rfl, by decide +kernel, rfl, by decide +kernel, by decide +kernel⟩
def r__law_makers (sp__law_name : Sp2) (sp__law_draw : Sp2) : TS2 :=
    (sSeq (sSet 1 (eOp opAdd (eC (.int 2)) (eCall sp__law_draw [] (aCons (eVar 0) (aCons (eC (.int 4)) aNil)))))
    (sSeq (sSet 2 (eMu (lLc [8] (iRng (aCons (eVar 1) aNil)) (gN 8) tYes2 (eCall sp__law_draw [] (aCons (eVar 0) (aCons (eC (.int 5)) aNil))))))
    (sSeq (sSet 3 (eCall sp__law_draw [] (aCons (eVar 0) (aCons (eVar 1) aNil))))
    (sSeq (sSet 4 (eOp opMod (eOp opAdd (eOp opAdd (eVar 3) (eC (.int 1))) (eCall sp__law_draw [] (aCons (eVar 0) (aCons (eOp opSub (eVar 1) (eC (.int 1))) aNil)))) (eVar 1)))
    (sSeq (sAsg (eC (.int 0)) (gSub2 (eVar 2) (eVar 3) setL))
    (sSeq (sAsg (eOp opAdd (eC (.int 2)) (eOp opMod (eOp opIx (eVar 2) (eVar 4)) (eC (.int 3)))) (gSub2 (eVar 2) (eVar 4) setL))
    (sFz 2 (sSeq (sIf (tBl (eOp opEq (eCall sp__law_draw [] (aCons (eVar 0) (aCons (eC (.int 6)) aNil))) (eC (.int 0))))
    (sSeq (sSet 5 (eFr (lDisp (aCons (eFr (lDisp (aCons (eC (.int 0)) (aCons (eC (.int 2)) aNil)))) (aCons (eFr (lDisp (aCons (eC (.int 0)) (aCons (eC (.int 0)) (aCons (eC (.int 1)) (aCons (eC (.int 2)) (aCons (eC (.int 2)) aNil))))))) (aCons (eFr (lDisp (aCons (eC (.int 2)) (aCons (eC (.int 0)) (aCons (eC (.int 2)) (aCons (eC (.int 1)) (aCons (eC (.int 0)) aNil))))))) (aCons (eFr (lDisp (aCons (eC (.int 3)) (aCons (eC (.int 1)) (aCons (eC (.int 0)) aNil))))) (aCons (eFr (lDisp (aCons (eC (.int 0)) (aCons (eC (.int 1)) (aCons (eC (.int 2)) (aCons (eC (.int 1)) aNil)))))) (aCons (eFr (lDisp (aCons (eC (.int 4)) (aCons (eC (.int 4)) (aCons (eC (.int 0)) (aCons (eC (.int 0)) (aCons (eC (.int 1)) aNil))))))) aNil)))))))))
    (sSet 2 (eOp opIx (eVar 5) (eCall sp__law_draw [] (aCons (eVar 0) (aCons (eC (.int 6)) aNil)))))) sNext)
    (sSeq (sSet 6 (eMu (lDisp aNil)))
    (sSeq (sFor (iSeq (eVar 2)) (gN 7)
    (sExpr (eBM "list" mAppend (eVar 6) (aCons (eTup (aCons (eCall sp__law_name [] (aCons (eVar 0) (aCons (eFr (lLcR 6 [9, 1] (gTup2 2 (gsCons (gN 9) (gsCons (gN 1) gsNil))) tYes2 (eVar 9))) aNil))) (aCons (eVar 7) aNil))) aNil))))
    (sRetZ (eVar 6))))))))))))
theorem b__law_makers (T : Tx K mg) {sp__law_name : Sp2} {sp__law_draw : Sp2}  (D__law_name : FnD P w K mg base 2 T.f__law_name T.d__law_name ["_law_well_here", "_law_taken"] sp__law_name) (D__law_draw : FnD P w K mg base 1 T.f__law_draw T.d__law_draw ["_law_well_here", "_law_many"] sp__law_draw) {sp : Sp2} (len : ∀ ds S Q E, sp ds S Q E → ds.length = 1) (spec : ∀ ds S Q E, sp ds S Q E → r__law_makers sp__law_name sp__law_draw (endsOf Q E) (start2 N__law_makers ds) S) : FnD P w K mg base 3 T.f__law_makers T.d__law_makers ["_law_well_here"] sp :=
  fnC T.F__law_makers sc__law_makers len (fun cdv A outer s H E hr =>
      (ss_cons (s_set 1 sc__law_makers.nd (e_op op_add2 e_int (e_call D__law_draw (hr.mono (by decide)) (by rfl) T.m__law_draw T.F__law_draw.kp T.b__law_draw .nil (fun _ => .nil) (L2N.takes_of rfl rfl rfl rfl) (a_cons (e_var 0) (a_cons e_int a_nil)))))
      (ss_cons (s_setLcM 2 [("_law_k", 8)] rfl sc__law_makers.nd (i_rng (by rfl) T.n_range (a_cons (e_var 1) a_nil)) (blkOk_by (own := [("_law_k", 8)]) (N := N__law_makers) (sc := defScope st__law_makers) (by decide +kernel)) (fun _ _ _ _ _ => (g_name 8 sc__law_makers.nd)) (fun _ _ _ _ _ => ts_nil) (fun _ _ _ _ _ => (e_call D__law_draw (hr.mono (by decide)) (by rfl) T.m__law_draw T.F__law_draw.kp T.b__law_draw .nil (fun _ => .nil) takesF (a_cons (e_var 0) (a_cons e_int a_nil)))) (sw_true rfl rfl rfl (by decide +kernel)))
      (ss_cons (s_set 3 sc__law_makers.nd (e_call D__law_draw (hr.mono (by decide)) (by rfl) T.m__law_draw T.F__law_draw.kp T.b__law_draw .nil (fun _ => .nil) (L2N.takes_of rfl rfl rfl rfl) (a_cons (e_var 0) (a_cons (e_var 1) a_nil))))
      (ss_cons (s_set 4 sc__law_makers.nd (e_op op_mod2 (e_op op_add2 (e_op op_add2 (e_var 3) e_int) (e_call D__law_draw (hr.mono (by decide)) (by rfl) T.m__law_draw T.F__law_draw.kp T.b__law_draw .nil (fun _ => .nil) (L2N.takes_of rfl rfl rfl rfl) (a_cons (e_var 0) (a_cons (e_op op_sub2 (e_var 1) e_int) a_nil)))) (e_var 1)))
      (ss_cons (s_asg (vs := []) e_int (g_sub (e_var 2) (e_var 3) set2))
      (ss_cons (s_asg (vs := []) (e_op op_add2 e_int (e_op op_mod2 (e_ix ix2 (e_var 2) (e_var 4)) e_int)) (g_sub (e_var 2) (e_var 4) set2))
      (ss_fz 2 (ss_cons (s_if (t_cmp (op_eq2 (hu64 hr)) (e_call D__law_draw (hr.mono (by decide)) (by rfl) T.m__law_draw T.F__law_draw.kp T.b__law_draw .nil (fun _ => .nil) (L2N.takes_of rfl rfl rfl rfl) (a_cons (e_var 0) (a_cons e_int a_nil))) e_int (by rfl))
      (ss_cons (s_set 5 sc__law_makers.nd (e_fr (l_disp (a_cons (e_fr (l_disp (a_cons e_int (a_cons e_int a_nil)))) (a_cons (e_fr (l_disp (a_cons e_int (a_cons e_int (a_cons e_int (a_cons e_int (a_cons e_int a_nil))))))) (a_cons (e_fr (l_disp (a_cons e_int (a_cons e_int (a_cons e_int (a_cons e_int (a_cons e_int a_nil))))))) (a_cons (e_fr (l_disp (a_cons e_int (a_cons e_int (a_cons e_int a_nil))))) (a_cons (e_fr (l_disp (a_cons e_int (a_cons e_int (a_cons e_int (a_cons e_int a_nil)))))) (a_cons (e_fr (l_disp (a_cons e_int (a_cons e_int (a_cons e_int (a_cons e_int (a_cons e_int a_nil))))))) a_nil)))))))))
      (ss_one (s_set 2 sc__law_makers.nd (e_ix ix2 (e_var 5) (e_call D__law_draw (hr.mono (by decide)) (by rfl) T.m__law_draw T.F__law_draw.kp T.b__law_draw .nil (fun _ => .nil) (L2N.takes_of rfl rfl rfl rfl) (a_cons (e_var 0) (a_cons e_int a_nil))))))) ss_nil)
      (ss_cons (s_set 6 sc__law_makers.nd (e_mu (l_disp a_nil)))
      (ss_cons (s_for (vs := [7]) (passes_of rfl) rfl (i_seq (e_var 2)) (g_name 7 sc__law_makers.nd)
      (ss_one (s_expr (e_bm PySem.F.plainAttrs_list PySem.F.slot_list_append PySem.F.type_list_append m_append (e_var 6) (a_cons (e_tup (a_cons (e_call D__law_name (hr.mono (by decide)) (by rfl) T.m__law_name T.F__law_name.kp T.b__law_name .nil (fun _ => .nil) (L2N.takes_of rfl rfl rfl rfl) (a_cons (e_var 0) (a_cons (e_fr (l_lcR 6 [("_law_name_here", 9), ("_law_many", 1)] rfl sc__law_makers.nd (blkOk_by (own := [("_law_name_here", 9), ("_law_many", 1)]) (N := N__law_makers) (sc := defScope st__law_makers) (by decide +kernel)) (fun _ _ _ _ _ => (g_tup rfl (gs_cons (g_name 9 sc__law_makers.nd) (gs_cons (g_name 1 sc__law_makers.nd) gs_nil)))) (fun _ _ _ _ _ => ts_nil) (fun _ _ _ _ _ => (e_var 9)))) a_nil))) (a_cons (e_var 7) a_nil))) a_nil)))))
      (ss_one (s_retZ (e_var 6)))))))))))))) spec
/-! _law_well -/
abbrev N__law_well : List Str := ["_law_cell"]
theorem sc__law_well : FnScope N__law_well ["_law_cell"] (defScope st__law_well) := ⟨rfl, rfl, rfl, by decide +kernel, rfl, by decide +kernel, by decide +kernel⟩
def r__law_well : TS2 :=
    (sRet (eMu (lDisp (aCons (eOp opMul (eVar 0) (eCB fInt (aCons (eOp opGe (eVar 0) (eOp opPow (eC (.int 10)) (eC (.int 18)))) aNil))) (aCons (eOp opMod (eVar 0) (eC (.int 2147483647))) (aCons (eC (.int 0)) aNil))))))
theorem b__law_well (T : Tx K mg)  {sp : Sp2} (len : ∀ ds S Q E, sp ds S Q E → ds.length = 1) (spec : ∀ ds S Q E, sp ds S Q E → r__law_well (endsOf Q E) (start2 N__law_well ds) S) : FnD P w K mg base 1 T.f__law_well T.d__law_well ["_law_cell"] sp :=
  fnC T.F__law_well sc__law_well len (fun cdv A outer s H E hr =>
      (ss_one (s_ret (e_mu (l_disp (a_cons (e_op op_mul2 (e_var 0) (e_callTy c_int (by rfl) T.n_int boot_int (a_cons (e_cmp op_ge2 (e_var 0) (e_op op_pow2 e_int e_int) (by rfl)) a_nil))) (a_cons (e_op op_mod2 (e_var 0) e_int) (a_cons e_int a_nil)))))))) spec
/-! law -/
abbrev N_law : List Str := ["_law_script", "_law_cell", "_law_well_here", "_law_makers_here", "_law_numbers", "_law_trade", "_law_great", "_law_shelf", "_law_found", "_law_more", "_law_other", "_law_name_here", "_law_number"]
theorem sc_law : FnScope N_law ["_law_script"] (defScope st_law) := ⟨rfl, rfl, rfl, by decide +kernel, rfl, by decide +kernel, by decide +kernel⟩
def r_law (C_Kind : Addr) (sp__law_refusals_right : Sp2) (sp_count_to : Sp2) (sp_put_beside : Sp2) (sp__law_due : Sp2) (sp__law_rack : Sp2) (sp_how_many_things : Sp2) (sp__law_draw : Sp2) (sp_Kind___init__ : Sp2) (sp__law_makers : Sp2) (sp__law_well : Sp2) : TS2 :=
    (sSeq (sFor (iSeq (eSl (eFr (lOp lCat (eVar 0) (eFr (lDisp (aCons (eC (.int 0)) aNil))))) oNo (oSome (eC (.int 2))))) (gN 1)
    (sSeq (sSet 2 (eCall sp__law_well [] (aCons (eVar 1) aNil)))
    (sSeq (sSet 3 (eCall sp__law_makers [] (aCons (eVar 2) aNil)))
    (sSeq (sSet 4 (eFr (lLc [11, 12] (iSeq (eVar 3)) (gTup2 2 (gsCons (gN 11) (gsCons (gN 12) gsNil))) tYes2 (eVar 12))))
    (sSeq (sSet 5 (eMakeZ C_Kind sp_Kind___init__ (aCons (eVar 3) aNil)))
    (sSeq (sSet 6 (eOp opIx (eFr (lDisp (aCons (eCall sp__law_draw [] (aCons (eVar 2) (aCons (eC (.int 7)) aNil))) (aCons (eCall sp__law_draw [] (aCons (eVar 2) (aCons (eC (.int 25)) aNil))) (aCons (eOp opIx (eFr (lDisp (aCons (eC (.int 24)) (aCons (eC (.int 60)) aNil)))) (eCB fInt (aCons (eOp opEq (eCB fLen (aCons (eVar 4) aNil)) (eC (.int 2))) aNil))) aNil))))) (eCall sp__law_draw [] (aCons (eVar 2) (aCons (eC (.int 3)) aNil)))))
    (sSeq (sSet 7 (eCall sp__law_rack [] (aCons (eVar 2) (aCons (eC (.int 6)) (aCons (eOp opIx (eFr (lDisp (aCons (eC (.int 3)) (aCons (eC (.int 9)) aNil)))) (eCall sp__law_draw [] (aCons (eVar 2) (aCons (eC (.int 2)) aNil)))) aNil)))))
    (sSeq (sIf (tAnd2 (tBl (eOp opEq (eCall sp__law_draw [] (aCons (eVar 2) (aCons (eC (.int 4)) aNil))) (eC (.int 0)))) (tBl (eOp opLt (eVar 6) (eC (.int 25)))))
    (sSet 7 (eOp opAdd (eVar 7) (eTup (aCons (eOp opSub (eC (.int 200)) (eCall sp__law_draw [] (aCons (eVar 2) (aCons (eC (.int 180)) aNil)))) aNil)))) sNext)
    (sSeq (sSet 8 (eCall sp_count_to [] (aCons (eVar 5) (aCons (eVar 7) (aCons (eVar 6) aNil)))))
    (sSeq (sIf (tOr2 (tNot2 (tTru (eCB fIsi (aCons (eVar 8) (aCons (eC (.ty "int")) aNil))))) (tOr2 (tTru (eCB fIsi (aCons (eVar 8) (aCons (eC (.ty "bool")) aNil)))) (tBl (eOp opNe (eVar 8) (eCall sp__law_due [] (aCons (eVar 4) (aCons (eVar 7) (aCons (eVar 6) aNil))))))))
    (sRet (eC (.bl false))) sNext)
    (sSeq (sIf (tBl (eOp opNe (eCallK sp_count_to (perm_count_to []) (aCons (eVar 6) (aCons (eVar 7) (aCons (eVar 5) aNil)))) (eVar 8)))
    (sRet (eC (.bl false))) sNext)
    (sSeq (sIf (tBl (eOp opLt (eVar 6) (eC (.int 60))))
    (sSeq (sSet 9 (eCall sp_how_many_things [] (aCons (eVar 5) (aCons (eVar 7) (aCons (eOp opAdd (eVar 6) (eC (.int 1))) aNil)))))
    (sIf (tBl (eOp opNe (eCall sp_count_to [] (aCons (eVar 5) (aCons (eVar 7) (aCons (eOp opAdd (eVar 6) (eC (.int 1))) aNil)))) (eOp opAdd (eVar 8) (eVar 9))))
    (sRet (eC (.bl false))) sNext)) sNext)
    (sSeq (sSet 10 (eCall sp__law_rack [] (aCons (eVar 2) (aCons (eC (.int 3)) (aCons (eC (.int 4)) aNil)))))
    (sSeq (sIf (tBl (eOp opNe (eCall sp_count_to [] (aCons (eVar 5) (aCons (eCall sp_put_beside [] (aCons (eVar 7) (aCons (eVar 10) aNil))) (aCons (eVar 6) aNil)))) (eOp opAdd (eVar 8) (eCall sp__law_due [] (aCons (eVar 4) (aCons (eVar 10) (aCons (eVar 6) aNil)))))))
    (sRet (eC (.bl false))) sNext)
    (sIf (tNot2 (tTru (eCall sp__law_refusals_right [] (aCons (eVar 2) (aCons (eVar 5) (aCons (eVar 7) aNil))))))
    (sRet (eC (.bl false))) sNext)))))))))))))))
    (sRet (eC (.bl true))))
theorem b_law (T : Tx K mg) {sp__law_refusals_right : Sp2} {sp_count_to : Sp2} {sp_put_beside : Sp2} {sp__law_due : Sp2} {sp__law_rack : Sp2} {sp_how_many_things : Sp2} {sp__law_draw : Sp2} {sp_Kind___init__ : Sp2} {sp__law_makers : Sp2} {sp__law_well : Sp2}  (D__law_refusals_right : FnD P w K mg base 6 T.f__law_refusals_right T.d__law_refusals_right ["_law_well_here", "_law_trade", "_law_shelf"] sp__law_refusals_right) (D_count_to : FnD P w K mg base 4 T.f_count_to T.d_count_to ["kind", "rack", "size"] sp_count_to) (D_put_beside : FnD P w K mg base 4 T.f_put_beside T.d_put_beside ["one", "two"] sp_put_beside) (D__law_due : FnD P w K mg base 2 T.f__law_due T.d__law_due ["_law_numbers", "_law_shelf", "_law_great"] sp__law_due) (D__law_rack : FnD P w K mg base 2 T.f__law_rack T.d__law_rack ["_law_well_here", "_law_few", "_law_high"] sp__law_rack) (D_how_many_things : FnD P w K mg base 4 T.f_how_many_things T.d_how_many_things ["kind", "rack", "size"] sp_how_many_things) (D__law_draw : FnD P w K mg base 1 T.f__law_draw T.d__law_draw ["_law_well_here", "_law_many"] sp__law_draw) (D_Kind___init__ : FnD P w K mg base 4 T.f_Kind___init__ T.d_Kind___init__ ["self", "makers"] sp_Kind___init__) (D__law_makers : FnD P w K mg base 3 T.f__law_makers T.d__law_makers ["_law_well_here"] sp__law_makers) (D__law_well : FnD P w K mg base 1 T.f__law_well T.d__law_well ["_law_cell"] sp__law_well) {sp : Sp2} (len : ∀ ds S Q E, sp ds S Q E → ds.length = 1) (spec : ∀ ds S Q E, sp ds S Q E → r_law T.C_Kind sp__law_refusals_right sp_count_to sp_put_beside sp__law_due sp__law_rack sp_how_many_things sp__law_draw sp_Kind___init__ sp__law_makers sp__law_well (endsOf Q E) (start2 N_law ds) S) : FnD P w K mg base 7 T.f_law T.d_law ["_law_script"] sp :=
  fnC T.F_law sc_law len (fun cdv A outer s H E hr =>
      (ss_cons (s_for (vs := [1]) (passes_of rfl) rfl (i_seq (e_slice (e_fr (l_op l_cat2 (e_var 0) (e_fr (l_disp (a_cons e_int a_nil))))) o_no (o_some e_int))) (g_name 1 sc_law.nd)
      (ss_cons (s_set 2 sc_law.nd (e_call D__law_well (hr.mono (by decide)) (by rfl) T.m__law_well T.F__law_well.kp T.b__law_well .nil (fun _ => .nil) (L2N.takes_of rfl rfl rfl rfl) (a_cons (e_var 1) a_nil)))
      (ss_cons (s_set 3 sc_law.nd (e_call D__law_makers (hr.mono (by decide)) (by rfl) T.m__law_makers T.F__law_makers.kp T.b__law_makers .nil (fun _ => .nil) (L2N.takes_of rfl rfl rfl rfl) (a_cons (e_var 2) a_nil)))
      (ss_cons (s_setLc 4 [("_law_name_here", 11), ("_law_number", 12)] rfl sc_law.nd (i_seq (e_var 3)) (blkOk_by (own := [("_law_name_here", 11), ("_law_number", 12)]) (N := N_law) (sc := defScope st_law) (by decide +kernel)) (fun _ _ _ _ _ => (g_tup rfl (gs_cons (g_name 11 sc_law.nd) (gs_cons (g_name 12 sc_law.nd) gs_nil)))) (fun _ _ _ _ _ => ts_nil) (fun _ _ _ _ _ => (e_var 12)) (sw_true rfl rfl rfl (by decide +kernel)))
      (ss_cons (s_set 5 sc_law.nd (e_makeZ T.Mk_Kind D_Kind___init__ (hr.mono (by decide)) (by rfl) T.m_Kind T.b_Kind___init__ (L2N.takes_of rfl rfl rfl rfl) (a_cons (e_var 3) a_nil)))
      (ss_cons (s_set 6 sc_law.nd (e_ix ix2 (e_fr (l_disp (a_cons (e_call D__law_draw (hr.mono (by decide)) (by rfl) T.m__law_draw T.F__law_draw.kp T.b__law_draw .nil (fun _ => .nil) (L2N.takes_of rfl rfl rfl rfl) (a_cons (e_var 2) (a_cons e_int a_nil))) (a_cons (e_call D__law_draw (hr.mono (by decide)) (by rfl) T.m__law_draw T.F__law_draw.kp T.b__law_draw .nil (fun _ => .nil) (L2N.takes_of rfl rfl rfl rfl) (a_cons (e_var 2) (a_cons e_int a_nil))) (a_cons (e_ix ix2 (e_fr (l_disp (a_cons e_int (a_cons e_int a_nil)))) (e_callTy c_int (by rfl) T.n_int boot_int (a_cons (e_cmp (op_eq2 (hu64 hr)) (e_callB c_len (by rfl) T.n_len PySem.boot_len (a_cons (e_var 4) a_nil)) e_int (by rfl)) a_nil))) a_nil))))) (e_call D__law_draw (hr.mono (by decide)) (by rfl) T.m__law_draw T.F__law_draw.kp T.b__law_draw .nil (fun _ => .nil) (L2N.takes_of rfl rfl rfl rfl) (a_cons (e_var 2) (a_cons e_int a_nil)))))
      (ss_cons (s_set 7 sc_law.nd (e_call D__law_rack (hr.mono (by decide)) (by rfl) T.m__law_rack T.F__law_rack.kp T.b__law_rack .nil (fun _ => .nil) (L2N.takes_of rfl rfl rfl rfl) (a_cons (e_var 2) (a_cons e_int (a_cons (e_ix ix2 (e_fr (l_disp (a_cons e_int (a_cons e_int a_nil)))) (e_call D__law_draw (hr.mono (by decide)) (by rfl) T.m__law_draw T.F__law_draw.kp T.b__law_draw .nil (fun _ => .nil) (L2N.takes_of rfl rfl rfl rfl) (a_cons (e_var 2) (a_cons e_int a_nil)))) a_nil)))))
      (ss_cons (s_if (t_w (w_and (t_cmp (op_eq2 (hu64 hr)) (e_call D__law_draw (hr.mono (by decide)) (by rfl) T.m__law_draw T.F__law_draw.kp T.b__law_draw .nil (fun _ => .nil) (L2N.takes_of rfl rfl rfl rfl) (a_cons (e_var 2) (a_cons e_int a_nil))) e_int (by rfl)) (w_and1 (t_cmp op_lt2 (e_var 6) e_int (by rfl)))))
      (ss_one (s_set 7 sc_law.nd (e_op op_add2 (e_var 7) (e_tup (a_cons (e_op op_sub2 e_int (e_call D__law_draw (hr.mono (by decide)) (by rfl) T.m__law_draw T.F__law_draw.kp T.b__law_draw .nil (fun _ => .nil) (L2N.takes_of rfl rfl rfl rfl) (a_cons (e_var 2) (a_cons e_int a_nil)))) a_nil))))) ss_nil)
      (ss_cons (s_set 8 sc_law.nd (e_call D_count_to (hr.mono (by decide)) (by rfl) T.m_count_to T.F_count_to.kp T.b_count_to .nil (fun _ => .nil) (L2N.takes_of rfl rfl rfl rfl) (a_cons (e_var 5) (a_cons (e_var 7) (a_cons (e_var 6) a_nil)))))
      (ss_cons (s_if (t_w (w_or (t_not (t_tru (e_callB c_isi (by rfl) T.n_isinstance boot_isinstance (a_cons (e_var 8) (a_cons (e_bty (by rfl) T.n_int boot_int) a_nil))))) (w_or (t_tru (e_callB c_isi (by rfl) T.n_isinstance boot_isinstance (a_cons (e_var 8) (a_cons (e_bty (by rfl) T.n_bool boot_bool) a_nil)))) (w_or1 (t_cmp (op_ne2 (hu64 hr)) (e_var 8) (e_call D__law_due (hr.mono (by decide)) (by rfl) T.m__law_due T.F__law_due.kp T.b__law_due .nil (fun _ => .nil) (L2N.takes_of rfl rfl rfl rfl) (a_cons (e_var 4) (a_cons (e_var 7) (a_cons (e_var 6) a_nil)))) (by rfl))))))
      (ss_one (s_ret e_bl)) ss_nil)
      (ss_cons (s_if (t_cmp (op_ne2 (hu64 hr)) (e_callK (gD := (perm_count_to [])) D_count_to (hr.mono (by decide)) (by rfl) T.m_count_to T.F_count_to.kp T.k_count_to (L2N.takes_of rfl rfl rfl rfl) perm_ok_count_to (k_cons (e_var 6) (k_cons (e_var 7) (k_cons (e_var 5) k_nil)))) (e_var 8) (by rfl))
      (ss_one (s_ret e_bl)) ss_nil)
      (ss_cons (s_if (t_cmp op_lt2 (e_var 6) e_int (by rfl))
      (ss_cons (s_set 9 sc_law.nd (e_call D_how_many_things (hr.mono (by decide)) (by rfl) T.m_how_many_things T.F_how_many_things.kp T.b_how_many_things .nil (fun _ => .nil) (L2N.takes_of rfl rfl rfl rfl) (a_cons (e_var 5) (a_cons (e_var 7) (a_cons (e_op op_add2 (e_var 6) e_int) a_nil)))))
      (ss_one (s_if (t_cmp (op_ne2 (hu64 hr)) (e_call D_count_to (hr.mono (by decide)) (by rfl) T.m_count_to T.F_count_to.kp T.b_count_to .nil (fun _ => .nil) (L2N.takes_of rfl rfl rfl rfl) (a_cons (e_var 5) (a_cons (e_var 7) (a_cons (e_op op_add2 (e_var 6) e_int) a_nil)))) (e_op op_add2 (e_var 8) (e_var 9)) (by rfl))
      (ss_one (s_ret e_bl)) ss_nil))) ss_nil)
      (ss_cons (s_set 10 sc_law.nd (e_call D__law_rack (hr.mono (by decide)) (by rfl) T.m__law_rack T.F__law_rack.kp T.b__law_rack .nil (fun _ => .nil) (L2N.takes_of rfl rfl rfl rfl) (a_cons (e_var 2) (a_cons e_int (a_cons e_int a_nil)))))
      (ss_cons (s_if (t_cmp (op_ne2 (hu64 hr)) (e_call D_count_to (hr.mono (by decide)) (by rfl) T.m_count_to T.F_count_to.kp T.b_count_to .nil (fun _ => .nil) (L2N.takes_of rfl rfl rfl rfl) (a_cons (e_var 5) (a_cons (e_call D_put_beside (hr.mono (by decide)) (by rfl) T.m_put_beside T.F_put_beside.kp T.b_put_beside .nil (fun _ => .nil) (L2N.takes_of rfl rfl rfl rfl) (a_cons (e_var 7) (a_cons (e_var 10) a_nil))) (a_cons (e_var 6) a_nil)))) (e_op op_add2 (e_var 8) (e_call D__law_due (hr.mono (by decide)) (by rfl) T.m__law_due T.F__law_due.kp T.b__law_due .nil (fun _ => .nil) (L2N.takes_of rfl rfl rfl rfl) (a_cons (e_var 4) (a_cons (e_var 10) (a_cons (e_var 6) a_nil))))) (by rfl))
      (ss_one (s_ret e_bl)) ss_nil)
      (ss_one (s_if (t_not (t_tru (e_call D__law_refusals_right (hr.mono (by decide)) (by rfl) T.m__law_refusals_right T.F__law_refusals_right.kp T.b__law_refusals_right .nil (fun _ => .nil) (L2N.takes_of rfl rfl rfl rfl) (a_cons (e_var 2) (a_cons (e_var 5) (a_cons (e_var 7) a_nil))))))
      (ss_one (s_ret e_bl)) ss_nil))))))))))))))))
      (ss_one (s_ret e_bl)))) spec
end
end L83
set_option linter.all false
set_option maxRecDepth 100000
set_option maxHeartbeats 4000000
/-! the counts of trees and rows of trees, in plain numbers -/
namespace M83
def sumTo : Nat → (Nat → Int) → Int
  | 0, _ => 0
  | n + 1, f => sumTo n f + f n
theorem sumTo_congr {f g : Nat → Int} : ∀ {n : Nat}, (∀ k, k < n → f k = g k) → sumTo n f = sumTo n g
  | 0, _ => rfl
  | n + 1, h => by
    unfold sumTo
    rw [sumTo_congr (n := n) fun k hk => h k (by omega), h n (by omega)]
theorem sumTo_add (n : Nat) (f g : Nat → Int) : sumTo n (fun k => f k + g k) = sumTo n f + sumTo n g := by
  induction n with
  | zero => rfl
  | succ n ih =>
    unfold sumTo; rw [ih]
    show sumTo n f + sumTo n g + (f n + g n) = _
    omega
theorem sumTo_mul (n : Nat) (c : Int) (f : Nat → Int) : sumTo n (fun k => c * f k) = c * sumTo n f := by
  induction n with
  | zero => simp [sumTo]
  | succ n ih => unfold sumTo; rw [ih, Int.mul_add]
theorem sumTo_le {f g : Nat → Int} : ∀ {n : Nat}, (∀ k, k < n → f k ≤ g k) → sumTo n f ≤ sumTo n g
  | 0, _ => Int.le_refl _
  | n + 1, h => by
    unfold sumTo
    have a := sumTo_le (n := n) fun k hk => h k (by omega)
    have b := h n (by omega)
    omega
theorem sumTo_nonneg {f : Nat → Int} : ∀ {n : Nat}, (∀ k, k < n → 0 ≤ f k) → 0 ≤ sumTo n f
  | 0, _ => Int.le_refl _
  | n + 1, h => by
    unfold sumTo
    have a := sumTo_nonneg (n := n) fun k hk => h k (by omega)
    have b := h n (by omega)
    omega
theorem sumTo_zero {f : Nat → Int} {n : Nat} (h : ∀ k, k < n → f k = 0) : sumTo n f = 0 := by
  induction n with
  | zero => rfl
  | succ n ih => unfold sumTo; rw [ih fun k hk => h k (by omega), h n (by omega)]; rfl
def one0 : Nat → Int := fun t => if t = 0 then 1 else 0
def cv (f g : Nat → Int) : Nat → Int := fun t => sumTo (t + 1) fun k => f k * g (t - k)
def pw (f : Nat → Int) : Nat → Nat → Int
  | 0 => one0
  | m + 1 => cv f (pw f m)
theorem cv_loc {f f' g g' : Nat → Int} {t : Nat} (h : ∀ s, s ≤ t → f s = f' s) (k : ∀ s, s ≤ t → g s = g' s) : cv f g t = cv f' g' t :=
  sumTo_congr fun s hs => by rw [h s (by omega), k (t - s) (by omega)]
theorem pw_loc {f f' : Nat → Int} : ∀ (m : Nat) {t : Nat}, (∀ s, s ≤ t → f s = f' s) → pw f m t = pw f' m t
  | 0, _, _ => rfl
  | m + 1, t, h => cv_loc h fun s hs => pw_loc m fun r hr => h r (by omega)
def lsum (ns : List Int) (g : Int → Int) : Int := (ns.map g).sum
theorem lsum_congr {ns : List Int} {f g : Int → Int} (h : ∀ m ∈ ns, f m = g m) : lsum ns f = lsum ns g := by
  unfold lsum; rw [List.map_congr_left h]
def A (ns : List Int) : Nat → Nat → Int
  | 0 => fun _ => 0
  | n + 1 => fun t => if t = 0 then 0 else lsum ns fun m => pw (A ns n) m.toNat (t - 1)
def T (ns : List Int) (t : Nat) : Int := A ns t t
def P (ns : List Int) (m : Nat) : Nat → Int := pw (T ns) m
theorem A_step (ns : List Int) : ∀ (n t : Nat), t ≤ n → A ns n t = A ns (n + 1) t
  | 0, t, h => by obtain rfl : t = 0 := by omega
                  simp [A]
  | n + 1, 0, _ => by simp [A]
  | n + 1, t + 1, h => by
    show (if t + 1 = 0 then 0 else lsum ns fun m => pw (A ns n) m.toNat (t + 1 - 1)) = (if t + 1 = 0 then 0 else lsum ns fun m => pw (A ns (n + 1)) m.toNat (t + 1 - 1))
    rw [if_neg (by omega), if_neg (by omega)]
    exact lsum_congr fun m _ => pw_loc _ fun s hs => A_step ns n s (by omega)
theorem A_T (ns : List Int) {t : Nat} : ∀ (d : Nat), A ns (t + d) t = T ns t
  | 0 => rfl
  | d + 1 => by rw [← A_T ns d]; exact (A_step ns (t + d) t (by omega)).symm
theorem T_zero (ns : List Int) : T ns 0 = 0 := rfl
theorem T_succ (ns : List Int) (t : Nat) : T ns (t + 1) = lsum ns fun m => P ns m.toNat t := by
  show (if t + 1 = 0 then 0 else lsum ns fun m => pw (A ns t) m.toNat (t + 1 - 1)) = _
  rw [if_neg (by omega)]
  refine lsum_congr fun m _ => pw_loc _ fun s hs => ?_
  have := A_T ns (t := s) (t - s)
  rw [show s + (t - s) = t by omega] at this
  exact this
theorem P_zero (ns : List Int) : P ns 0 = one0 := rfl
theorem P_succ (ns : List Int) (m : Nat) : P ns (m + 1) = cv (T ns) (P ns m) := rfl
theorem P_one (ns : List Int) (t : Nat) : P ns 1 t = T ns t := by
  rw [P_succ, P_zero]
  unfold cv
  show sumTo t _ + T ns t * one0 (t - t) = _
  rw [sumTo_zero fun k hk => by unfold one0; rw [if_neg (by omega)]; simp]
  simp [one0]
theorem T_nonneg (ns : List Int) : ∀ (n t : Nat), t ≤ n → 0 ≤ T ns t ∧ ∀ m, 0 ≤ P ns m t := by
  intro n
  have cvn : ∀ (t : Nat) (f g : Nat → Int), (∀ s, s ≤ t → 0 ≤ f s) → (∀ s, s ≤ t → 0 ≤ g s) → 0 ≤ cv f g t := fun t f g h k => sumTo_nonneg fun s hs => Int.mul_nonneg (h s (by omega)) (k _ (by omega))
  induction n with
  | zero =>
    intro t ht
    obtain rfl : t = 0 := by omega
    refine ⟨by rw [T_zero]; exact Int.le_refl _, fun m => ?_⟩
    induction m with
    | zero => rw [P_zero]; unfold one0; split <;> decide
    | succ m ih =>
      rw [P_succ]
      refine cvn _ _ _ (fun s hs => ?_) fun s hs => ?_
      · obtain rfl : s = 0 := by omega
        rw [T_zero]; exact Int.le_refl _
      · obtain rfl : s = 0 := by omega
        exact ih
  | succ n ih =>
    intro t ht
    by_cases h : t ≤ n
    · exact ih t h
    obtain rfl : t = n + 1 := by omega
    have t1 : 0 ≤ T ns (n + 1) := by
      rw [T_succ]
      unfold lsum
      have : ∀ (l : List Int), 0 ≤ (l.map fun m => P ns m.toNat n).sum := fun l => by
        induction l with
        | nil => simp
        | cons a l ihl => simp only [List.map_cons, List.sum_cons]; have := (ih n (Nat.le_refl _)).2 a.toNat; omega
      exact this ns
    refine ⟨t1, fun m => ?_⟩
    have tl : ∀ s, s ≤ n + 1 → 0 ≤ T ns s := fun s hs => by
      by_cases h : s ≤ n
      · exact (ih s h).1
      · obtain rfl : s = n + 1 := by omega
        exact t1
    induction m with
    | zero => rw [P_zero]; unfold one0; split <;> decide
    | succ m ihm =>
      rw [P_succ]
      exact cvn _ _ _ tl fun s hs => by
        by_cases h : s ≤ n
        · exact (ih s h).2 m
        · obtain rfl : s = n + 1 := by omega
          exact ihm
theorem T_nn (ns : List Int) (t : Nat) : 0 ≤ T ns t := (T_nonneg ns t t (Nat.le_refl _)).1
theorem P_nn (ns : List Int) (m t : Nat) : 0 ≤ P ns m t := (T_nonneg ns t t (Nat.le_refl _)).2 m
/-- below its power nothing is counted -/
theorem P_low (ns : List Int) : ∀ (m t : Nat), t < m → P ns m t = 0
  | 0, t, h => by omega
  | m + 1, t, h => by
    rw [P_succ]
    refine sumTo_zero fun k hk => ?_
    cases k with
    | zero => rw [T_zero]; simp
    | succ k => rw [P_low ns m (t - (k + 1)) (by omega)]; simp
/-! weights -/
def U (f : Nat → Int) : Nat → Int
  | 0 => f 0
  | t + 1 => 5 * U f t + f (t + 1)
theorem U_cv (f g : Nat → Int) : ∀ t, U (cv f g) t = cv f (U g) t
  | 0 => rfl
  | t + 1 => by
    show 5 * U (cv f g) t + cv f g (t + 1) = cv f (U g) (t + 1)
    rw [U_cv f g t]
    unfold cv
    show 5 * sumTo (t + 1) (fun k => f k * U g (t - k)) + (sumTo (t + 1) (fun k => f k * g (t + 1 - k)) + f (t + 1) * g (t + 1 - (t + 1))) = sumTo (t + 1) (fun k => f k * U g (t + 1 - k)) + f (t + 1) * U g (t + 1 - (t + 1))
    rw [← sumTo_mul, Nat.sub_self]
    have e : sumTo (t + 1) (fun k => f k * U g (t + 1 - k)) = sumTo (t + 1) (fun k => 5 * (f k * U g (t - k)) + f k * g (t + 1 - k)) := sumTo_congr fun k hk => by
      rw [show t + 1 - k = (t - k) + 1 by omega]
      show f k * (5 * U g (t - k) + g (t - k + 1)) = _
      rw [Int.mul_add, Int.mul_left_comm]
    rw [e, sumTo_add]
    show _ = _ + f (t + 1) * g 0
    omega
theorem U_last {f : Nat → Int} (h : ∀ t, 0 ≤ f t) : ∀ t, f t ≤ U f t ∧ 0 ≤ U f t
  | 0 => ⟨Int.le_refl _, h 0⟩
  | t + 1 => by
    have a := U_last h t
    have b := h (t + 1)
    show f (t + 1) ≤ 5 * U f t + f (t + 1) ∧ 0 ≤ 5 * U f t + f (t + 1)
    omega
theorem U_one : ∀ t, U one0 t = 5 ^ t
  | 0 => rfl
  | t + 1 => by
    show 5 * U one0 t + one0 (t + 1) = _
    rw [U_one t, Int.pow_succ]
    show 5 * 5 ^ t + (if t + 1 = 0 then 1 else 0) = _
    rw [if_neg (by omega)]; omega
theorem U_sum (f : Nat → Int) : ∀ t, U f t = sumTo (t + 1) fun k => f k * 5 ^ (t - k)
  | 0 => by simp [U, sumTo]
  | t + 1 => by
    show 5 * U f t + f (t + 1) = sumTo (t + 1) _ + f (t + 1) * 5 ^ (t + 1 - (t + 1))
    rw [U_sum f t, ← sumTo_mul, Nat.sub_self, Int.pow_zero, Int.mul_one]
    congr 1
    refine sumTo_congr fun k hk => ?_
    rw [show t + 1 - k = (t - k) + 1 by omega, Int.pow_succ, Int.mul_left_comm]
    congr 1
    omega
theorem U_T (ns : List Int) : ∀ t, U (T ns) (t + 1) = lsum ns fun m => U (P ns m.toNat) t
  | 0 => by
    show 5 * T ns 0 + T ns 1 = _
    rw [T_zero, T_succ]; simp [U]
  | t + 1 => by
    show 5 * U (T ns) (t + 1) + T ns (t + 1 + 1) = _
    rw [U_T ns t, T_succ]
    unfold lsum
    have : ∀ l : List Int, 5 * (l.map fun m => U (P ns m.toNat) t).sum + (l.map fun m => P ns m.toNat (t + 1)).sum = (l.map fun m => U (P ns m.toNat) (t + 1)).sum := fun l => by
      induction l with
      | nil => rfl
      | cons a l ih =>
        simp only [List.map_cons, List.sum_cons]
        rw [← ih]
        show _ = 5 * U (P ns a.toNat) t + P ns a.toNat (t + 1) + _
        omega
    exact this ns
theorem bound (ns : List Int) (hn : ns.length ≤ 5) : ∀ (n t : Nat), t ≤ n → U (T ns) t ≤ 5 ^ t ∧ ∀ m, U (P ns m) t ≤ 5 ^ t := by
  have stepP : ∀ t, (∀ s, s ≤ t → U (T ns) s ≤ 5 ^ s) → ∀ m s, s ≤ t → U (P ns m) s ≤ 5 ^ s := by
    intro t h m
    induction m with
    | zero => intro s _; rw [P_zero, U_one]; exact Int.le_refl _
    | succ m ih =>
      intro s hs
      rw [P_succ, U_cv]
      refine Int.le_trans ?_ (h s hs)
      rw [U_sum]
      exact sumTo_le fun k hk => Int.mul_le_mul_of_nonneg_left (ih (s - k) (by omega)) (T_nn ns k)
  intro n
  induction n with
  | zero =>
    intro t ht
    obtain rfl : t = 0 := by omega
    have h0 : ∀ s, s ≤ 0 → U (T ns) s ≤ 5 ^ s := fun s hs => by
      obtain rfl : s = 0 := by omega
      show T ns 0 ≤ _
      rw [T_zero]; decide
    exact ⟨h0 0 (Nat.le_refl _), fun m => stepP 0 h0 m 0 (Nat.le_refl _)⟩
  | succ n ih =>
    have t1 : U (T ns) (n + 1) ≤ 5 ^ (n + 1) := by
      rw [U_T]
      unfold lsum
      have : ∀ l : List Int, (l.map fun m => U (P ns m.toNat) n).sum ≤ (l.length : Int) * 5 ^ n := fun l => by
        induction l with
        | nil => simp
        | cons a l ihl =>
          simp only [List.map_cons, List.sum_cons, List.length_cons]
          have := (ih n (Nat.le_refl _)).2 a.toNat
          have e : ((l.length + 1 : Nat) : Int) * 5 ^ n = (l.length : Int) * 5 ^ n + 5 ^ n := by
            rw [Int.natCast_add, Int.add_mul]; simp
          rw [e]; omega
      have p0 : (0 : Int) ≤ 5 ^ n := Int.le_of_lt (Int.pow_pos (by decide))
      have l5 : (ns.length : Int) * 5 ^ n ≤ 5 * 5 ^ n := Int.mul_le_mul_of_nonneg_right (by omega) p0
      have := this ns
      rw [Int.pow_succ]
      omega
    have hT : ∀ s, s ≤ n + 1 → U (T ns) s ≤ 5 ^ s := fun s hs => by
      by_cases h : s ≤ n
      · exact (ih s h).1
      · obtain rfl : s = n + 1 := by omega
        exact t1
    intro t ht
    exact ⟨hT t ht, fun m => stepP (n + 1) hT m t ht⟩
theorem P_le (ns : List Int) (hn : ns.length ≤ 5) {t n : Nat} (m : Nat) (h : t ≤ n) : P ns m t ≤ 5 ^ n := by
  have a := (U_last (fun s => P_nn ns m s) t).1
  have b := (bound ns hn t t (Nat.le_refl _)).2 m
  have c : (5 : Int) ^ t ≤ 5 ^ n := by
    have : (5 : Nat) ^ t ≤ 5 ^ n := Nat.pow_le_pow_right (by omega) h
    exact_mod_cast this
  omega
/-! lists -/
def tab (n : Nat) (f : Nat → Int) : List Int := (List.range n).map f
theorem tab_len (n : Nat) (f : Nat → Int) : (tab n f).length = n := by simp [tab]
theorem tab_get {n : Nat} {f : Nat → Int} {i : Nat} (h : i < n) : (tab n f)[i]? = some (f i) := by simp [tab, h]
theorem tab_congr {n : Nat} {f g : Nat → Int} (h : ∀ t, t < n → f t = g t) : tab n f = tab n g := by
  unfold tab; exact List.map_congr_left fun t ht => h t (by simpa using ht)
theorem tab_set {n : Nat} {f : Nat → Int} {i : Nat} {v : Int} : (tab n f).set i v = tab n fun t => if t = i then v else f t := by
  apply List.ext_getElem?
  intro j
  rw [List.getElem?_set]
  by_cases hj : j < n
  · rw [tab_get hj, tab_len]
    by_cases e : i = j
    · subst e; simp [hj]; rw [tab_get hj]; simp
    · rw [if_neg e, tab_get hj, if_neg (fun h => e h.symm)]
  · have a : (tab n f)[j]? = none := List.getElem?_eq_none (by rw [tab_len]; omega)
    have b : (tab n fun t => if t = i then v else f t)[j]? = none := List.getElem?_eq_none (by rw [tab_len]; omega)
    rw [a, b, tab_len]
    split
    · rename_i e; subst e; simp [hj]
    · rfl
theorem tab_sum (n : Nat) (f : Nat → Int) : (tab n f).sum = sumTo n f := by
  induction n with
  | zero => rfl
  | succ n ih => 
    unfold tab at ih ⊢
    rw [List.range_succ, List.map_append, List.sum_append, ih]; simp [sumTo]
theorem rep_tab (n : Nat) (x : Int) : List.replicate n x = tab n fun _ => x := by
  apply List.ext_getElem?
  intro j
  by_cases hj : j < n
  · rw [tab_get hj]; simp [hj]
  · rw [List.getElem?_eq_none (by simpa using hj), List.getElem?_eq_none (by rw [tab_len]; omega)]
theorem one_tab (n : Nat) : 1 :: List.replicate n (0 : Int) = tab (n + 1) one0 := by
  apply List.ext_getElem?
  intro j
  cases j with
  | zero => rw [tab_get (by omega)]; rfl
  | succ j =>
    by_cases hj : j < n
    · rw [tab_get (by omega)]; simp [hj, one0]
    · rw [List.getElem?_eq_none (by simp; omega), List.getElem?_eq_none (by rw [tab_len]; omega)]
/-- how many up to n -/
def cnt (ns xs : List Int) (n : Nat) : Int := sumTo (n + 1) fun t => lsum xs fun m => P ns m.toNat t
theorem cnt_more (ns xs : List Int) (n : Nat) : cnt ns xs (n + 1) = cnt ns xs n + lsum xs fun m => P ns m.toNat (n + 1) := rfl
theorem lsum_app (xs ys : List Int) (g : Int → Int) : lsum (xs ++ ys) g = lsum xs g + lsum ys g := by simp [lsum]
theorem cnt_app (ns xs ys : List Int) (n : Nat) : cnt ns (xs ++ ys) n = cnt ns xs n + cnt ns ys n := by
  unfold cnt
  rw [← sumTo_add]
  exact sumTo_congr fun k _ => lsum_app _ _ _
theorem cnt_due (ns xs : List Int) (n : Nat) : cnt ns xs n = lsum xs fun m => (tab (n + 1) (P ns m.toNat)).sum := by
  induction xs with
  | nil => exact sumTo_zero fun _ _ => rfl
  | cons x xs ih =>
    have e := cnt_app ns [x] xs n
    rw [List.singleton_append] at e
    rw [e, ih]
    have : cnt ns [x] n = (tab (n + 1) (P ns x.toNat)).sum := by
      rw [tab_sum]; exact sumTo_congr fun k _ => by simp [lsum]
    rw [this]; simp [lsum]
end M83
set_option linter.all false
set_option maxRecDepth 100000
set_option maxHeartbeats 4000000
namespace L83
open PySem PySem.Spec PyProof.Rows L2 Y
/-! promises: whole numbers, racks -/
def isWh : D → Option Int → Option Int → Bool
  | .int i, low, high => (match low with | none => true | some l => decide (l ≤ i)) && (match high with | none => true | some h => decide (i ≤ h))
  | _, _, _ => false
def oD : Option Int → D
  | none => .non
  | some i => .int i
def sp_is_whole : Sp2 := fun ds S Q E => ∃ d low high m, ds = [d, oD low, oD high] ∧ clsOf S d = some m ∧ Q (.bl (isWh d low high)) S
theorem s_is_whole : ∀ ds S Q E, sp_is_whole ds S Q E → r_is_whole (endsOf Q E) (start2 N_is_whole ds) S := by
  rintro _ S Q E ⟨d, low, high, m, rfl, hm, q⟩
  unfold r_is_whole
  simp only [sSeq, sIf, sRet, sRetN, sSet, sExpr, sNext, sAug, sAugS, sAsg, sPar, sFldS, sFz, sRetZ, sRetZZ, sNever, sRaise, sWhile, sFor, sBreak, sCont, eVar, eC, eOp, eCB, lCB, eCBK, eTup, lDisp, lOp, lRep, eFr, eMu, eFld, eIf, eAnd, eOr, eNot, eNeg, unNeg, eChain, tBl, tTru, tAnd2, tOr2, tNot2, tYes2, aNil, aCons, eCall, eCallK, gN, gTup2, gsCons, gsNil, gSub2, iSeq, iRng, iRngB, iEnum2, iStr2, lLc, lLcR, eSl, lSl, oNo, oSome, eBM, lBM, eLenSet, eMeth, eMake, eMakeZ, endsOf, start2, List.map_cons, List.map_nil, List.length_cons, List.length_nil, Nat.reduceSub, Nat.reduceAdd, List.replicate_zero, List.replicate_succ, List.append_nil, List.cons_append, List.nil_append, List.getElem?_cons_zero, List.getElem?_cons_succ, List.set_cons_zero, List.set_cons_succ, Option.some.injEq, exists_eq_left', exists_eq_left, truOf_bl, Bool.not_true, Bool.not_false, if_true, if_false, Bool.false_eq_true, reduceIte, D.bl.injEq, D.int.injEq, D.str.injEq, D.tup.injEq, D.lst.injEq, D.ref.injEq, wipeD, List.cons.injEq, and_true, true_and, opAdd_int, opSub_int, opMul_int, opDiv_int, opMod_int, opPow_int, opLt_int, opLe_int, opGt_int, opGe_int, opAddI_int, opEq_int, opNe_int, opIsN_eq, opNotN_eq, isN_non, isN_int, isN_bl, isN_tup, isN_lst, isN_str, seqZ_lst, seqZ_tup, opIx_lst, opIx_tup, fLen_lst, fLen_tup, fSum_iD, fTuple_lst, fList_lst, fMin2_int, fMax2_int, exists_const, sup_sup, sup_get, fIsi_of (n := "int") hm (by decide), fIsi_of (n := "bool") hm (by decide)]
  have other : isB m "int" = false → isWh d low high = false → (if (!isB m "int") = true then Q (D.bl false) S else True) := fun h1 h2 => by rw [h1]; rw [h2] at q; simpa using q
  cases d with
  | int i =>
    simp only [clsOf, Option.some.injEq] at hm
    subst hm
    have e1 : isB "int" "int" = true := by decide
    have e2 : isB "int" "bool" = false := by decide
    rw [e1, e2]
    simp only [isWh] at q
    cases low <;> cases high <;> simp only [oD, isN_non, isN_int, opLt_int, opLe_int, Bool.not_true, Bool.not_false, Bool.false_eq_true, if_true, if_false, D.bl.injEq, exists_eq_left', Bool.true_and, Bool.and_true] at q ⊢
    · exact q
    · exact q
    · rename_i l
      by_cases h : i < l
      · have : ¬ l ≤ i := by omega
        simpa [h, this] using q
      · have : l ≤ i := by omega
        simpa [h, this] using q
    · rename_i l u
      by_cases h : i < l
      · have : ¬ l ≤ i := by omega
        simpa [h, this] using q
      · have : l ≤ i := by omega
        simpa [h, this] using q
  | bl b =>
    simp only [clsOf, Option.some.injEq] at hm
    subst hm
    have e1 : isB "bool" "int" = true := by decide
    have e2 : isB "bool" "bool" = true := by decide
    rw [e1, e2]; simpa [isWh] using q
  | _ =>
    have e1 : isB m "int" = false := by
      first
      | (simp only [clsOf, Option.some.injEq] at hm; subst hm; decide)
      | (simp only [clsOf] at hm; split at hm <;> first | (cases hm; decide) | cases hm)
      | cases hm
    rw [e1]; simpa [isWh] using q
def sp_sure_size (C : Addr) : Sp2 := fun ds S Q E => ∃ d m, ds = [d] ∧ clsOf S d = some m ∧ (isWh d (some 0) (some 60) = true → Q .non S) ∧ (isWh d (some 0) (some 60) = false → E ⟨.ref C, false, [], []⟩ S)
theorem s_sure_size (C : Addr) : ∀ ds S Q E, sp_sure_size C ds S Q E → r_sure_size C sp_is_whole (endsOf Q E) (start2 N_sure_size ds) S := by
  rintro _ S Q E ⟨d, m, rfl, hm, q1, q2⟩
  unfold r_sure_size
  simp only [sSeq, sIf, sRet, sRetN, sSet, sExpr, sNext, sAug, sAugS, sAsg, sPar, sFldS, sFz, sRetZ, sRetZZ, sNever, sRaise, sWhile, sFor, sBreak, sCont, eVar, eC, eOp, eCB, lCB, eCBK, eTup, lDisp, lOp, lRep, eFr, eMu, eFld, eIf, eAnd, eOr, eNot, eNeg, unNeg, eChain, tBl, tTru, tAnd2, tOr2, tNot2, tYes2, aNil, aCons, eCall, eCallK, gN, gTup2, gsCons, gsNil, gSub2, iSeq, iRng, iRngB, iEnum2, iStr2, lLc, lLcR, eSl, lSl, oNo, oSome, eBM, lBM, eLenSet, eMeth, eMake, eMakeZ, endsOf, start2, List.map_cons, List.map_nil, List.length_cons, List.length_nil, Nat.reduceSub, Nat.reduceAdd, List.replicate_zero, List.replicate_succ, List.append_nil, List.cons_append, List.nil_append, List.getElem?_cons_zero, List.getElem?_cons_succ, List.set_cons_zero, List.set_cons_succ, Option.some.injEq, exists_eq_left', exists_eq_left, truOf_bl, Bool.not_true, Bool.not_false, if_true, if_false, Bool.false_eq_true, reduceIte, D.bl.injEq, D.int.injEq, D.str.injEq, D.tup.injEq, D.lst.injEq, D.ref.injEq, wipeD, List.cons.injEq, and_true, true_and, opAdd_int, opSub_int, opMul_int, opDiv_int, opMod_int, opPow_int, opLt_int, opLe_int, opGt_int, opGe_int, opAddI_int, opEq_int, opNe_int, opIsN_eq, opNotN_eq, isN_non, isN_int, isN_bl, isN_tup, isN_lst, isN_str, seqZ_lst, seqZ_tup, opIx_lst, opIx_tup, fLen_lst, fLen_tup, fSum_iD, fTuple_lst, fList_lst, fMin2_int, fMax2_int, exists_const, sup_sup, sup_get]
  refine ⟨d, some 0, some 60, m, rfl, hm, _, rfl, ?_⟩
  cases h : isWh d (some 0) (some 60) with
  | true => simpa using q1 h
  | false => simpa using q2 h
def isRk : D → Bool
  | .tup xs => decide (xs.length ≤ 4000) && xs.all fun x => isWh x (some 0) (some 200)
  | _ => false
def okR (S : Sto) (d : D) : Prop := (∃ m, clsOf S d = some m) ∧ ∀ xs, d = .tup xs → xs.length ≤ 10000 ∧ ∀ x ∈ xs, ∃ m, clsOf S x = some m
def sp_is_rack : Sp2 := fun ds S Q E => ∃ d, ds = [d] ∧ okR S d ∧ Q (.bl (isRk d)) S
theorem s_is_rack : ∀ ds S Q E, sp_is_rack ds S Q E → r_is_rack sp_is_whole (endsOf Q E) (start2 N_is_rack ds) S := by
  rintro _ S Q E ⟨d, rfl, ⟨⟨m, hm⟩, hx⟩, q⟩
  unfold r_is_rack
  simp only [sSeq, sIf, sRet, sRetN, sSet, sExpr, sNext, sAug, sAugS, sAsg, sPar, sFldS, sFz, sRetZ, sRetZZ, sNever, sRaise, sWhile, sFor, sBreak, sCont, eVar, eC, eOp, eCB, lCB, eCBK, eTup, lDisp, lOp, lRep, eFr, eMu, eFld, eIf, eAnd, eOr, eNot, eNeg, unNeg, eChain, tBl, tTru, tAnd2, tOr2, tNot2, tYes2, aNil, aCons, eCall, eCallK, gN, gTup2, gsCons, gsNil, gSub2, iSeq, iRng, iRngB, iEnum2, iStr2, lLc, lLcR, eSl, lSl, oNo, oSome, eBM, lBM, eLenSet, eMeth, eMake, eMakeZ, endsOf, start2, List.map_cons, List.map_nil, List.length_cons, List.length_nil, Nat.reduceSub, Nat.reduceAdd, List.replicate_zero, List.replicate_succ, List.append_nil, List.cons_append, List.nil_append, List.getElem?_cons_zero, List.getElem?_cons_succ, List.set_cons_zero, List.set_cons_succ, Option.some.injEq, exists_eq_left', exists_eq_left, truOf_bl, Bool.not_true, Bool.not_false, if_true, if_false, Bool.false_eq_true, reduceIte, D.bl.injEq, D.int.injEq, D.str.injEq, D.tup.injEq, D.lst.injEq, D.ref.injEq, wipeD, List.cons.injEq, and_true, true_and, opAdd_int, opSub_int, opMul_int, opDiv_int, opMod_int, opPow_int, opLt_int, opLe_int, opGt_int, opGe_int, opAddI_int, opEq_int, opNe_int, opIsN_eq, opNotN_eq, isN_non, isN_int, isN_bl, isN_tup, isN_lst, isN_str, seqZ_lst, seqZ_tup, opIx_lst, opIx_tup, fLen_lst, fLen_tup, fSum_iD, fTuple_lst, fList_lst, fMin2_int, fMax2_int, exists_const, sup_sup, sup_get, fIsi_of (n := "tuple") hm (by decide)]
  cases d with
  | tup xs =>
    obtain ⟨hl, hx⟩ := hx xs rfl
    simp only [clsOf, Option.some.injEq] at hm
    subst hm
    have e1 : isB "tuple" "tuple" = true := by decide
    rw [e1]
    simp only [Bool.not_true, Bool.false_eq_true, if_false]
    refine ⟨_, _, rfl, rfl, ?_⟩
    simp only [opGt_int]
    refine ⟨_, rfl, ?_⟩
    by_cases h : (4000 : Int) < (xs.length : Nat)
    · have : ¬ xs.length ≤ 4000 := by omega
      simpa [h, isRk, this] using q
    · have h4 : xs.length ≤ 4000 := by omega
      simp only [h, decide_false, Bool.false_eq_true, if_false]
      refine ⟨_, rfl, ?_⟩
      refine lcGo_map (fun x => .bl (isWh x (some 0) (some 200))) (fun x hx' K k => ?_) (by rw [sizeLine_eq]; omega) ?_
      · simp only [sSeq, sIf, sRet, sRetN, sSet, sExpr, sNext, sAug, sAugS, sAsg, sPar, sFldS, sFz, sRetZ, sRetZZ, sNever, sRaise, sWhile, sFor, sBreak, sCont, eVar, eC, eOp, eCB, lCB, eCBK, eTup, lDisp, lOp, lRep, eFr, eMu, eFld, eIf, eAnd, eOr, eNot, eNeg, unNeg, eChain, tBl, tTru, tAnd2, tOr2, tNot2, tYes2, aNil, aCons, eCall, eCallK, gN, gTup2, gsCons, gsNil, gSub2, iSeq, iRng, iRngB, iEnum2, iStr2, lLc, lLcR, eSl, lSl, oNo, oSome, eBM, lBM, eLenSet, eMeth, eMake, eMakeZ, endsOf, start2, List.map_cons, List.map_nil, List.length_cons, List.length_nil, Nat.reduceSub, Nat.reduceAdd, List.replicate_zero, List.replicate_succ, List.append_nil, List.cons_append, List.nil_append, List.getElem?_cons_zero, List.getElem?_cons_succ, List.set_cons_zero, List.set_cons_succ, Option.some.injEq, exists_eq_left', exists_eq_left, truOf_bl, Bool.not_true, Bool.not_false, if_true, if_false, Bool.false_eq_true, reduceIte, D.bl.injEq, D.int.injEq, D.str.injEq, D.tup.injEq, D.lst.injEq, D.ref.injEq, wipeD, List.cons.injEq, and_true, true_and, opAdd_int, opSub_int, opMul_int, opDiv_int, opMod_int, opPow_int, opLt_int, opLe_int, opGt_int, opGe_int, opAddI_int, opEq_int, opNe_int, opIsN_eq, opNotN_eq, isN_non, isN_int, isN_bl, isN_tup, isN_lst, isN_str, seqZ_lst, seqZ_tup, opIx_lst, opIx_tup, fLen_lst, fLen_tup, fSum_iD, fTuple_lst, fList_lst, fMin2_int, fMax2_int, exists_const, sup_sup, sup_get]
        obtain ⟨m, hm⟩ := hx x hx'
        exact ⟨x, some 0, some 200, m, rfl, hm, k⟩
      · refine ⟨_, _, xs.map fun x => isWh x (some 0) (some 200), rfl, rfl, ?_, ?_⟩
        · rw [← blsOf_map, List.map_map]; rfl
        · simpa [isRk, h4, List.all_map, Function.comp_def] using q
  | _ =>
    have e1 : isB m "tuple" = false := by
      first
      | (simp only [clsOf, Option.some.injEq] at hm; subst hm; decide)
      | (simp only [clsOf] at hm; split at hm <;> first | (cases hm; decide) | cases hm)
      | cases hm
    rw [e1]; simpa [isRk] using q
def sp_rackX (C : Addr) : Sp2 := fun ds S Q E => ∃ d, ds = [d] ∧ okR S d ∧ (isRk d = true → Q .non S) ∧ (isRk d = false → E ⟨.ref C, false, [], []⟩ S)
theorem s_rack_unless (C : Addr) : ∀ ds S Q E, sp_rackX C ds S Q E → r_rack_unless C sp_is_rack (endsOf Q E) (start2 N_rack_unless ds) S := by
  rintro _ S Q E ⟨d, rfl, hm, q1, q2⟩
  unfold r_rack_unless
  simp only [sSeq, sIf, sRet, sRetN, sSet, sExpr, sNext, sAug, sAugS, sAsg, sPar, sFldS, sFz, sRetZ, sRetZZ, sNever, sRaise, sWhile, sFor, sBreak, sCont, eVar, eC, eOp, eCB, lCB, eCBK, eTup, lDisp, lOp, lRep, eFr, eMu, eFld, eIf, eAnd, eOr, eNot, eNeg, unNeg, eChain, tBl, tTru, tAnd2, tOr2, tNot2, tYes2, aNil, aCons, eCall, eCallK, gN, gTup2, gsCons, gsNil, gSub2, iSeq, iRng, iRngB, iEnum2, iStr2, lLc, lLcR, eSl, lSl, oNo, oSome, eBM, lBM, eLenSet, eMeth, eMake, eMakeZ, endsOf, start2, List.map_cons, List.map_nil, List.length_cons, List.length_nil, Nat.reduceSub, Nat.reduceAdd, List.replicate_zero, List.replicate_succ, List.append_nil, List.cons_append, List.nil_append, List.getElem?_cons_zero, List.getElem?_cons_succ, List.set_cons_zero, List.set_cons_succ, Option.some.injEq, exists_eq_left', exists_eq_left, truOf_bl, Bool.not_true, Bool.not_false, if_true, if_false, Bool.false_eq_true, reduceIte, D.bl.injEq, D.int.injEq, D.str.injEq, D.tup.injEq, D.lst.injEq, D.ref.injEq, wipeD, List.cons.injEq, and_true, true_and, opAdd_int, opSub_int, opMul_int, opDiv_int, opMod_int, opPow_int, opLt_int, opLe_int, opGt_int, opGe_int, opAddI_int, opEq_int, opNe_int, opIsN_eq, opNotN_eq, isN_non, isN_int, isN_bl, isN_tup, isN_lst, isN_str, seqZ_lst, seqZ_tup, opIx_lst, opIx_tup, fLen_lst, fLen_tup, fSum_iD, fTuple_lst, fList_lst, fMin2_int, fMax2_int, exists_const, sup_sup, sup_get]
  refine ⟨d, rfl, hm, _, rfl, ?_⟩
  cases h : isRk d with
  | true => simpa using q1 h
  | false => simpa using q2 h
theorem s_sure_rack (C : Addr) : ∀ ds S Q E, sp_rackX C ds S Q E → r_sure_rack C sp_is_rack (endsOf Q E) (start2 N_sure_rack ds) S := s_rack_unless C
def sp_sure_small : Sp2 := fun ds S Q E => ∃ d, ds = [d] ∧ okR S d ∧ isRk d = true ∧ Q .non S
theorem s_sure_small : ∀ ds S Q E, sp_sure_small ds S Q E → r_sure_small sp_is_rack (endsOf Q E) (start2 N_sure_small ds) S := by
  rintro _ S Q E ⟨d, rfl, hm, h, q1⟩
  unfold r_sure_small
  simp only [sSeq, sIf, sRet, sRetN, sSet, sExpr, sNext, sAug, sAugS, sAsg, sPar, sFldS, sFz, sRetZ, sRetZZ, sNever, sRaise, sWhile, sFor, sBreak, sCont, eVar, eC, eOp, eCB, lCB, eCBK, eTup, lDisp, lOp, lRep, eFr, eMu, eFld, eIf, eAnd, eOr, eNot, eNeg, unNeg, eChain, tBl, tTru, tAnd2, tOr2, tNot2, tYes2, aNil, aCons, eCall, eCallK, gN, gTup2, gsCons, gsNil, gSub2, iSeq, iRng, iRngB, iEnum2, iStr2, lLc, lLcR, eSl, lSl, oNo, oSome, eBM, lBM, eLenSet, eMeth, eMake, eMakeZ, endsOf, start2, List.map_cons, List.map_nil, List.length_cons, List.length_nil, Nat.reduceSub, Nat.reduceAdd, List.replicate_zero, List.replicate_succ, List.append_nil, List.cons_append, List.nil_append, List.getElem?_cons_zero, List.getElem?_cons_succ, List.set_cons_zero, List.set_cons_succ, Option.some.injEq, exists_eq_left', exists_eq_left, truOf_bl, Bool.not_true, Bool.not_false, if_true, if_false, Bool.false_eq_true, reduceIte, D.bl.injEq, D.int.injEq, D.str.injEq, D.tup.injEq, D.lst.injEq, D.ref.injEq, wipeD, List.cons.injEq, and_true, true_and, opAdd_int, opSub_int, opMul_int, opDiv_int, opMod_int, opPow_int, opLt_int, opLe_int, opGt_int, opGe_int, opAddI_int, opEq_int, opNe_int, opIsN_eq, opNotN_eq, isN_non, isN_int, isN_bl, isN_tup, isN_lst, isN_str, seqZ_lst, seqZ_tup, opIx_lst, opIx_tup, fLen_lst, fLen_tup, fSum_iD, fTuple_lst, fList_lst, fMin2_int, fMax2_int, exists_const, sup_sup, sup_get]
  refine ⟨d, rfl, hm, _, rfl, ?_⟩
  simpa [h] using q1
/-- a rack of whole numbers -/
def rkD (xs : List Int) : D := .tup (iD xs)
def rkOk (xs : List Int) : Prop := xs.length ≤ 4000 ∧ ∀ x ∈ xs, 0 ≤ x ∧ x ≤ 200
theorem rk_is {xs : List Int} (h : rkOk xs) : isRk (rkD xs) = true := by
  simp only [isRk, rkD, Bool.and_eq_true, decide_eq_true_eq, List.all_eq_true]
  refine ⟨by simpa [iD] using h.1, fun x hx => ?_⟩
  simp only [iD, List.mem_map] at hx
  obtain ⟨i, hi, rfl⟩ := hx
  have := h.2 i hi
  simp [isWh, this]
theorem rk_ok {S : Sto} {xs : List Int} (h : rkOk xs) : okR S (rkD xs) := by
  refine ⟨⟨"tuple", rfl⟩, fun ys e => ?_⟩
  simp only [rkD, D.tup.injEq] at e
  subst e
  refine ⟨by have := h.1; simp [iD]; omega, fun x hx => ?_⟩
  simp only [iD, List.mem_map] at hx
  obtain ⟨i, hi, rfl⟩ := hx
  exact ⟨_, rfl⟩
def sp_put_beside : Sp2 := fun ds S Q E => ∃ xs ys, ds = [rkD xs, rkD ys] ∧ rkOk xs ∧ rkOk ys ∧ xs.length + ys.length ≤ 4000 ∧ Q (rkD (xs ++ ys)) S
theorem s_put_beside (C : Addr) : ∀ ds S Q E, sp_put_beside ds S Q E → r_put_beside sp_sure_small (sp_rackX C) (endsOf Q E) (start2 N_put_beside ds) S := by
  rintro _ S Q E ⟨xs, ys, rfl, h1, h2, h3, q1⟩
  have h12 : rkOk (xs ++ ys) := ⟨by simp; omega, fun x hx => by
    rcases List.mem_append.mp hx with h | h
    · exact h1.2 x h
    · exact h2.2 x h⟩
  have e : opAdd (rkD xs) (rkD ys) S = fun Q => (iD xs).length + (iD ys).length ≤ sizeLine ∧ Q (rkD (xs ++ ys)) S := by
    funext Q; simp only [rkD, opAdd, iD_app]
  have hz : (iD xs).length + (iD ys).length ≤ sizeLine := by rw [sizeLine_eq]; simp [iD]; omega
  unfold r_put_beside
  simp only [sSeq, sIf, sRet, sRetN, sSet, sExpr, sNext, sAug, sAugS, sAsg, sPar, sFldS, sFz, sRetZ, sRetZZ, sNever, sRaise, sWhile, sFor, sBreak, sCont, eVar, eC, eOp, eCB, lCB, eCBK, eTup, lDisp, lOp, lRep, eFr, eMu, eFld, eIf, eAnd, eOr, eNot, eNeg, unNeg, eChain, tBl, tTru, tAnd2, tOr2, tNot2, tYes2, aNil, aCons, eCall, eCallK, gN, gTup2, gsCons, gsNil, gSub2, iSeq, iRng, iRngB, iEnum2, iStr2, lLc, lLcR, eSl, lSl, oNo, oSome, eBM, lBM, eLenSet, eMeth, eMake, eMakeZ, endsOf, start2, List.map_cons, List.map_nil, List.length_cons, List.length_nil, Nat.reduceSub, Nat.reduceAdd, List.replicate_zero, List.replicate_succ, List.append_nil, List.cons_append, List.nil_append, List.getElem?_cons_zero, List.getElem?_cons_succ, List.set_cons_zero, List.set_cons_succ, Option.some.injEq, exists_eq_left', exists_eq_left, truOf_bl, Bool.not_true, Bool.not_false, if_true, if_false, Bool.false_eq_true, reduceIte, D.bl.injEq, D.int.injEq, D.str.injEq, D.tup.injEq, D.lst.injEq, D.ref.injEq, wipeD, List.cons.injEq, and_true, true_and, opAdd_int, opSub_int, opMul_int, opDiv_int, opMod_int, opPow_int, opLt_int, opLe_int, opGt_int, opGe_int, opAddI_int, opEq_int, opNe_int, opIsN_eq, opNotN_eq, isN_non, isN_int, isN_bl, isN_tup, isN_lst, isN_str, seqZ_lst, seqZ_tup, opIx_lst, opIx_tup, fLen_lst, fLen_tup, fSum_iD, fTuple_lst, fList_lst, fMin2_int, fMax2_int, exists_const, sup_sup, sup_get]
  refine ⟨_, rfl, rk_ok h1, fun _ => ?_, fun h => by rw [rk_is h1] at h; cases h⟩
  refine ⟨_, rfl, rk_ok h2, fun _ => ?_, fun h => by rw [rk_is h2] at h; cases h⟩
  dsimp only
  rw [e]
  exact ⟨hz, _, rfl, rk_ok h12, rk_is h12, hz, by simpa only [rkD, iD_app] using q1⟩
/-! draws -/
def WellS (S : Sto) (a : Addr) : Prop := ∃ x y z : Int, S a = some (.lst [.int x, .int y, .int z]) ∧ 0 ≤ x ∧ 0 ≤ y ∧ y < 2 ^ 31
def SBut (a : Addr) (S S' : Sto) : Prop := ∀ b, b ≠ a → S' b = S b
theorem SBut.trans {a : Addr} {S S1 S2 : Sto} (h : SBut a S S1) (k : SBut a S1 S2) : SBut a S S2 := fun b hb => (k b hb).trans (h b hb)
theorem SBut.sup {a : Addr} {S : Sto} {x : SO} : SBut a S (sup S a x) := fun b hb => sup_ne hb
theorem SBut.refl {a : Addr} {S : Sto} : SBut a S S := fun _ _ => rfl
def sp_draw : Sp2 := fun ds S Q E => ∃ a n, ds = [.ref a, .int n] ∧ WellS S a ∧ 1 ≤ n ∧ n < 2 ^ 30 ∧ ∀ r S', 0 ≤ r → r < n → WellS S' a → SBut a S S' → Q (.int r) S'
theorem opIx_ref {S : Sto} {a : Addr} {xs : List D} (h : S a = some (.lst xs)) {i : Int} {Q : QK} : opIx (.ref a) (.int i) S Q = ∃ d, L2.atI xs i = some d ∧ Q d S := opIx_i (lstOf_ref h)
theorem at0 {x y z : D} : L2.atI [x, y, z] 0 = some x := rfl
theorem at1 {x y z : D} : L2.atI [x, y, z] 1 = some y := rfl
theorem at2 {x y z : D} : L2.atI [x, y, z] 2 = some z := rfl
theorem set3 {S : Sto} {a : Addr} {x y z v : D} {i : Int} {j : Nat} {Q : Sto → Prop} (h : S a = some (.lst [x, y, z])) (e : L2.ixN 3 i = some j) (q : Q (sup S a (.lst ([x, y, z].set j v)))) : setL (.ref a) (.int i) v S Q := ⟨a, _, i, j, rfl, rfl, h, e, q⟩
theorem s_draw : ∀ ds S Q E, sp_draw ds S Q E → r__law_draw (endsOf Q E) (start2 N__law_draw ds) S := by
  rintro _ S Q E ⟨a, n, rfl, ⟨x, y, z, ha, hx, hy, hy2⟩, h1, h2, q⟩
  unfold r__law_draw
  simp only [sSeq, sIf, sRet, sRetN, sSet, sExpr, sNext, sAug, sAugS, sAsg, sPar, sFldS, sFz, sRetZ, sRetZZ, sNever, sRaise, sWhile, sFor, sBreak, sCont, eVar, eC, eOp, eCB, lCB, eCBK, eTup, lDisp, lOp, lRep, eFr, eMu, eFld, eIf, eAnd, eOr, eNot, eNeg, unNeg, eChain, tBl, tTru, tAnd2, tOr2, tNot2, tYes2, aNil, aCons, eCall, eCallK, gN, gTup2, gsCons, gsNil, gSub2, iSeq, iRng, iRngB, iEnum2, iStr2, lLc, lLcR, eSl, lSl, oNo, oSome, eBM, lBM, eLenSet, eMeth, eMake, eMakeZ, endsOf, start2, List.map_cons, List.map_nil, List.length_cons, List.length_nil, Nat.reduceSub, Nat.reduceAdd, List.replicate_zero, List.replicate_succ, List.append_nil, List.cons_append, List.nil_append, List.getElem?_cons_zero, List.getElem?_cons_succ, List.set_cons_zero, List.set_cons_succ, Option.some.injEq, exists_eq_left', exists_eq_left, truOf_bl, Bool.not_true, Bool.not_false, if_true, if_false, Bool.false_eq_true, reduceIte, D.bl.injEq, D.int.injEq, D.str.injEq, D.tup.injEq, D.lst.injEq, D.ref.injEq, wipeD, List.cons.injEq, and_true, true_and, opAdd_int, opSub_int, opMul_int, opDiv_int, opMod_int, opPow_int, opLt_int, opLe_int, opGt_int, opGe_int, opAddI_int, opEq_int, opNe_int, opIsN_eq, opNotN_eq, isN_non, isN_int, isN_bl, isN_tup, isN_lst, isN_str, seqZ_lst, seqZ_tup, opIx_lst, opIx_tup, fLen_lst, fLen_tup, fSum_iD, fTuple_lst, fList_lst, fMin2_int, fMax2_int, exists_const, sup_sup, sup_get, opIx_ref ha, at0]
  by_cases h : 0 < x
  · simp only [h, decide_true, if_true]
    refine ⟨x, n, rfl, ⟨h1, by omega⟩, _, rfl, rfl, _, _, rfl, ?_⟩
    refine set3 (j := 0) ha rfl ?_
    simp only [List.set_cons_zero]
    refine ⟨_, _, rfl, rfl, ?_⟩
    exact q _ _ (Int.emod_nonneg _ (by omega)) (Int.emod_lt_of_pos _ (by omega)) ⟨x / n, y, z, sup_same, Int.ediv_nonneg hx (by omega), hy, hy2⟩ SBut.sup
  · simp only [h, decide_false, Bool.false_eq_true, if_false]
    simp only [sSeq, sIf, sRet, sRetN, sSet, sExpr, sNext, sAug, sAugS, sAsg, sPar, sFldS, sFz, sRetZ, sRetZZ, sNever, sRaise, sWhile, sFor, sBreak, sCont, eVar, eC, eOp, eCB, lCB, eCBK, eTup, lDisp, lOp, lRep, eFr, eMu, eFld, eIf, eAnd, eOr, eNot, eNeg, unNeg, eChain, tBl, tTru, tAnd2, tOr2, tNot2, tYes2, aNil, aCons, eCall, eCallK, gN, gTup2, gsCons, gsNil, gSub2, iSeq, iRng, iRngB, iEnum2, iStr2, lLc, lLcR, eSl, lSl, oNo, oSome, eBM, lBM, eLenSet, eMeth, eMake, eMakeZ, endsOf, start2, List.map_cons, List.map_nil, List.length_cons, List.length_nil, Nat.reduceSub, Nat.reduceAdd, List.replicate_zero, List.replicate_succ, List.append_nil, List.cons_append, List.nil_append, List.getElem?_cons_zero, List.getElem?_cons_succ, List.set_cons_zero, List.set_cons_succ, Option.some.injEq, exists_eq_left', exists_eq_left, truOf_bl, Bool.not_true, Bool.not_false, if_true, if_false, Bool.false_eq_true, reduceIte, D.bl.injEq, D.int.injEq, D.str.injEq, D.tup.injEq, D.lst.injEq, D.ref.injEq, wipeD, List.cons.injEq, and_true, true_and, opAdd_int, opSub_int, opMul_int, opDiv_int, opMod_int, opPow_int, opLt_int, opLe_int, opGt_int, opGe_int, opAddI_int, opEq_int, opNe_int, opIsN_eq, opNotN_eq, isN_non, isN_int, isN_bl, isN_tup, isN_lst, isN_str, seqZ_lst, seqZ_tup, opIx_lst, opIx_tup, fLen_lst, fLen_tup, fSum_iD, fTuple_lst, fList_lst, fMin2_int, fMax2_int, exists_const, sup_sup, sup_get, opIx_ref ha, at2]
    refine set3 (j := 2) ha rfl ?_
    simp only [List.set_cons_succ, List.set_cons_zero]
    have hb : sup S a (.lst [.int x, .int y, .int (z + 1)]) a = some (.lst [.int x, .int y, .int (z + 1)]) := sup_same
    simp only [sSeq, sIf, sRet, sRetN, sSet, sExpr, sNext, sAug, sAugS, sAsg, sPar, sFldS, sFz, sRetZ, sRetZZ, sNever, sRaise, sWhile, sFor, sBreak, sCont, eVar, eC, eOp, eCB, lCB, eCBK, eTup, lDisp, lOp, lRep, eFr, eMu, eFld, eIf, eAnd, eOr, eNot, eNeg, unNeg, eChain, tBl, tTru, tAnd2, tOr2, tNot2, tYes2, aNil, aCons, eCall, eCallK, gN, gTup2, gsCons, gsNil, gSub2, iSeq, iRng, iRngB, iEnum2, iStr2, lLc, lLcR, eSl, lSl, oNo, oSome, eBM, lBM, eLenSet, eMeth, eMake, eMakeZ, endsOf, start2, List.map_cons, List.map_nil, List.length_cons, List.length_nil, Nat.reduceSub, Nat.reduceAdd, List.replicate_zero, List.replicate_succ, List.append_nil, List.cons_append, List.nil_append, List.getElem?_cons_zero, List.getElem?_cons_succ, List.set_cons_zero, List.set_cons_succ, Option.some.injEq, exists_eq_left', exists_eq_left, truOf_bl, Bool.not_true, Bool.not_false, if_true, if_false, Bool.false_eq_true, reduceIte, D.bl.injEq, D.int.injEq, D.str.injEq, D.tup.injEq, D.lst.injEq, D.ref.injEq, wipeD, List.cons.injEq, and_true, true_and, opAdd_int, opSub_int, opMul_int, opDiv_int, opMod_int, opPow_int, opLt_int, opLe_int, opGt_int, opGe_int, opAddI_int, opEq_int, opNe_int, opIsN_eq, opNotN_eq, isN_non, isN_int, isN_bl, isN_tup, isN_lst, isN_str, seqZ_lst, seqZ_tup, opIx_lst, opIx_tup, fLen_lst, fLen_tup, fSum_iD, fTuple_lst, fList_lst, fMin2_int, fMax2_int, exists_const, sup_sup, sup_get, opIx_ref hb, at2, at1]
    have b1 := Int.emod_nonneg (y * (2 * (z + 1) + 1) + 104729 * (z + 1) + 17) (b := 2147483629) (by omega)
    have b2 := Int.emod_lt_of_pos (y * (2 * (z + 1) + 1) + 104729 * (z + 1) + 17) (b := 2147483629) (by omega)
    generalize (y * (2 * (z + 1) + 1) + 104729 * (z + 1) + 17) % 2147483629 = u at b1 b2 ⊢
    have b3 := Int.emod_nonneg (u ^ (5 : Int).toNat) (b := 2147483587) (by omega)
    have b4 := Int.emod_lt_of_pos (u ^ (5 : Int).toNat) (b := 2147483587) (by omega)
    refine ⟨.inl (.inl ⟨by omega, by omega⟩), .inl (.inl ⟨by omega, by omega⟩), .inl (.inl ⟨by omega, by omega⟩), by omega, ⟨by omega, by omega, by omega⟩, by omega, ?_⟩
    generalize u ^ (5 : Int).toNat % 2147483587 = v at b3 b4 ⊢
    have b5 := Int.emod_nonneg (v * (v / 1301 + 50021)) (b := 2147483647) (by omega)
    refine ⟨⟨by omega, by decide⟩, .inl (.inl ⟨by omega, by omega⟩), by omega, ⟨by omega, by decide⟩, by omega, ?_⟩
    exact q _ _ (Int.emod_nonneg _ (by omega)) (Int.emod_lt_of_pos _ (by omega)) ⟨x, y, z + 1, sup_same, hx, hy, hy2⟩ SBut.sup
def sp_well : Sp2 := fun ds S Q E => ∃ n, ds = [.int n] ∧ ∀ a S', S a = none → WellS S' a → SBut a S S' → Q (.ref a) S'
theorem fInt_bl {b : Bool} {S : Sto} {Q : QK} : fInt [.bl b] S Q = Q (.int (if b then 1 else 0)) S := rfl
theorem s_well : ∀ ds S Q E, sp_well ds S Q E → r__law_well (endsOf Q E) (start2 N__law_well ds) S := by
  rintro _ S Q E ⟨n, rfl, q⟩
  unfold r__law_well
  simp only [sSeq, sIf, sRet, sRetN, sSet, sExpr, sNext, sAug, sAugS, sAsg, sPar, sFldS, sFz, sRetZ, sRetZZ, sNever, sRaise, sWhile, sFor, sBreak, sCont, eVar, eC, eOp, eCB, lCB, eCBK, eTup, lDisp, lOp, lRep, eFr, eMu, eFld, eIf, eAnd, eOr, eNot, eNeg, unNeg, eChain, tBl, tTru, tAnd2, tOr2, tNot2, tYes2, aNil, aCons, eCall, eCallK, gN, gTup2, gsCons, gsNil, gSub2, iSeq, iRng, iRngB, iEnum2, iStr2, lLc, lLcR, eSl, lSl, oNo, oSome, eBM, lBM, eLenSet, eMeth, eMake, eMakeZ, endsOf, start2, List.map_cons, List.map_nil, List.length_cons, List.length_nil, Nat.reduceSub, Nat.reduceAdd, List.replicate_zero, List.replicate_succ, List.append_nil, List.cons_append, List.nil_append, List.getElem?_cons_zero, List.getElem?_cons_succ, List.set_cons_zero, List.set_cons_succ, Option.some.injEq, exists_eq_left', exists_eq_left, truOf_bl, Bool.not_true, Bool.not_false, if_true, if_false, Bool.false_eq_true, reduceIte, D.bl.injEq, D.int.injEq, D.str.injEq, D.tup.injEq, D.lst.injEq, D.ref.injEq, wipeD, List.cons.injEq, and_true, true_and, opAdd_int, opSub_int, opMul_int, opDiv_int, opMod_int, opPow_int, opLt_int, opLe_int, opGt_int, opGe_int, opAddI_int, opEq_int, opNe_int, opIsN_eq, opNotN_eq, isN_non, isN_int, isN_bl, isN_tup, isN_lst, isN_str, seqZ_lst, seqZ_tup, opIx_lst, opIx_tup, fLen_lst, fLen_tup, fSum_iD, fTuple_lst, fList_lst, fMin2_int, fMax2_int, exists_const, sup_sup, sup_get, fInt_bl]
  have e : (10 : Int) ^ (18 : Int).toNat = 1000000000000000000 := by decide
  rw [e]
  refine ⟨⟨by decide, by decide, by decide⟩, .inl (.inr ?_), by omega, by rw [sizeLine_eq]; decide, fun p hp => ?_⟩
  · split <;> decide
  · refine q p _ hp ⟨_, _, _, sup_same, ?_, Int.emod_nonneg _ (by omega), ?_⟩ SBut.sup
    · split
      · rename_i h; simp at h; omega
      · omega
    · have := Int.emod_lt_of_pos n (b := 2147483647) (by omega); omega
end L83
set_option linter.all false
set_option maxRecDepth 100000
set_option maxHeartbeats 4000000
namespace L83
open PySem PySem.Spec PyProof.Rows L2 Y
abbrev LET : Str := "abcdefghijklmnopqrstuvwxyz"
def nameOk (z : Str) : Prop := 1 ≤ z.length ∧ z.length ≤ 8 ∧ ∀ c ∈ z.cps.toList, c ∈ LET.cps.toList
def mkD (ms : List (Str × Int)) : List D := ms.map fun p => .tup [.str p.1, .int p.2]
def mksOk (ms : List (Str × Int)) : Prop := 2 ≤ ms.length ∧ ms.length ≤ 5 ∧ (∀ p ∈ ms, nameOk p.1 ∧ 0 ≤ p.2 ∧ p.2 ≤ 4) ∧ (ms.map (·.1)).Nodup ∧ (0 : Int) ∈ ms.map (·.2) ∧ ∃ p ∈ ms, 1 < p.2
def dNum : D → D
  | .tup [_, n] => n
  | _ => .non
def dName : D → D
  | .tup [n, _] => n
  | _ => .non
theorem small8 {n : Nat} (h : n ≤ 8) : n ≤ sizeLine := by rw [sizeLine_eq]; omega
def sp_is_name : Sp2 := fun ds S Q E => ∃ z, ds = [.str z] ∧ nameOk z ∧ Q (.bl true) S
theorem s_is_name : ∀ ds S Q E, sp_is_name ds S Q E → r_is_name (endsOf Q E) (start2 N_is_name ds) S := by
  rintro _ S Q E ⟨z, rfl, ⟨h1, h2, h3⟩, q⟩
  have hm : clsOf S (.str z) = some "str" := rfl
  have e1 : isB "str" "str" = true := by decide
  have g1 : (1 : Int) ≤ (z.length : Nat) := by omega
  have g2 : ((z.length : Nat) : Int) ≤ 8 := by omega
  unfold r_is_name
  simp only [sSeq, sIf, sRet, sRetN, sSet, sExpr, sNext, sAug, sAugS, sAsg, sPar, sFldS, sFz, sRetZ, sRetZZ, sNever, sRaise, sWhile, sFor, sBreak, sCont, eVar, eC, eOp, eCB, lCB, eCBK, eTup, lDisp, lOp, lRep, eFr, eMu, eFld, eIf, eAnd, eOr, eNot, eNeg, unNeg, eChain, tBl, tTru, tAnd2, tOr2, tNot2, tYes2, aNil, aCons, eCall, eCallK, gN, gTup2, gsCons, gsNil, gSub2, iSeq, iRng, iRngB, iEnum2, iStr2, lLc, lLcR, eSl, lSl, oNo, oSome, eBM, lBM, eLenSet, eMeth, eMake, eMakeZ, endsOf, start2, List.map_cons, List.map_nil, List.length_cons, List.length_nil, Nat.reduceSub, Nat.reduceAdd, List.replicate_zero, List.replicate_succ, List.append_nil, List.cons_append, List.nil_append, List.getElem?_cons_zero, List.getElem?_cons_succ, List.set_cons_zero, List.set_cons_succ, Option.some.injEq, exists_eq_left', exists_eq_left, truOf_bl, Bool.not_true, Bool.not_false, if_true, if_false, Bool.false_eq_true, reduceIte, D.bl.injEq, D.int.injEq, D.str.injEq, D.tup.injEq, D.lst.injEq, D.ref.injEq, wipeD, List.cons.injEq, and_true, true_and, opAdd_int, opSub_int, opMul_int, opDiv_int, opMod_int, opPow_int, opLt_int, opLe_int, opGt_int, opGe_int, opAddI_int, opEq_int, opNe_int, opIsN_eq, opNotN_eq, isN_non, isN_int, isN_bl, isN_tup, isN_lst, isN_str, seqZ_lst, seqZ_tup, opIx_lst, opIx_tup, fLen_lst, fLen_tup, fSum_iD, fTuple_lst, fList_lst, fMin2_int, fMax2_int, exists_const, sup_sup, sup_get, fIsi_of (n := "str") hm (by decide), e1, fLen_str (small8 h2), g1, g2, decide_true]
  refine (lcGo_map (fun _ => .bl true) (fun d hd K k => ?_) ?_ ?_)
  · simp only [signsD, List.mem_map] at hd
    obtain ⟨c, hc, rfl⟩ := hd
    simp only [sSeq, sIf, sRet, sRetN, sSet, sExpr, sNext, sAug, sAugS, sAsg, sPar, sFldS, sFz, sRetZ, sRetZZ, sNever, sRaise, sWhile, sFor, sBreak, sCont, eVar, eC, eOp, eCB, lCB, eCBK, eTup, lDisp, lOp, lRep, eFr, eMu, eFld, eIf, eAnd, eOr, eNot, eNeg, unNeg, eChain, tBl, tTru, tAnd2, tOr2, tNot2, tYes2, aNil, aCons, eCall, eCallK, gN, gTup2, gsCons, gsNil, gSub2, iSeq, iRng, iRngB, iEnum2, iStr2, lLc, lLcR, eSl, lSl, oNo, oSome, eBM, lBM, eLenSet, eMeth, eMake, eMakeZ, endsOf, start2, List.map_cons, List.map_nil, List.length_cons, List.length_nil, Nat.reduceSub, Nat.reduceAdd, List.replicate_zero, List.replicate_succ, List.append_nil, List.cons_append, List.nil_append, List.getElem?_cons_zero, List.getElem?_cons_succ, List.set_cons_zero, List.set_cons_succ, Option.some.injEq, exists_eq_left', exists_eq_left, truOf_bl, Bool.not_true, Bool.not_false, if_true, if_false, Bool.false_eq_true, reduceIte, D.bl.injEq, D.int.injEq, D.str.injEq, D.tup.injEq, D.lst.injEq, D.ref.injEq, wipeD, List.cons.injEq, and_true, true_and, opAdd_int, opSub_int, opMul_int, opDiv_int, opMod_int, opPow_int, opLt_int, opLe_int, opGt_int, opGe_int, opAddI_int, opEq_int, opNe_int, opIsN_eq, opNotN_eq, isN_non, isN_int, isN_bl, isN_tup, isN_lst, isN_str, seqZ_lst, seqZ_tup, opIx_lst, opIx_tup, fLen_lst, fLen_tup, fSum_iD, fTuple_lst, fList_lst, fMin2_int, fMax2_int, exists_const, sup_sup, sup_get]
    refine ⟨c, rfl, ?_⟩
    have : c ∈ LET.cps.toList := h3 c hc
    rw [decide_eq_true this]
    exact k
  · have : (signsD z).length = z.length := by simp [signsD, Str.length]
    rw [this]; exact small8 h2
  · exact fAll_map q
def sp_is_maker_row : Sp2 := fun ds S Q E => ∃ z m, ds = [.tup [.str z, .int m]] ∧ nameOk z ∧ 0 ≤ m ∧ m ≤ 4 ∧ Q (.bl true) S
theorem s_is_maker_row : ∀ ds S Q E, sp_is_maker_row ds S Q E → r_is_maker_row sp_is_name sp_is_whole (endsOf Q E) (start2 N_is_maker_row ds) S := by
  rintro _ S Q E ⟨z, m, rfl, hz, h1, h2, q⟩
  have hm : clsOf S (.tup [.str z, .int m]) = some "tuple" := rfl
  have e1 : isB "tuple" "tuple" = true := by decide
  have e2 : (!(((2 : Nat) : Int) == 2)) = false := by decide
  unfold r_is_maker_row
  simp only [sSeq, sIf, sRet, sRetN, sSet, sExpr, sNext, sAug, sAugS, sAsg, sPar, sFldS, sFz, sRetZ, sRetZZ, sNever, sRaise, sWhile, sFor, sBreak, sCont, eVar, eC, eOp, eCB, lCB, eCBK, eTup, lDisp, lOp, lRep, eFr, eMu, eFld, eIf, eAnd, eOr, eNot, eNeg, unNeg, eChain, tBl, tTru, tAnd2, tOr2, tNot2, tYes2, aNil, aCons, eCall, eCallK, gN, gTup2, gsCons, gsNil, gSub2, iSeq, iRng, iRngB, iEnum2, iStr2, lLc, lLcR, eSl, lSl, oNo, oSome, eBM, lBM, eLenSet, eMeth, eMake, eMakeZ, endsOf, start2, List.map_cons, List.map_nil, List.length_cons, List.length_nil, Nat.reduceSub, Nat.reduceAdd, List.replicate_zero, List.replicate_succ, List.append_nil, List.cons_append, List.nil_append, List.getElem?_cons_zero, List.getElem?_cons_succ, List.set_cons_zero, List.set_cons_succ, Option.some.injEq, exists_eq_left', exists_eq_left, truOf_bl, Bool.not_true, Bool.not_false, if_true, if_false, Bool.false_eq_true, reduceIte, D.bl.injEq, D.int.injEq, D.str.injEq, D.tup.injEq, D.lst.injEq, D.ref.injEq, wipeD, List.cons.injEq, and_true, true_and, opAdd_int, opSub_int, opMul_int, opDiv_int, opMod_int, opPow_int, opLt_int, opLe_int, opGt_int, opGe_int, opAddI_int, opEq_int, opNe_int, opIsN_eq, opNotN_eq, isN_non, isN_int, isN_bl, isN_tup, isN_lst, isN_str, seqZ_lst, seqZ_tup, opIx_lst, opIx_tup, fLen_lst, fLen_tup, fSum_iD, fTuple_lst, fList_lst, fMin2_int, fMax2_int, exists_const, sup_sup, sup_get, fIsi_of (n := "tuple") hm (by decide), e1]
  simp only [List.length_cons, List.length_nil, Nat.zero_add, Nat.reduceAdd, e2, Bool.false_eq_true, if_false]
  refine ⟨_, rfl, z, rfl, hz, _, rfl, ?_⟩
  simp only [if_true]
  refine ⟨_, rfl, .int m, some 0, some 4, "int", rfl, rfl, ?_⟩
  simpa [isWh, h1, h2] using q
def sp_are_makers : Sp2 := fun ds S Q E => ∃ ms, ds = [.lst (mkD ms)] ∧ mksOk ms ∧ Q (.bl true) S
theorem mkD_len (ms : List (Str × Int)) : (mkD ms).length = ms.length := by simp [mkD]
theorem foldl_max_lt (ns : List Int) : ∀ n k : Int, (k < n ∨ ∃ x ∈ ns, k < x) → k < ns.foldl max n := by
  induction ns with
  | nil => intro n k h; rcases h with h | ⟨x, h, _⟩; exact h; simp at h
  | cons a ns ih =>
    intro n k h
    simp only [List.foldl_cons]
    refine ih _ k ?_
    rcases h with h | ⟨x, hx, hk⟩
    · left; omega
    · rcases List.mem_cons.mp hx with rfl | hx
      · left; omega
      · exact .inr ⟨x, hx, hk⟩
theorem nums_iD (ms : List (Str × Int)) : (mkD ms).map dNum = iD (ms.map (·.2)) := by
  simp [mkD, iD, dNum]
theorem names_D (ms : List (Str × Int)) : (mkD ms).map dName = (ms.map (·.1)).map D.str := by
  simp [mkD, dName]
theorem pureAll_iD : ∀ xs : List Int, pureAll (iD xs) = true
  | [] => rfl
  | x :: xs => by simp only [iD, List.map_cons, pureAll, pureD, Bool.true_and]; exact pureAll_iD xs
theorem depAll_iD : ∀ xs : List Int, depAll (iD xs) = 0
  | [] => rfl
  | x :: xs => by simp only [iD, List.map_cons, depAll, depD]; have := depAll_iD xs; simp only [iD] at this; omega
theorem okEq_iD (xs : List Int) : okEq (.lst (iD xs)) := ⟨by simpa [pureD] using pureAll_iD xs, by simp [depD, depAll_iD]⟩
theorem any_iD (xs : List Int) (i : Int) : (iD xs).any (fun z => eqD z (.int i)) = decide (i ∈ xs) := by
  induction xs with
  | nil => simp [iD]
  | cons x xs ih =>
    simp only [iD, List.map_cons, List.any_cons] at ih ⊢
    rw [ih]; simp only [eqD, List.mem_cons, Bool.decide_or]
    congr 1
    by_cases e : i = x
    · subst e; simp
    · have : (x == i) = false := beq_eq_false_iff_ne.mpr fun h => e h.symm
      simp [this, e]
theorem s_are_makers : ∀ ds S Q E, sp_are_makers ds S Q E → r_are_makers sp_is_maker_row (endsOf Q E) (start2 N_are_makers ds) S := by
  rintro _ S Q E ⟨ms, rfl, ⟨h1, h2, h3, h4, h5, h6⟩, q⟩
  have hm : clsOf S (.lst (mkD ms)) = some "list" := rfl
  have e1 : isB "list" "list" = true := by decide
  have g1 : (2 : Int) ≤ (ms.length : Nat) := by omega
  have g2 : ((ms.length : Nat) : Int) ≤ 5 := by omega
  have hz : (mkD ms).length ≤ sizeLine := by rw [mkD_len]; exact small8 (by omega)
  unfold r_are_makers
  simp only [sSeq, sIf, sRet, sRetN, sSet, sExpr, sNext, sAug, sAugS, sAsg, sPar, sFldS, sFz, sRetZ, sRetZZ, sNever, sRaise, sWhile, sFor, sBreak, sCont, eVar, eC, eOp, eCB, lCB, eCBK, eTup, lDisp, lOp, lRep, eFr, eMu, eFld, eIf, eAnd, eOr, eNot, eNeg, unNeg, eChain, tBl, tTru, tAnd2, tOr2, tNot2, tYes2, aNil, aCons, eCall, eCallK, gN, gTup2, gsCons, gsNil, gSub2, iSeq, iRng, iRngB, iEnum2, iStr2, lLc, lLcR, eSl, lSl, oNo, oSome, eBM, lBM, eLenSet, eMeth, eMake, eMakeZ, endsOf, start2, List.map_cons, List.map_nil, List.length_cons, List.length_nil, Nat.reduceSub, Nat.reduceAdd, List.replicate_zero, List.replicate_succ, List.append_nil, List.cons_append, List.nil_append, List.getElem?_cons_zero, List.getElem?_cons_succ, List.set_cons_zero, List.set_cons_succ, Option.some.injEq, exists_eq_left', exists_eq_left, truOf_bl, Bool.not_true, Bool.not_false, if_true, if_false, Bool.false_eq_true, reduceIte, D.bl.injEq, D.int.injEq, D.str.injEq, D.tup.injEq, D.lst.injEq, D.ref.injEq, wipeD, List.cons.injEq, and_true, true_and, opAdd_int, opSub_int, opMul_int, opDiv_int, opMod_int, opPow_int, opLt_int, opLe_int, opGt_int, opGe_int, opAddI_int, opEq_int, opNe_int, opIsN_eq, opNotN_eq, isN_non, isN_int, isN_bl, isN_tup, isN_lst, isN_str, seqZ_lst, seqZ_tup, opIx_lst, opIx_tup, fLen_lst, fLen_tup, fSum_iD, fTuple_lst, fList_lst, fMin2_int, fMax2_int, exists_const, sup_sup, sup_get, fIsi_of (n := "list") hm (by decide), e1, mkD_len, g1, g2, decide_true]
  refine lcGo_map (fun _ => .bl true) (fun d hd K k => ?_) hz ?_
  · simp only [mkD, List.mem_map] at hd
    obtain ⟨p, hp, rfl⟩ := hd
    simp only [sSeq, sIf, sRet, sRetN, sSet, sExpr, sNext, sAug, sAugS, sAsg, sPar, sFldS, sFz, sRetZ, sRetZZ, sNever, sRaise, sWhile, sFor, sBreak, sCont, eVar, eC, eOp, eCB, lCB, eCBK, eTup, lDisp, lOp, lRep, eFr, eMu, eFld, eIf, eAnd, eOr, eNot, eNeg, unNeg, eChain, tBl, tTru, tAnd2, tOr2, tNot2, tYes2, aNil, aCons, eCall, eCallK, gN, gTup2, gsCons, gsNil, gSub2, iSeq, iRng, iRngB, iEnum2, iStr2, lLc, lLcR, eSl, lSl, oNo, oSome, eBM, lBM, eLenSet, eMeth, eMake, eMakeZ, endsOf, start2, List.map_cons, List.map_nil, List.length_cons, List.length_nil, Nat.reduceSub, Nat.reduceAdd, List.replicate_zero, List.replicate_succ, List.append_nil, List.cons_append, List.nil_append, List.getElem?_cons_zero, List.getElem?_cons_succ, List.set_cons_zero, List.set_cons_succ, Option.some.injEq, exists_eq_left', exists_eq_left, truOf_bl, Bool.not_true, Bool.not_false, if_true, if_false, Bool.false_eq_true, reduceIte, D.bl.injEq, D.int.injEq, D.str.injEq, D.tup.injEq, D.lst.injEq, D.ref.injEq, wipeD, List.cons.injEq, and_true, true_and, opAdd_int, opSub_int, opMul_int, opDiv_int, opMod_int, opPow_int, opLt_int, opLe_int, opGt_int, opGe_int, opAddI_int, opEq_int, opNe_int, opIsN_eq, opNotN_eq, isN_non, isN_int, isN_bl, isN_tup, isN_lst, isN_str, seqZ_lst, seqZ_tup, opIx_lst, opIx_tup, fLen_lst, fLen_tup, fSum_iD, fTuple_lst, fList_lst, fMin2_int, fMax2_int, exists_const, sup_sup, sup_get]
    exact ⟨p.1, p.2, rfl, (h3 p hp).1, (h3 p hp).2.1, (h3 p hp).2.2, k⟩
  refine fAll_map ?_
  refine ⟨_, rfl, ?_⟩
  simp only [Bool.not_true, Bool.false_eq_true, if_false]
  refine lcGo_map dName (fun d hd K k => ?_) hz ?_
  · simp only [mkD, List.mem_map] at hd
    obtain ⟨p, hp, rfl⟩ := hd
    simp only [sSeq, sIf, sRet, sRetN, sSet, sExpr, sNext, sAug, sAugS, sAsg, sPar, sFldS, sFz, sRetZ, sRetZZ, sNever, sRaise, sWhile, sFor, sBreak, sCont, eVar, eC, eOp, eCB, lCB, eCBK, eTup, lDisp, lOp, lRep, eFr, eMu, eFld, eIf, eAnd, eOr, eNot, eNeg, unNeg, eChain, tBl, tTru, tAnd2, tOr2, tNot2, tYes2, aNil, aCons, eCall, eCallK, gN, gTup2, gsCons, gsNil, gSub2, iSeq, iRng, iRngB, iEnum2, iStr2, lLc, lLcR, eSl, lSl, oNo, oSome, eBM, lBM, eLenSet, eMeth, eMake, eMakeZ, endsOf, start2, List.map_cons, List.map_nil, List.length_cons, List.length_nil, Nat.reduceSub, Nat.reduceAdd, List.replicate_zero, List.replicate_succ, List.append_nil, List.cons_append, List.nil_append, List.getElem?_cons_zero, List.getElem?_cons_succ, List.set_cons_zero, List.set_cons_succ, Option.some.injEq, exists_eq_left', exists_eq_left, truOf_bl, Bool.not_true, Bool.not_false, if_true, if_false, Bool.false_eq_true, reduceIte, D.bl.injEq, D.int.injEq, D.str.injEq, D.tup.injEq, D.lst.injEq, D.ref.injEq, wipeD, List.cons.injEq, and_true, true_and, opAdd_int, opSub_int, opMul_int, opDiv_int, opMod_int, opPow_int, opLt_int, opLe_int, opGt_int, opGe_int, opAddI_int, opEq_int, opNe_int, opIsN_eq, opNotN_eq, isN_non, isN_int, isN_bl, isN_tup, isN_lst, isN_str, seqZ_lst, seqZ_tup, opIx_lst, opIx_tup, fLen_lst, fLen_tup, fSum_iD, fTuple_lst, fList_lst, fMin2_int, fMax2_int, exists_const, sup_sup, sup_get]
    exact ⟨_, _, ⟨rfl, rfl⟩, _, _, rfl, rfl, k⟩
  rw [names_D]
  refine ⟨_, _, rfl, strsOf_map _, h4, by simp; omega, ?_⟩
  have e2 : ¬ (((ms.map (·.1)).length : Nat) : Int) < (ms.length : Nat) := by simp
  simp only [fLen_lst, mkD_len, opLt_int, e2, decide_false, D.bl.injEq, exists_eq_left', Bool.false_eq_true, if_false]
  refine lcGo_map dNum (fun d hd K k => ?_) hz ?_
  · simp only [mkD, List.mem_map] at hd
    obtain ⟨p, hp, rfl⟩ := hd
    simp only [sSeq, sIf, sRet, sRetN, sSet, sExpr, sNext, sAug, sAugS, sAsg, sPar, sFldS, sFz, sRetZ, sRetZZ, sNever, sRaise, sWhile, sFor, sBreak, sCont, eVar, eC, eOp, eCB, lCB, eCBK, eTup, lDisp, lOp, lRep, eFr, eMu, eFld, eIf, eAnd, eOr, eNot, eNeg, unNeg, eChain, tBl, tTru, tAnd2, tOr2, tNot2, tYes2, aNil, aCons, eCall, eCallK, gN, gTup2, gsCons, gsNil, gSub2, iSeq, iRng, iRngB, iEnum2, iStr2, lLc, lLcR, eSl, lSl, oNo, oSome, eBM, lBM, eLenSet, eMeth, eMake, eMakeZ, endsOf, start2, List.map_cons, List.map_nil, List.length_cons, List.length_nil, Nat.reduceSub, Nat.reduceAdd, List.replicate_zero, List.replicate_succ, List.append_nil, List.cons_append, List.nil_append, List.getElem?_cons_zero, List.getElem?_cons_succ, List.set_cons_zero, List.set_cons_succ, Option.some.injEq, exists_eq_left', exists_eq_left, truOf_bl, Bool.not_true, Bool.not_false, if_true, if_false, Bool.false_eq_true, reduceIte, D.bl.injEq, D.int.injEq, D.str.injEq, D.tup.injEq, D.lst.injEq, D.ref.injEq, wipeD, List.cons.injEq, and_true, true_and, opAdd_int, opSub_int, opMul_int, opDiv_int, opMod_int, opPow_int, opLt_int, opLe_int, opGt_int, opGe_int, opAddI_int, opEq_int, opNe_int, opIsN_eq, opNotN_eq, isN_non, isN_int, isN_bl, isN_tup, isN_lst, isN_str, seqZ_lst, seqZ_tup, opIx_lst, opIx_tup, fLen_lst, fLen_tup, fSum_iD, fTuple_lst, fList_lst, fMin2_int, fMax2_int, exists_const, sup_sup, sup_get]
    exact ⟨_, _, ⟨rfl, rfl⟩, _, _, rfl, rfl, k⟩
  rw [nums_iD]
  show ∃ xs, lstOf S (.lst (iD (ms.map (·.2)))) = some xs ∧ okEq (.int 0) ∧ okEq (.lst xs) ∧ _
  refine ⟨_, rfl, okEq_int 0, okEq_iD _, _, rfl, ?_⟩
  rw [any_iD, decide_eq_true h5]
  simp only [if_true]
  cases hms : ms.map (·.2) with
  | nil => simp [hms] at h5
  | cons n ns =>
    refine ⟨_, _, n, ns, rfl, rfl, intsOf_iD _, ?_⟩
    simp only [opGt_int]
    have : (1 : Int) < ns.foldl max n := by
      obtain ⟨p, hp, h⟩ := h6
      have : p.2 ∈ n :: ns := by rw [← hms]; exact List.mem_map_of_mem hp
      exact foldl_max_lt ns n 1 (by rcases List.mem_cons.mp this with e | e; exact .inl (e ▸ h); exact .inr ⟨_, e, h⟩)
    rw [decide_eq_true this]
    exact q
/-! Kind -/
def kindD (C : Addr) (ms : List (Str × Int)) : D := .obj C ["rows"] [.lst (mkD ms)]
def sp_init (C : Addr) : Sp2 := fun ds S Q E => ∃ p ms, ds = [.ref p, .lst (mkD ms)] ∧ mksOk ms ∧ S p = some (.ins C []) ∧ Q .non (sup S p (.ins C [("rows", .lst (mkD ms))]))
theorem s_init (C : Addr) : ∀ ds S Q E, sp_init C ds S Q E → r_Kind___init__ C sp_are_makers (endsOf Q E) (start2 N_Kind___init__ ds) S := by
  rintro _ S Q E ⟨p, ms, rfl, h, hp, q⟩
  unfold r_Kind___init__
  simp only [sSeq, sIf, sRet, sRetN, sSet, sExpr, sNext, sAug, sAugS, sAsg, sPar, sFldS, sFz, sRetZ, sRetZZ, sNever, sRaise, sWhile, sFor, sBreak, sCont, eVar, eC, eOp, eCB, lCB, eCBK, eTup, lDisp, lOp, lRep, eFr, eMu, eFld, eIf, eAnd, eOr, eNot, eNeg, unNeg, eChain, tBl, tTru, tAnd2, tOr2, tNot2, tYes2, aNil, aCons, eCall, eCallK, gN, gTup2, gsCons, gsNil, gSub2, iSeq, iRng, iRngB, iEnum2, iStr2, lLc, lLcR, eSl, lSl, oNo, oSome, eBM, lBM, eLenSet, eMeth, eMake, eMakeZ, endsOf, start2, List.map_cons, List.map_nil, List.length_cons, List.length_nil, Nat.reduceSub, Nat.reduceAdd, List.replicate_zero, List.replicate_succ, List.append_nil, List.cons_append, List.nil_append, List.getElem?_cons_zero, List.getElem?_cons_succ, List.set_cons_zero, List.set_cons_succ, Option.some.injEq, exists_eq_left', exists_eq_left, truOf_bl, Bool.not_true, Bool.not_false, if_true, if_false, Bool.false_eq_true, reduceIte, D.bl.injEq, D.int.injEq, D.str.injEq, D.tup.injEq, D.lst.injEq, D.ref.injEq, wipeD, List.cons.injEq, and_true, true_and, opAdd_int, opSub_int, opMul_int, opDiv_int, opMod_int, opPow_int, opLt_int, opLe_int, opGt_int, opGe_int, opAddI_int, opEq_int, opNe_int, opIsN_eq, opNotN_eq, isN_non, isN_int, isN_bl, isN_tup, isN_lst, isN_str, seqZ_lst, seqZ_tup, opIx_lst, opIx_tup, fLen_lst, fLen_tup, fSum_iD, fTuple_lst, fList_lst, fMin2_int, fMax2_int, exists_const, sup_sup, sup_get]
  refine ⟨ms, rfl, h, _, rfl, ?_⟩
  simp only [Bool.not_true, Bool.false_eq_true, if_false]
  exact ⟨p, [], rfl, hp, by decide, q⟩
def sp_makers (C : Addr) : Sp2 := fun ds S Q E => ∃ ms, ds = [kindD C ms] ∧ Q (.lst (mkD ms)) S
theorem s_makers (C : Addr) : ∀ ds S Q E, sp_makers C ds S Q E → r_Kind_makers C (endsOf Q E) (start2 N_Kind_makers ds) S := by
  rintro _ S Q E ⟨ms, rfl, q⟩
  unfold r_Kind_makers
  simp only [sSeq, sIf, sRet, sRetN, sSet, sExpr, sNext, sAug, sAugS, sAsg, sPar, sFldS, sFz, sRetZ, sRetZZ, sNever, sRaise, sWhile, sFor, sBreak, sCont, eVar, eC, eOp, eCB, lCB, eCBK, eTup, lDisp, lOp, lRep, eFr, eMu, eFld, eIf, eAnd, eOr, eNot, eNeg, unNeg, eChain, tBl, tTru, tAnd2, tOr2, tNot2, tYes2, aNil, aCons, eCall, eCallK, gN, gTup2, gsCons, gsNil, gSub2, iSeq, iRng, iRngB, iEnum2, iStr2, lLc, lLcR, eSl, lSl, oNo, oSome, eBM, lBM, eLenSet, eMeth, eMake, eMakeZ, endsOf, start2, List.map_cons, List.map_nil, List.length_cons, List.length_nil, Nat.reduceSub, Nat.reduceAdd, List.replicate_zero, List.replicate_succ, List.append_nil, List.cons_append, List.nil_append, List.getElem?_cons_zero, List.getElem?_cons_succ, List.set_cons_zero, List.set_cons_succ, Option.some.injEq, exists_eq_left', exists_eq_left, truOf_bl, Bool.not_true, Bool.not_false, if_true, if_false, Bool.false_eq_true, reduceIte, D.bl.injEq, D.int.injEq, D.str.injEq, D.tup.injEq, D.lst.injEq, D.ref.injEq, wipeD, List.cons.injEq, and_true, true_and, opAdd_int, opSub_int, opMul_int, opDiv_int, opMod_int, opPow_int, opLt_int, opLe_int, opGt_int, opGe_int, opAddI_int, opEq_int, opNe_int, opIsN_eq, opNotN_eq, isN_non, isN_int, isN_bl, isN_tup, isN_lst, isN_str, seqZ_lst, seqZ_tup, opIx_lst, opIx_tup, fLen_lst, fLen_tup, fSum_iD, fTuple_lst, fList_lst, fMin2_int, fMax2_int, exists_const, sup_sup, sup_get]
  refine ⟨.lst (mkD ms), ?_, _, _, rfl, rfl, q⟩
  simp [kindD, fldOf]
end L83
set_option linter.all false
set_option maxRecDepth 100000
set_option maxHeartbeats 4000000
namespace L83
open PySem PySem.Spec PyProof.Rows L2 Y
theorem WellS.keep {S S' : Sto} {a : Addr} (h : WellS S a) (e : S' a = S a) : WellS S' a := by
  obtain ⟨x, y, z, h1, h2⟩ := h
  exact ⟨x, y, z, by rw [e, h1], h2⟩
theorem WellS.ne {S : Sto} {a p : Addr} (h : WellS S a) (hp : S p = none) : p ≠ a := by
  rintro rfl
  obtain ⟨x, y, z, h1, h2⟩ := h
  rw [h1] at hp; cases hp
def sp_rack (S0 : Unit) : Sp2 := fun ds S Q E => ∃ a few high, ds = [.ref a, .int few, .int high] ∧ WellS S a ∧ 0 ≤ few ∧ few < 1000 ∧ 0 ≤ high ∧ high < 1000 ∧ ∀ xs S', (xs.length : Int) ≤ few → (∀ x ∈ xs, 0 ≤ x ∧ x ≤ high) → WellS S' a → SBut a S S' → Q (rkD xs) S'
theorem s_rack : ∀ ds S Q E, sp_rack () ds S Q E → r__law_rack sp_draw (endsOf Q E) (start2 N__law_rack ds) S := by
  rintro _ S Q E ⟨a, few, high, rfl, hw, f1, f2, h1, h2, q⟩
  unfold r__law_rack
  simp only [sSeq, sIf, sRet, sRetN, sSet, sExpr, sNext, sAug, sAugS, sAsg, sPar, sFldS, sFz, sRetZ, sRetZZ, sNever, sRaise, sWhile, sFor, sBreak, sCont, eVar, eC, eOp, eCB, lCB, eCBK, eTup, lDisp, lOp, lRep, eFr, eMu, eFld, eIf, eAnd, eOr, eNot, eNeg, unNeg, eChain, tBl, tTru, tAnd2, tOr2, tNot2, tYes2, aNil, aCons, eCall, eCallK, gN, gTup2, gsCons, gsNil, gSub2, iSeq, iRng, iRngB, iEnum2, iStr2, lLc, lLcR, eSl, lSl, oNo, oSome, eBM, lBM, eLenSet, eMeth, eMake, eMakeZ, endsOf, start2, List.map_cons, List.map_nil, List.length_cons, List.length_nil, Nat.reduceSub, Nat.reduceAdd, List.replicate_zero, List.replicate_succ, List.append_nil, List.cons_append, List.nil_append, List.getElem?_cons_zero, List.getElem?_cons_succ, List.set_cons_zero, List.set_cons_succ, Option.some.injEq, exists_eq_left', exists_eq_left, truOf_bl, Bool.not_true, Bool.not_false, if_true, if_false, Bool.false_eq_true, reduceIte, D.bl.injEq, D.int.injEq, D.str.injEq, D.tup.injEq, D.lst.injEq, D.ref.injEq, wipeD, List.cons.injEq, and_true, true_and, opAdd_int, opSub_int, opMul_int, opDiv_int, opMod_int, opPow_int, opLt_int, opLe_int, opGt_int, opGe_int, opAddI_int, opEq_int, opNe_int, opIsN_eq, opNotN_eq, isN_non, isN_int, isN_bl, isN_tup, isN_lst, isN_str, seqZ_lst, seqZ_tup, opIx_lst, opIx_tup, fLen_lst, fLen_tup, fSum_iD, fTuple_lst, fList_lst, fMin2_int, fMax2_int, exists_const, sup_sup, sup_get]
  refine ⟨a, few + 1, rfl, hw, by omega, by omega, fun r S1 r1 r2 hw1 sb1 => ?_⟩
  refine ⟨r, by simp, by omega, by omega, ?_⟩
  refine lcGo_inv (fun i acc S' => ∃ xs : List Int, acc = iD xs ∧ (∀ x ∈ xs, 0 ≤ x ∧ x ≤ high) ∧ WellS S' a ∧ SBut a S S') ?_ ⟨[], rfl, by simp, hw1, sb1⟩ ?_ ?_
  · rintro i d acc S' K hd ⟨xs, rfl, hx, hw', sb'⟩ hl k
    simp only [sSeq, sIf, sRet, sRetN, sSet, sExpr, sNext, sAug, sAugS, sAsg, sPar, sFldS, sFz, sRetZ, sRetZZ, sNever, sRaise, sWhile, sFor, sBreak, sCont, eVar, eC, eOp, eCB, lCB, eCBK, eTup, lDisp, lOp, lRep, eFr, eMu, eFld, eIf, eAnd, eOr, eNot, eNeg, unNeg, eChain, tBl, tTru, tAnd2, tOr2, tNot2, tYes2, aNil, aCons, eCall, eCallK, gN, gTup2, gsCons, gsNil, gSub2, iSeq, iRng, iRngB, iEnum2, iStr2, lLc, lLcR, eSl, lSl, oNo, oSome, eBM, lBM, eLenSet, eMeth, eMake, eMakeZ, endsOf, start2, List.map_cons, List.map_nil, List.length_cons, List.length_nil, Nat.reduceSub, Nat.reduceAdd, List.replicate_zero, List.replicate_succ, List.append_nil, List.cons_append, List.nil_append, List.getElem?_cons_zero, List.getElem?_cons_succ, List.set_cons_zero, List.set_cons_succ, Option.some.injEq, exists_eq_left', exists_eq_left, truOf_bl, Bool.not_true, Bool.not_false, if_true, if_false, Bool.false_eq_true, reduceIte, D.bl.injEq, D.int.injEq, D.str.injEq, D.tup.injEq, D.lst.injEq, D.ref.injEq, wipeD, List.cons.injEq, and_true, true_and, opAdd_int, opSub_int, opMul_int, opDiv_int, opMod_int, opPow_int, opLt_int, opLe_int, opGt_int, opGe_int, opAddI_int, opEq_int, opNe_int, opIsN_eq, opNotN_eq, isN_non, isN_int, isN_bl, isN_tup, isN_lst, isN_str, seqZ_lst, seqZ_tup, opIx_lst, opIx_tup, fLen_lst, fLen_tup, fSum_iD, fTuple_lst, fList_lst, fMin2_int, fMax2_int, exists_const, sup_sup, sup_get]
    refine ⟨a, high + 1, rfl, hw', by omega, by omega, fun v S2 v1 v2 hw2 sb2 => ?_⟩
    refine k _ _ ⟨xs ++ [v], by simp [iD], fun x hx' => ?_, hw2, sb'.trans sb2⟩
    rcases List.mem_append.mp hx' with h | h
    · exact hx x h
    · simp at h; omega
  · rintro acc S' ⟨xs, rfl, hx, hw', sb'⟩ hl
    refine q xs S' ?_ hx hw' sb'
    rw [iD_len, intsD_len] at hl
    omega
  · rw [intsD_len, sizeLine_eq]; omega
/-! names -/
theorem let_len : LET.cps.toList.length = 26 := by decide
theorem let_ok : ∀ c ∈ LET.cps.toList, c < 0x110000 := by decide
theorem name_str {z : Str} (h : ∀ c ∈ z.cps.toList, c ∈ LET.cps.toList) : okEq (.str z) := by
  refine okEq_str ?_
  unfold PyData.strOk
  rw [Array.all_eq_true_iff_forall_mem]
  intro c hc
  exact decide_eq_true (let_ok c (h c (by simpa using hc)))
theorem pureAll_strs : ∀ {zs : List Str}, (∀ z ∈ zs, nameOk z) → pureAll (zs.map D.str) = true
  | [], _ => rfl
  | z :: zs, h => by
    simp only [List.map_cons, pureAll, Bool.and_eq_true]
    exact ⟨(name_str (h z List.mem_cons_self).2.2).1, pureAll_strs fun y hy => h y (List.mem_cons_of_mem _ hy)⟩
theorem depAll_strs : ∀ zs : List Str, depAll (zs.map D.str) = 0
  | [] => rfl
  | z :: zs => by simp only [List.map_cons, depAll, depD]; have := depAll_strs zs; omega
theorem okEq_strs {zs : List Str} (h : ∀ z ∈ zs, nameOk z) : okEq (.lst (zs.map D.str)) := ⟨by simpa [pureD] using pureAll_strs h, by simp [depD, depAll_strs]⟩
theorem any_strs (zs : List Str) (w : Str) : (zs.map D.str).any (fun z => eqD z (.str w)) = decide (w ∈ zs) := by
  induction zs with
  | nil => simp
  | cons x xs ih =>
    simp only [List.map_cons, List.any_cons] at ih ⊢
    rw [ih]
    simp only [eqD, List.mem_cons, Bool.decide_or]
    congr 1
    by_cases e : w = x
    · subst e; simp
    · have : (x == w) = false := beq_eq_false_iff_ne.mpr fun h => e h.symm
      simp [this, e]
theorem nodup_sub : ∀ (l m : List Str), l.Nodup → (∀ x ∈ l, x ∈ m) → l.length ≤ m.length
  | [], m, _, _ => Nat.zero_le _
  | x :: l, m, nd, h => by
    have hx := h x List.mem_cons_self
    have := nodup_sub l (m.erase x) (List.nodup_cons.mp nd).2 fun y hy => by
      have ne : y ≠ x := fun e => (List.nodup_cons.mp nd).1 (e ▸ hy)
      exact (List.mem_erase_of_ne ne).mpr (h y (List.mem_cons_of_mem _ hy))
    rw [List.length_erase_of_mem hx] at this
    have : 0 < m.length := List.length_pos_of_mem hx
    simp only [List.length_cons]; omega
def sp_name : Sp2 := fun ds S Q E => ∃ a, ∃ zs : List Str, ds = [.ref a, .lst (zs.map D.str)] ∧ WellS S a ∧ zs.length ≤ 4 ∧ (∀ z ∈ zs, nameOk z) ∧ ∀ z S', nameOk z → z ∉ zs → WellS S' a → SBut a S S' → Q (.str z) S'
theorem str_app (z : Str) (c : Nat) : z ++ (⟨#[c]⟩ : Str) = ⟨z.cps.push c⟩ := by
  show (⟨z.cps ++ #[c]⟩ : Str) = _
  simp
abbrev fiveL : List Str := ["a", "b", "c", "d", "e"]
theorem five_ok : ∀ z ∈ fiveL, nameOk z := by
  intro z hz
  have h1 : ∀ z ∈ fiveL, 1 ≤ z.length ∧ z.length ≤ 8 := by decide +kernel
  have h2 : ∀ z ∈ fiveL, ∀ c ∈ z.cps.toList, c ∈ LET.cps.toList := by decide +kernel
  exact ⟨(h1 z hz).1, (h1 z hz).2, h2 z hz⟩
theorem atI_zero {α : Type} {x : α} {xs : List α} : L2.atI (x :: xs) 0 = some x := by
  have := atI_nat (xs := x :: xs) (n := 0)
  simpa using this
theorem s_name : ∀ ds S Q E, sp_name ds S Q E → r__law_name sp_draw (endsOf Q E) (start2 N__law_name ds) S := by
  rintro _ S Q E ⟨a, zs, rfl, hw, hl, hz, q⟩
  unfold r__law_name
  simp only [sSeq, sIf, sRet, sRetN, sSet, sExpr, sNext, sAug, sAugS, sAsg, sPar, sFldS, sFz, sRetZ, sRetZZ, sNever, sRaise, sWhile, sFor, sBreak, sCont, eVar, eC, eOp, eCB, lCB, eCBK, eTup, lDisp, lOp, lRep, eFr, eMu, eFld, eIf, eAnd, eOr, eNot, eNeg, unNeg, eChain, tBl, tTru, tAnd2, tOr2, tNot2, tYes2, aNil, aCons, eCall, eCallK, gN, gTup2, gsCons, gsNil, gSub2, iSeq, iRng, iRngB, iEnum2, iStr2, lLc, lLcR, eSl, lSl, oNo, oSome, eBM, lBM, eLenSet, eMeth, eMake, eMakeZ, endsOf, start2, List.map_cons, List.map_nil, List.length_cons, List.length_nil, Nat.reduceSub, Nat.reduceAdd, List.replicate_zero, List.replicate_succ, List.append_nil, List.cons_append, List.nil_append, List.getElem?_cons_zero, List.getElem?_cons_succ, List.set_cons_zero, List.set_cons_succ, Option.some.injEq, exists_eq_left', exists_eq_left, truOf_bl, Bool.not_true, Bool.not_false, if_true, if_false, Bool.false_eq_true, reduceIte, D.bl.injEq, D.int.injEq, D.str.injEq, D.tup.injEq, D.lst.injEq, D.ref.injEq, wipeD, List.cons.injEq, and_true, true_and, opAdd_int, opSub_int, opMul_int, opDiv_int, opMod_int, opPow_int, opLt_int, opLe_int, opGt_int, opGe_int, opAddI_int, opEq_int, opNe_int, opIsN_eq, opNotN_eq, isN_non, isN_int, isN_bl, isN_tup, isN_lst, isN_str, seqZ_lst, seqZ_tup, opIx_lst, opIx_tup, fLen_lst, fLen_tup, fSum_iD, fTuple_lst, fList_lst, fMin2_int, fMax2_int, exists_const, sup_sup, sup_get]
  refine ⟨a, 8, rfl, hw, by omega, by omega, fun r S1 r1 r2 hw1 sb1 => ?_⟩
  refine ⟨1 + r, by simp, by omega, by omega, ?_⟩
  refine forGo_inv (fun i ρ S' => ∃ (z : Str) (w : Option D), ρ = [some (.ref a), some (.lst (zs.map D.str)), some (.str LET), some (.str z), w, none] ∧ z.length = i ∧ (∀ c ∈ z.cps.toList, c ∈ LET.cps.toList) ∧ WellS S' a ∧ SBut a S S') ?_ ⟨Str.empty, none, rfl, rfl, by intro c hc; simp [Str.empty] at hc, hw1, sb1⟩ ?_
  · rintro i d ρ S' nx bk ct hd ⟨z, w, rfl, hzl, hzc, hw', sb'⟩ hnx _ _
    have hi := (intsD_get hd).1
    simp only [sSeq, sIf, sRet, sRetN, sSet, sExpr, sNext, sAug, sAugS, sAsg, sPar, sFldS, sFz, sRetZ, sRetZZ, sNever, sRaise, sWhile, sFor, sBreak, sCont, eVar, eC, eOp, eCB, lCB, eCBK, eTup, lDisp, lOp, lRep, eFr, eMu, eFld, eIf, eAnd, eOr, eNot, eNeg, unNeg, eChain, tBl, tTru, tAnd2, tOr2, tNot2, tYes2, aNil, aCons, eCall, eCallK, gN, gTup2, gsCons, gsNil, gSub2, iSeq, iRng, iRngB, iEnum2, iStr2, lLc, lLcR, eSl, lSl, oNo, oSome, eBM, lBM, eLenSet, eMeth, eMake, eMakeZ, endsOf, start2, List.map_cons, List.map_nil, List.length_cons, List.length_nil, Nat.reduceSub, Nat.reduceAdd, List.replicate_zero, List.replicate_succ, List.append_nil, List.cons_append, List.nil_append, List.getElem?_cons_zero, List.getElem?_cons_succ, List.set_cons_zero, List.set_cons_succ, Option.some.injEq, exists_eq_left', exists_eq_left, truOf_bl, Bool.not_true, Bool.not_false, if_true, if_false, Bool.false_eq_true, reduceIte, D.bl.injEq, D.int.injEq, D.str.injEq, D.tup.injEq, D.lst.injEq, D.ref.injEq, wipeD, List.cons.injEq, and_true, true_and, opAdd_int, opSub_int, opMul_int, opDiv_int, opMod_int, opPow_int, opLt_int, opLe_int, opGt_int, opGe_int, opAddI_int, opEq_int, opNe_int, opIsN_eq, opNotN_eq, isN_non, isN_int, isN_bl, isN_tup, isN_lst, isN_str, seqZ_lst, seqZ_tup, opIx_lst, opIx_tup, fLen_lst, fLen_tup, fSum_iD, fTuple_lst, fList_lst, fMin2_int, fMax2_int, exists_const, sup_sup, sup_get]
    refine ⟨a, 26, rfl, hw', by omega, by omega, fun v S2 v1 v2 hw2 sb2 => ?_⟩
    have hlt : v.toNat < LET.cps.toList.length := by rw [let_len]; omega
    refine ⟨by rw [sizeLine_eq]; decide, LET.cps.toList[v.toNat], atI_get v1 (List.getElem?_eq_getElem hlt), ?_⟩
    refine ⟨?_, ?_⟩
    · rw [sizeLine_eq, hzl]; show i + 1 ≤ _; omega
    · rw [str_app]
      refine hnx _ _ ⟨_, _, rfl, ?_, ?_, hw2, sb'.trans sb2⟩
      · show (z.cps.push _).size = _
        rw [Array.size_push]; show z.length + 1 = _; rw [hzl]
      · intro c hc
        rw [Array.toList_push] at hc
        rcases List.mem_append.mp hc with h | h
        · exact hzc c h
        · simp at h; subst h; exact List.getElem_mem hlt
  · rintro ρ S' ⟨z, w, rfl, hzl, hzc, hw', sb'⟩
    rw [intsD_len] at hzl
    have hzo : nameOk z := ⟨by omega, by omega, hzc⟩
    simp only [sSeq, sIf, sRet, sRetN, sSet, sExpr, sNext, sAug, sAugS, sAsg, sPar, sFldS, sFz, sRetZ, sRetZZ, sNever, sRaise, sWhile, sFor, sBreak, sCont, eVar, eC, eOp, eCB, lCB, eCBK, eTup, lDisp, lOp, lRep, eFr, eMu, eFld, eIf, eAnd, eOr, eNot, eNeg, unNeg, eChain, tBl, tTru, tAnd2, tOr2, tNot2, tYes2, aNil, aCons, eCall, eCallK, gN, gTup2, gsCons, gsNil, gSub2, iSeq, iRng, iRngB, iEnum2, iStr2, lLc, lLcR, eSl, lSl, oNo, oSome, eBM, lBM, eLenSet, eMeth, eMake, eMakeZ, endsOf, start2, List.map_cons, List.map_nil, List.length_cons, List.length_nil, Nat.reduceSub, Nat.reduceAdd, List.replicate_zero, List.replicate_succ, List.append_nil, List.cons_append, List.nil_append, List.getElem?_cons_zero, List.getElem?_cons_succ, List.set_cons_zero, List.set_cons_succ, Option.some.injEq, exists_eq_left', exists_eq_left, truOf_bl, Bool.not_true, Bool.not_false, if_true, if_false, Bool.false_eq_true, reduceIte, D.bl.injEq, D.int.injEq, D.str.injEq, D.tup.injEq, D.lst.injEq, D.ref.injEq, wipeD, List.cons.injEq, and_true, true_and, opAdd_int, opSub_int, opMul_int, opDiv_int, opMod_int, opPow_int, opLt_int, opLe_int, opGt_int, opGe_int, opAddI_int, opEq_int, opNe_int, opIsN_eq, opNotN_eq, isN_non, isN_int, isN_bl, isN_tup, isN_lst, isN_str, seqZ_lst, seqZ_tup, opIx_lst, opIx_tup, fLen_lst, fLen_tup, fSum_iD, fTuple_lst, fList_lst, fMin2_int, fMax2_int, exists_const, sup_sup, sup_get]
    have h6 : ∀ d ∈ (z :: fiveL).map D.str, ∃ y, d = .str y ∧ nameOk y := fun d hd => by
      obtain ⟨y, hy, rfl⟩ := List.mem_map.mp hd
      refine ⟨y, rfl, ?_⟩
      rcases List.mem_cons.mp hy with rfl | hy
      · exact hzo
      · exact five_ok y hy
    refine ⟨by rw [sizeLine_eq]; decide, ?_⟩
    refine lcGo_filter (fun d => match d with | .str y => !decide (y ∈ zs) | _ => false) (fun d => d) ((z :: fiveL).map D.str) [] ?_ ?_ (by rw [sizeLine_eq]; simp) ?_
    · intro d hd K k
      obtain ⟨y, rfl, hy⟩ := h6 d hd
      simp only [sSeq, sIf, sRet, sRetN, sSet, sExpr, sNext, sAug, sAugS, sAsg, sPar, sFldS, sFz, sRetZ, sRetZZ, sNever, sRaise, sWhile, sFor, sBreak, sCont, eVar, eC, eOp, eCB, lCB, eCBK, eTup, lDisp, lOp, lRep, eFr, eMu, eFld, eIf, eAnd, eOr, eNot, eNeg, unNeg, eChain, tBl, tTru, tAnd2, tOr2, tNot2, tYes2, aNil, aCons, eCall, eCallK, gN, gTup2, gsCons, gsNil, gSub2, iSeq, iRng, iRngB, iEnum2, iStr2, lLc, lLcR, eSl, lSl, oNo, oSome, eBM, lBM, eLenSet, eMeth, eMake, eMakeZ, endsOf, start2, List.map_cons, List.map_nil, List.length_cons, List.length_nil, Nat.reduceSub, Nat.reduceAdd, List.replicate_zero, List.replicate_succ, List.append_nil, List.cons_append, List.nil_append, List.getElem?_cons_zero, List.getElem?_cons_succ, List.set_cons_zero, List.set_cons_succ, Option.some.injEq, exists_eq_left', exists_eq_left, truOf_bl, Bool.not_true, Bool.not_false, if_true, if_false, Bool.false_eq_true, reduceIte, D.bl.injEq, D.int.injEq, D.str.injEq, D.tup.injEq, D.lst.injEq, D.ref.injEq, wipeD, List.cons.injEq, and_true, true_and, opAdd_int, opSub_int, opMul_int, opDiv_int, opMod_int, opPow_int, opLt_int, opLe_int, opGt_int, opGe_int, opAddI_int, opEq_int, opNe_int, opIsN_eq, opNotN_eq, isN_non, isN_int, isN_bl, isN_tup, isN_lst, isN_str, seqZ_lst, seqZ_tup, opIx_lst, opIx_tup, fLen_lst, fLen_tup, fSum_iD, fTuple_lst, fList_lst, fMin2_int, fMax2_int, exists_const, sup_sup, sup_get]
      refine ⟨_, rfl, name_str hy.2.2, okEq_strs hz, _, rfl, _, rfl, ?_⟩
      rw [any_strs]; exact k
    · intro d hd _ K k
      simp only [sSeq, sIf, sRet, sRetN, sSet, sExpr, sNext, sAug, sAugS, sAsg, sPar, sFldS, sFz, sRetZ, sRetZZ, sNever, sRaise, sWhile, sFor, sBreak, sCont, eVar, eC, eOp, eCB, lCB, eCBK, eTup, lDisp, lOp, lRep, eFr, eMu, eFld, eIf, eAnd, eOr, eNot, eNeg, unNeg, eChain, tBl, tTru, tAnd2, tOr2, tNot2, tYes2, aNil, aCons, eCall, eCallK, gN, gTup2, gsCons, gsNil, gSub2, iSeq, iRng, iRngB, iEnum2, iStr2, lLc, lLcR, eSl, lSl, oNo, oSome, eBM, lBM, eLenSet, eMeth, eMake, eMakeZ, endsOf, start2, List.map_cons, List.map_nil, List.length_cons, List.length_nil, Nat.reduceSub, Nat.reduceAdd, List.replicate_zero, List.replicate_succ, List.append_nil, List.cons_append, List.nil_append, List.getElem?_cons_zero, List.getElem?_cons_succ, List.set_cons_zero, List.set_cons_succ, Option.some.injEq, exists_eq_left', exists_eq_left, truOf_bl, Bool.not_true, Bool.not_false, if_true, if_false, Bool.false_eq_true, reduceIte, D.bl.injEq, D.int.injEq, D.str.injEq, D.tup.injEq, D.lst.injEq, D.ref.injEq, wipeD, List.cons.injEq, and_true, true_and, opAdd_int, opSub_int, opMul_int, opDiv_int, opMod_int, opPow_int, opLt_int, opLe_int, opGt_int, opGe_int, opAddI_int, opEq_int, opNe_int, opIsN_eq, opNotN_eq, isN_non, isN_int, isN_bl, isN_tup, isN_lst, isN_str, seqZ_lst, seqZ_tup, opIx_lst, opIx_tup, fLen_lst, fLen_tup, fSum_iD, fTuple_lst, fList_lst, fMin2_int, fMax2_int, exists_const, sup_sup, sup_get]
      exact k
    · simp only [List.nil_append, List.map_id']
      have ne : ((z :: fiveL).map D.str).filter (fun d => match d with | .str y => !decide (y ∈ zs) | _ => false) ≠ [] := by
        intro e
        have h := List.filter_eq_nil_iff.mp e
        have : fiveL.length ≤ zs.length := nodup_sub _ _ (by decide +kernel) fun x hx => by
          have := h (.str x) (List.mem_map_of_mem (List.mem_cons_of_mem _ hx))
          simpa using this
        simp at this; omega
      cases hf : ((z :: fiveL).map D.str).filter (fun d => match d with | .str y => !decide (y ∈ zs) | _ => false) with
      | nil => exact absurd hf ne
      | cons d r =>
        have hd : d ∈ ((z :: fiveL).map D.str).filter (fun d => match d with | .str y => !decide (y ∈ zs) | _ => false) := by rw [hf]; exact List.mem_cons_self
        obtain ⟨hd1, hd2⟩ := List.mem_filter.mp hd
        obtain ⟨y, rfl, hy⟩ := h6 d hd1
        refine ⟨_, atI_zero, ?_⟩
        exact q y S' hy (by simpa using hd2) hw' sb'
/-! makers -/
def numsOk (ns : List Int) : Prop := 2 ≤ ns.length ∧ ns.length ≤ 5 ∧ (∀ x ∈ ns, 0 ≤ x ∧ x ≤ 4) ∧ (0 : Int) ∈ ns ∧ ∃ x ∈ ns, 1 < x
def sp_mks : Sp2 := fun ds S Q E => ∃ a, ds = [.ref a] ∧ WellS S a ∧ ∀ ms S', mksOk ms → WellS S' a → SBut a S S' → Q (.lst (mkD ms)) S'
/-- the list at q is .., the rest but the well as it was -/
structure Mid (a q : Addr) (S : Sto) (xs : List D) (S' : Sto) : Prop where
  w : WellS S' a
  at_ : S' q = some (.lst xs)
  new : S q = none
  ne : q ≠ a
  rest : ∀ b, b ≠ a → b ≠ q → S' b = S b
theorem Mid.draw {a q : Addr} {S S1 S2 : Sto} {xs : List D} (m : Mid a q S xs S1) (w : WellS S2 a) (sb : SBut a S1 S2) : Mid a q S xs S2 :=
  ⟨w, by rw [sb q m.ne, m.at_], m.new, m.ne, fun b h1 h2 => by rw [sb b h1, m.rest b h1 h2]⟩
theorem Mid.put {a q : Addr} {S S1 : Sto} {xs ys : List D} (m : Mid a q S xs S1) : Mid a q S ys (sup S1 q (.lst ys)) :=
  ⟨m.w.keep (sup_ne m.ne.symm), sup_same, m.new, m.ne, fun b h1 h2 => by rw [sup_ne h2, m.rest b h1 h2]⟩
theorem Mid.out {a q : Addr} {S S1 : Sto} {xs : List D} (m : Mid a q S xs S1) : WellS (sdel S1 q) a ∧ SBut a S (sdel S1 q) := by
  refine ⟨m.w.keep (by unfold sdel; rw [if_neg m.ne.symm]), fun b hb => ?_⟩
  unfold sdel
  split
  · rename_i e; subst e; exact m.new.symm
  · rename_i e; exact m.rest b hb e
theorem sup_sdel {S : Sto} {a : Addr} {x : SO} (h : S a = some x) : sup (sdel S a) a x = S := by
  funext b; unfold sup sdel; split
  · rename_i e; subst e; exact h.symm
  · rfl
theorem ms_loop {sp : Sp2} {ρ0 : Rho} : True := trivial
theorem iD_getElem? {xs : List Int} {i : Nat} {v : Int} (h : xs[i]? = some v) : (iD xs)[i]? = some (.int v) := by rw [iD_get, h]; rfl
theorem setL_iD {S : Sto} {q : Addr} {xs : List Int} {i : Int} {v : Int} {Q : Sto → Prop} (h : S q = some (.lst (iD xs))) (h0 : 0 ≤ i) (h1 : i < xs.length) (k : Q (sup S q (.lst (iD (xs.set i.toNat v))))) : setL (.ref q) (.int i) (.int v) S Q :=
  ⟨q, _, i, i.toNat, rfl, rfl, h, ixN_get h0 (by rw [iD_len]; exact h1), by rw [iD_set]; exact k⟩
abbrev someL : List (List Int) := [[0, 2], [0, 0, 1, 2, 2], [2, 0, 2, 1, 0], [3, 1, 0], [0, 1, 2, 1], [4, 4, 0, 0, 1]]
theorem some_ok : ∀ ns ∈ someL, numsOk ns := by
  unfold numsOk
  decide
theorem wide_ok {many leaf r : Int} (h1 : 2 ≤ many) (l0 : 0 ≤ leaf) (l1 : leaf < many) (r0 : 0 ≤ r) (r1 : r < many - 1) : 0 ≤ (leaf + 1 + r) % many ∧ (leaf + 1 + r) % many < many ∧ (leaf + 1 + r) % many ≠ leaf := by
  have a := Int.emod_nonneg (leaf + 1 + r) (b := many) (by omega)
  have b := Int.emod_lt_of_pos (leaf + 1 + r) (b := many) (by omega)
  refine ⟨a, b, fun e => ?_⟩
  by_cases h : leaf + 1 + r < many
  · rw [Int.emod_eq_of_lt (by omega) h] at e; omega
  · rw [← Int.sub_emod_right, Int.emod_eq_of_lt (by omega) (by omega)] at e; omega
theorem s_makersL : ∀ ds S Q E, sp_mks ds S Q E → r__law_makers sp_name sp_draw (endsOf Q E) (start2 N__law_makers ds) S := by
  rintro _ S Q E ⟨a, rfl, hw, q⟩
  -- the naming of the numbers
  have fin : ∀ (ns : List Int) (S1 : Sto) (e1 e3 e4 e5 : Option D), numsOk ns → WellS S1 a → SBut a S S1 →
      (sSeq (sSet 6 (eMu (lDisp aNil)))
    (sSeq (sFor (iSeq (eVar 2)) (gN 7)
    (sExpr (eBM "list" mAppend (eVar 6) (aCons (eTup (aCons (eCall sp_name [] (aCons (eVar 0) (aCons (eFr (lLcR 6 [9, 1] (gTup2 2 (gsCons (gN 9) (gsCons (gN 1) gsNil))) tYes2 (eVar 9))) aNil))) (aCons (eVar 7) aNil))) aNil))))
    (sRetZ (eVar 6)))) (endsOf Q E) [some (.ref a), e1, some (.lst (iD ns)), e3, e4, e5, none, none, none, none] S1 := by
    rintro ns S1 e1 e3 e4 e5 ⟨n1, n2, n3, n4, n5⟩ hw1 sb1
    simp only [sSeq, sIf, sRet, sRetN, sSet, sExpr, sNext, sAug, sAugS, sAsg, sPar, sFldS, sFz, sRetZ, sRetZZ, sNever, sRaise, sWhile, sFor, sBreak, sCont, eVar, eC, eOp, eCB, lCB, eCBK, eTup, lDisp, lOp, lRep, eFr, eMu, eFld, eIf, eAnd, eOr, eNot, eNeg, unNeg, eChain, tBl, tTru, tAnd2, tOr2, tNot2, tYes2, aNil, aCons, eCall, eCallK, gN, gTup2, gsCons, gsNil, gSub2, iSeq, iRng, iRngB, iEnum2, iStr2, lLc, lLcR, eSl, lSl, oNo, oSome, eBM, lBM, eLenSet, eMeth, eMake, eMakeZ, endsOf, start2, List.map_cons, List.map_nil, List.length_cons, List.length_nil, Nat.reduceSub, Nat.reduceAdd, List.replicate_zero, List.replicate_succ, List.append_nil, List.cons_append, List.nil_append, List.getElem?_cons_zero, List.getElem?_cons_succ, List.set_cons_zero, List.set_cons_succ, Option.some.injEq, exists_eq_left', exists_eq_left, truOf_bl, Bool.not_true, Bool.not_false, if_true, if_false, Bool.false_eq_true, reduceIte, D.bl.injEq, D.int.injEq, D.str.injEq, D.tup.injEq, D.lst.injEq, D.ref.injEq, wipeD, List.cons.injEq, and_true, true_and, opAdd_int, opSub_int, opMul_int, opDiv_int, opMod_int, opPow_int, opLt_int, opLe_int, opGt_int, opGe_int, opAddI_int, opEq_int, opNe_int, opIsN_eq, opNotN_eq, isN_non, isN_int, isN_bl, isN_tup, isN_lst, isN_str, seqZ_lst, seqZ_tup, opIx_lst, opIx_tup, fLen_lst, fLen_tup, fSum_iD, fTuple_lst, fList_lst, fMin2_int, fMax2_int, exists_const, sup_sup, sup_get]
    refine ⟨by rw [sizeLine_eq]; omega, fun p hp => ?_⟩
    have hpa := hw1.ne hp
    refine forGo_inv (fun i ρ S' => ∃ (ms : List (Str × Int)) (e7 : Option D), ρ = [some (.ref a), e1, some (.lst (iD ns)), e3, e4, e5, some (.ref p), e7, none, none] ∧ ms.map (·.2) = ns.take i ∧ (ms.map (·.1)).Nodup ∧ (∀ z ∈ ms.map (·.1), nameOk z) ∧ Mid a p S1 (mkD ms) S') ?_
      ⟨[], none, rfl, by simp, by simp, by simp, ⟨hw1.keep (sup_ne hpa.symm), sup_same, hp, hpa, fun b _ h2 => sup_ne h2⟩⟩ ?_
    · rintro i d ρ S' nx bk ct hd ⟨ms, e7, rfl, h1, h2, h3, m⟩ hnx _ _
      rw [iD_get] at hd
      obtain ⟨n, hn, rfl⟩ := Option.map_eq_some_iff.mp hd
      have hi : i < ns.length := (List.getElem?_eq_some_iff.mp hn).1
      have hml : ms.length = i := by
        have := congrArg List.length h1
        simp at this; omega
      simp only [sSeq, sIf, sRet, sRetN, sSet, sExpr, sNext, sAug, sAugS, sAsg, sPar, sFldS, sFz, sRetZ, sRetZZ, sNever, sRaise, sWhile, sFor, sBreak, sCont, eVar, eC, eOp, eCB, lCB, eCBK, eTup, lDisp, lOp, lRep, eFr, eMu, eFld, eIf, eAnd, eOr, eNot, eNeg, unNeg, eChain, tBl, tTru, tAnd2, tOr2, tNot2, tYes2, aNil, aCons, eCall, eCallK, gN, gTup2, gsCons, gsNil, gSub2, iSeq, iRng, iRngB, iEnum2, iStr2, lLc, lLcR, eSl, lSl, oNo, oSome, eBM, lBM, eLenSet, eMeth, eMake, eMakeZ, endsOf, start2, List.map_cons, List.map_nil, List.length_cons, List.length_nil, Nat.reduceSub, Nat.reduceAdd, List.replicate_zero, List.replicate_succ, List.append_nil, List.cons_append, List.nil_append, List.getElem?_cons_zero, List.getElem?_cons_succ, List.set_cons_zero, List.set_cons_succ, Option.some.injEq, exists_eq_left', exists_eq_left, truOf_bl, Bool.not_true, Bool.not_false, if_true, if_false, Bool.false_eq_true, reduceIte, D.bl.injEq, D.int.injEq, D.str.injEq, D.tup.injEq, D.lst.injEq, D.ref.injEq, wipeD, List.cons.injEq, and_true, true_and, opAdd_int, opSub_int, opMul_int, opDiv_int, opMod_int, opPow_int, opLt_int, opLe_int, opGt_int, opGe_int, opAddI_int, opEq_int, opNe_int, opIsN_eq, opNotN_eq, isN_non, isN_int, isN_bl, isN_tup, isN_lst, isN_str, seqZ_lst, seqZ_tup, opIx_lst, opIx_tup, fLen_lst, fLen_tup, fSum_iD, fTuple_lst, fList_lst, fMin2_int, fMax2_int, exists_const, sup_sup, sup_get]
      refine ⟨.inl ⟨rfl, _, lstOf_ref m.at_⟩, p, mkD ms, rfl, m.at_, ?_⟩
      refine lcGo_map dName (fun d hd K k => ?_) (by rw [mkD_len]; exact small8 (by omega)) ?_
      · simp only [mkD, List.mem_map] at hd
        obtain ⟨p, hp, rfl⟩ := hd
        simp only [sSeq, sIf, sRet, sRetN, sSet, sExpr, sNext, sAug, sAugS, sAsg, sPar, sFldS, sFz, sRetZ, sRetZZ, sNever, sRaise, sWhile, sFor, sBreak, sCont, eVar, eC, eOp, eCB, lCB, eCBK, eTup, lDisp, lOp, lRep, eFr, eMu, eFld, eIf, eAnd, eOr, eNot, eNeg, unNeg, eChain, tBl, tTru, tAnd2, tOr2, tNot2, tYes2, aNil, aCons, eCall, eCallK, gN, gTup2, gsCons, gsNil, gSub2, iSeq, iRng, iRngB, iEnum2, iStr2, lLc, lLcR, eSl, lSl, oNo, oSome, eBM, lBM, eLenSet, eMeth, eMake, eMakeZ, endsOf, start2, List.map_cons, List.map_nil, List.length_cons, List.length_nil, Nat.reduceSub, Nat.reduceAdd, List.replicate_zero, List.replicate_succ, List.append_nil, List.cons_append, List.nil_append, List.getElem?_cons_zero, List.getElem?_cons_succ, List.set_cons_zero, List.set_cons_succ, Option.some.injEq, exists_eq_left', exists_eq_left, truOf_bl, Bool.not_true, Bool.not_false, if_true, if_false, Bool.false_eq_true, reduceIte, D.bl.injEq, D.int.injEq, D.str.injEq, D.tup.injEq, D.lst.injEq, D.ref.injEq, wipeD, List.cons.injEq, and_true, true_and, opAdd_int, opSub_int, opMul_int, opDiv_int, opMod_int, opPow_int, opLt_int, opLe_int, opGt_int, opGe_int, opAddI_int, opEq_int, opNe_int, opIsN_eq, opNotN_eq, isN_non, isN_int, isN_bl, isN_tup, isN_lst, isN_str, seqZ_lst, seqZ_tup, opIx_lst, opIx_tup, fLen_lst, fLen_tup, fSum_iD, fTuple_lst, fList_lst, fMin2_int, fMax2_int, exists_const, sup_sup, sup_get]
        exact ⟨_, _, ⟨rfl, rfl⟩, _, _, rfl, rfl, k⟩
      rw [names_D, sup_sdel m.at_]
      refine ⟨a, ms.map (·.1), rfl, m.w, by simp; omega, h3, fun z S2 hz hzn hw2 sb2 => ?_⟩
      have m2 := m.draw hw2 sb2
      refine ⟨by rw [sizeLine_eq]; decide, p, mkD ms, _, rfl, rfl, m2.at_, by rw [mkD_len, sizeLine_eq]; omega, ?_⟩
      refine hnx _ _ ⟨ms ++ [(z, n)], _, rfl, ?_, ?_, ?_, ?_⟩
      · rw [List.map_append, h1, List.take_succ, hn]; rfl
      · rw [List.map_append]
        refine List.nodup_append.mpr ⟨h2, by simp, fun x hx y hy => ?_⟩
        simp at hy; subst hy
        exact fun e => hzn (e ▸ hx)
      · intro x hx
        rw [List.map_append] at hx
        rcases List.mem_append.mp hx with h | h
        · exact h3 x h
        · simp at h; subst h; exact hz
      · have e : mkD (ms ++ [(z, n)]) = mkD ms ++ [.tup [.str z, .int n]] := by simp [mkD]
        rw [e]; exact m2.put
    · rintro ρ S' ⟨ms, e7, rfl, h1, h2, h3, m⟩
      rw [iD_len, List.take_length] at h1
      simp only [sSeq, sIf, sRet, sRetN, sSet, sExpr, sNext, sAug, sAugS, sAsg, sPar, sFldS, sFz, sRetZ, sRetZZ, sNever, sRaise, sWhile, sFor, sBreak, sCont, eVar, eC, eOp, eCB, lCB, eCBK, eTup, lDisp, lOp, lRep, eFr, eMu, eFld, eIf, eAnd, eOr, eNot, eNeg, unNeg, eChain, tBl, tTru, tAnd2, tOr2, tNot2, tYes2, aNil, aCons, eCall, eCallK, gN, gTup2, gsCons, gsNil, gSub2, iSeq, iRng, iRngB, iEnum2, iStr2, lLc, lLcR, eSl, lSl, oNo, oSome, eBM, lBM, eLenSet, eMeth, eMake, eMakeZ, endsOf, start2, List.map_cons, List.map_nil, List.length_cons, List.length_nil, Nat.reduceSub, Nat.reduceAdd, List.replicate_zero, List.replicate_succ, List.append_nil, List.cons_append, List.nil_append, List.getElem?_cons_zero, List.getElem?_cons_succ, List.set_cons_zero, List.set_cons_succ, Option.some.injEq, exists_eq_left', exists_eq_left, truOf_bl, Bool.not_true, Bool.not_false, if_true, if_false, Bool.false_eq_true, reduceIte, D.bl.injEq, D.int.injEq, D.str.injEq, D.tup.injEq, D.lst.injEq, D.ref.injEq, wipeD, List.cons.injEq, and_true, true_and, opAdd_int, opSub_int, opMul_int, opDiv_int, opMod_int, opPow_int, opLt_int, opLe_int, opGt_int, opGe_int, opAddI_int, opEq_int, opNe_int, opIsN_eq, opNotN_eq, isN_non, isN_int, isN_bl, isN_tup, isN_lst, isN_str, seqZ_lst, seqZ_tup, opIx_lst, opIx_tup, fLen_lst, fLen_tup, fSum_iD, fTuple_lst, fList_lst, fMin2_int, fMax2_int, exists_const, sup_sup, sup_get]
      refine ⟨p, mkD ms, rfl, m.at_, ?_⟩
      have hl : ms.length = ns.length := by rw [← h1]; simp
      refine q ms _ ⟨by omega, by omega, fun x hx => ⟨h3 _ (List.mem_map_of_mem hx), n3 _ (h1 ▸ List.mem_map_of_mem hx)⟩, h2, h1 ▸ n4, ?_⟩ m.out.1 (sb1.trans m.out.2)
      obtain ⟨x, hx, hx1⟩ := n5
      rw [← h1] at hx
      obtain ⟨y, hy, rfl⟩ := List.mem_map.mp hx
      exact ⟨y, hy, hx1⟩
  unfold r__law_makers
  unfold sSeq at fin
  simp only [sSeq, sIf, sRet, sRetN, sSet, sExpr, sNext, sAug, sAugS, sAsg, sPar, sFldS, sFz, sRetZ, sRetZZ, sNever, sRaise, sWhile, sFor, sBreak, sCont, eVar, eC, eOp, eCB, lCB, eCBK, eTup, lDisp, lOp, lRep, eFr, eMu, eFld, eIf, eAnd, eOr, eNot, eNeg, unNeg, eChain, tBl, tTru, tAnd2, tOr2, tNot2, tYes2, aNil, aCons, eCall, eCallK, gN, gTup2, gsCons, gsNil, gSub2, iSeq, iRng, iRngB, iEnum2, iStr2, lLc, lLcR, eSl, lSl, oNo, oSome, eBM, lBM, eLenSet, eMeth, eMake, eMakeZ, endsOf, start2, List.map_cons, List.map_nil, List.length_cons, List.length_nil, Nat.reduceSub, Nat.reduceAdd, List.replicate_zero, List.replicate_succ, List.append_nil, List.cons_append, List.nil_append, List.getElem?_cons_zero, List.getElem?_cons_succ, List.set_cons_zero, List.set_cons_succ, Option.some.injEq, exists_eq_left', exists_eq_left, truOf_bl, Bool.not_true, Bool.not_false, if_true, if_false, Bool.false_eq_true, reduceIte, D.bl.injEq, D.int.injEq, D.str.injEq, D.tup.injEq, D.lst.injEq, D.ref.injEq, wipeD, List.cons.injEq, and_true, true_and, opAdd_int, opSub_int, opMul_int, opDiv_int, opMod_int, opPow_int, opLt_int, opLe_int, opGt_int, opGe_int, opAddI_int, opEq_int, opNe_int, opIsN_eq, opNotN_eq, isN_non, isN_int, isN_bl, isN_tup, isN_lst, isN_str, seqZ_lst, seqZ_tup, opIx_lst, opIx_tup, fLen_lst, fLen_tup, fSum_iD, fTuple_lst, fList_lst, fMin2_int, fMax2_int, exists_const, sup_sup, sup_get]
  refine ⟨a, 4, rfl, hw, by omega, by omega, fun r S1 r1 r2 hw1 sb1 => ?_⟩
  refine ⟨2 + r, rfl, by omega, by omega, ?_⟩
  refine lcGo_inv (fun i acc S' => ∃ xs : List Int, acc = iD xs ∧ (∀ x ∈ xs, 0 ≤ x ∧ x ≤ 4) ∧ WellS S' a ∧ SBut a S S') ?_ ⟨[], rfl, by simp, hw1, sb1⟩ ?_ (by rw [intsD_len, sizeLine_eq]; omega)
  · rintro i d acc S' K hd ⟨xs, rfl, hx, hw', sb'⟩ hl k
    simp only [sSeq, sIf, sRet, sRetN, sSet, sExpr, sNext, sAug, sAugS, sAsg, sPar, sFldS, sFz, sRetZ, sRetZZ, sNever, sRaise, sWhile, sFor, sBreak, sCont, eVar, eC, eOp, eCB, lCB, eCBK, eTup, lDisp, lOp, lRep, eFr, eMu, eFld, eIf, eAnd, eOr, eNot, eNeg, unNeg, eChain, tBl, tTru, tAnd2, tOr2, tNot2, tYes2, aNil, aCons, eCall, eCallK, gN, gTup2, gsCons, gsNil, gSub2, iSeq, iRng, iRngB, iEnum2, iStr2, lLc, lLcR, eSl, lSl, oNo, oSome, eBM, lBM, eLenSet, eMeth, eMake, eMakeZ, endsOf, start2, List.map_cons, List.map_nil, List.length_cons, List.length_nil, Nat.reduceSub, Nat.reduceAdd, List.replicate_zero, List.replicate_succ, List.append_nil, List.cons_append, List.nil_append, List.getElem?_cons_zero, List.getElem?_cons_succ, List.set_cons_zero, List.set_cons_succ, Option.some.injEq, exists_eq_left', exists_eq_left, truOf_bl, Bool.not_true, Bool.not_false, if_true, if_false, Bool.false_eq_true, reduceIte, D.bl.injEq, D.int.injEq, D.str.injEq, D.tup.injEq, D.lst.injEq, D.ref.injEq, wipeD, List.cons.injEq, and_true, true_and, opAdd_int, opSub_int, opMul_int, opDiv_int, opMod_int, opPow_int, opLt_int, opLe_int, opGt_int, opGe_int, opAddI_int, opEq_int, opNe_int, opIsN_eq, opNotN_eq, isN_non, isN_int, isN_bl, isN_tup, isN_lst, isN_str, seqZ_lst, seqZ_tup, opIx_lst, opIx_tup, fLen_lst, fLen_tup, fSum_iD, fTuple_lst, fList_lst, fMin2_int, fMax2_int, exists_const, sup_sup, sup_get]
    refine ⟨a, 5, rfl, hw', by omega, by omega, fun v S2 v1 v2 hw2 sb2 => ?_⟩
    refine k _ _ ⟨xs ++ [v], by simp [iD], fun x hx' => ?_, hw2, sb'.trans sb2⟩
    rcases List.mem_append.mp hx' with h | h
    · exact hx x h
    · simp at h; omega
  rintro acc S2 ⟨xs, rfl, hx, hw2, sb2⟩ hl
  rw [iD_len, intsD_len] at hl
  have hlen : (xs.length : Int) = 2 + r := by omega
  intro p hp
  have hpa := hw2.ne hp
  have m0 : Mid a p S2 (iD xs) (sup S2 p (.lst (iD xs))) := ⟨hw2.keep (sup_ne hpa.symm), sup_same, hp, hpa, fun b _ h2 => sup_ne h2⟩
  refine ⟨a, 2 + r, rfl, m0.w, by omega, by omega, fun leaf S3 l1 l2 hw3 sb3 => ?_⟩
  have m1 := m0.draw hw3 sb3
  refine ⟨a, 2 + r - 1, rfl, m1.w, by omega, by omega, fun v S4 v1 v2 hw4 sb4 => ?_⟩
  have m2 := m1.draw hw4 sb4
  obtain ⟨w0, w1, w2⟩ := wide_ok (many := 2 + r) (by omega) l1 l2 v1 v2
  simp only [sSeq, sIf, sRet, sRetN, sSet, sExpr, sNext, sAug, sAugS, sAsg, sPar, sFldS, sFz, sRetZ, sRetZZ, sNever, sRaise, sWhile, sFor, sBreak, sCont, eVar, eC, eOp, eCB, lCB, eCBK, eTup, lDisp, lOp, lRep, eFr, eMu, eFld, eIf, eAnd, eOr, eNot, eNeg, unNeg, eChain, tBl, tTru, tAnd2, tOr2, tNot2, tYes2, aNil, aCons, eCall, eCallK, gN, gTup2, gsCons, gsNil, gSub2, iSeq, iRng, iRngB, iEnum2, iStr2, lLc, lLcR, eSl, lSl, oNo, oSome, eBM, lBM, eLenSet, eMeth, eMake, eMakeZ, endsOf, start2, List.map_cons, List.map_nil, List.length_cons, List.length_nil, Nat.reduceSub, Nat.reduceAdd, List.replicate_zero, List.replicate_succ, List.append_nil, List.cons_append, List.nil_append, List.getElem?_cons_zero, List.getElem?_cons_succ, List.set_cons_zero, List.set_cons_succ, Option.some.injEq, exists_eq_left', exists_eq_left, truOf_bl, Bool.not_true, Bool.not_false, if_true, if_false, Bool.false_eq_true, reduceIte, D.bl.injEq, D.int.injEq, D.str.injEq, D.tup.injEq, D.lst.injEq, D.ref.injEq, wipeD, List.cons.injEq, and_true, true_and, opAdd_int, opSub_int, opMul_int, opDiv_int, opMod_int, opPow_int, opLt_int, opLe_int, opGt_int, opGe_int, opAddI_int, opEq_int, opNe_int, opIsN_eq, opNotN_eq, isN_non, isN_int, isN_bl, isN_tup, isN_lst, isN_str, seqZ_lst, seqZ_tup, opIx_lst, opIx_tup, fLen_lst, fLen_tup, fSum_iD, fTuple_lst, fList_lst, fMin2_int, fMax2_int, exists_const, sup_sup, sup_get]
  refine ⟨by omega, ?_⟩
  generalize (leaf + 1 + v) % (2 + r) = wide at w0 w1 w2 ⊢
  refine setL_iD m2.at_ l1 (by omega) ?_
  have m3 := m2.put (ys := iD (xs.set leaf.toNat 0))
  have hwl : wide.toNat < xs.length := by omega
  have hg : (xs.set leaf.toNat 0)[wide.toNat]? = some xs[wide.toNat] := by
    rw [List.getElem?_set_ne (by omega), List.getElem?_eq_getElem hwl]
  rw [opIx_ref m3.at_]
  refine ⟨_, atI_get w0 (iD_getElem? hg), ?_⟩
  simp only [sSeq, sIf, sRet, sRetN, sSet, sExpr, sNext, sAug, sAugS, sAsg, sPar, sFldS, sFz, sRetZ, sRetZZ, sNever, sRaise, sWhile, sFor, sBreak, sCont, eVar, eC, eOp, eCB, lCB, eCBK, eTup, lDisp, lOp, lRep, eFr, eMu, eFld, eIf, eAnd, eOr, eNot, eNeg, unNeg, eChain, tBl, tTru, tAnd2, tOr2, tNot2, tYes2, aNil, aCons, eCall, eCallK, gN, gTup2, gsCons, gsNil, gSub2, iSeq, iRng, iRngB, iEnum2, iStr2, lLc, lLcR, eSl, lSl, oNo, oSome, eBM, lBM, eLenSet, eMeth, eMake, eMakeZ, endsOf, start2, List.map_cons, List.map_nil, List.length_cons, List.length_nil, Nat.reduceSub, Nat.reduceAdd, List.replicate_zero, List.replicate_succ, List.append_nil, List.cons_append, List.nil_append, List.getElem?_cons_zero, List.getElem?_cons_succ, List.set_cons_zero, List.set_cons_succ, Option.some.injEq, exists_eq_left', exists_eq_left, truOf_bl, Bool.not_true, Bool.not_false, if_true, if_false, Bool.false_eq_true, reduceIte, D.bl.injEq, D.int.injEq, D.str.injEq, D.tup.injEq, D.lst.injEq, D.ref.injEq, wipeD, List.cons.injEq, and_true, true_and, opAdd_int, opSub_int, opMul_int, opDiv_int, opMod_int, opPow_int, opLt_int, opLe_int, opGt_int, opGe_int, opAddI_int, opEq_int, opNe_int, opIsN_eq, opNotN_eq, isN_non, isN_int, isN_bl, isN_tup, isN_lst, isN_str, seqZ_lst, seqZ_tup, opIx_lst, opIx_tup, fLen_lst, fLen_tup, fSum_iD, fTuple_lst, fList_lst, fMin2_int, fMax2_int, exists_const, sup_sup, sup_get]
  refine ⟨by omega, ?_⟩
  have y0 := hx _ (List.getElem_mem hwl)
  have b0 := Int.emod_nonneg xs[wide.toNat] (b := 3) (by omega)
  have b1 := Int.emod_lt_of_pos xs[wide.toNat] (b := 3) (by omega)
  generalize xs[wide.toNat] % 3 = u at b0 b1 ⊢
  refine setL_iD m3.at_ w0 (by rw [List.length_set]; omega) ?_
  have m4 := m3.put (ys := iD ((xs.set leaf.toNat 0).set wide.toNat (2 + u)))
  have no : numsOk ((xs.set leaf.toNat 0).set wide.toNat (2 + u)) := by
    refine ⟨by simp; omega, by simp; omega, fun x hx' => ?_, ?_, ?_⟩
    · rcases List.mem_or_eq_of_mem_set hx' with h | h
      · rcases List.mem_or_eq_of_mem_set h with h | h
        · exact hx x h
        · omega
      · omega
    · refine List.mem_of_getElem? (i := leaf.toNat) ?_
      rw [List.getElem?_set_ne (by omega), List.getElem?_set_self (by omega)]
    · refine ⟨2 + u, List.mem_of_getElem? (i := wide.toNat) ?_, by omega⟩
      rw [List.getElem?_set_self (by rw [List.length_set]; omega)]
  generalize (xs.set leaf.toNat 0).set wide.toNat (2 + u) = ns at no m4 ⊢
  refine ⟨p, iD ns, rfl, m4.at_, ?_⟩
  obtain ⟨wo, so⟩ := m4.out
  have so := sb2.trans so
  generalize hS5 : sdel (sup (sup S4 p (SO.lst (iD (xs.set leaf.toNat 0)))) p (SO.lst (iD ns))) p = S5 at wo so ⊢
  refine ⟨a, 6, rfl, wo, by omega, by omega, fun t S6 t1 t2 hw6 sb6 => ?_⟩
  simp only [sSeq, sIf, sRet, sRetN, sSet, sExpr, sNext, sAug, sAugS, sAsg, sPar, sFldS, sFz, sRetZ, sRetZZ, sNever, sRaise, sWhile, sFor, sBreak, sCont, eVar, eC, eOp, eCB, lCB, eCBK, eTup, lDisp, lOp, lRep, eFr, eMu, eFld, eIf, eAnd, eOr, eNot, eNeg, unNeg, eChain, tBl, tTru, tAnd2, tOr2, tNot2, tYes2, aNil, aCons, eCall, eCallK, gN, gTup2, gsCons, gsNil, gSub2, iSeq, iRng, iRngB, iEnum2, iStr2, lLc, lLcR, eSl, lSl, oNo, oSome, eBM, lBM, eLenSet, eMeth, eMake, eMakeZ, endsOf, start2, List.map_cons, List.map_nil, List.length_cons, List.length_nil, Nat.reduceSub, Nat.reduceAdd, List.replicate_zero, List.replicate_succ, List.append_nil, List.cons_append, List.nil_append, List.getElem?_cons_zero, List.getElem?_cons_succ, List.set_cons_zero, List.set_cons_succ, Option.some.injEq, exists_eq_left', exists_eq_left, truOf_bl, Bool.not_true, Bool.not_false, if_true, if_false, Bool.false_eq_true, reduceIte, D.bl.injEq, D.int.injEq, D.str.injEq, D.tup.injEq, D.lst.injEq, D.ref.injEq, wipeD, List.cons.injEq, and_true, true_and, opAdd_int, opSub_int, opMul_int, opDiv_int, opMod_int, opPow_int, opLt_int, opLe_int, opGt_int, opGe_int, opAddI_int, opEq_int, opNe_int, opIsN_eq, opNotN_eq, isN_non, isN_int, isN_bl, isN_tup, isN_lst, isN_str, seqZ_lst, seqZ_tup, opIx_lst, opIx_tup, fLen_lst, fLen_tup, fSum_iD, fTuple_lst, fList_lst, fMin2_int, fMax2_int, exists_const, sup_sup, sup_get]
  by_cases ht : t = 0
  · simp only [ht, beq_self_eq_true, if_true]
    refine ⟨by rw [sizeLine_eq]; decide, by rw [sizeLine_eq]; decide, by rw [sizeLine_eq]; decide, by rw [sizeLine_eq]; decide, by rw [sizeLine_eq]; decide, by rw [sizeLine_eq]; decide, by rw [sizeLine_eq]; decide, ?_⟩
    refine ⟨a, 6, rfl, hw6, by omega, by omega, fun v S7 v1 v2 hw7 sb7 => ?_⟩
    show opIx (.lst (someL.map fun l => .lst (iD l))) (.int v) S7 _
    have hv : v.toNat < someL.length := by show v.toNat < 6; omega
    rw [opIx_lst]
    refine ⟨_, atI_get v1 (by rw [List.getElem?_map, List.getElem?_eq_getElem hv]; rfl), ?_⟩
    have f := fun e5 => fin someL[v.toNat] S7 (some (.int (2 + r))) (some (.int leaf)) (some (.int wide)) e5 (some_ok _ (List.getElem_mem hv)) hw7 ((so.trans sb6).trans sb7)
    simp only [sSeq, sIf, sRet, sRetN, sSet, sExpr, sNext, sAug, sAugS, sAsg, sPar, sFldS, sFz, sRetZ, sRetZZ, sNever, sRaise, sWhile, sFor, sBreak, sCont, eVar, eC, eOp, eCB, lCB, eCBK, eTup, lDisp, lOp, lRep, eFr, eMu, eFld, eIf, eAnd, eOr, eNot, eNeg, unNeg, eChain, tBl, tTru, tAnd2, tOr2, tNot2, tYes2, aNil, aCons, eCall, eCallK, gN, gTup2, gsCons, gsNil, gSub2, iSeq, iRng, iRngB, iEnum2, iStr2, lLc, lLcR, eSl, lSl, oNo, oSome, eBM, lBM, eLenSet, eMeth, eMake, eMakeZ, endsOf, start2, List.map_cons, List.map_nil, List.length_cons, List.length_nil, Nat.reduceSub, Nat.reduceAdd, List.replicate_zero, List.replicate_succ, List.append_nil, List.cons_append, List.nil_append, List.getElem?_cons_zero, List.getElem?_cons_succ, List.set_cons_zero, List.set_cons_succ, Option.some.injEq, exists_eq_left', exists_eq_left, truOf_bl, Bool.not_true, Bool.not_false, if_true, if_false, Bool.false_eq_true, reduceIte, D.bl.injEq, D.int.injEq, D.str.injEq, D.tup.injEq, D.lst.injEq, D.ref.injEq, wipeD, List.cons.injEq, and_true, true_and, opAdd_int, opSub_int, opMul_int, opDiv_int, opMod_int, opPow_int, opLt_int, opLe_int, opGt_int, opGe_int, opAddI_int, opEq_int, opNe_int, opIsN_eq, opNotN_eq, isN_non, isN_int, isN_bl, isN_tup, isN_lst, isN_str, seqZ_lst, seqZ_tup, opIx_lst, opIx_tup, fLen_lst, fLen_tup, fSum_iD, fTuple_lst, fList_lst, fMin2_int, fMax2_int, exists_const, sup_sup, sup_get] at f
    simp only [sSeq, sIf, sRet, sRetN, sSet, sExpr, sNext, sAug, sAugS, sAsg, sPar, sFldS, sFz, sRetZ, sRetZZ, sNever, sRaise, sWhile, sFor, sBreak, sCont, eVar, eC, eOp, eCB, lCB, eCBK, eTup, lDisp, lOp, lRep, eFr, eMu, eFld, eIf, eAnd, eOr, eNot, eNeg, unNeg, eChain, tBl, tTru, tAnd2, tOr2, tNot2, tYes2, aNil, aCons, eCall, eCallK, gN, gTup2, gsCons, gsNil, gSub2, iSeq, iRng, iRngB, iEnum2, iStr2, lLc, lLcR, eSl, lSl, oNo, oSome, eBM, lBM, eLenSet, eMeth, eMake, eMakeZ, endsOf, start2, List.map_cons, List.map_nil, List.length_cons, List.length_nil, Nat.reduceSub, Nat.reduceAdd, List.replicate_zero, List.replicate_succ, List.append_nil, List.cons_append, List.nil_append, List.getElem?_cons_zero, List.getElem?_cons_succ, List.set_cons_zero, List.set_cons_succ, Option.some.injEq, exists_eq_left', exists_eq_left, truOf_bl, Bool.not_true, Bool.not_false, if_true, if_false, Bool.false_eq_true, reduceIte, D.bl.injEq, D.int.injEq, D.str.injEq, D.tup.injEq, D.lst.injEq, D.ref.injEq, wipeD, List.cons.injEq, and_true, true_and, opAdd_int, opSub_int, opMul_int, opDiv_int, opMod_int, opPow_int, opLt_int, opLe_int, opGt_int, opGe_int, opAddI_int, opEq_int, opNe_int, opIsN_eq, opNotN_eq, isN_non, isN_int, isN_bl, isN_tup, isN_lst, isN_str, seqZ_lst, seqZ_tup, opIx_lst, opIx_tup, fLen_lst, fLen_tup, fSum_iD, fTuple_lst, fList_lst, fMin2_int, fMax2_int, exists_const, sup_sup, sup_get]
    exact f _
  · have : (t == 0) = false := by simpa using ht
    simp only [this, Bool.false_eq_true, if_false]
    have f := fin ns S6 (some (.int (2 + r))) (some (.int leaf)) (some (.int wide)) none no hw6 (so.trans sb6)
    simp only [sSeq, sIf, sRet, sRetN, sSet, sExpr, sNext, sAug, sAugS, sAsg, sPar, sFldS, sFz, sRetZ, sRetZZ, sNever, sRaise, sWhile, sFor, sBreak, sCont, eVar, eC, eOp, eCB, lCB, eCBK, eTup, lDisp, lOp, lRep, eFr, eMu, eFld, eIf, eAnd, eOr, eNot, eNeg, unNeg, eChain, tBl, tTru, tAnd2, tOr2, tNot2, tYes2, aNil, aCons, eCall, eCallK, gN, gTup2, gsCons, gsNil, gSub2, iSeq, iRng, iRngB, iEnum2, iStr2, lLc, lLcR, eSl, lSl, oNo, oSome, eBM, lBM, eLenSet, eMeth, eMake, eMakeZ, endsOf, start2, List.map_cons, List.map_nil, List.length_cons, List.length_nil, Nat.reduceSub, Nat.reduceAdd, List.replicate_zero, List.replicate_succ, List.append_nil, List.cons_append, List.nil_append, List.getElem?_cons_zero, List.getElem?_cons_succ, List.set_cons_zero, List.set_cons_succ, Option.some.injEq, exists_eq_left', exists_eq_left, truOf_bl, Bool.not_true, Bool.not_false, if_true, if_false, Bool.false_eq_true, reduceIte, D.bl.injEq, D.int.injEq, D.str.injEq, D.tup.injEq, D.lst.injEq, D.ref.injEq, wipeD, List.cons.injEq, and_true, true_and, opAdd_int, opSub_int, opMul_int, opDiv_int, opMod_int, opPow_int, opLt_int, opLe_int, opGt_int, opGe_int, opAddI_int, opEq_int, opNe_int, opIsN_eq, opNotN_eq, isN_non, isN_int, isN_bl, isN_tup, isN_lst, isN_str, seqZ_lst, seqZ_tup, opIx_lst, opIx_tup, fLen_lst, fLen_tup, fSum_iD, fTuple_lst, fList_lst, fMin2_int, fMax2_int, exists_const, sup_sup, sup_get] at f
    exact f
end L83
set_option linter.all false
set_option maxRecDepth 100000
set_option maxHeartbeats 4000000
namespace L83
open PySem PySem.Spec PyProof.Rows L2 Y M83
def bnd (x : Int) : Prop := 0 ≤ x ∧ x ≤ 5 ^ 60
theorem bnd_log {x : Int} (h : bnd x) : x.natAbs.log2 < 1000 := by
  have : x.natAbs ≤ 5 ^ 60 := by have := h.1; have := h.2; omega
  by_cases h0 : x.natAbs = 0
  · rw [h0]; decide
  · rw [Nat.log2_lt h0]
    exact Nat.lt_of_le_of_lt this (by decide)
theorem bnd_mul {x y : Int} (h : bnd x) (k : bnd y) : CMulA x y := .inr (by have := bnd_log h; have := bnd_log k; unfold CMulW; omega)
def stO (f g : Nat → Int) (i : Nat) : Nat → Int := fun t => sumTo (min i (t + 1)) fun k => f k * g (t - k)
def stI (f g : Nat → Int) (i j : Nat) : Nat → Int := fun t => stO f g i t + if i ≤ t ∧ t < i + j then f i * g (t - i) else 0
theorem stI_zero (f g : Nat → Int) (n i : Nat) : tab n (stO f g i) = tab n (stI f g i 0) := tab_congr fun t _ => by
  unfold stI; rw [if_neg (by omega)]; omega
theorem stI_set (f g : Nat → Int) (n i j : Nat) (h : i + j < n) : (tab n (stI f g i j)).set (i + j) (stI f g i j (i + j) + f i * g j) = tab n (stI f g i (j + 1)) := by
  rw [tab_set]
  refine tab_congr fun t ht => ?_
  by_cases e : t = i + j
  · subst e
    rw [if_pos rfl]
    unfold stI
    rw [if_neg (by omega), if_pos (by omega), show i + j - i = j by omega]; omega
  · rw [if_neg e]
    unfold stI
    congr 1
    by_cases h1 : i ≤ t ∧ t < i + j
    · rw [if_pos h1, if_pos (by omega)]
    · rw [if_neg h1, if_neg (by omega)]
theorem stO_next (f g : Nat → Int) (i t : Nat) : stO f g (i + 1) t = stO f g i t + if i ≤ t then f i * g (t - i) else 0 := by
  unfold stO
  by_cases h : i ≤ t
  · rw [if_pos h, Nat.min_eq_left (by omega), Nat.min_eq_left (by omega)]; rfl
  · rw [if_neg h, Nat.min_eq_right (by omega), Nat.min_eq_right (by omega)]; omega
theorem stI_end (f g : Nat → Int) (n i : Nat) (h : i < n) : tab n (stI f g i (n - i)) = tab n (stO f g (i + 1)) := tab_congr fun t ht => by
  rw [stO_next]
  unfold stI
  congr 1
  by_cases h1 : i ≤ t
  · rw [if_pos h1, if_pos (by omega)]
  · rw [if_neg h1, if_neg (by omega)]
theorem stO_skip (f g : Nat → Int) (n i : Nat) (h : f i = 0) : tab n (stO f g i) = tab n (stO f g (i + 1)) := tab_congr fun t ht => by
  rw [stO_next, h]; simp
theorem stO_start (f g : Nat → Int) (n : Nat) : List.replicate n (0 : Int) = tab n (stO f g 0) := by
  rw [rep_tab]; exact tab_congr fun t _ => by unfold stO; rw [Nat.zero_min]; rfl
theorem stO_end (f g : Nat → Int) (n : Nat) : tab n (stO f g n) = tab n (cv f g) := tab_congr fun t ht => by
  unfold stO cv; rw [Nat.min_eq_right (by omega)]
def sp_prod : Sp2 := fun ds S Q E => ∃ n f g, ds = [.lst (iD (tab n f)), .lst (iD (tab n g))] ∧ n ≤ 200 ∧ (∀ t, t < n → bnd (f t)) ∧ (∀ t, t < n → bnd (g t)) ∧ Q (.lst (iD (tab n (cv f g)))) S
theorem iD_one : [D.int 0] = iD [0] := rfl
theorem opIx_sup {S : Sto} {p : Addr} {xs : List D} {i : Int} {Q : QK} : opIx (.ref p) (.int i) (sup S p (.lst xs)) Q = ∃ d, L2.atI xs i = some d ∧ Q d (sup S p (.lst xs)) := opIx_ref sup_same
theorem opGetL_sup {S : Sto} {p : Addr} {xs : List D} {i : Int} {Q : QK} {d : D} (h : L2.atI xs i = some d) (k : Q d (sup S p (.lst xs))) : opGetL (.ref p) (.int i) (sup S p (.lst xs)) Q := ⟨xs, d, lstOf_sup, h, k⟩
theorem at_iD {n : Nat} {f : Nat → Int} {i : Int} {j : Nat} (e : i = (j : Int)) (h : j < n) : L2.atI (iD (tab n f)) i = some (.int (f j)) := by
  subst e; rw [Y.atI_nat, iD_get, tab_get h]; rfl
theorem s_product : ∀ ds S Q E, sp_prod ds S Q E → r_product (endsOf Q E) (start2 N_product ds) S := by
  rintro _ S Q E ⟨n, f, g, rfl, hn, hf, hg, q⟩
  unfold r_product
  simp only [sSeq, sIf, sRet, sRetN, sSet, sExpr, sNext, sAug, sAugS, sAsg, sPar, sFldS, sFz, sRetZ, sRetZZ, sNever, sRaise, sWhile, sFor, sBreak, sCont, eVar, eC, eOp, eCB, lCB, eCBK, eTup, lDisp, lOp, lRep, eFr, eMu, eFld, eIf, eAnd, eOr, eNot, eNeg, unNeg, eChain, tBl, tTru, tAnd2, tOr2, tNot2, tYes2, aNil, aCons, eCall, eCallK, gN, gTup2, gsCons, gsNil, gSub2, iSeq, iRng, iRngB, iEnum2, iStr2, lLc, lLcR, eSl, lSl, oNo, oSome, eBM, lBM, eLenSet, eMeth, eMake, eMakeZ, endsOf, start2, List.map_cons, List.map_nil, List.length_cons, List.length_nil, Nat.reduceSub, Nat.reduceAdd, List.replicate_zero, List.replicate_succ, List.append_nil, List.cons_append, List.nil_append, List.getElem?_cons_zero, List.getElem?_cons_succ, List.set_cons_zero, List.set_cons_succ, Option.some.injEq, exists_eq_left', exists_eq_left, truOf_bl, Bool.not_true, Bool.not_false, if_true, if_false, Bool.false_eq_true, reduceIte, D.bl.injEq, D.int.injEq, D.str.injEq, D.tup.injEq, D.lst.injEq, D.ref.injEq, wipeD, List.cons.injEq, and_true, true_and, opAdd_int, opSub_int, opMul_int, opDiv_int, opMod_int, opPow_int, opLt_int, opLe_int, opGt_int, opGe_int, opAddI_int, opEq_int, opNe_int, opIsN_eq, opNotN_eq, isN_non, isN_int, isN_bl, isN_tup, isN_lst, isN_str, seqZ_lst, seqZ_tup, opIx_lst, opIx_tup, fLen_lst, fLen_tup, fSum_iD, fTuple_lst, fList_lst, fMin2_int, fMax2_int, exists_const, sup_sup, sup_get, iD_len, tab_len]
  refine ⟨by rw [sizeLine_eq]; omega, by omega, by omega, by rw [sizeLine_eq, Int.toNat_natCast]; omega, fun p hp => ?_⟩
  rw [rep_one, iD_rep, Int.toNat_natCast, stO_start f g]
  refine forGo_inv (fun i ρ S' => ∃ e3 e4 e5, ρ = [some (.lst (iD (tab n f))), some (.lst (iD (tab n g))), some (.ref p), e3, e4, e5] ∧ S' = sup S p (.lst (iD (tab n (stO f g i))))) ?_ ⟨none, none, none, rfl, rfl⟩ ?_
  · rintro i d ρ S' nx bk ct hd ⟨e3, e4, e5, rfl, rfl⟩ hnx _ _
    obtain ⟨d', hd', rfl⟩ := enumD_get _ _ _ _ hd
    have hi : i < n := by
      have := (List.getElem?_eq_some_iff.mp hd').1
      rw [iD_len, tab_len] at this; exact this
    rw [iD_get, tab_get hi] at hd'
    obtain rfl : d' = .int (f i) := (Option.some.inj hd').symm
    simp only [sSeq, sIf, sRet, sRetN, sSet, sExpr, sNext, sAug, sAugS, sAsg, sPar, sFldS, sFz, sRetZ, sRetZZ, sNever, sRaise, sWhile, sFor, sBreak, sCont, eVar, eC, eOp, eCB, lCB, eCBK, eTup, lDisp, lOp, lRep, eFr, eMu, eFld, eIf, eAnd, eOr, eNot, eNeg, unNeg, eChain, tBl, tTru, tAnd2, tOr2, tNot2, tYes2, aNil, aCons, eCall, eCallK, gN, gTup2, gsCons, gsNil, gSub2, iSeq, iRng, iRngB, iEnum2, iStr2, lLc, lLcR, eSl, lSl, oNo, oSome, eBM, lBM, eLenSet, eMeth, eMake, eMakeZ, endsOf, start2, List.map_cons, List.map_nil, List.length_cons, List.length_nil, Nat.reduceSub, Nat.reduceAdd, List.replicate_zero, List.replicate_succ, List.append_nil, List.cons_append, List.nil_append, List.getElem?_cons_zero, List.getElem?_cons_succ, List.set_cons_zero, List.set_cons_succ, Option.some.injEq, exists_eq_left', exists_eq_left, truOf_bl, Bool.not_true, Bool.not_false, if_true, if_false, Bool.false_eq_true, reduceIte, D.bl.injEq, D.int.injEq, D.str.injEq, D.tup.injEq, D.lst.injEq, D.ref.injEq, wipeD, List.cons.injEq, and_true, true_and, opAdd_int, opSub_int, opMul_int, opDiv_int, opMod_int, opPow_int, opLt_int, opLe_int, opGt_int, opGe_int, opAddI_int, opEq_int, opNe_int, opIsN_eq, opNotN_eq, isN_non, isN_int, isN_bl, isN_tup, isN_lst, isN_str, seqZ_lst, seqZ_tup, opIx_lst, opIx_tup, fLen_lst, fLen_tup, fSum_iD, fTuple_lst, fList_lst, fMin2_int, fMax2_int, exists_const, sup_sup, sup_get]
    refine ⟨_, _, ⟨rfl, rfl⟩, _, _, rfl, rfl, ?_⟩
    by_cases h0 : f i = 0
    · simp only [sSeq, sIf, sRet, sRetN, sSet, sExpr, sNext, sAug, sAugS, sAsg, sPar, sFldS, sFz, sRetZ, sRetZZ, sNever, sRaise, sWhile, sFor, sBreak, sCont, eVar, eC, eOp, eCB, lCB, eCBK, eTup, lDisp, lOp, lRep, eFr, eMu, eFld, eIf, eAnd, eOr, eNot, eNeg, unNeg, eChain, tBl, tTru, tAnd2, tOr2, tNot2, tYes2, aNil, aCons, eCall, eCallK, gN, gTup2, gsCons, gsNil, gSub2, iSeq, iRng, iRngB, iEnum2, iStr2, lLc, lLcR, eSl, lSl, oNo, oSome, eBM, lBM, eLenSet, eMeth, eMake, eMakeZ, endsOf, start2, List.map_cons, List.map_nil, List.length_cons, List.length_nil, Nat.reduceSub, Nat.reduceAdd, List.replicate_zero, List.replicate_succ, List.append_nil, List.cons_append, List.nil_append, List.getElem?_cons_zero, List.getElem?_cons_succ, List.set_cons_zero, List.set_cons_succ, Option.some.injEq, exists_eq_left', exists_eq_left, truOf_bl, Bool.not_true, Bool.not_false, if_true, if_false, Bool.false_eq_true, reduceIte, D.bl.injEq, D.int.injEq, D.str.injEq, D.tup.injEq, D.lst.injEq, D.ref.injEq, wipeD, List.cons.injEq, and_true, true_and, opAdd_int, opSub_int, opMul_int, opDiv_int, opMod_int, opPow_int, opLt_int, opLe_int, opGt_int, opGe_int, opAddI_int, opEq_int, opNe_int, opIsN_eq, opNotN_eq, isN_non, isN_int, isN_bl, isN_tup, isN_lst, isN_str, seqZ_lst, seqZ_tup, opIx_lst, opIx_tup, fLen_lst, fLen_tup, fSum_iD, fTuple_lst, fList_lst, fMin2_int, fMax2_int, exists_const, sup_sup, sup_get, h0, beq_self_eq_true]
      refine hnx _ _ ⟨_, _, _, rfl, ?_⟩
      rw [← stO_skip f g n i h0]
    · have : (f i == 0) = false := by simpa using h0
      simp only [sSeq, sIf, sRet, sRetN, sSet, sExpr, sNext, sAug, sAugS, sAsg, sPar, sFldS, sFz, sRetZ, sRetZZ, sNever, sRaise, sWhile, sFor, sBreak, sCont, eVar, eC, eOp, eCB, lCB, eCBK, eTup, lDisp, lOp, lRep, eFr, eMu, eFld, eIf, eAnd, eOr, eNot, eNeg, unNeg, eChain, tBl, tTru, tAnd2, tOr2, tNot2, tYes2, aNil, aCons, eCall, eCallK, gN, gTup2, gsCons, gsNil, gSub2, iSeq, iRng, iRngB, iEnum2, iStr2, lLc, lLcR, eSl, lSl, oNo, oSome, eBM, lBM, eLenSet, eMeth, eMake, eMakeZ, endsOf, start2, List.map_cons, List.map_nil, List.length_cons, List.length_nil, Nat.reduceSub, Nat.reduceAdd, List.replicate_zero, List.replicate_succ, List.append_nil, List.cons_append, List.nil_append, List.getElem?_cons_zero, List.getElem?_cons_succ, List.set_cons_zero, List.set_cons_succ, Option.some.injEq, exists_eq_left', exists_eq_left, truOf_bl, Bool.not_true, Bool.not_false, if_true, if_false, Bool.false_eq_true, reduceIte, D.bl.injEq, D.int.injEq, D.str.injEq, D.tup.injEq, D.lst.injEq, D.ref.injEq, wipeD, List.cons.injEq, and_true, true_and, opAdd_int, opSub_int, opMul_int, opDiv_int, opMod_int, opPow_int, opLt_int, opLe_int, opGt_int, opGe_int, opAddI_int, opEq_int, opNe_int, opIsN_eq, opNotN_eq, isN_non, isN_int, isN_bl, isN_tup, isN_lst, isN_str, seqZ_lst, seqZ_tup, opIx_lst, opIx_tup, fLen_lst, fLen_tup, fSum_iD, fTuple_lst, fList_lst, fMin2_int, fMax2_int, exists_const, sup_sup, sup_get, this, iD_len, tab_len]
      refine ⟨by omega, by omega, ?_⟩
      refine forGo_inv (fun j ρ S' => ∃ e5, ρ = [some (.lst (iD (tab n f))), some (.lst (iD (tab n g))), some (.ref p), some (.int ((0 + i : Nat) : Int)), some (.int (f i)), e5] ∧ S' = sup S p (.lst (iD (tab n (stI f g i j))))) ?_ ⟨_, rfl, by rw [stI_zero]⟩ ?_
      · rintro j d ρ S' nx2 bk2 ct2 hd ⟨e5, rfl, rfl⟩ hnx2 _ _
        obtain ⟨hj, rfl⟩ := intsD_get hd
        have hj : i + j < n := by omega
        simp only [sSeq, sIf, sRet, sRetN, sSet, sExpr, sNext, sAug, sAugS, sAsg, sPar, sFldS, sFz, sRetZ, sRetZZ, sNever, sRaise, sWhile, sFor, sBreak, sCont, eVar, eC, eOp, eCB, lCB, eCBK, eTup, lDisp, lOp, lRep, eFr, eMu, eFld, eIf, eAnd, eOr, eNot, eNeg, unNeg, eChain, tBl, tTru, tAnd2, tOr2, tNot2, tYes2, aNil, aCons, eCall, eCallK, gN, gTup2, gsCons, gsNil, gSub2, iSeq, iRng, iRngB, iEnum2, iStr2, lLc, lLcR, eSl, lSl, oNo, oSome, eBM, lBM, eLenSet, eMeth, eMake, eMakeZ, endsOf, start2, List.map_cons, List.map_nil, List.length_cons, List.length_nil, Nat.reduceSub, Nat.reduceAdd, List.replicate_zero, List.replicate_succ, List.append_nil, List.cons_append, List.nil_append, List.getElem?_cons_zero, List.getElem?_cons_succ, List.set_cons_zero, List.set_cons_succ, Option.some.injEq, exists_eq_left', exists_eq_left, truOf_bl, Bool.not_true, Bool.not_false, if_true, if_false, Bool.false_eq_true, reduceIte, D.bl.injEq, D.int.injEq, D.str.injEq, D.tup.injEq, D.lst.injEq, D.ref.injEq, wipeD, List.cons.injEq, and_true, true_and, opAdd_int, opSub_int, opMul_int, opDiv_int, opMod_int, opPow_int, opLt_int, opLe_int, opGt_int, opGe_int, opAddI_int, opEq_int, opNe_int, opIsN_eq, opNotN_eq, isN_non, isN_int, isN_bl, isN_tup, isN_lst, isN_str, seqZ_lst, seqZ_tup, opIx_lst, opIx_tup, fLen_lst, fLen_tup, fSum_iD, fTuple_lst, fList_lst, fMin2_int, fMax2_int, exists_const, sup_sup, sup_get]
        refine opGetL_sup (at_iD (j := i + j) (by omega) hj) ?_
        refine ⟨_, at_iD (j := j) (by omega) (by omega), bnd_mul (hf i hi) (hg j (by omega)), ?_⟩
        refine ⟨p, _, _, i + j, rfl, rfl, sup_same, ?_, ?_⟩
        · rw [show ((0 + i : Nat) : Int) + (0 + (j : Int)) = ((i + j : Nat) : Int) by omega]
          exact ixN_nat (by rw [iD_len, tab_len]; exact hj)
        · rw [iD_set, stI_set f g n i j hj, sup_sup]
          exact hnx2 _ _ ⟨_, rfl, rfl⟩
      · rintro ρ S' ⟨e5, rfl, rfl⟩
        refine hnx _ _ ⟨_, _, _, rfl, ?_⟩
        have : (intsD 0 ((n : Int) - ((0 + i : Nat) : Int)).toNat).length = n - i := by rw [intsD_len]; omega
        rw [this, stI_end f g n i hi]
  · rintro ρ S' ⟨e3, e4, e5, rfl, rfl⟩
    rw [enumD_length, iD_len, tab_len, stO_end]
    simp only [sSeq, sIf, sRet, sRetN, sSet, sExpr, sNext, sAug, sAugS, sAsg, sPar, sFldS, sFz, sRetZ, sRetZZ, sNever, sRaise, sWhile, sFor, sBreak, sCont, eVar, eC, eOp, eCB, lCB, eCBK, eTup, lDisp, lOp, lRep, eFr, eMu, eFld, eIf, eAnd, eOr, eNot, eNeg, unNeg, eChain, tBl, tTru, tAnd2, tOr2, tNot2, tYes2, aNil, aCons, eCall, eCallK, gN, gTup2, gsCons, gsNil, gSub2, iSeq, iRng, iRngB, iEnum2, iStr2, lLc, lLcR, eSl, lSl, oNo, oSome, eBM, lBM, eLenSet, eMeth, eMake, eMakeZ, endsOf, start2, List.map_cons, List.map_nil, List.length_cons, List.length_nil, Nat.reduceSub, Nat.reduceAdd, List.replicate_zero, List.replicate_succ, List.append_nil, List.cons_append, List.nil_append, List.getElem?_cons_zero, List.getElem?_cons_succ, List.set_cons_zero, List.set_cons_succ, Option.some.injEq, exists_eq_left', exists_eq_left, truOf_bl, Bool.not_true, Bool.not_false, if_true, if_false, Bool.false_eq_true, reduceIte, D.bl.injEq, D.int.injEq, D.str.injEq, D.tup.injEq, D.lst.injEq, D.ref.injEq, wipeD, List.cons.injEq, and_true, true_and, opAdd_int, opSub_int, opMul_int, opDiv_int, opMod_int, opPow_int, opLt_int, opLe_int, opGt_int, opGe_int, opAddI_int, opEq_int, opNe_int, opIsN_eq, opNotN_eq, isN_non, isN_int, isN_bl, isN_tup, isN_lst, isN_str, seqZ_lst, seqZ_tup, opIx_lst, opIx_tup, fLen_lst, fLen_tup, fSum_iD, fTuple_lst, fList_lst, fMin2_int, fMax2_int, exists_const, sup_sup, sup_get]
    exact ⟨p, _, rfl, sup_same, by rw [sdel_sup hp]; exact q⟩
theorem s_times : ∀ ds S Q E, sp_prod ds S Q E → r__law_times (endsOf Q E) (start2 N__law_times ds) S := by
  rintro _ S Q E ⟨n, f, g, rfl, hn, hf, hg, q⟩
  unfold r__law_times
  simp only [sSeq, sIf, sRet, sRetN, sSet, sExpr, sNext, sAug, sAugS, sAsg, sPar, sFldS, sFz, sRetZ, sRetZZ, sNever, sRaise, sWhile, sFor, sBreak, sCont, eVar, eC, eOp, eCB, lCB, eCBK, eTup, lDisp, lOp, lRep, eFr, eMu, eFld, eIf, eAnd, eOr, eNot, eNeg, unNeg, eChain, tBl, tTru, tAnd2, tOr2, tNot2, tYes2, aNil, aCons, eCall, eCallK, gN, gTup2, gsCons, gsNil, gSub2, iSeq, iRng, iRngB, iEnum2, iStr2, lLc, lLcR, eSl, lSl, oNo, oSome, eBM, lBM, eLenSet, eMeth, eMake, eMakeZ, endsOf, start2, List.map_cons, List.map_nil, List.length_cons, List.length_nil, Nat.reduceSub, Nat.reduceAdd, List.replicate_zero, List.replicate_succ, List.append_nil, List.cons_append, List.nil_append, List.getElem?_cons_zero, List.getElem?_cons_succ, List.set_cons_zero, List.set_cons_succ, Option.some.injEq, exists_eq_left', exists_eq_left, truOf_bl, Bool.not_true, Bool.not_false, if_true, if_false, Bool.false_eq_true, reduceIte, D.bl.injEq, D.int.injEq, D.str.injEq, D.tup.injEq, D.lst.injEq, D.ref.injEq, wipeD, List.cons.injEq, and_true, true_and, opAdd_int, opSub_int, opMul_int, opDiv_int, opMod_int, opPow_int, opLt_int, opLe_int, opGt_int, opGe_int, opAddI_int, opEq_int, opNe_int, opIsN_eq, opNotN_eq, isN_non, isN_int, isN_bl, isN_tup, isN_lst, isN_str, seqZ_lst, seqZ_tup, opIx_lst, opIx_tup, fLen_lst, fLen_tup, fSum_iD, fTuple_lst, fList_lst, fMin2_int, fMax2_int, exists_const, sup_sup, sup_get, iD_len, tab_len]
  refine ⟨by rw [sizeLine_eq]; omega, by omega, by omega, by rw [sizeLine_eq, Int.toNat_natCast]; omega, fun p hp => ?_⟩
  rw [rep_one, iD_rep, Int.toNat_natCast, stO_start f g]
  refine forGo_inv (fun i ρ S' => ∃ e3 e4 e5, ρ = [some (.lst (iD (tab n f))), some (.lst (iD (tab n g))), some (.ref p), e3, e4, e5] ∧ S' = sup S p (.lst (iD (tab n (stO f g i))))) ?_ ⟨none, none, none, rfl, rfl⟩ ?_
  · rintro i d ρ S' nx bk ct hd ⟨e3, e4, e5, rfl, rfl⟩ hnx _ _
    obtain ⟨d', hd', rfl⟩ := enumD_get _ _ _ _ hd
    have hi : i < n := by
      have := (List.getElem?_eq_some_iff.mp hd').1
      rw [iD_len, tab_len] at this; exact this
    rw [iD_get, tab_get hi] at hd'
    obtain rfl : d' = .int (f i) := (Option.some.inj hd').symm
    simp only [sSeq, sIf, sRet, sRetN, sSet, sExpr, sNext, sAug, sAugS, sAsg, sPar, sFldS, sFz, sRetZ, sRetZZ, sNever, sRaise, sWhile, sFor, sBreak, sCont, eVar, eC, eOp, eCB, lCB, eCBK, eTup, lDisp, lOp, lRep, eFr, eMu, eFld, eIf, eAnd, eOr, eNot, eNeg, unNeg, eChain, tBl, tTru, tAnd2, tOr2, tNot2, tYes2, aNil, aCons, eCall, eCallK, gN, gTup2, gsCons, gsNil, gSub2, iSeq, iRng, iRngB, iEnum2, iStr2, lLc, lLcR, eSl, lSl, oNo, oSome, eBM, lBM, eLenSet, eMeth, eMake, eMakeZ, endsOf, start2, List.map_cons, List.map_nil, List.length_cons, List.length_nil, Nat.reduceSub, Nat.reduceAdd, List.replicate_zero, List.replicate_succ, List.append_nil, List.cons_append, List.nil_append, List.getElem?_cons_zero, List.getElem?_cons_succ, List.set_cons_zero, List.set_cons_succ, Option.some.injEq, exists_eq_left', exists_eq_left, truOf_bl, Bool.not_true, Bool.not_false, if_true, if_false, Bool.false_eq_true, reduceIte, D.bl.injEq, D.int.injEq, D.str.injEq, D.tup.injEq, D.lst.injEq, D.ref.injEq, wipeD, List.cons.injEq, and_true, true_and, opAdd_int, opSub_int, opMul_int, opDiv_int, opMod_int, opPow_int, opLt_int, opLe_int, opGt_int, opGe_int, opAddI_int, opEq_int, opNe_int, opIsN_eq, opNotN_eq, isN_non, isN_int, isN_bl, isN_tup, isN_lst, isN_str, seqZ_lst, seqZ_tup, opIx_lst, opIx_tup, fLen_lst, fLen_tup, fSum_iD, fTuple_lst, fList_lst, fMin2_int, fMax2_int, exists_const, sup_sup, sup_get]
    refine ⟨_, _, ⟨rfl, rfl⟩, _, _, rfl, rfl, ?_⟩
    by_cases h0 : f i = 0
    · have : ¬ (0 : Int) < f i := by omega
      simp only [sSeq, sIf, sRet, sRetN, sSet, sExpr, sNext, sAug, sAugS, sAsg, sPar, sFldS, sFz, sRetZ, sRetZZ, sNever, sRaise, sWhile, sFor, sBreak, sCont, eVar, eC, eOp, eCB, lCB, eCBK, eTup, lDisp, lOp, lRep, eFr, eMu, eFld, eIf, eAnd, eOr, eNot, eNeg, unNeg, eChain, tBl, tTru, tAnd2, tOr2, tNot2, tYes2, aNil, aCons, eCall, eCallK, gN, gTup2, gsCons, gsNil, gSub2, iSeq, iRng, iRngB, iEnum2, iStr2, lLc, lLcR, eSl, lSl, oNo, oSome, eBM, lBM, eLenSet, eMeth, eMake, eMakeZ, endsOf, start2, List.map_cons, List.map_nil, List.length_cons, List.length_nil, Nat.reduceSub, Nat.reduceAdd, List.replicate_zero, List.replicate_succ, List.append_nil, List.cons_append, List.nil_append, List.getElem?_cons_zero, List.getElem?_cons_succ, List.set_cons_zero, List.set_cons_succ, Option.some.injEq, exists_eq_left', exists_eq_left, truOf_bl, Bool.not_true, Bool.not_false, if_true, if_false, Bool.false_eq_true, reduceIte, D.bl.injEq, D.int.injEq, D.str.injEq, D.tup.injEq, D.lst.injEq, D.ref.injEq, wipeD, List.cons.injEq, and_true, true_and, opAdd_int, opSub_int, opMul_int, opDiv_int, opMod_int, opPow_int, opLt_int, opLe_int, opGt_int, opGe_int, opAddI_int, opEq_int, opNe_int, opIsN_eq, opNotN_eq, isN_non, isN_int, isN_bl, isN_tup, isN_lst, isN_str, seqZ_lst, seqZ_tup, opIx_lst, opIx_tup, fLen_lst, fLen_tup, fSum_iD, fTuple_lst, fList_lst, fMin2_int, fMax2_int, exists_const, sup_sup, sup_get, this, decide_false]
      refine hnx _ _ ⟨_, _, _, rfl, ?_⟩
      rw [← stO_skip f g n i h0]
    · have : (0 : Int) < f i := by have := (hf i hi).1; omega
      simp only [sSeq, sIf, sRet, sRetN, sSet, sExpr, sNext, sAug, sAugS, sAsg, sPar, sFldS, sFz, sRetZ, sRetZZ, sNever, sRaise, sWhile, sFor, sBreak, sCont, eVar, eC, eOp, eCB, lCB, eCBK, eTup, lDisp, lOp, lRep, eFr, eMu, eFld, eIf, eAnd, eOr, eNot, eNeg, unNeg, eChain, tBl, tTru, tAnd2, tOr2, tNot2, tYes2, aNil, aCons, eCall, eCallK, gN, gTup2, gsCons, gsNil, gSub2, iSeq, iRng, iRngB, iEnum2, iStr2, lLc, lLcR, eSl, lSl, oNo, oSome, eBM, lBM, eLenSet, eMeth, eMake, eMakeZ, endsOf, start2, List.map_cons, List.map_nil, List.length_cons, List.length_nil, Nat.reduceSub, Nat.reduceAdd, List.replicate_zero, List.replicate_succ, List.append_nil, List.cons_append, List.nil_append, List.getElem?_cons_zero, List.getElem?_cons_succ, List.set_cons_zero, List.set_cons_succ, Option.some.injEq, exists_eq_left', exists_eq_left, truOf_bl, Bool.not_true, Bool.not_false, if_true, if_false, Bool.false_eq_true, reduceIte, D.bl.injEq, D.int.injEq, D.str.injEq, D.tup.injEq, D.lst.injEq, D.ref.injEq, wipeD, List.cons.injEq, and_true, true_and, opAdd_int, opSub_int, opMul_int, opDiv_int, opMod_int, opPow_int, opLt_int, opLe_int, opGt_int, opGe_int, opAddI_int, opEq_int, opNe_int, opIsN_eq, opNotN_eq, isN_non, isN_int, isN_bl, isN_tup, isN_lst, isN_str, seqZ_lst, seqZ_tup, opIx_lst, opIx_tup, fLen_lst, fLen_tup, fSum_iD, fTuple_lst, fList_lst, fMin2_int, fMax2_int, exists_const, sup_sup, sup_get, this, decide_true, iD_len, tab_len]
      refine ⟨by omega, by omega, ?_⟩
      refine forGo_inv (fun j ρ S' => ∃ e5, ρ = [some (.lst (iD (tab n f))), some (.lst (iD (tab n g))), some (.ref p), some (.int ((0 + i : Nat) : Int)), some (.int (f i)), e5] ∧ S' = sup S p (.lst (iD (tab n (stI f g i j))))) ?_ ⟨_, rfl, by rw [stI_zero]⟩ ?_
      · rintro j d ρ S' nx2 bk2 ct2 hd ⟨e5, rfl, rfl⟩ hnx2 _ _
        obtain ⟨hj, rfl⟩ := intsD_get hd
        have hj : i + j < n := by omega
        simp only [sSeq, sIf, sRet, sRetN, sSet, sExpr, sNext, sAug, sAugS, sAsg, sPar, sFldS, sFz, sRetZ, sRetZZ, sNever, sRaise, sWhile, sFor, sBreak, sCont, eVar, eC, eOp, eCB, lCB, eCBK, eTup, lDisp, lOp, lRep, eFr, eMu, eFld, eIf, eAnd, eOr, eNot, eNeg, unNeg, eChain, tBl, tTru, tAnd2, tOr2, tNot2, tYes2, aNil, aCons, eCall, eCallK, gN, gTup2, gsCons, gsNil, gSub2, iSeq, iRng, iRngB, iEnum2, iStr2, lLc, lLcR, eSl, lSl, oNo, oSome, eBM, lBM, eLenSet, eMeth, eMake, eMakeZ, endsOf, start2, List.map_cons, List.map_nil, List.length_cons, List.length_nil, Nat.reduceSub, Nat.reduceAdd, List.replicate_zero, List.replicate_succ, List.append_nil, List.cons_append, List.nil_append, List.getElem?_cons_zero, List.getElem?_cons_succ, List.set_cons_zero, List.set_cons_succ, Option.some.injEq, exists_eq_left', exists_eq_left, truOf_bl, Bool.not_true, Bool.not_false, if_true, if_false, Bool.false_eq_true, reduceIte, D.bl.injEq, D.int.injEq, D.str.injEq, D.tup.injEq, D.lst.injEq, D.ref.injEq, wipeD, List.cons.injEq, and_true, true_and, opAdd_int, opSub_int, opMul_int, opDiv_int, opMod_int, opPow_int, opLt_int, opLe_int, opGt_int, opGe_int, opAddI_int, opEq_int, opNe_int, opIsN_eq, opNotN_eq, isN_non, isN_int, isN_bl, isN_tup, isN_lst, isN_str, seqZ_lst, seqZ_tup, opIx_lst, opIx_tup, fLen_lst, fLen_tup, fSum_iD, fTuple_lst, fList_lst, fMin2_int, fMax2_int, exists_const, sup_sup, sup_get, opIx_sup]
        refine ⟨_, at_iD (j := i + j) (by omega) hj, ?_⟩
        refine ⟨_, at_iD (j := j) (by omega) (by omega), bnd_mul (hf i hi) (hg j (by omega)), ?_⟩
        refine ⟨p, _, _, i + j, rfl, rfl, sup_same, ?_, ?_⟩
        · rw [show ((0 + i : Nat) : Int) + (0 + (j : Int)) = ((i + j : Nat) : Int) by omega]
          exact ixN_nat (by rw [iD_len, tab_len]; exact hj)
        · rw [iD_set, stI_set f g n i j hj, sup_sup]
          exact hnx2 _ _ ⟨_, rfl, rfl⟩
      · rintro ρ S' ⟨e5, rfl, rfl⟩
        refine hnx _ _ ⟨_, _, _, rfl, ?_⟩
        have : (intsD 0 ((n : Int) - ((0 + i : Nat) : Int)).toNat).length = n - i := by rw [intsD_len]; omega
        rw [this, stI_end f g n i hi]
  · rintro ρ S' ⟨e3, e4, e5, rfl, rfl⟩
    rw [enumD_length, iD_len, tab_len, stO_end]
    simp only [sSeq, sIf, sRet, sRetN, sSet, sExpr, sNext, sAug, sAugS, sAsg, sPar, sFldS, sFz, sRetZ, sRetZZ, sNever, sRaise, sWhile, sFor, sBreak, sCont, eVar, eC, eOp, eCB, lCB, eCBK, eTup, lDisp, lOp, lRep, eFr, eMu, eFld, eIf, eAnd, eOr, eNot, eNeg, unNeg, eChain, tBl, tTru, tAnd2, tOr2, tNot2, tYes2, aNil, aCons, eCall, eCallK, gN, gTup2, gsCons, gsNil, gSub2, iSeq, iRng, iRngB, iEnum2, iStr2, lLc, lLcR, eSl, lSl, oNo, oSome, eBM, lBM, eLenSet, eMeth, eMake, eMakeZ, endsOf, start2, List.map_cons, List.map_nil, List.length_cons, List.length_nil, Nat.reduceSub, Nat.reduceAdd, List.replicate_zero, List.replicate_succ, List.append_nil, List.cons_append, List.nil_append, List.getElem?_cons_zero, List.getElem?_cons_succ, List.set_cons_zero, List.set_cons_succ, Option.some.injEq, exists_eq_left', exists_eq_left, truOf_bl, Bool.not_true, Bool.not_false, if_true, if_false, Bool.false_eq_true, reduceIte, D.bl.injEq, D.int.injEq, D.str.injEq, D.tup.injEq, D.lst.injEq, D.ref.injEq, wipeD, List.cons.injEq, and_true, true_and, opAdd_int, opSub_int, opMul_int, opDiv_int, opMod_int, opPow_int, opLt_int, opLe_int, opGt_int, opGe_int, opAddI_int, opEq_int, opNe_int, opIsN_eq, opNotN_eq, isN_non, isN_int, isN_bl, isN_tup, isN_lst, isN_str, seqZ_lst, seqZ_tup, opIx_lst, opIx_tup, fLen_lst, fLen_tup, fSum_iD, fTuple_lst, fList_lst, fMin2_int, fMax2_int, exists_const, sup_sup, sup_get]
    exact ⟨p, _, rfl, sup_same, by rw [sdel_sup hp]; exact q⟩
end L83
set_option linter.all false
set_option maxRecDepth 100000
set_option maxHeartbeats 4000000
namespace L83
open PySem PySem.Spec PyProof.Rows L2 Y M83
/-- rows that stand at p, each a list of its own or frozen -/
structure RInv (p : Addr) (S0 : Sto) (es : List D) (rows : List (List Int)) (S : Sto) : Prop where
  at_ : S p = some (.lst es)
  len : es.length = rows.length
  el : ∀ (i : Nat) (e : D) (r : List Int), es[i]? = some e → rows[i]? = some r → e = .lst (iD r) ∨ ∃ q, e = .ref q ∧ S q = some (.lst (iD r)) ∧ S0 q = none ∧ q ≠ p
  inj : ∀ (i j : Nat) (q : Addr), es[i]? = some (.ref q) → es[j]? = some (.ref q) → i = j
  new : S0 p = none
  rest : ∀ b, b ≠ p → (∀ i : Nat, es[i]? ≠ some (.ref b)) → S b = S0 b
def AllRef (es : List D) : Prop := ∀ (i : Nat) (e : D), es[i]? = some e → ∃ q, e = .ref q
theorem RInv.row {p : Addr} {S0 S : Sto} {es : List D} {rows : List (List Int)} (R : RInv p S0 es rows S) {i : Nat} {r : List Int} (h : rows[i]? = some r) : ∃ e, es[i]? = some e ∧ lstOf S e = some (iD r) := by
  have hi : i < es.length := by rw [R.len]; exact (List.getElem?_eq_some_iff.mp h).1
  refine ⟨es[i], List.getElem?_eq_getElem hi, ?_⟩
  rcases R.el i _ r (List.getElem?_eq_getElem hi) h with e | ⟨q, e, hq, _⟩
  · rw [e]; rfl
  · rw [e]; exact lstOf_ref hq
theorem RInv.rowD {p : Addr} {S0 S : Sto} {es : List D} {rows : List (List Int)} (R : RInv p S0 es rows S) {i : Int} {j : Nat} {r : List Int} (e : i = (j : Int)) (h : rows[j]? = some r) {K : QK} (k : ∀ d, lstOf S d = some (iD r) → K d S) : opIx (.ref p) (.int i) S K := by
  obtain ⟨d, hd, hl⟩ := R.row h
  rw [opIx_ref R.at_]
  subst e
  exact ⟨d, by rw [Y.atI_nat]; exact hd, k d hl⟩
theorem cellD {S : Sto} {d : D} {r : List Int} (hl : lstOf S d = some (iD r)) {i : Int} {j : Nat} {v : Int} (e : i = (j : Int)) (h : r[j]? = some v) {K : QK} (k : K (.int v) S) : opIx d (.int i) S K := by
  rw [opIx_i hl]
  subst e
  exact ⟨_, by rw [Y.atI_nat, iD_get, h]; rfl, k⟩
theorem RInv.set {p : Addr} {S0 S : Sto} {es : List D} {rows : List (List Int)} (R : RInv p S0 es rows S) {i : Nat} {r r' : List Int} {q : Addr} (h : es[i]? = some (.ref q)) (hr : rows[i]? = some r) : RInv p S0 es (rows.set i r') (sup S q (.lst (iD r'))) := by
  have hq : S q = some (.lst (iD r)) ∧ S0 q = none ∧ q ≠ p := by
    rcases R.el i _ r h hr with e | ⟨q', e, h1, h2, h3⟩
    · cases e
    · cases e; exact ⟨h1, h2, h3⟩
  refine ⟨by rw [sup_ne (Ne.symm hq.2.2)]; exact R.at_, by rw [List.length_set]; exact R.len, fun j e r2 he hr2 => ?_, R.inj, R.new, fun b hb hn => ?_⟩
  · by_cases ej : i = j
    · subst ej
      rw [h] at he; cases he
      have hi : i < rows.length := (List.getElem?_eq_some_iff.mp hr).1
      rw [List.getElem?_set_self hi] at hr2; cases hr2
      exact .inr ⟨q, rfl, sup_same, hq.2.1, hq.2.2⟩
    · rw [List.getElem?_set_ne ej] at hr2
      rcases R.el j e r2 he hr2 with e1 | ⟨q', e1, h1, h2, h3⟩
      · exact .inl e1
      · refine .inr ⟨q', e1, ?_, h2, h3⟩
        have : q' ≠ q := fun z => by subst z; subst e1; exact ej (R.inj i j _ h he)
        rw [sup_ne this]; exact h1
  · have : b ≠ q := fun z => by subst z; exact hn i h
    rw [sup_ne this]; exact R.rest b hb hn
/-- rows[i][j] = v -/
theorem RInv.put {p : Addr} {S0 S : Sto} {es : List D} {rows : List (List Int)} (R : RInv p S0 es rows S) (ar : AllRef es) {i t v : Int} {j s : Nat} {r : List Int} (e : i = (j : Int)) (e2 : t = (s : Int)) (h : rows[j]? = some r) (hs : s < r.length) {K : Sto → Prop}
    (k : ∀ S', RInv p S0 es (rows.set j (r.set s v)) S' → K S') : opIx (.ref p) (.int i) S fun o S1 => setL o (.int t) (.int v) S1 K := by
  have hi : j < es.length := by rw [R.len]; exact (List.getElem?_eq_some_iff.mp h).1
  obtain ⟨q, hq⟩ := ar j _ (List.getElem?_eq_getElem hi)
  have he : es[j]? = some (.ref q) := by rw [List.getElem?_eq_getElem hi, hq]
  have hS : S q = some (.lst (iD r)) := by
    rcases R.el j _ r he h with e | ⟨q', e, h1, h2, h3⟩
    · cases e
    · cases e; exact h1
  rw [opIx_ref R.at_]
  subst e; subst e2
  refine ⟨_, by rw [Y.atI_nat]; exact he, q, _, _, s, rfl, rfl, hS, ixN_nat (by rw [iD_len]; exact hs), ?_⟩
  rw [iD_set]
  exact k _ (R.set he h)
theorem fz_rows {S0 : Sto} {Q : List D → Sto → Prop} : ∀ (es : List D) (rows : List (List Int)) (S : Sto) (acc : List D), es.length = rows.length →
    (∀ (i : Nat) (e : D) (r : List Int), es[i]? = some e → rows[i]? = some r → e = .lst (iD r) ∨ ∃ q, e = .ref q ∧ S q = some (.lst (iD r)) ∧ S0 q = none) → (∀ (i j : Nat) (q : Addr), es[i]? = some (.ref q) → es[j]? = some (.ref q) → i = j) →
    (∀ b, (∀ i : Nat, es[i]? ≠ some (.ref b)) → S b = S0 b) → Q (acc ++ rows.map fun r => .lst (iD r)) S0 → fzAll es S fun ys S' => Q (acc ++ ys) S'
  | [], [], S, acc, _, _, _, rest, q => by
    have : S = S0 := funext fun b => rest b (by simp)
    subst this; simpa [fzAll] using q
  | [], _ :: _, _, _, h, _, _, _, _ => by simp at h
  | _ :: _, [], _, _, h, _, _, _, _ => by simp at h
  | e :: es, r :: rows, S, acc, h, el, inj, rest, q => by
    have inj' : ∀ (i j : Nat) (q : Addr), es[i]? = some (.ref q) → es[j]? = some (.ref q) → i = j := fun i j q h1 h2 => by
      have := inj (i + 1) (j + 1) q (by simpa using h1) (by simpa using h2); omega
    have key : ∀ (S' : Sto) (K : List D → Sto → Prop), (∀ (i : Nat) (e : D) (r : List Int), es[i]? = some e → rows[i]? = some r → e = .lst (iD r) ∨ ∃ q, e = .ref q ∧ S' q = some (.lst (iD r)) ∧ S0 q = none) → (∀ b, (∀ i : Nat, es[i]? ≠ some (.ref b)) → S' b = S0 b) → fzAll es S' fun ys S2 => Q ((acc ++ [.lst (iD r)]) ++ ys) S2 := fun S' _ el' rest' =>
      fz_rows es rows S' (acc ++ [.lst (iD r)]) (by simpa using h) el' inj' rest' (by simpa using q)
    rcases el 0 e r rfl rfl with rfl | ⟨p, rfl, hp, hp0⟩
    · refine .inl ⟨_, rfl, ?_⟩
      have := key S (fun _ _ => True) (fun i e r h1 h2 => el (i + 1) e r (by simpa using h1) (by simpa using h2)) fun b hb => rest b fun i => by
        cases i with
        | zero => simp
        | succ i => simpa using hb i
      simpa using this
    · refine .inr ⟨p, _, rfl, hp, ?_⟩
      have := key (sdel S p) (fun _ _ => True) (fun i e r h1 h2 => by
        rcases el (i + 1) e r (by simpa using h1) (by simpa using h2) with e1 | ⟨q, e1, h3, h4⟩
        · exact .inl e1
        · refine .inr ⟨q, e1, ?_, h4⟩
          have : q ≠ p := fun z => by
            subst z; subst e1
            have := inj 0 (i + 1) q rfl (by simpa using h1); omega
          unfold sdel; rw [if_neg this]; exact h3) fun b hb => by
        unfold sdel
        split
        · rename_i z; subst z; exact hp0.symm
        · rename_i z
          exact rest b fun i => by
            cases i with
            | zero => simpa using fun w => z w.symm
            | succ i => simpa using hb i
      simpa using this
theorem RInv.out {p : Addr} {S0 S : Sto} {es : List D} {rows : List (List Int)} (R : RInv p S0 es rows S) {Q : List D → Sto → Prop} (q : Q (rows.map fun r => .lst (iD r)) S0) : fzAll es (sdel S p) fun ys S2 => Q ys S2 := by
  have := fz_rows (S0 := S0) (Q := Q) es rows (sdel S p) [] R.len (fun i e r h1 h2 => by
    rcases R.el i e r h1 h2 with e1 | ⟨q, e1, h3, h4, h5⟩
    · exact .inl e1
    · exact .inr ⟨q, e1, by unfold sdel; rw [if_neg h5]; exact h3, h4⟩) R.inj (fun b hb => by
      unfold sdel
      split
      · rename_i z; subst z; exact R.new.symm
      · rename_i z; exact R.rest b z hb) (by simpa using q)
  simpa using this
/-- .. while they are made -/
structure RPre (S0 : Sto) (es : List D) (rows : List (List Int)) (S : Sto) : Prop where
  len : es.length = rows.length
  el : ∀ (i : Nat) (e : D) (r : List Int), es[i]? = some e → rows[i]? = some r → ∃ q, e = .ref q ∧ S q = some (.lst (iD r)) ∧ S0 q = none
  inj : ∀ (i j : Nat) (q : Addr), es[i]? = some (.ref q) → es[j]? = some (.ref q) → i = j
  rest : ∀ b, (∀ i : Nat, es[i]? ≠ some (.ref b)) → S b = S0 b
theorem RPre.nil {S : Sto} : RPre S [] [] S := ⟨rfl, fun i e r h => by simp at h, fun i j q h => by simp at h, fun b _ => rfl⟩
theorem RPre.no {S0 S : Sto} {es : List D} {rows : List (List Int)} (R : RPre S0 es rows S) {p : Addr} (hp : S p = none) : ∀ i : Nat, es[i]? ≠ some (.ref p) := fun i h => by
  have hi : i < rows.length := by rw [← R.len]; exact (List.getElem?_eq_some_iff.mp h).1
  obtain ⟨q, e, hq, _⟩ := R.el i _ _ h (List.getElem?_eq_getElem hi)
  cases e; rw [hq] at hp; cases hp
theorem RPre.add {S0 S : Sto} {es : List D} {rows : List (List Int)} (R : RPre S0 es rows S) {p : Addr} (hp : S p = none) (r : List Int) : RPre S0 (es ++ [.ref p]) (rows ++ [r]) (sup S p (.lst (iD r))) := by
  have no := R.no hp
  have p0 : S0 p = none := by rw [← R.rest p no]; exact hp
  have cases' : ∀ (i : Nat) (e : D), (es ++ [D.ref p])[i]? = some e → (i < es.length ∧ es[i]? = some e) ∨ (i = es.length ∧ e = .ref p) := fun i e h => by
    by_cases hi : i < es.length
    · rw [List.getElem?_append_left hi] at h; exact .inl ⟨hi, h⟩
    · rw [List.getElem?_append_right (by omega)] at h
      cases hk : i - es.length with
      | zero => rw [hk] at h; simp at h; exact .inr ⟨by omega, h.symm⟩
      | succ k => rw [hk] at h; simp at h
  refine ⟨by simp [R.len], fun i e r2 h1 h2 => ?_, fun i j q h1 h2 => ?_, fun b hn => ?_⟩
  · rcases cases' i e h1 with ⟨hi, h⟩ | ⟨rfl, rfl⟩
    · rw [List.getElem?_append_left (by rw [← R.len]; exact hi)] at h2
      obtain ⟨q, rfl, hq, h0⟩ := R.el i e r2 h h2
      have : q ≠ p := fun z => by subst z; exact no i h
      exact ⟨q, rfl, by rw [sup_ne this]; exact hq, h0⟩
    · rw [R.len, List.getElem?_append_right (Nat.le_refl _), Nat.sub_self] at h2
      simp at h2; subst h2
      exact ⟨p, rfl, sup_same, p0⟩
  · rcases cases' i _ h1 with ⟨hi, k1⟩ | ⟨rfl, k1⟩ <;> rcases cases' j _ h2 with ⟨hj, k2⟩ | ⟨rfl, k2⟩
    · exact R.inj i j q k1 k2
    · cases k2; exact absurd k1 (no i)
    · cases k1; exact absurd k2 (no j)
    · rfl
  · have : b ≠ p := fun z => by subst z; exact hn es.length (by simp)
    rw [sup_ne this]
    refine R.rest b fun i h => hn i ?_
    rw [List.getElem?_append_left (List.getElem?_eq_some_iff.mp h).1]; exact h
theorem RPre.close {S0 S : Sto} {es : List D} {rows : List (List Int)} (R : RPre S0 es rows S) {p : Addr} (hp : S p = none) : RInv p S0 es rows (sup S p (.lst es)) ∧ AllRef es := by
  have no := R.no hp
  refine ⟨⟨sup_same, R.len, fun i e r h1 h2 => ?_, R.inj, by rw [← R.rest p no]; exact hp, fun b hb hn => by rw [sup_ne hb]; exact R.rest b hn⟩, fun i e h => ?_⟩
  · obtain ⟨q, rfl, hq, h0⟩ := R.el i e r h1 h2
    have : q ≠ p := fun z => by subst z; exact no i h1
    exact .inr ⟨q, rfl, by rw [sup_ne this]; exact hq, h0, this⟩
  · have hi : i < rows.length := by rw [← R.len]; exact (List.getElem?_eq_some_iff.mp h).1
    obtain ⟨q, rfl, _⟩ := R.el i e _ h (List.getElem?_eq_getElem hi)
    exact ⟨q, rfl⟩
/-! the rows as they are filled -/
def rowF (ns : List Int) (t m : Nat) : Nat → Int := fun s => if m = 0 then one0 s else if s < t then P ns m s else 0
def rowsS (ns : List Int) (n w t k : Nat) : List (List Int) := (List.range w).map fun m => tab n (rowF ns (if m < k then t + 1 else t) m)
theorem rowsS_get {ns : List Int} {n w t k m : Nat} (h : m < w) : (rowsS ns n w t k)[m]? = some (tab n (rowF ns (if m < k then t + 1 else t) m)) := by simp [rowsS, h]
theorem rowsS_len {ns : List Int} {n w t k : Nat} : (rowsS ns n w t k).length = w := by simp [rowsS]
theorem rowsS_next {ns : List Int} {n w t : Nat} : rowsS ns n w t w = rowsS ns n w (t + 1) 1 := by
  unfold rowsS
  refine List.map_congr_left fun m hm => ?_
  have hm : m < w := by simpa using hm
  rw [if_pos hm]
  by_cases h : m < 1
  · rw [if_pos h]; refine tab_congr fun s _ => ?_
    unfold rowF; rw [if_pos (by omega), if_pos (by omega)]
  · rw [if_neg h]
theorem rowsS_set {ns : List Int} {n w t k : Nat} (hk : 1 ≤ k) (hw : k < w) : (rowsS ns n w t k).set k ((tab n (rowF ns t k)).set t (P ns k t)) = rowsS ns n w t (k + 1) := by
  apply List.ext_getElem?
  intro j
  by_cases hj : j < w
  · rw [List.getElem?_set]
    by_cases e : k = j
    · subst e
      rw [if_pos rfl, if_pos (by rw [rowsS_len]; exact hw), rowsS_get hj, if_pos (by omega), tab_set]
      congr 1
      refine tab_congr fun s _ => ?_
      have k0 : ¬ k = 0 := by omega
      by_cases h : s = t
      · subst h; simp [rowF, k0]
      · by_cases h2 : s < t
        · have h3 : s < t + 1 := by omega
          simp [rowF, k0, h, h2, h3]
        · have h3 : ¬ s < t + 1 := by omega
          simp [rowF, k0, h, h2, h3]
    · rw [if_neg e, rowsS_get hj, rowsS_get hj]
      by_cases h : j < k
      · rw [if_pos h, if_pos (by omega)]
      · rw [if_neg h, if_neg (by omega)]
  · rw [List.getElem?_eq_none (by rw [List.length_set, rowsS_len]; omega), List.getElem?_eq_none (by rw [rowsS_len]; omega)]
def rowsP (ns : List Int) (n w : Nat) : List (List Int) := (List.range w).map fun m => tab n (P ns m)
theorem rowsS_done {ns : List Int} {n w : Nat} : rowsS ns n w n 1 = rowsP ns n w := by
  unfold rowsS rowsP
  refine List.map_congr_left fun m _ => tab_congr fun s hs => ?_
  unfold rowF
  by_cases h : m = 0
  · subst h; rw [if_pos rfl]; rfl
  · have h1 : ¬ m < 1 := by omega
    simp [h1, h, hs]
/-- the fill of a new table -/
def zeroRows (n w : Nat) : List (List Int) := tab n one0 :: List.replicate w (tab n fun _ => 0)
theorem zeroRows_eq {ns : List Int} {n w : Nat} : zeroRows n w = rowsS ns n (w + 1) 1 1 := by
  apply List.ext_getElem?
  intro j
  by_cases hj : j < w + 1
  · rw [rowsS_get hj]
    unfold zeroRows
    cases j with
    | zero => rw [List.getElem?_cons_zero]; congr 1
    | succ j =>
      rw [List.getElem?_cons_succ, List.getElem?_replicate, if_pos (by omega)]
      congr 1
      refine tab_congr fun s _ => ?_
      have h1 : ¬ j + 1 < 1 := by omega
      by_cases h : s < 1
      · obtain rfl : s = 0 := by omega
        simp [rowF, h1, P_low ns (j + 1) 0 (by omega)]
      · simp [rowF, h1, h]
  · rw [List.getElem?_eq_none (by simp [zeroRows]; omega), List.getElem?_eq_none (by rw [rowsS_len]; omega)]
def sp_tree (C : Addr) : Sp2 := fun ds S Q E => ∃ ms most wide, ds = [kindD C ms, .int most, .int wide] ∧ mksOk ms ∧ 0 ≤ most ∧ most ≤ 60 ∧ 0 ≤ wide ∧ wide ≤ 200 ∧
  ∀ w : Nat, 2 ≤ w → (most < (w : Int) ∨ wide < (w : Int)) → Q (.lst ((rowsP (ms.map (·.2)) (most.toNat + 1) w).map fun r => .lst (iD r))) S
theorem sumTo_shift (f : Nat → Int) : ∀ n, sumTo (n + 1) f = f 0 + sumTo n fun k => f (k + 1)
  | 0 => by simp [M83.sumTo]
  | n + 1 => by
    show sumTo (n + 1) f + f (n + 1) = f 0 + (sumTo n (fun k => f (k + 1)) + f (n + 1))
    rw [sumTo_shift f n]; omega
theorem P_conv (ns : List Int) (m t : Nat) : P ns (m + 1) t = (tab t fun k => P ns 1 (k + 1) * P ns m (t - (k + 1))).sum := by
  rw [tab_sum, P_succ]
  show sumTo (t + 1) _ = _
  rw [sumTo_shift, T_zero, Int.zero_mul, Int.zero_add]
  exact sumTo_congr fun k _ => by rw [P_one]
theorem P_bnd {ns : List Int} (h : ns.length ≤ 5) {m t : Nat} (ht : t ≤ 60) : bnd (P ns m t) := ⟨P_nn ns m t, P_le ns h m ht⟩
theorem intsD_tab {i : Int} {n : Nat} {f : D → D} {g : Nat → Int} (h : ∀ k, k < n → f (.int (i + (k : Int))) = .int (g k)) : (intsD i n).map f = iD (tab n g) := by
  unfold intsD iD tab
  rw [List.map_map, List.map_map]
  exact List.map_congr_left fun k hk => h k (by simpa using hk)
theorem rowF_one {ns : List Int} {t : Nat} : rowF ns t 1 = fun s => if s < t then P ns 1 s else 0 := by funext s; unfold rowF; rw [if_neg (by decide)]
/-- the cell (m, s) of rows filled so far -/
theorem RInv.cell {ns : List Int} {n w t k : Nat} {p : Addr} {S0 S : Sto} {es : List D} (R : RInv p S0 es (rowsS ns n w t k) S) {i j : Int} {m s : Nat} (e1 : i = (m : Int)) (e2 : j = (s : Int)) (hm : m < w) (hs : s < n) (hf : m = 0 ∨ s < t ∨ (m < k ∧ s = t)) {K : QK} (q : K (.int (P ns m s)) S) :
    opIx (.ref p) (.int i) S fun d S1 => opIx d (.int j) S1 K := by
  refine R.rowD e1 (rowsS_get hm) fun d hd => cellD hd e2 (tab_get hs) ?_
  have : rowF ns (if m < k then t + 1 else t) m s = P ns m s := by
    unfold rowF
    rcases hf with h | h | ⟨h1, h2⟩
    · subst h; rw [if_pos rfl]; rfl
    · by_cases h0 : m = 0
      · subst h0; rw [if_pos rfl]; rfl
      · have h2 : s < t + 1 := by omega
        by_cases hk : m < k <;> simp [h0, h, h2, hk]
    · by_cases h0 : m = 0
      · subst h0; rw [if_pos rfl]; rfl
      · rw [if_neg h0, if_pos h1, if_pos (by omega)]
  rw [this]; exact q
theorem RInv.fill {ns : List Int} {n w t k : Nat} {p : Addr} {S0 S : Sto} {es : List D} (R : RInv p S0 es (rowsS ns n w t k) S) (ar : AllRef es) {i j v : Int} (e1 : i = (k : Int)) (e2 : j = (t : Int)) (ev : v = P ns k t) (h1 : 1 ≤ k) (hw : k < w) (ht : t < n) {K : Sto → Prop}
    (q : ∀ S', RInv p S0 es (rowsS ns n w t (k + 1)) S' → K S') : opIx (.ref p) (.int i) S fun o S1 => setL o (.int j) (.int v) S1 K := by
  refine R.put ar e1 e2 (rowsS_get hw) (by rw [tab_len]; exact ht) fun S' R' => q S' ?_
  rw [if_neg (by omega), ev, rowsS_set h1 hw] at R'
  exact R'
theorem row_one (n : Nat) : [D.int 1] ++ iD (List.replicate n 0) = iD (tab (n + 1) one0) := by rw [← one_tab]; rfl
theorem rowD_last {p : Addr} {S : Sto} {rws : List D} {r : D} (h : S p = some (.lst rws)) (e : rws[rws.length - 1]? = some r) {K : QK} (k : K r S) : opIx (.ref p) (.int (-1)) S K := by
  have hl : rws.length - 1 < rws.length := (List.getElem?_eq_some_iff.mp e).1
  rw [opIx_ref h]
  refine ⟨r, ?_, k⟩
  unfold L2.atI L2.ixN
  rw [if_neg (by omega), if_pos (by omega)]
  show rws[((-1 : Int) + rws.length).toNat]? = _
  rw [show ((-1 : Int) + rws.length).toNat = rws.length - 1 by omega]
  exact e
theorem nums_max {ms : List (Str × Int)} (h : mksOk ms) : ∃ n ns, ms.map (·.2) = n :: ns ∧ 2 ≤ ns.foldl max n ∧ ns.foldl max n ≤ 4 ∧ ∀ x ∈ ms.map (·.2), 0 ≤ x ∧ x ≤ ns.foldl max n := by
  obtain ⟨h1, h2, h3, h4, h5, h6⟩ := h
  have ge : ∀ (ns : List Int) (n : Int), n ≤ ns.foldl max n ∧ ∀ x ∈ ns, x ≤ ns.foldl max n := fun ns => by
    induction ns with
    | nil => intro n; simp
    | cons a ns ih =>
      intro n
      simp only [List.foldl_cons]
      have := ih (max n a)
      refine ⟨by omega, fun x hx => ?_⟩
      rcases List.mem_cons.mp hx with rfl | hx
      · omega
      · exact this.2 x hx
  have le : ∀ (ns : List Int) (n k : Int), n ≤ k → (∀ x ∈ ns, x ≤ k) → ns.foldl max n ≤ k := fun ns => by
    induction ns with
    | nil => intro n k h _; simpa using h
    | cons a ns ih =>
      intro n k h hx
      simp only [List.foldl_cons]
      exact ih _ k (by have := hx a List.mem_cons_self; omega) fun x hx' => hx x (List.mem_cons_of_mem _ hx')
  have hx : ∀ x ∈ ms.map (·.2), 0 ≤ x ∧ x ≤ 4 := fun x hx => by
    obtain ⟨p, hp, rfl⟩ := List.mem_map.mp hx
    exact (h3 p hp).2
  cases hms : ms.map (·.2) with
  | nil => rw [hms] at h5; simp at h5
  | cons n ns =>
    rw [hms] at hx
    refine ⟨n, ns, rfl, ?_, le ns n 4 (hx n List.mem_cons_self).2 fun x h => (hx x (List.mem_cons_of_mem _ h)).2, fun x h => ⟨(hx x h).1, ?_⟩⟩
    · obtain ⟨p, hp, h⟩ := h6
      have : p.2 ∈ n :: ns := by rw [← hms]; exact List.mem_map_of_mem hp
      have := foldl_max_lt ns n 1 (by rcases List.mem_cons.mp this with e | e; exact .inl (e ▸ h); exact .inr ⟨_, e, h⟩)
      omega
    · rcases List.mem_cons.mp h with rfl | h
      · exact (ge ns _).1
      · exact (ge ns n).2 x h
def frz (ns : List Int) (n w : Nat) : List D := (rowsP ns n w).map fun r => .lst (iD r)
theorem fz_frz {S : Sto} : ∀ (rows : List (List Int)) {Q : List D → Sto → Prop}, Q (rows.map fun r => .lst (iD r)) S → fzAll (rows.map fun r => .lst (iD r)) S Q
  | [], _, q => q
  | r :: rows, Q, q => .inl ⟨_, rfl, fz_frz rows (Q := fun ys S' => Q (.lst (iD r) :: ys) S') q⟩
theorem frz_len {ns : List Int} {n w : Nat} : (frz ns n w).length = w := by simp [frz, rowsP]
theorem frz_get {ns : List Int} {n w m : Nat} (h : m < w) : (frz ns n w)[m]? = some (.lst (iD (tab n (P ns m)))) := by simp [frz, rowsP, h]
theorem frz_next {ns : List Int} {n w : Nat} : frz ns n w ++ [.lst (iD (tab n (P ns w)))] = frz ns n (w + 1) := by simp [frz, rowsP, List.range_succ]
theorem cv_next {ns : List Int} {n w : Nat} : tab n (cv (P ns 1) (P ns w)) = tab n (P ns (w + 1)) := tab_congr fun t _ => by
  rw [P_succ]; exact cv_loc (fun s _ => P_one ns s) fun _ _ => rfl
theorem s_tree (C : Addr) : ∀ ds S Q E, sp_tree C ds S Q E → r_tree_rows C sp_prod (sp_makers C) (endsOf Q E) (start2 N_tree_rows ds) S := by
  rintro _ S Q E ⟨ms, most, wide, rfl, hm, m0, m1, w0, w1, q⟩
  obtain ⟨n0, ns0, hns, x2, x4, hx⟩ := nums_max hm
  have hlen : (ms.map (·.2)).length ≤ 5 := by simpa using hm.2.1
  unfold r_tree_rows
  simp only [sSeq, sIf, sRet, sRetN, sSet, sExpr, sNext, sAug, sAugS, sAsg, sPar, sFldS, sFz, sRetZ, sRetZZ, sNever, sRaise, sWhile, sFor, sBreak, sCont, eVar, eC, eOp, eCB, lCB, eCBK, eTup, lDisp, lOp, lRep, eFr, eMu, eFld, eIf, eAnd, eOr, eNot, eNeg, unNeg, eChain, tBl, tTru, tAnd2, tOr2, tNot2, tYes2, aNil, aCons, eCall, eCallK, gN, gTup2, gsCons, gsNil, gSub2, iSeq, iRng, iRngB, iEnum2, iStr2, lLc, lLcR, eSl, lSl, oNo, oSome, eBM, lBM, eLenSet, eMeth, eMake, eMakeZ, endsOf, start2, List.map_cons, List.map_nil, List.length_cons, List.length_nil, Nat.reduceSub, Nat.reduceAdd, List.replicate_zero, List.replicate_succ, List.append_nil, List.cons_append, List.nil_append, List.getElem?_cons_zero, List.getElem?_cons_succ, List.set_cons_zero, List.set_cons_succ, Option.some.injEq, exists_eq_left', exists_eq_left, truOf_bl, Bool.not_true, Bool.not_false, if_true, if_false, Bool.false_eq_true, reduceIte, D.bl.injEq, D.int.injEq, D.str.injEq, D.tup.injEq, D.lst.injEq, D.ref.injEq, wipeD, List.cons.injEq, and_true, true_and, opAdd_int, opSub_int, opMul_int, opDiv_int, opMod_int, opPow_int, opLt_int, opLe_int, opGt_int, opGe_int, opAddI_int, opEq_int, opNe_int, opIsN_eq, opNotN_eq, isN_non, isN_int, isN_bl, isN_tup, isN_lst, isN_str, seqZ_lst, seqZ_tup, opIx_lst, opIx_tup, fLen_lst, fLen_tup, fSum_iD, fTuple_lst, fList_lst, fMin2_int, fMax2_int, exists_const, sup_sup, sup_get]
  refine ⟨⟨rfl, by simp; decide +kernel⟩, ms, rfl, mkD ms, rfl, ?_⟩
  refine lcGo_map dNum (fun d hd K k => ?_) (by rw [mkD_len]; exact small8 (by have := hm.2.1; omega)) ?_
  · simp only [mkD, List.mem_map] at hd
    obtain ⟨p, hp, rfl⟩ := hd
    simp only [sSeq, sIf, sRet, sRetN, sSet, sExpr, sNext, sAug, sAugS, sAsg, sPar, sFldS, sFz, sRetZ, sRetZZ, sNever, sRaise, sWhile, sFor, sBreak, sCont, eVar, eC, eOp, eCB, lCB, eCBK, eTup, lDisp, lOp, lRep, eFr, eMu, eFld, eIf, eAnd, eOr, eNot, eNeg, unNeg, eChain, tBl, tTru, tAnd2, tOr2, tNot2, tYes2, aNil, aCons, eCall, eCallK, gN, gTup2, gsCons, gsNil, gSub2, iSeq, iRng, iRngB, iEnum2, iStr2, lLc, lLcR, eSl, lSl, oNo, oSome, eBM, lBM, eLenSet, eMeth, eMake, eMakeZ, endsOf, start2, List.map_cons, List.map_nil, List.length_cons, List.length_nil, Nat.reduceSub, Nat.reduceAdd, List.replicate_zero, List.replicate_succ, List.append_nil, List.cons_append, List.nil_append, List.getElem?_cons_zero, List.getElem?_cons_succ, List.set_cons_zero, List.set_cons_succ, Option.some.injEq, exists_eq_left', exists_eq_left, truOf_bl, Bool.not_true, Bool.not_false, if_true, if_false, Bool.false_eq_true, reduceIte, D.bl.injEq, D.int.injEq, D.str.injEq, D.tup.injEq, D.lst.injEq, D.ref.injEq, wipeD, List.cons.injEq, and_true, true_and, opAdd_int, opSub_int, opMul_int, opDiv_int, opMod_int, opPow_int, opLt_int, opLe_int, opGt_int, opGe_int, opAddI_int, opEq_int, opNe_int, opIsN_eq, opNotN_eq, isN_non, isN_int, isN_bl, isN_tup, isN_lst, isN_str, seqZ_lst, seqZ_tup, opIx_lst, opIx_tup, fLen_lst, fLen_tup, fSum_iD, fTuple_lst, fList_lst, fMin2_int, fMax2_int, exists_const, sup_sup, sup_get]
    exact ⟨_, _, ⟨rfl, rfl⟩, _, _, rfl, rfl, k⟩
  rw [nums_iD]
  generalize hN : ms.map (·.2) = ns at hns hx hlen q ⊢
  refine ⟨by rw [sizeLine_eq]; omega, by rw [sizeLine_eq]; omega, by omega, by omega, by rw [sizeLine_eq]; omega, ?_⟩
  refine ⟨_, _, rfl, rfl, by rw [rep_one]; simp; rw [sizeLine_eq]; omega, fun p0 hp0 => ?_⟩
  rw [rep_one, iD_rep, row_one]
  refine ⟨by rw [sizeLine_eq]; omega, .lst (iD ns), iD ns, n0, ns0, rfl, rfl, by rw [intsOf_iD, hns], ?_⟩
  refine ⟨_, rfl, by omega, by omega, ?_⟩
  generalize ns0.foldl max n0 = mx at x2 x4 hx ⊢
  have R0 := (RPre.nil (S := S)).add hp0 (tab (most.toNat + 1) one0)
  refine lcGo_inv (fun i acc S' => RPre S (.ref p0 :: acc) (tab (most.toNat + 1) one0 :: List.replicate i (tab (most.toNat + 1) fun _ => 0)) S') ?_ R0 ?_ (by rw [intsD_len, sizeLine_eq]; omega)
  · rintro i d acc S' K hd R hl k
    simp only [sSeq, sIf, sRet, sRetN, sSet, sExpr, sNext, sAug, sAugS, sAsg, sPar, sFldS, sFz, sRetZ, sRetZZ, sNever, sRaise, sWhile, sFor, sBreak, sCont, eVar, eC, eOp, eCB, lCB, eCBK, eTup, lDisp, lOp, lRep, eFr, eMu, eFld, eIf, eAnd, eOr, eNot, eNeg, unNeg, eChain, tBl, tTru, tAnd2, tOr2, tNot2, tYes2, aNil, aCons, eCall, eCallK, gN, gTup2, gsCons, gsNil, gSub2, iSeq, iRng, iRngB, iEnum2, iStr2, lLc, lLcR, eSl, lSl, oNo, oSome, eBM, lBM, eLenSet, eMeth, eMake, eMakeZ, endsOf, start2, List.map_cons, List.map_nil, List.length_cons, List.length_nil, Nat.reduceSub, Nat.reduceAdd, List.replicate_zero, List.replicate_succ, List.append_nil, List.cons_append, List.nil_append, List.getElem?_cons_zero, List.getElem?_cons_succ, List.set_cons_zero, List.set_cons_succ, Option.some.injEq, exists_eq_left', exists_eq_left, truOf_bl, Bool.not_true, Bool.not_false, if_true, if_false, Bool.false_eq_true, reduceIte, D.bl.injEq, D.int.injEq, D.str.injEq, D.tup.injEq, D.lst.injEq, D.ref.injEq, wipeD, List.cons.injEq, and_true, true_and, opAdd_int, opSub_int, opMul_int, opDiv_int, opMod_int, opPow_int, opLt_int, opLe_int, opGt_int, opGe_int, opAddI_int, opEq_int, opNe_int, opIsN_eq, opNotN_eq, isN_non, isN_int, isN_bl, isN_tup, isN_lst, isN_str, seqZ_lst, seqZ_tup, opIx_lst, opIx_tup, fLen_lst, fLen_tup, fSum_iD, fTuple_lst, fList_lst, fMin2_int, fMax2_int, exists_const, sup_sup, sup_get]
    refine ⟨by rw [sizeLine_eq]; omega, by omega, by omega, by rw [sizeLine_eq]; omega, fun p hp => ?_⟩
    refine k _ _ ?_
    have := R.add hp (tab (most.toNat + 1) fun _ => 0)
    rw [rep_one, iD_rep, rep_tab, show (most + 1).toNat = most.toNat + 1 by omega]
    simpa [List.replicate_succ'] using this
  rintro acc S1 R1 hl
  rw [intsD_len] at R1
  refine ⟨_, _, rfl, rfl, by rw [intsD_len] at hl; simp [hl]; rw [sizeLine_eq]; omega, fun p hp => ?_⟩
  obtain ⟨R2, ar⟩ := R1.close hp
  have hp00 : S p = none := R2.new
  simp only [List.singleton_append]
  generalize (D.ref p0 :: acc) = es at R2 ar ⊢
  have ez := zeroRows_eq (ns := ns) (n := most.toNat + 1) (w := mx.toNat)
  unfold zeroRows at ez
  rw [ez] at R2
  generalize hw : mx.toNat + 1 = w at R2
  refine ⟨1, most + 1, ⟨rfl, rfl⟩, by omega, ?_⟩
  refine forGo_inv (fun i ρ S' => ∃ e5 e6 e7, ρ = [some (kindD C ms), some (.int most), some (.int wide), some (.lst (iD ns)), some (.ref p), e5, e6, e7, none, none] ∧ RInv p S es (rowsS ns (most.toNat + 1) w (i + 1) 1) S') ?_ ⟨none, none, none, rfl, R2⟩ ?_
  · rintro i d ρ S' nx bk ct hd ⟨e5, e6, e7, rfl, R⟩ hnx _ _
    obtain ⟨hi, rfl⟩ := intsD_get hd
    simp only [sSeq, sIf, sRet, sRetN, sSet, sExpr, sNext, sAug, sAugS, sAsg, sPar, sFldS, sFz, sRetZ, sRetZZ, sNever, sRaise, sWhile, sFor, sBreak, sCont, eVar, eC, eOp, eCB, lCB, eCBK, eTup, lDisp, lOp, lRep, eFr, eMu, eFld, eIf, eAnd, eOr, eNot, eNeg, unNeg, eChain, tBl, tTru, tAnd2, tOr2, tNot2, tYes2, aNil, aCons, eCall, eCallK, gN, gTup2, gsCons, gsNil, gSub2, iSeq, iRng, iRngB, iEnum2, iStr2, lLc, lLcR, eSl, lSl, oNo, oSome, eBM, lBM, eLenSet, eMeth, eMake, eMakeZ, endsOf, start2, List.map_cons, List.map_nil, List.length_cons, List.length_nil, Nat.reduceSub, Nat.reduceAdd, List.replicate_zero, List.replicate_succ, List.append_nil, List.cons_append, List.nil_append, List.getElem?_cons_zero, List.getElem?_cons_succ, List.set_cons_zero, List.set_cons_succ, Option.some.injEq, exists_eq_left', exists_eq_left, truOf_bl, Bool.not_true, Bool.not_false, if_true, if_false, Bool.false_eq_true, reduceIte, D.bl.injEq, D.int.injEq, D.str.injEq, D.tup.injEq, D.lst.injEq, D.ref.injEq, wipeD, List.cons.injEq, and_true, true_and, opAdd_int, opSub_int, opMul_int, opDiv_int, opMod_int, opPow_int, opLt_int, opLe_int, opGt_int, opGe_int, opAddI_int, opEq_int, opNe_int, opIsN_eq, opNotN_eq, isN_non, isN_int, isN_bl, isN_tup, isN_lst, isN_str, seqZ_lst, seqZ_tup, opIx_lst, opIx_tup, fLen_lst, fLen_tup, fSum_iD, fTuple_lst, fList_lst, fMin2_int, fMax2_int, exists_const, sup_sup, sup_get]
    refine lcGo_map (fun d => match d with | .int m => .int (P ns m.toNat i) | _ => .non) (fun d hd K k => ?_) (by rw [iD_len, sizeLine_eq]; omega) ?_
    · simp only [iD, List.mem_map] at hd
      obtain ⟨m, hm', rfl⟩ := hd
      have hmx := hx m hm'
      simp only [sSeq, sIf, sRet, sRetN, sSet, sExpr, sNext, sAug, sAugS, sAsg, sPar, sFldS, sFz, sRetZ, sRetZZ, sNever, sRaise, sWhile, sFor, sBreak, sCont, eVar, eC, eOp, eCB, lCB, eCBK, eTup, lDisp, lOp, lRep, eFr, eMu, eFld, eIf, eAnd, eOr, eNot, eNeg, unNeg, eChain, tBl, tTru, tAnd2, tOr2, tNot2, tYes2, aNil, aCons, eCall, eCallK, gN, gTup2, gsCons, gsNil, gSub2, iSeq, iRng, iRngB, iEnum2, iStr2, lLc, lLcR, eSl, lSl, oNo, oSome, eBM, lBM, eLenSet, eMeth, eMake, eMakeZ, endsOf, start2, List.map_cons, List.map_nil, List.length_cons, List.length_nil, Nat.reduceSub, Nat.reduceAdd, List.replicate_zero, List.replicate_succ, List.append_nil, List.cons_append, List.nil_append, List.getElem?_cons_zero, List.getElem?_cons_succ, List.set_cons_zero, List.set_cons_succ, Option.some.injEq, exists_eq_left', exists_eq_left, truOf_bl, Bool.not_true, Bool.not_false, if_true, if_false, Bool.false_eq_true, reduceIte, D.bl.injEq, D.int.injEq, D.str.injEq, D.tup.injEq, D.lst.injEq, D.ref.injEq, wipeD, List.cons.injEq, and_true, true_and, opAdd_int, opSub_int, opMul_int, opDiv_int, opMod_int, opPow_int, opLt_int, opLe_int, opGt_int, opGe_int, opAddI_int, opEq_int, opNe_int, opIsN_eq, opNotN_eq, isN_non, isN_int, isN_bl, isN_tup, isN_lst, isN_str, seqZ_lst, seqZ_tup, opIx_lst, opIx_tup, fLen_lst, fLen_tup, fSum_iD, fTuple_lst, fList_lst, fMin2_int, fMax2_int, exists_const, sup_sup, sup_get]
      exact R.cell (m := m.toNat) (s := i) (by omega) (by omega) (by omega) (by omega) (.inr (.inl (by omega))) k
    have e1 : (iD ns).map (fun d => match d with | .int m => D.int (P ns m.toNat i) | _ => .non) = iD (ns.map fun m => P ns m.toNat i) := by simp [iD]
    rw [e1]
    simp only [sSeq, sIf, sRet, sRetN, sSet, sExpr, sNext, sAug, sAugS, sAsg, sPar, sFldS, sFz, sRetZ, sRetZZ, sNever, sRaise, sWhile, sFor, sBreak, sCont, eVar, eC, eOp, eCB, lCB, eCBK, eTup, lDisp, lOp, lRep, eFr, eMu, eFld, eIf, eAnd, eOr, eNot, eNeg, unNeg, eChain, tBl, tTru, tAnd2, tOr2, tNot2, tYes2, aNil, aCons, eCall, eCallK, gN, gTup2, gsCons, gsNil, gSub2, iSeq, iRng, iRngB, iEnum2, iStr2, lLc, lLcR, eSl, lSl, oNo, oSome, eBM, lBM, eLenSet, eMeth, eMake, eMakeZ, endsOf, start2, List.map_cons, List.map_nil, List.length_cons, List.length_nil, Nat.reduceSub, Nat.reduceAdd, List.replicate_zero, List.replicate_succ, List.append_nil, List.cons_append, List.nil_append, List.getElem?_cons_zero, List.getElem?_cons_succ, List.set_cons_zero, List.set_cons_succ, Option.some.injEq, exists_eq_left', exists_eq_left, truOf_bl, Bool.not_true, Bool.not_false, if_true, if_false, Bool.false_eq_true, reduceIte, D.bl.injEq, D.int.injEq, D.str.injEq, D.tup.injEq, D.lst.injEq, D.ref.injEq, wipeD, List.cons.injEq, and_true, true_and, opAdd_int, opSub_int, opMul_int, opDiv_int, opMod_int, opPow_int, opLt_int, opLe_int, opGt_int, opGe_int, opAddI_int, opEq_int, opNe_int, opIsN_eq, opNotN_eq, isN_non, isN_int, isN_bl, isN_tup, isN_lst, isN_str, seqZ_lst, seqZ_tup, opIx_lst, opIx_tup, fLen_lst, fLen_tup, fSum_iD, fTuple_lst, fList_lst, fMin2_int, fMax2_int, exists_const, sup_sup, sup_get]
    refine R.fill ar rfl (j := 1 + (i : Int)) (by omega) (by rw [P_one, T_succ]; rfl) (by omega) (by omega) (by omega) fun S2 R3 => ?_
    have hL : seqOf S2 (.ref p) = some es := lstOf_ref R3.at_
    have hel : (es.length : Int) = w := by rw [R3.len, rowsS_len]
    simp only [sSeq, sIf, sRet, sRetN, sSet, sExpr, sNext, sAug, sAugS, sAsg, sPar, sFldS, sFz, sRetZ, sRetZZ, sNever, sRaise, sWhile, sFor, sBreak, sCont, eVar, eC, eOp, eCB, lCB, eCBK, eTup, lDisp, lOp, lRep, eFr, eMu, eFld, eIf, eAnd, eOr, eNot, eNeg, unNeg, eChain, tBl, tTru, tAnd2, tOr2, tNot2, tYes2, aNil, aCons, eCall, eCallK, gN, gTup2, gsCons, gsNil, gSub2, iSeq, iRng, iRngB, iEnum2, iStr2, lLc, lLcR, eSl, lSl, oNo, oSome, eBM, lBM, eLenSet, eMeth, eMake, eMakeZ, endsOf, start2, List.map_cons, List.map_nil, List.length_cons, List.length_nil, Nat.reduceSub, Nat.reduceAdd, List.replicate_zero, List.replicate_succ, List.append_nil, List.cons_append, List.nil_append, List.getElem?_cons_zero, List.getElem?_cons_succ, List.set_cons_zero, List.set_cons_succ, Option.some.injEq, exists_eq_left', exists_eq_left, truOf_bl, Bool.not_true, Bool.not_false, if_true, if_false, Bool.false_eq_true, reduceIte, D.bl.injEq, D.int.injEq, D.str.injEq, D.tup.injEq, D.lst.injEq, D.ref.injEq, wipeD, List.cons.injEq, and_true, true_and, opAdd_int, opSub_int, opMul_int, opDiv_int, opMod_int, opPow_int, opLt_int, opLe_int, opGt_int, opGe_int, opAddI_int, opEq_int, opNe_int, opIsN_eq, opNotN_eq, isN_non, isN_int, isN_bl, isN_tup, isN_lst, isN_str, seqZ_lst, seqZ_tup, opIx_lst, opIx_tup, fLen_lst, fLen_tup, fSum_iD, fTuple_lst, fList_lst, fMin2_int, fMax2_int, exists_const, sup_sup, sup_get, fLen_seq hL]
    refine ⟨2, es.length, ⟨rfl, rfl⟩, by omega, ?_⟩
    refine forGo_inv (fun j ρ S' => ∃ e6 e7, ρ = [some (kindD C ms), some (.int most), some (.int wide), some (.lst (iD ns)), some (.ref p), some (.int (1 + (i : Int))), e6, e7, none, none] ∧ RInv p S es (rowsS ns (most.toNat + 1) w (i + 1) (2 + j)) S') ?_ ⟨e6, e7, rfl, R3⟩ ?_
    · rintro j d ρ S' nx2 bk2 ct2 hd ⟨e6, e7, rfl, R⟩ hnx2 _ _
      obtain ⟨hj, rfl⟩ := intsD_get hd
      simp only [sSeq, sIf, sRet, sRetN, sSet, sExpr, sNext, sAug, sAugS, sAsg, sPar, sFldS, sFz, sRetZ, sRetZZ, sNever, sRaise, sWhile, sFor, sBreak, sCont, eVar, eC, eOp, eCB, lCB, eCBK, eTup, lDisp, lOp, lRep, eFr, eMu, eFld, eIf, eAnd, eOr, eNot, eNeg, unNeg, eChain, tBl, tTru, tAnd2, tOr2, tNot2, tYes2, aNil, aCons, eCall, eCallK, gN, gTup2, gsCons, gsNil, gSub2, iSeq, iRng, iRngB, iEnum2, iStr2, lLc, lLcR, eSl, lSl, oNo, oSome, eBM, lBM, eLenSet, eMeth, eMake, eMakeZ, endsOf, start2, List.map_cons, List.map_nil, List.length_cons, List.length_nil, Nat.reduceSub, Nat.reduceAdd, List.replicate_zero, List.replicate_succ, List.append_nil, List.cons_append, List.nil_append, List.getElem?_cons_zero, List.getElem?_cons_succ, List.set_cons_zero, List.set_cons_succ, Option.some.injEq, exists_eq_left', exists_eq_left, truOf_bl, Bool.not_true, Bool.not_false, if_true, if_false, Bool.false_eq_true, reduceIte, D.bl.injEq, D.int.injEq, D.str.injEq, D.tup.injEq, D.lst.injEq, D.ref.injEq, wipeD, List.cons.injEq, and_true, true_and, opAdd_int, opSub_int, opMul_int, opDiv_int, opMod_int, opPow_int, opLt_int, opLe_int, opGt_int, opGe_int, opAddI_int, opEq_int, opNe_int, opIsN_eq, opNotN_eq, isN_non, isN_int, isN_bl, isN_tup, isN_lst, isN_str, seqZ_lst, seqZ_tup, opIx_lst, opIx_tup, fLen_lst, fLen_tup, fSum_iD, fTuple_lst, fList_lst, fMin2_int, fMax2_int, exists_const, sup_sup, sup_get]
      refine ⟨1, 1 + (i : Int) + 1, ⟨rfl, rfl⟩, by omega, ?_⟩
      refine lcGo_map (fun d => match d with | .int x => .int (P ns 1 x.toNat * P ns (1 + j) (i + 1 - x.toNat)) | _ => .non) (fun d hd K k => ?_) (by rw [intsD_len, sizeLine_eq]; omega) ?_
      · obtain ⟨x, hx1⟩ := List.getElem?_of_mem hd
        obtain ⟨hx2, rfl⟩ := intsD_get hx1
        simp only [sSeq, sIf, sRet, sRetN, sSet, sExpr, sNext, sAug, sAugS, sAsg, sPar, sFldS, sFz, sRetZ, sRetZZ, sNever, sRaise, sWhile, sFor, sBreak, sCont, eVar, eC, eOp, eCB, lCB, eCBK, eTup, lDisp, lOp, lRep, eFr, eMu, eFld, eIf, eAnd, eOr, eNot, eNeg, unNeg, eChain, tBl, tTru, tAnd2, tOr2, tNot2, tYes2, aNil, aCons, eCall, eCallK, gN, gTup2, gsCons, gsNil, gSub2, iSeq, iRng, iRngB, iEnum2, iStr2, lLc, lLcR, eSl, lSl, oNo, oSome, eBM, lBM, eLenSet, eMeth, eMake, eMakeZ, endsOf, start2, List.map_cons, List.map_nil, List.length_cons, List.length_nil, Nat.reduceSub, Nat.reduceAdd, List.replicate_zero, List.replicate_succ, List.append_nil, List.cons_append, List.nil_append, List.getElem?_cons_zero, List.getElem?_cons_succ, List.set_cons_zero, List.set_cons_succ, Option.some.injEq, exists_eq_left', exists_eq_left, truOf_bl, Bool.not_true, Bool.not_false, if_true, if_false, Bool.false_eq_true, reduceIte, D.bl.injEq, D.int.injEq, D.str.injEq, D.tup.injEq, D.lst.injEq, D.ref.injEq, wipeD, List.cons.injEq, and_true, true_and, opAdd_int, opSub_int, opMul_int, opDiv_int, opMod_int, opPow_int, opLt_int, opLe_int, opGt_int, opGe_int, opAddI_int, opEq_int, opNe_int, opIsN_eq, opNotN_eq, isN_non, isN_int, isN_bl, isN_tup, isN_lst, isN_str, seqZ_lst, seqZ_tup, opIx_lst, opIx_tup, fLen_lst, fLen_tup, fSum_iD, fTuple_lst, fList_lst, fMin2_int, fMax2_int, exists_const, sup_sup, sup_get]
        refine R.cell (m := 1) (s := 1 + x) rfl (by omega) (by omega) (by omega) (by omega) ?_
        refine R.cell (m := 1 + j) (s := i - x) (by omega) (by omega) (by omega) (by omega) (by omega) ?_
        simp only [sSeq, sIf, sRet, sRetN, sSet, sExpr, sNext, sAug, sAugS, sAsg, sPar, sFldS, sFz, sRetZ, sRetZZ, sNever, sRaise, sWhile, sFor, sBreak, sCont, eVar, eC, eOp, eCB, lCB, eCBK, eTup, lDisp, lOp, lRep, eFr, eMu, eFld, eIf, eAnd, eOr, eNot, eNeg, unNeg, eChain, tBl, tTru, tAnd2, tOr2, tNot2, tYes2, aNil, aCons, eCall, eCallK, gN, gTup2, gsCons, gsNil, gSub2, iSeq, iRng, iRngB, iEnum2, iStr2, lLc, lLcR, eSl, lSl, oNo, oSome, eBM, lBM, eLenSet, eMeth, eMake, eMakeZ, endsOf, start2, List.map_cons, List.map_nil, List.length_cons, List.length_nil, Nat.reduceSub, Nat.reduceAdd, List.replicate_zero, List.replicate_succ, List.append_nil, List.cons_append, List.nil_append, List.getElem?_cons_zero, List.getElem?_cons_succ, List.set_cons_zero, List.set_cons_succ, Option.some.injEq, exists_eq_left', exists_eq_left, truOf_bl, Bool.not_true, Bool.not_false, if_true, if_false, Bool.false_eq_true, reduceIte, D.bl.injEq, D.int.injEq, D.str.injEq, D.tup.injEq, D.lst.injEq, D.ref.injEq, wipeD, List.cons.injEq, and_true, true_and, opAdd_int, opSub_int, opMul_int, opDiv_int, opMod_int, opPow_int, opLt_int, opLe_int, opGt_int, opGe_int, opAddI_int, opEq_int, opNe_int, opIsN_eq, opNotN_eq, isN_non, isN_int, isN_bl, isN_tup, isN_lst, isN_str, seqZ_lst, seqZ_tup, opIx_lst, opIx_tup, fLen_lst, fLen_tup, fSum_iD, fTuple_lst, fList_lst, fMin2_int, fMax2_int, exists_const, sup_sup, sup_get]
        refine ⟨bnd_mul (P_bnd hlen (by omega)) (P_bnd hlen (by omega)), ?_⟩
        have e1 : ((1 : Int) + (x : Int)).toNat = 1 + x := by omega
        have e2 : i + 1 - (1 + x) = i - x := by omega
        simp only [e1, e2] at k
        exact k
      rw [intsD_tab (g := fun k => P ns 1 (k + 1) * P ns (1 + j) (i + 1 - (k + 1))) fun k _ => by
        have e1 : ((1 : Int) + (k : Int)).toNat = k + 1 := by omega
        simp only [e1]]
      simp only [sSeq, sIf, sRet, sRetN, sSet, sExpr, sNext, sAug, sAugS, sAsg, sPar, sFldS, sFz, sRetZ, sRetZZ, sNever, sRaise, sWhile, sFor, sBreak, sCont, eVar, eC, eOp, eCB, lCB, eCBK, eTup, lDisp, lOp, lRep, eFr, eMu, eFld, eIf, eAnd, eOr, eNot, eNeg, unNeg, eChain, tBl, tTru, tAnd2, tOr2, tNot2, tYes2, aNil, aCons, eCall, eCallK, gN, gTup2, gsCons, gsNil, gSub2, iSeq, iRng, iRngB, iEnum2, iStr2, lLc, lLcR, eSl, lSl, oNo, oSome, eBM, lBM, eLenSet, eMeth, eMake, eMakeZ, endsOf, start2, List.map_cons, List.map_nil, List.length_cons, List.length_nil, Nat.reduceSub, Nat.reduceAdd, List.replicate_zero, List.replicate_succ, List.append_nil, List.cons_append, List.nil_append, List.getElem?_cons_zero, List.getElem?_cons_succ, List.set_cons_zero, List.set_cons_succ, Option.some.injEq, exists_eq_left', exists_eq_left, truOf_bl, Bool.not_true, Bool.not_false, if_true, if_false, Bool.false_eq_true, reduceIte, D.bl.injEq, D.int.injEq, D.str.injEq, D.tup.injEq, D.lst.injEq, D.ref.injEq, wipeD, List.cons.injEq, and_true, true_and, opAdd_int, opSub_int, opMul_int, opDiv_int, opMod_int, opPow_int, opLt_int, opLe_int, opGt_int, opGe_int, opAddI_int, opEq_int, opNe_int, opIsN_eq, opNotN_eq, isN_non, isN_int, isN_bl, isN_tup, isN_lst, isN_str, seqZ_lst, seqZ_tup, opIx_lst, opIx_tup, fLen_lst, fLen_tup, fSum_iD, fTuple_lst, fList_lst, fMin2_int, fMax2_int, exists_const, sup_sup, sup_get]
      refine R.fill ar (k := 2 + j) (by omega) (j := 1 + (i : Int)) (by omega) ?_ (by omega) (by omega) (by omega) fun S4 R5 => ?_
      · rw [show 2 + j = (1 + j) + 1 by omega, P_conv]
        congr 3
        omega
      · exact hnx2 _ _ ⟨_, _, rfl, R5⟩
    · rintro ρ S' ⟨e6, e7, rfl, R⟩
      rw [intsD_len, show 2 + ((es.length : Int) - 2).toNat = w by omega, rowsS_next] at R
      exact hnx _ _ ⟨_, _, _, rfl, R⟩
  · rintro ρ S' ⟨e5, e6, e7, rfl, R⟩
    rw [intsD_len, show (most + 1 - 1).toNat + 1 = most.toNat + 1 by omega, rowsS_done] at R
    simp only [sSeq, sIf, sRet, sRetN, sSet, sExpr, sNext, sAug, sAugS, sAsg, sPar, sFldS, sFz, sRetZ, sRetZZ, sNever, sRaise, sWhile, sFor, sBreak, sCont, eVar, eC, eOp, eCB, lCB, eCBK, eTup, lDisp, lOp, lRep, eFr, eMu, eFld, eIf, eAnd, eOr, eNot, eNeg, unNeg, eChain, tBl, tTru, tAnd2, tOr2, tNot2, tYes2, aNil, aCons, eCall, eCallK, gN, gTup2, gsCons, gsNil, gSub2, iSeq, iRng, iRngB, iEnum2, iStr2, lLc, lLcR, eSl, lSl, oNo, oSome, eBM, lBM, eLenSet, eMeth, eMake, eMakeZ, endsOf, start2, List.map_cons, List.map_nil, List.length_cons, List.length_nil, Nat.reduceSub, Nat.reduceAdd, List.replicate_zero, List.replicate_succ, List.append_nil, List.cons_append, List.nil_append, List.getElem?_cons_zero, List.getElem?_cons_succ, List.set_cons_zero, List.set_cons_succ, Option.some.injEq, exists_eq_left', exists_eq_left, truOf_bl, Bool.not_true, Bool.not_false, if_true, if_false, Bool.false_eq_true, reduceIte, D.bl.injEq, D.int.injEq, D.str.injEq, D.tup.injEq, D.lst.injEq, D.ref.injEq, wipeD, List.cons.injEq, and_true, true_and, opAdd_int, opSub_int, opMul_int, opDiv_int, opMod_int, opPow_int, opLt_int, opLe_int, opGt_int, opGe_int, opAddI_int, opEq_int, opNe_int, opIsN_eq, opNotN_eq, isN_non, isN_int, isN_bl, isN_tup, isN_lst, isN_str, seqZ_lst, seqZ_tup, opIx_lst, opIx_tup, fLen_lst, fLen_tup, fSum_iD, fTuple_lst, fList_lst, fMin2_int, fMax2_int, exists_const, sup_sup, sup_get, sFzIn]
    refine ⟨p, es, rfl, R.at_, R.out (Q := fun ys S2 => ∃ n, whGo _ _ _ n _ (sup S2 p (SO.lst ys))) ?_⟩
    refine ⟨101, whGo_inv (fun k ρ S' => ∃ w', k = 100 - w' ∧ 2 ≤ w' ∧ w' ≤ 61 ∧ ρ = [some (kindD C ms), some (.int most), some (.int wide), some (.lst (iD ns)), some (.ref p), e5, e6, e7, none, none] ∧ S' = sup S p (.lst (frz ns (most.toNat + 1) w'))) ?_ 101 (100 - w) _ _ (by omega) ⟨w, rfl, by omega, by omega, rfl, rfl⟩⟩
    rintro k ρ S' nx bk ct ⟨w', rfl, k2, k3, rfl, rfl⟩ hnx _ _
    have hL : seqOf (sup S p (.lst (frz ns (most.toNat + 1) w'))) (.ref p) = some (frz ns (most.toNat + 1) w') := lstOf_ref sup_same
    simp only [sSeq, sIf, sRet, sRetN, sSet, sExpr, sNext, sAug, sAugS, sAsg, sPar, sFldS, sFz, sRetZ, sRetZZ, sNever, sRaise, sWhile, sFor, sBreak, sCont, eVar, eC, eOp, eCB, lCB, eCBK, eTup, lDisp, lOp, lRep, eFr, eMu, eFld, eIf, eAnd, eOr, eNot, eNeg, unNeg, eChain, tBl, tTru, tAnd2, tOr2, tNot2, tYes2, aNil, aCons, eCall, eCallK, gN, gTup2, gsCons, gsNil, gSub2, iSeq, iRng, iRngB, iEnum2, iStr2, lLc, lLcR, eSl, lSl, oNo, oSome, eBM, lBM, eLenSet, eMeth, eMake, eMakeZ, endsOf, start2, List.map_cons, List.map_nil, List.length_cons, List.length_nil, Nat.reduceSub, Nat.reduceAdd, List.replicate_zero, List.replicate_succ, List.append_nil, List.cons_append, List.nil_append, List.getElem?_cons_zero, List.getElem?_cons_succ, List.set_cons_zero, List.set_cons_succ, Option.some.injEq, exists_eq_left', exists_eq_left, truOf_bl, Bool.not_true, Bool.not_false, if_true, if_false, Bool.false_eq_true, reduceIte, D.bl.injEq, D.int.injEq, D.str.injEq, D.tup.injEq, D.lst.injEq, D.ref.injEq, wipeD, List.cons.injEq, and_true, true_and, opAdd_int, opSub_int, opMul_int, opDiv_int, opMod_int, opPow_int, opLt_int, opLe_int, opGt_int, opGe_int, opAddI_int, opEq_int, opNe_int, opIsN_eq, opNotN_eq, isN_non, isN_int, isN_bl, isN_tup, isN_lst, isN_str, seqZ_lst, seqZ_tup, opIx_lst, opIx_tup, fLen_lst, fLen_tup, fSum_iD, fTuple_lst, fList_lst, fMin2_int, fMax2_int, exists_const, sup_sup, sup_get, fLen_seq hL, frz_len]
    by_cases hc : (w' : Int) ≤ (if most < wide then most else wide)
    · have hc2 : (w' : Int) ≤ most ∧ (w' : Int) ≤ wide := by split at hc <;> omega
      simp only [hc, decide_true, if_true]
      refine ⟨.inl ⟨rfl, _, lstOf_ref sup_same⟩, ?_⟩
      rw [opIx_ref sup_same]
      refine ⟨_, atI_get (by decide) (frz_get (m := 1) (by omega)), ?_⟩
      refine rowD_last sup_same (by rw [frz_len]; exact frz_get (by omega)) ?_
      refine ⟨most.toNat + 1, P ns 1, P ns (w' - 1), rfl, by omega, fun t ht => P_bnd hlen (by omega), fun t ht => P_bnd hlen (by omega), ?_⟩
      rw [cv_next, show w' - 1 + 1 = w' by omega]
      refine ⟨p, _, _, rfl, rfl, sup_same, by rw [frz_len, sizeLine_eq]; omega, ?_⟩
      rw [frz_next, sup_sup]
      exact hnx (100 - (w' + 1)) _ _ (by omega) ⟨w' + 1, rfl, by omega, by omega, rfl, rfl⟩
    · simp only [hc, decide_false, Bool.false_eq_true, if_false]
      refine ⟨p, _, rfl, sup_same, ?_⟩
      rw [sdel_sup hp00]
      refine fz_frz _ ?_
      exact q w' (by omega) (by split at hc <;> omega)
end L83
set_option linter.all false
set_option maxRecDepth 100000
set_option maxHeartbeats 4000000
namespace L83
open PySem PySem.Spec PyProof.Rows L2 Y M83
def nums5 (ns : List Int) : Prop := ns.length ≤ 5 ∧ ∀ x ∈ ns, 0 ≤ x ∧ x ≤ 4
def sp_rows : Sp2 := fun ds S Q E => ∃ ns great, ds = [.lst (iD ns), .int great] ∧ nums5 ns ∧ 0 ≤ great ∧ great ≤ 60 ∧ Q (.lst (frz ns (great.toNat + 1) 5)) S
theorem s_rows : ∀ ds S Q E, sp_rows ds S Q E → r__law_rows (endsOf Q E) (start2 N__law_rows ds) S := by
  rintro _ S Q E ⟨ns, most, rfl, ⟨hlen, hx⟩, m0, m1, q⟩
  unfold r__law_rows
  simp only [sSeq, sIf, sRet, sRetN, sSet, sExpr, sNext, sAug, sAugS, sAsg, sPar, sFldS, sFz, sRetZ, sRetZZ, sNever, sRaise, sWhile, sFor, sBreak, sCont, eVar, eC, eOp, eCB, lCB, eCBK, eTup, lDisp, lOp, lRep, eFr, eMu, eFld, eIf, eAnd, eOr, eNot, eNeg, unNeg, eChain, tBl, tTru, tAnd2, tOr2, tNot2, tYes2, aNil, aCons, eCall, eCallK, gN, gTup2, gsCons, gsNil, gSub2, iSeq, iRng, iRngB, iEnum2, iStr2, lLc, lLcR, eSl, lSl, oNo, oSome, eBM, lBM, eLenSet, eMeth, eMake, eMakeZ, endsOf, start2, List.map_cons, List.map_nil, List.length_cons, List.length_nil, Nat.reduceSub, Nat.reduceAdd, List.replicate_zero, List.replicate_succ, List.append_nil, List.cons_append, List.nil_append, List.getElem?_cons_zero, List.getElem?_cons_succ, List.set_cons_zero, List.set_cons_succ, Option.some.injEq, exists_eq_left', exists_eq_left, truOf_bl, Bool.not_true, Bool.not_false, if_true, if_false, Bool.false_eq_true, reduceIte, D.bl.injEq, D.int.injEq, D.str.injEq, D.tup.injEq, D.lst.injEq, D.ref.injEq, wipeD, List.cons.injEq, and_true, true_and, opAdd_int, opSub_int, opMul_int, opDiv_int, opMod_int, opPow_int, opLt_int, opLe_int, opGt_int, opGe_int, opAddI_int, opEq_int, opNe_int, opIsN_eq, opNotN_eq, isN_non, isN_int, isN_bl, isN_tup, isN_lst, isN_str, seqZ_lst, seqZ_tup, opIx_lst, opIx_tup, fLen_lst, fLen_tup, fSum_iD, fTuple_lst, fList_lst, fMin2_int, fMax2_int, exists_const, sup_sup, sup_get]
  refine ⟨by rw [sizeLine_eq]; omega, by rw [sizeLine_eq]; omega, by omega, by omega, by rw [sizeLine_eq]; omega, ?_⟩
  refine ⟨_, _, rfl, rfl, by rw [rep_one]; simp; rw [sizeLine_eq]; omega, fun p0 hp0 => ?_⟩
  rw [rep_one, iD_rep, row_one]
  refine ⟨by rw [sizeLine_eq]; omega, by omega, by omega, ?_⟩
  have R0 := (RPre.nil (S := S)).add hp0 (tab (most.toNat + 1) one0)
  refine lcGo_inv (fun i acc S' => RPre S (.ref p0 :: acc) (tab (most.toNat + 1) one0 :: List.replicate i (tab (most.toNat + 1) fun _ => 0)) S') ?_ R0 ?_ (by rw [intsD_len, sizeLine_eq]; omega)
  · rintro i d acc S' K hd R hl k
    simp only [sSeq, sIf, sRet, sRetN, sSet, sExpr, sNext, sAug, sAugS, sAsg, sPar, sFldS, sFz, sRetZ, sRetZZ, sNever, sRaise, sWhile, sFor, sBreak, sCont, eVar, eC, eOp, eCB, lCB, eCBK, eTup, lDisp, lOp, lRep, eFr, eMu, eFld, eIf, eAnd, eOr, eNot, eNeg, unNeg, eChain, tBl, tTru, tAnd2, tOr2, tNot2, tYes2, aNil, aCons, eCall, eCallK, gN, gTup2, gsCons, gsNil, gSub2, iSeq, iRng, iRngB, iEnum2, iStr2, lLc, lLcR, eSl, lSl, oNo, oSome, eBM, lBM, eLenSet, eMeth, eMake, eMakeZ, endsOf, start2, List.map_cons, List.map_nil, List.length_cons, List.length_nil, Nat.reduceSub, Nat.reduceAdd, List.replicate_zero, List.replicate_succ, List.append_nil, List.cons_append, List.nil_append, List.getElem?_cons_zero, List.getElem?_cons_succ, List.set_cons_zero, List.set_cons_succ, Option.some.injEq, exists_eq_left', exists_eq_left, truOf_bl, Bool.not_true, Bool.not_false, if_true, if_false, Bool.false_eq_true, reduceIte, D.bl.injEq, D.int.injEq, D.str.injEq, D.tup.injEq, D.lst.injEq, D.ref.injEq, wipeD, List.cons.injEq, and_true, true_and, opAdd_int, opSub_int, opMul_int, opDiv_int, opMod_int, opPow_int, opLt_int, opLe_int, opGt_int, opGe_int, opAddI_int, opEq_int, opNe_int, opIsN_eq, opNotN_eq, isN_non, isN_int, isN_bl, isN_tup, isN_lst, isN_str, seqZ_lst, seqZ_tup, opIx_lst, opIx_tup, fLen_lst, fLen_tup, fSum_iD, fTuple_lst, fList_lst, fMin2_int, fMax2_int, exists_const, sup_sup, sup_get]
    refine ⟨by rw [sizeLine_eq]; omega, by omega, by omega, by rw [sizeLine_eq]; omega, fun p hp => ?_⟩
    refine k _ _ ?_
    have := R.add hp (tab (most.toNat + 1) fun _ => 0)
    rw [rep_one, iD_rep, rep_tab, show (most + 1).toNat = most.toNat + 1 by omega]
    simpa [List.replicate_succ'] using this
  rintro acc S1 R1 hl
  rw [intsD_len] at R1
  refine ⟨_, _, rfl, rfl, by rw [intsD_len] at hl; simp [hl]; rw [sizeLine_eq]; omega, fun p hp => ?_⟩
  obtain ⟨R2, ar⟩ := R1.close hp
  have hp00 : S p = none := R2.new
  simp only [List.singleton_append]
  generalize (D.ref p0 :: acc) = es at R2 ar ⊢
  have ez := zeroRows_eq (ns := ns) (n := most.toNat + 1) (w := 4)
  unfold zeroRows at ez
  rw [show (4 : Int).toNat = 4 by rfl, ez] at R2
  generalize hw : 4 + 1 = w at R2
  refine ⟨1, most + 1, ⟨rfl, rfl⟩, by omega, ?_⟩
  refine forGo_inv (fun i ρ S' => ∃ e3 e4 e5 e6, ρ = [some (.lst (iD ns)), some (.int most), some (.ref p), e3, e4, e5, e6, none] ∧ RInv p S es (rowsS ns (most.toNat + 1) w (i + 1) 1) S') ?_ ⟨none, none, none, none, rfl, R2⟩ ?_
  · rintro i d ρ S' nx bk ct hd ⟨e3, e4, e5, e6, rfl, R⟩ hnx _ _
    obtain ⟨hi, rfl⟩ := intsD_get hd
    simp only [sSeq, sIf, sRet, sRetN, sSet, sExpr, sNext, sAug, sAugS, sAsg, sPar, sFldS, sFz, sRetZ, sRetZZ, sNever, sRaise, sWhile, sFor, sBreak, sCont, eVar, eC, eOp, eCB, lCB, eCBK, eTup, lDisp, lOp, lRep, eFr, eMu, eFld, eIf, eAnd, eOr, eNot, eNeg, unNeg, eChain, tBl, tTru, tAnd2, tOr2, tNot2, tYes2, aNil, aCons, eCall, eCallK, gN, gTup2, gsCons, gsNil, gSub2, iSeq, iRng, iRngB, iEnum2, iStr2, lLc, lLcR, eSl, lSl, oNo, oSome, eBM, lBM, eLenSet, eMeth, eMake, eMakeZ, endsOf, start2, List.map_cons, List.map_nil, List.length_cons, List.length_nil, Nat.reduceSub, Nat.reduceAdd, List.replicate_zero, List.replicate_succ, List.append_nil, List.cons_append, List.nil_append, List.getElem?_cons_zero, List.getElem?_cons_succ, List.set_cons_zero, List.set_cons_succ, Option.some.injEq, exists_eq_left', exists_eq_left, truOf_bl, Bool.not_true, Bool.not_false, if_true, if_false, Bool.false_eq_true, reduceIte, D.bl.injEq, D.int.injEq, D.str.injEq, D.tup.injEq, D.lst.injEq, D.ref.injEq, wipeD, List.cons.injEq, and_true, true_and, opAdd_int, opSub_int, opMul_int, opDiv_int, opMod_int, opPow_int, opLt_int, opLe_int, opGt_int, opGe_int, opAddI_int, opEq_int, opNe_int, opIsN_eq, opNotN_eq, isN_non, isN_int, isN_bl, isN_tup, isN_lst, isN_str, seqZ_lst, seqZ_tup, opIx_lst, opIx_tup, fLen_lst, fLen_tup, fSum_iD, fTuple_lst, fList_lst, fMin2_int, fMax2_int, exists_const, sup_sup, sup_get]
    refine lcGo_map (fun d => match d with | .int m => .int (P ns m.toNat i) | _ => .non) (fun d hd K k => ?_) (by rw [iD_len, sizeLine_eq]; omega) ?_
    · simp only [iD, List.mem_map] at hd
      obtain ⟨m, hm', rfl⟩ := hd
      have hmx := hx m hm'
      simp only [sSeq, sIf, sRet, sRetN, sSet, sExpr, sNext, sAug, sAugS, sAsg, sPar, sFldS, sFz, sRetZ, sRetZZ, sNever, sRaise, sWhile, sFor, sBreak, sCont, eVar, eC, eOp, eCB, lCB, eCBK, eTup, lDisp, lOp, lRep, eFr, eMu, eFld, eIf, eAnd, eOr, eNot, eNeg, unNeg, eChain, tBl, tTru, tAnd2, tOr2, tNot2, tYes2, aNil, aCons, eCall, eCallK, gN, gTup2, gsCons, gsNil, gSub2, iSeq, iRng, iRngB, iEnum2, iStr2, lLc, lLcR, eSl, lSl, oNo, oSome, eBM, lBM, eLenSet, eMeth, eMake, eMakeZ, endsOf, start2, List.map_cons, List.map_nil, List.length_cons, List.length_nil, Nat.reduceSub, Nat.reduceAdd, List.replicate_zero, List.replicate_succ, List.append_nil, List.cons_append, List.nil_append, List.getElem?_cons_zero, List.getElem?_cons_succ, List.set_cons_zero, List.set_cons_succ, Option.some.injEq, exists_eq_left', exists_eq_left, truOf_bl, Bool.not_true, Bool.not_false, if_true, if_false, Bool.false_eq_true, reduceIte, D.bl.injEq, D.int.injEq, D.str.injEq, D.tup.injEq, D.lst.injEq, D.ref.injEq, wipeD, List.cons.injEq, and_true, true_and, opAdd_int, opSub_int, opMul_int, opDiv_int, opMod_int, opPow_int, opLt_int, opLe_int, opGt_int, opGe_int, opAddI_int, opEq_int, opNe_int, opIsN_eq, opNotN_eq, isN_non, isN_int, isN_bl, isN_tup, isN_lst, isN_str, seqZ_lst, seqZ_tup, opIx_lst, opIx_tup, fLen_lst, fLen_tup, fSum_iD, fTuple_lst, fList_lst, fMin2_int, fMax2_int, exists_const, sup_sup, sup_get]
      exact R.cell (m := m.toNat) (s := i) (by omega) (by omega) (by omega) (by omega) (.inr (.inl (by omega))) k
    have e1 : (iD ns).map (fun d => match d with | .int m => D.int (P ns m.toNat i) | _ => .non) = iD (ns.map fun m => P ns m.toNat i) := by simp [iD]
    rw [e1]
    simp only [sSeq, sIf, sRet, sRetN, sSet, sExpr, sNext, sAug, sAugS, sAsg, sPar, sFldS, sFz, sRetZ, sRetZZ, sNever, sRaise, sWhile, sFor, sBreak, sCont, eVar, eC, eOp, eCB, lCB, eCBK, eTup, lDisp, lOp, lRep, eFr, eMu, eFld, eIf, eAnd, eOr, eNot, eNeg, unNeg, eChain, tBl, tTru, tAnd2, tOr2, tNot2, tYes2, aNil, aCons, eCall, eCallK, gN, gTup2, gsCons, gsNil, gSub2, iSeq, iRng, iRngB, iEnum2, iStr2, lLc, lLcR, eSl, lSl, oNo, oSome, eBM, lBM, eLenSet, eMeth, eMake, eMakeZ, endsOf, start2, List.map_cons, List.map_nil, List.length_cons, List.length_nil, Nat.reduceSub, Nat.reduceAdd, List.replicate_zero, List.replicate_succ, List.append_nil, List.cons_append, List.nil_append, List.getElem?_cons_zero, List.getElem?_cons_succ, List.set_cons_zero, List.set_cons_succ, Option.some.injEq, exists_eq_left', exists_eq_left, truOf_bl, Bool.not_true, Bool.not_false, if_true, if_false, Bool.false_eq_true, reduceIte, D.bl.injEq, D.int.injEq, D.str.injEq, D.tup.injEq, D.lst.injEq, D.ref.injEq, wipeD, List.cons.injEq, and_true, true_and, opAdd_int, opSub_int, opMul_int, opDiv_int, opMod_int, opPow_int, opLt_int, opLe_int, opGt_int, opGe_int, opAddI_int, opEq_int, opNe_int, opIsN_eq, opNotN_eq, isN_non, isN_int, isN_bl, isN_tup, isN_lst, isN_str, seqZ_lst, seqZ_tup, opIx_lst, opIx_tup, fLen_lst, fLen_tup, fSum_iD, fTuple_lst, fList_lst, fMin2_int, fMax2_int, exists_const, sup_sup, sup_get]
    refine R.fill ar rfl (j := 1 + (i : Int)) (by omega) (by rw [P_one, T_succ]; rfl) (by omega) (by omega) (by omega) fun S2 R3 => ?_
    refine ⟨by rw [sizeLine_eq]; omega, ?_⟩
    refine forGo_inv (fun j ρ S' => ∃ e4 e5 e6, ρ = [some (.lst (iD ns)), some (.int most), some (.ref p), some (.int (1 + (i : Int))), e4, e5, e6, none] ∧ RInv p S es (rowsS ns (most.toNat + 1) w (i + 1) (2 + j)) S') ?_ ⟨e4, e5, e6, rfl, R3⟩ ?_
    · rintro j d ρ S' nx2 bk2 ct2 hd ⟨e4, e5, e6, rfl, R⟩ hnx2 _ _
      have hdj : j < 3 ∧ d = .int (2 + (j : Int)) := by
        match j, hd with
        | 0, hd => cases hd; exact ⟨by omega, rfl⟩
        | 1, hd => cases hd; exact ⟨by omega, rfl⟩
        | 2, hd => cases hd; exact ⟨by omega, rfl⟩
        | n + 3, hd => simp at hd
      obtain ⟨hj, rfl⟩ := hdj
      simp only [sSeq, sIf, sRet, sRetN, sSet, sExpr, sNext, sAug, sAugS, sAsg, sPar, sFldS, sFz, sRetZ, sRetZZ, sNever, sRaise, sWhile, sFor, sBreak, sCont, eVar, eC, eOp, eCB, lCB, eCBK, eTup, lDisp, lOp, lRep, eFr, eMu, eFld, eIf, eAnd, eOr, eNot, eNeg, unNeg, eChain, tBl, tTru, tAnd2, tOr2, tNot2, tYes2, aNil, aCons, eCall, eCallK, gN, gTup2, gsCons, gsNil, gSub2, iSeq, iRng, iRngB, iEnum2, iStr2, lLc, lLcR, eSl, lSl, oNo, oSome, eBM, lBM, eLenSet, eMeth, eMake, eMakeZ, endsOf, start2, List.map_cons, List.map_nil, List.length_cons, List.length_nil, Nat.reduceSub, Nat.reduceAdd, List.replicate_zero, List.replicate_succ, List.append_nil, List.cons_append, List.nil_append, List.getElem?_cons_zero, List.getElem?_cons_succ, List.set_cons_zero, List.set_cons_succ, Option.some.injEq, exists_eq_left', exists_eq_left, truOf_bl, Bool.not_true, Bool.not_false, if_true, if_false, Bool.false_eq_true, reduceIte, D.bl.injEq, D.int.injEq, D.str.injEq, D.tup.injEq, D.lst.injEq, D.ref.injEq, wipeD, List.cons.injEq, and_true, true_and, opAdd_int, opSub_int, opMul_int, opDiv_int, opMod_int, opPow_int, opLt_int, opLe_int, opGt_int, opGe_int, opAddI_int, opEq_int, opNe_int, opIsN_eq, opNotN_eq, isN_non, isN_int, isN_bl, isN_tup, isN_lst, isN_str, seqZ_lst, seqZ_tup, opIx_lst, opIx_tup, fLen_lst, fLen_tup, fSum_iD, fTuple_lst, fList_lst, fMin2_int, fMax2_int, exists_const, sup_sup, sup_get]
      refine ⟨1, 1 + (i : Int) + 1, ⟨rfl, rfl⟩, by omega, ?_⟩
      refine forGo_inv (fun x ρ S2 => ∃ e6, ρ = [some (.lst (iD ns)), some (.int most), some (.ref p), some (.int (1 + (i : Int))), some (.int (2 + (j : Int))), some (.int (sumTo x fun k => P ns 1 (k + 1) * P ns (1 + j) (i + 1 - (k + 1)))), e6, none] ∧ S2 = S') ?_ ⟨_, rfl, rfl⟩ ?_
      · rintro x d ρ S2 nx3 bk3 ct3 hd ⟨e6, rfl, rfl⟩ hnx3 _ _
        obtain ⟨hx2, rfl⟩ := intsD_get hd
        simp only [sSeq, sIf, sRet, sRetN, sSet, sExpr, sNext, sAug, sAugS, sAsg, sPar, sFldS, sFz, sRetZ, sRetZZ, sNever, sRaise, sWhile, sFor, sBreak, sCont, eVar, eC, eOp, eCB, lCB, eCBK, eTup, lDisp, lOp, lRep, eFr, eMu, eFld, eIf, eAnd, eOr, eNot, eNeg, unNeg, eChain, tBl, tTru, tAnd2, tOr2, tNot2, tYes2, aNil, aCons, eCall, eCallK, gN, gTup2, gsCons, gsNil, gSub2, iSeq, iRng, iRngB, iEnum2, iStr2, lLc, lLcR, eSl, lSl, oNo, oSome, eBM, lBM, eLenSet, eMeth, eMake, eMakeZ, endsOf, start2, List.map_cons, List.map_nil, List.length_cons, List.length_nil, Nat.reduceSub, Nat.reduceAdd, List.replicate_zero, List.replicate_succ, List.append_nil, List.cons_append, List.nil_append, List.getElem?_cons_zero, List.getElem?_cons_succ, List.set_cons_zero, List.set_cons_succ, Option.some.injEq, exists_eq_left', exists_eq_left, truOf_bl, Bool.not_true, Bool.not_false, if_true, if_false, Bool.false_eq_true, reduceIte, D.bl.injEq, D.int.injEq, D.str.injEq, D.tup.injEq, D.lst.injEq, D.ref.injEq, wipeD, List.cons.injEq, and_true, true_and, opAdd_int, opSub_int, opMul_int, opDiv_int, opMod_int, opPow_int, opLt_int, opLe_int, opGt_int, opGe_int, opAddI_int, opEq_int, opNe_int, opIsN_eq, opNotN_eq, isN_non, isN_int, isN_bl, isN_tup, isN_lst, isN_str, seqZ_lst, seqZ_tup, opIx_lst, opIx_tup, fLen_lst, fLen_tup, fSum_iD, fTuple_lst, fList_lst, fMin2_int, fMax2_int, exists_const, sup_sup, sup_get]
        refine R.cell (m := 1) (s := 1 + x) rfl (by omega) (by omega) (by omega) (by omega) ?_
        refine R.cell (m := 1 + j) (s := i - x) (by omega) (by omega) (by omega) (by omega) (by omega) ?_
        simp only [sSeq, sIf, sRet, sRetN, sSet, sExpr, sNext, sAug, sAugS, sAsg, sPar, sFldS, sFz, sRetZ, sRetZZ, sNever, sRaise, sWhile, sFor, sBreak, sCont, eVar, eC, eOp, eCB, lCB, eCBK, eTup, lDisp, lOp, lRep, eFr, eMu, eFld, eIf, eAnd, eOr, eNot, eNeg, unNeg, eChain, tBl, tTru, tAnd2, tOr2, tNot2, tYes2, aNil, aCons, eCall, eCallK, gN, gTup2, gsCons, gsNil, gSub2, iSeq, iRng, iRngB, iEnum2, iStr2, lLc, lLcR, eSl, lSl, oNo, oSome, eBM, lBM, eLenSet, eMeth, eMake, eMakeZ, endsOf, start2, List.map_cons, List.map_nil, List.length_cons, List.length_nil, Nat.reduceSub, Nat.reduceAdd, List.replicate_zero, List.replicate_succ, List.append_nil, List.cons_append, List.nil_append, List.getElem?_cons_zero, List.getElem?_cons_succ, List.set_cons_zero, List.set_cons_succ, Option.some.injEq, exists_eq_left', exists_eq_left, truOf_bl, Bool.not_true, Bool.not_false, if_true, if_false, Bool.false_eq_true, reduceIte, D.bl.injEq, D.int.injEq, D.str.injEq, D.tup.injEq, D.lst.injEq, D.ref.injEq, wipeD, List.cons.injEq, and_true, true_and, opAdd_int, opSub_int, opMul_int, opDiv_int, opMod_int, opPow_int, opLt_int, opLe_int, opGt_int, opGe_int, opAddI_int, opEq_int, opNe_int, opIsN_eq, opNotN_eq, isN_non, isN_int, isN_bl, isN_tup, isN_lst, isN_str, seqZ_lst, seqZ_tup, opIx_lst, opIx_tup, fLen_lst, fLen_tup, fSum_iD, fTuple_lst, fList_lst, fMin2_int, fMax2_int, exists_const, sup_sup, sup_get]
        refine ⟨bnd_mul (P_bnd hlen (by omega)) (P_bnd hlen (by omega)), ?_⟩
        refine hnx3 _ _ ⟨some (.int (1 + (x : Int))), ?_, rfl⟩
        have e2 : i + 1 - (x + 1) = i - x := by omega
        have e3 : 1 + x = x + 1 := by omega
        simp only [M83.sumTo, e2, e3]
      · rintro ρ S2 ⟨e6, rfl, rfl⟩
        simp only [sSeq, sIf, sRet, sRetN, sSet, sExpr, sNext, sAug, sAugS, sAsg, sPar, sFldS, sFz, sRetZ, sRetZZ, sNever, sRaise, sWhile, sFor, sBreak, sCont, eVar, eC, eOp, eCB, lCB, eCBK, eTup, lDisp, lOp, lRep, eFr, eMu, eFld, eIf, eAnd, eOr, eNot, eNeg, unNeg, eChain, tBl, tTru, tAnd2, tOr2, tNot2, tYes2, aNil, aCons, eCall, eCallK, gN, gTup2, gsCons, gsNil, gSub2, iSeq, iRng, iRngB, iEnum2, iStr2, lLc, lLcR, eSl, lSl, oNo, oSome, eBM, lBM, eLenSet, eMeth, eMake, eMakeZ, endsOf, start2, List.map_cons, List.map_nil, List.length_cons, List.length_nil, Nat.reduceSub, Nat.reduceAdd, List.replicate_zero, List.replicate_succ, List.append_nil, List.cons_append, List.nil_append, List.getElem?_cons_zero, List.getElem?_cons_succ, List.set_cons_zero, List.set_cons_succ, Option.some.injEq, exists_eq_left', exists_eq_left, truOf_bl, Bool.not_true, Bool.not_false, if_true, if_false, Bool.false_eq_true, reduceIte, D.bl.injEq, D.int.injEq, D.str.injEq, D.tup.injEq, D.lst.injEq, D.ref.injEq, wipeD, List.cons.injEq, and_true, true_and, opAdd_int, opSub_int, opMul_int, opDiv_int, opMod_int, opPow_int, opLt_int, opLe_int, opGt_int, opGe_int, opAddI_int, opEq_int, opNe_int, opIsN_eq, opNotN_eq, isN_non, isN_int, isN_bl, isN_tup, isN_lst, isN_str, seqZ_lst, seqZ_tup, opIx_lst, opIx_tup, fLen_lst, fLen_tup, fSum_iD, fTuple_lst, fList_lst, fMin2_int, fMax2_int, exists_const, sup_sup, sup_get]
        refine R.fill ar (k := 2 + j) (by omega) (j := 1 + (i : Int)) (by omega) ?_ (by omega) (by omega) (by omega) fun S4 R5 => ?_
        · rw [show 2 + j = (1 + j) + 1 by omega, P_conv, tab_sum, intsD_len]
          congr 1
          omega
        · exact hnx2 _ _ ⟨_, _, _, rfl, R5⟩
    · rintro ρ S' ⟨e4, e5, e6, rfl, R⟩
      rw [show 2 + [D.int 2, D.int 3, D.int 4].length = w by rw [← hw]; rfl, rowsS_next] at R
      exact hnx _ _ ⟨_, _, _, _, rfl, R⟩
  · rintro ρ S' ⟨e3, e4, e5, e6, rfl, R⟩
    rw [intsD_len, show (most + 1 - 1).toNat + 1 = most.toNat + 1 by omega, rowsS_done] at R
    simp only [sSeq, sIf, sRet, sRetN, sSet, sExpr, sNext, sAug, sAugS, sAsg, sPar, sFldS, sFz, sRetZ, sRetZZ, sNever, sRaise, sWhile, sFor, sBreak, sCont, eVar, eC, eOp, eCB, lCB, eCBK, eTup, lDisp, lOp, lRep, eFr, eMu, eFld, eIf, eAnd, eOr, eNot, eNeg, unNeg, eChain, tBl, tTru, tAnd2, tOr2, tNot2, tYes2, aNil, aCons, eCall, eCallK, gN, gTup2, gsCons, gsNil, gSub2, iSeq, iRng, iRngB, iEnum2, iStr2, lLc, lLcR, eSl, lSl, oNo, oSome, eBM, lBM, eLenSet, eMeth, eMake, eMakeZ, endsOf, start2, List.map_cons, List.map_nil, List.length_cons, List.length_nil, Nat.reduceSub, Nat.reduceAdd, List.replicate_zero, List.replicate_succ, List.append_nil, List.cons_append, List.nil_append, List.getElem?_cons_zero, List.getElem?_cons_succ, List.set_cons_zero, List.set_cons_succ, Option.some.injEq, exists_eq_left', exists_eq_left, truOf_bl, Bool.not_true, Bool.not_false, if_true, if_false, Bool.false_eq_true, reduceIte, D.bl.injEq, D.int.injEq, D.str.injEq, D.tup.injEq, D.lst.injEq, D.ref.injEq, wipeD, List.cons.injEq, and_true, true_and, opAdd_int, opSub_int, opMul_int, opDiv_int, opMod_int, opPow_int, opLt_int, opLe_int, opGt_int, opGe_int, opAddI_int, opEq_int, opNe_int, opIsN_eq, opNotN_eq, isN_non, isN_int, isN_bl, isN_tup, isN_lst, isN_str, seqZ_lst, seqZ_tup, opIx_lst, opIx_tup, fLen_lst, fLen_tup, fSum_iD, fTuple_lst, fList_lst, fMin2_int, fMax2_int, exists_const, sup_sup, sup_get]
    refine ⟨p, es, rfl, R.at_, R.out (Q := fun ys S2 => Q (.lst ys) S2) ?_⟩
    subst hw
    exact q
/-! counts -/
theorem isRk_inv {d : D} (h : isRk d = true) : ∃ xs, d = rkD xs ∧ rkOk xs := by
  cases d with
  | tup xs =>
    simp only [isRk, Bool.and_eq_true, decide_eq_true_eq, List.all_eq_true] at h
    obtain ⟨h1, h2⟩ := h
    have : ∀ (l : List D), (∀ x ∈ l, isWh x (some 0) (some 200) = true) → ∃ ys, l = iD ys ∧ ∀ y ∈ ys, 0 ≤ y ∧ y ≤ 200 := fun l => by
      induction l with
      | nil => intro _; exact ⟨[], rfl, by simp⟩
      | cons a l ih =>
        intro h
        obtain ⟨ys, e, hy⟩ := ih fun x hx => h x (List.mem_cons_of_mem _ hx)
        have ha := h a List.mem_cons_self
        cases a with
        | int i =>
          simp [isWh] at ha
          exact ⟨i :: ys, by rw [e]; rfl, fun y hy' => by
            rcases List.mem_cons.mp hy' with rfl | h
            · exact ha
            · exact hy y h⟩
        | _ => simp [isWh] at ha
    obtain ⟨ys, rfl, hy⟩ := this xs h2
    exact ⟨ys, rfl, by rw [iD_len] at h1; exact h1, hy⟩
  | _ => simp [isRk] at h
theorem isWh_inv {d : D} {n : Int} (h : isWh d (some 0) (some n) = true) : ∃ i, d = .int i ∧ 0 ≤ i ∧ i ≤ n := by
  cases d with
  | int i => simp [isWh] at h; exact ⟨i, rfl, h⟩
  | _ => simp [isWh] at h
def sp_ways : Sp2 := fun ds S Q E => ∃ ns n w m t, ds = [.lst (frz ns n w), .int m, .int t] ∧ 0 ≤ m ∧ 0 ≤ t ∧ t < (n : Int) ∧ (m < (w : Int) ∨ P ns m.toNat t.toNat = 0) ∧ Q (.int (P ns m.toNat t.toNat)) S
theorem s_ways : ∀ ds S Q E, sp_ways ds S Q E → r_row_ways (endsOf Q E) (start2 N_row_ways ds) S := by
  rintro _ S Q E ⟨ns, n, w, m, t, rfl, m0, t0, t1, hm, q⟩
  unfold r_row_ways
  simp only [sSeq, sIf, sRet, sRetN, sSet, sExpr, sNext, sAug, sAugS, sAsg, sPar, sFldS, sFz, sRetZ, sRetZZ, sNever, sRaise, sWhile, sFor, sBreak, sCont, eVar, eC, eOp, eCB, lCB, eCBK, eTup, lDisp, lOp, lRep, eFr, eMu, eFld, eIf, eAnd, eOr, eNot, eNeg, unNeg, eChain, tBl, tTru, tAnd2, tOr2, tNot2, tYes2, aNil, aCons, eCall, eCallK, gN, gTup2, gsCons, gsNil, gSub2, iSeq, iRng, iRngB, iEnum2, iStr2, lLc, lLcR, eSl, lSl, oNo, oSome, eBM, lBM, eLenSet, eMeth, eMake, eMakeZ, endsOf, start2, List.map_cons, List.map_nil, List.length_cons, List.length_nil, Nat.reduceSub, Nat.reduceAdd, List.replicate_zero, List.replicate_succ, List.append_nil, List.cons_append, List.nil_append, List.getElem?_cons_zero, List.getElem?_cons_succ, List.set_cons_zero, List.set_cons_succ, Option.some.injEq, exists_eq_left', exists_eq_left, truOf_bl, Bool.not_true, Bool.not_false, if_true, if_false, Bool.false_eq_true, reduceIte, D.bl.injEq, D.int.injEq, D.str.injEq, D.tup.injEq, D.lst.injEq, D.ref.injEq, wipeD, List.cons.injEq, and_true, true_and, opAdd_int, opSub_int, opMul_int, opDiv_int, opMod_int, opPow_int, opLt_int, opLe_int, opGt_int, opGe_int, opAddI_int, opEq_int, opNe_int, opIsN_eq, opNotN_eq, isN_non, isN_int, isN_bl, isN_tup, isN_lst, isN_str, seqZ_lst, seqZ_tup, opIx_lst, opIx_tup, fLen_lst, fLen_tup, fSum_iD, fTuple_lst, fList_lst, fMin2_int, fMax2_int, exists_const, sup_sup, sup_get, frz_len]
  by_cases h : m < (w : Int)
  · simp only [h, decide_true, if_true]
    refine ⟨_, atI_get m0 (frz_get (by omega)), ?_⟩
    rw [opIx_lst]
    exact ⟨_, at_iD (j := t.toNat) (by omega) (by omega), q⟩
  · simp only [h, decide_false, Bool.false_eq_true, if_false]
    rcases hm with hm | hm
    · exact absurd hm h
    · rw [hm] at q; exact q
theorem maxOr_ge {xs : List Int} (h : ∀ x ∈ xs, 0 ≤ x ∧ x ≤ 200) : 0 ≤ maxOr 0 xs ∧ maxOr 0 xs ≤ 200 ∧ ∀ x ∈ xs, x ≤ maxOr 0 xs := by
  have key : ∀ (ns : List Int) (n : Int), 0 ≤ n → n ≤ 200 → (∀ x ∈ ns, 0 ≤ x ∧ x ≤ 200) → 0 ≤ ns.foldl max n ∧ ns.foldl max n ≤ 200 ∧ n ≤ ns.foldl max n ∧ ∀ x ∈ ns, x ≤ ns.foldl max n := fun ns => by
    induction ns with
    | nil => intro n h1 h2 _; simp; omega
    | cons a ns ih =>
      intro n h1 h2 hx
      simp only [List.foldl_cons]
      have ha := hx a List.mem_cons_self
      have := ih (max n a) (by omega) (by omega) fun x h => hx x (List.mem_cons_of_mem _ h)
      refine ⟨this.1, this.2.1, by omega, fun x hx' => ?_⟩
      rcases List.mem_cons.mp hx' with rfl | h
      · omega
      · exact this.2.2.2 x h
  cases xs with
  | nil => simp [maxOr]
  | cons a xs =>
    have ha := h a List.mem_cons_self
    have := key xs a ha.1 ha.2 fun x hx => h x (List.mem_cons_of_mem _ hx)
    refine ⟨this.1, this.2.1, fun x hx => ?_⟩
    rcases List.mem_cons.mp hx with rfl | h
    · exact this.2.2.1
    · exact this.2.2.2 x h
theorem fMaxD_rk {xs : List Int} {m : Int} {S : Sto} {Q : QK} : fMaxD [rkD xs] [.int m] S Q = Q (.int (maxOr m xs)) S := by
  simp only [fMaxD, eq_iff_iff]
  constructor
  · rintro ⟨d, ys, m', ns, e1, e2, h1, h2, q⟩
    simp only [List.cons.injEq, and_true, D.int.injEq] at e1 e2
    subst e1; subst e2
    cases h1
    rw [intsOf_iD] at h2; cases h2; exact q
  · intro q; exact ⟨_, _, _, xs, rfl, rfl, rfl, intsOf_iD xs, q⟩
/-- the sums over a rack -/
theorem ways_sum {ns xs : List Int} {n w : Nat} {t : Int} {ρ : Rho} {i : Nat} {S : Sto} {Q : List D → Sto → Prop} (hr : rkOk xs) (t0 : 0 ≤ t) (t1 : t < (n : Int)) (hw : ∀ x ∈ xs, x < (w : Int) ∨ (n : Int) ≤ w) (te : TE2)
    (ht : ∀ x, 0 ≤ x → (x < (w : Int) ∨ P ns x.toNat t.toNat = 0) → ∀ K : QK, K (.int (P ns x.toNat t.toNat)) S → te (ρ.set i (some (.int x))) S K noE)
    (q : Q (iD (xs.map fun x => P ns x.toNat t.toNat)) S) : lcGo (gN i) tYes2 te ρ Q (iD xs) [] S := by
  refine lcGo_map (fun d => match d with | .int m => .int (P ns m.toNat t.toNat) | _ => .non) (fun d hd K k => ?_) (by rw [iD_len, sizeLine_eq]; have := hr.1; omega) ?_
  · simp only [iD, List.mem_map] at hd
    obtain ⟨x, hx, rfl⟩ := hd
    have hx2 := hr.2 x hx
    refine ht x hx2.1 ?_ K k
    by_cases h : x < (w : Int)
    · exact .inl h
    · right
      rcases hw x hx with h2 | h2
      · omega
      · exact P_low ns _ _ (by omega)
  · have e : (iD xs).map (fun d => match d with | .int m => D.int (P ns m.toNat t.toNat) | _ => .non) = iD (xs.map fun x => P ns x.toNat t.toNat) := by simp [iD]
    rw [e]; exact q
abbrev nsOf (ms : List (Str × Int)) : List Int := ms.map (·.2)
def sp_count (C CR CN : Addr) : Sp2 := fun ds S Q E => ∃ ms dr dz, ds = [kindD C ms, dr, dz] ∧ mksOk ms ∧ okR S dr ∧ (∃ m, clsOf S dz = some m) ∧ (isRk dr = false → E ⟨.ref CR, false, [], []⟩ S) ∧ (isRk dr = true → isWh dz (some 0) (some 60) = false → E ⟨.ref CN, false, [], []⟩ S) ∧
  ∀ xs n, dr = rkD xs → rkOk xs → dz = .int n → 0 ≤ n → n ≤ 60 → Q (.int (cnt (nsOf ms) xs n.toNat)) S
theorem s_count (C CR CN : Addr) : ∀ ds S Q E, sp_count C CR CN ds S Q E → r_count_to sp_ways (sp_tree C) (sp_sure_size CN) (sp_rackX CR) (endsOf Q E) (start2 N_count_to ds) S := by
  rintro _ S Q E ⟨ms, dr, dz, rfl, hm, hr, ⟨mz, hz⟩, q1, q2, q3⟩
  unfold r_count_to
  simp only [sSeq, sIf, sRet, sRetN, sSet, sExpr, sNext, sAug, sAugS, sAsg, sPar, sFldS, sFz, sRetZ, sRetZZ, sNever, sRaise, sWhile, sFor, sBreak, sCont, eVar, eC, eOp, eCB, lCB, eCBK, eTup, lDisp, lOp, lRep, eFr, eMu, eFld, eIf, eAnd, eOr, eNot, eNeg, unNeg, eChain, tBl, tTru, tAnd2, tOr2, tNot2, tYes2, aNil, aCons, eCall, eCallK, gN, gTup2, gsCons, gsNil, gSub2, iSeq, iRng, iRngB, iEnum2, iStr2, lLc, lLcR, eSl, lSl, oNo, oSome, eBM, lBM, eLenSet, eMeth, eMake, eMakeZ, endsOf, start2, List.map_cons, List.map_nil, List.length_cons, List.length_nil, Nat.reduceSub, Nat.reduceAdd, List.replicate_zero, List.replicate_succ, List.append_nil, List.cons_append, List.nil_append, List.getElem?_cons_zero, List.getElem?_cons_succ, List.set_cons_zero, List.set_cons_succ, Option.some.injEq, exists_eq_left', exists_eq_left, truOf_bl, Bool.not_true, Bool.not_false, if_true, if_false, Bool.false_eq_true, reduceIte, D.bl.injEq, D.int.injEq, D.str.injEq, D.tup.injEq, D.lst.injEq, D.ref.injEq, wipeD, List.cons.injEq, and_true, true_and, opAdd_int, opSub_int, opMul_int, opDiv_int, opMod_int, opPow_int, opLt_int, opLe_int, opGt_int, opGe_int, opAddI_int, opEq_int, opNe_int, opIsN_eq, opNotN_eq, isN_non, isN_int, isN_bl, isN_tup, isN_lst, isN_str, seqZ_lst, seqZ_tup, opIx_lst, opIx_tup, fLen_lst, fLen_tup, fSum_iD, fTuple_lst, fList_lst, fMin2_int, fMax2_int, exists_const, sup_sup, sup_get]
  refine ⟨dr, rfl, hr, fun k1 => ?_, q1⟩
  refine ⟨dz, mz, rfl, hz, fun k2 => ?_, q2 k1⟩
  obtain ⟨xs, rfl, hx⟩ := isRk_inv k1
  obtain ⟨n, rfl, n0, n1⟩ := isWh_inv k2
  have q4 := q3 xs n rfl hx rfl n0 n1
  obtain ⟨w0, w1, w2⟩ := maxOr_ge hx.2
  rw [fMaxD_rk]
  refine ⟨ms, n, _, rfl, hm, n0, n1, w0, w1, fun w hw hww => ?_⟩
  simp only [sSeq, sIf, sRet, sRetN, sSet, sExpr, sNext, sAug, sAugS, sAsg, sPar, sFldS, sFz, sRetZ, sRetZZ, sNever, sRaise, sWhile, sFor, sBreak, sCont, eVar, eC, eOp, eCB, lCB, eCBK, eTup, lDisp, lOp, lRep, eFr, eMu, eFld, eIf, eAnd, eOr, eNot, eNeg, unNeg, eChain, tBl, tTru, tAnd2, tOr2, tNot2, tYes2, aNil, aCons, eCall, eCallK, gN, gTup2, gsCons, gsNil, gSub2, iSeq, iRng, iRngB, iEnum2, iStr2, lLc, lLcR, eSl, lSl, oNo, oSome, eBM, lBM, eLenSet, eMeth, eMake, eMakeZ, endsOf, start2, List.map_cons, List.map_nil, List.length_cons, List.length_nil, Nat.reduceSub, Nat.reduceAdd, List.replicate_zero, List.replicate_succ, List.append_nil, List.cons_append, List.nil_append, List.getElem?_cons_zero, List.getElem?_cons_succ, List.set_cons_zero, List.set_cons_succ, Option.some.injEq, exists_eq_left', exists_eq_left, truOf_bl, Bool.not_true, Bool.not_false, if_true, if_false, Bool.false_eq_true, reduceIte, D.bl.injEq, D.int.injEq, D.str.injEq, D.tup.injEq, D.lst.injEq, D.ref.injEq, wipeD, List.cons.injEq, and_true, true_and, opAdd_int, opSub_int, opMul_int, opDiv_int, opMod_int, opPow_int, opLt_int, opLe_int, opGt_int, opGe_int, opAddI_int, opEq_int, opNe_int, opIsN_eq, opNotN_eq, isN_non, isN_int, isN_bl, isN_tup, isN_lst, isN_str, seqZ_lst, seqZ_tup, opIx_lst, opIx_tup, fLen_lst, fLen_tup, fSum_iD, fTuple_lst, fList_lst, fMin2_int, fMax2_int, exists_const, sup_sup, sup_get]
  refine ⟨by omega, by omega, ?_⟩
  refine forGo_inv (fun i ρ S' => ∃ e5, ρ = [some (kindD C ms), some (rkD xs), some (.int n), some (.lst (frz (nsOf ms) (n.toNat + 1) w)), some (.int (sumTo i fun t => lsum xs fun m => P (nsOf ms) m.toNat t)), e5, none] ∧ S' = S) ?_ ⟨none, rfl, rfl⟩ ?_
  · rintro i d ρ S' nx bk ct hd ⟨e5, rfl, rfl⟩ hnx _ _
    obtain ⟨hi, rfl⟩ := intsD_get hd
    simp only [sSeq, sIf, sRet, sRetN, sSet, sExpr, sNext, sAug, sAugS, sAsg, sPar, sFldS, sFz, sRetZ, sRetZZ, sNever, sRaise, sWhile, sFor, sBreak, sCont, eVar, eC, eOp, eCB, lCB, eCBK, eTup, lDisp, lOp, lRep, eFr, eMu, eFld, eIf, eAnd, eOr, eNot, eNeg, unNeg, eChain, tBl, tTru, tAnd2, tOr2, tNot2, tYes2, aNil, aCons, eCall, eCallK, gN, gTup2, gsCons, gsNil, gSub2, iSeq, iRng, iRngB, iEnum2, iStr2, lLc, lLcR, eSl, lSl, oNo, oSome, eBM, lBM, eLenSet, eMeth, eMake, eMakeZ, endsOf, start2, List.map_cons, List.map_nil, List.length_cons, List.length_nil, Nat.reduceSub, Nat.reduceAdd, List.replicate_zero, List.replicate_succ, List.append_nil, List.cons_append, List.nil_append, List.getElem?_cons_zero, List.getElem?_cons_succ, List.set_cons_zero, List.set_cons_succ, Option.some.injEq, exists_eq_left', exists_eq_left, truOf_bl, Bool.not_true, Bool.not_false, if_true, if_false, Bool.false_eq_true, reduceIte, D.bl.injEq, D.int.injEq, D.str.injEq, D.tup.injEq, D.lst.injEq, D.ref.injEq, wipeD, List.cons.injEq, and_true, true_and, opAdd_int, opSub_int, opMul_int, opDiv_int, opMod_int, opPow_int, opLt_int, opLe_int, opGt_int, opGe_int, opAddI_int, opEq_int, opNe_int, opIsN_eq, opNotN_eq, isN_non, isN_int, isN_bl, isN_tup, isN_lst, isN_str, seqZ_lst, seqZ_tup, opIx_lst, opIx_tup, fLen_lst, fLen_tup, fSum_iD, fTuple_lst, fList_lst, fMin2_int, fMax2_int, exists_const, sup_sup, sup_get]
    refine ⟨iD xs, rfl, ?_⟩
    refine ways_sum (ns := nsOf ms) (n := n.toNat + 1) (w := w) (t := 0 + (i : Int)) hx (by omega) (by omega) (fun x hx' => ?_) _ (fun x x0 hxw K k => ?_) ?_
    · have := w2 x hx'; omega
    · simp only [sSeq, sIf, sRet, sRetN, sSet, sExpr, sNext, sAug, sAugS, sAsg, sPar, sFldS, sFz, sRetZ, sRetZZ, sNever, sRaise, sWhile, sFor, sBreak, sCont, eVar, eC, eOp, eCB, lCB, eCBK, eTup, lDisp, lOp, lRep, eFr, eMu, eFld, eIf, eAnd, eOr, eNot, eNeg, unNeg, eChain, tBl, tTru, tAnd2, tOr2, tNot2, tYes2, aNil, aCons, eCall, eCallK, gN, gTup2, gsCons, gsNil, gSub2, iSeq, iRng, iRngB, iEnum2, iStr2, lLc, lLcR, eSl, lSl, oNo, oSome, eBM, lBM, eLenSet, eMeth, eMake, eMakeZ, endsOf, start2, List.map_cons, List.map_nil, List.length_cons, List.length_nil, Nat.reduceSub, Nat.reduceAdd, List.replicate_zero, List.replicate_succ, List.append_nil, List.cons_append, List.nil_append, List.getElem?_cons_zero, List.getElem?_cons_succ, List.set_cons_zero, List.set_cons_succ, Option.some.injEq, exists_eq_left', exists_eq_left, truOf_bl, Bool.not_true, Bool.not_false, if_true, if_false, Bool.false_eq_true, reduceIte, D.bl.injEq, D.int.injEq, D.str.injEq, D.tup.injEq, D.lst.injEq, D.ref.injEq, wipeD, List.cons.injEq, and_true, true_and, opAdd_int, opSub_int, opMul_int, opDiv_int, opMod_int, opPow_int, opLt_int, opLe_int, opGt_int, opGe_int, opAddI_int, opEq_int, opNe_int, opIsN_eq, opNotN_eq, isN_non, isN_int, isN_bl, isN_tup, isN_lst, isN_str, seqZ_lst, seqZ_tup, opIx_lst, opIx_tup, fLen_lst, fLen_tup, fSum_iD, fTuple_lst, fList_lst, fMin2_int, fMax2_int, exists_const, sup_sup, sup_get]
      exact ⟨nsOf ms, n.toNat + 1, w, x, _, rfl, x0, by omega, by omega, hxw, k⟩
    · simp only [sSeq, sIf, sRet, sRetN, sSet, sExpr, sNext, sAug, sAugS, sAsg, sPar, sFldS, sFz, sRetZ, sRetZZ, sNever, sRaise, sWhile, sFor, sBreak, sCont, eVar, eC, eOp, eCB, lCB, eCBK, eTup, lDisp, lOp, lRep, eFr, eMu, eFld, eIf, eAnd, eOr, eNot, eNeg, unNeg, eChain, tBl, tTru, tAnd2, tOr2, tNot2, tYes2, aNil, aCons, eCall, eCallK, gN, gTup2, gsCons, gsNil, gSub2, iSeq, iRng, iRngB, iEnum2, iStr2, lLc, lLcR, eSl, lSl, oNo, oSome, eBM, lBM, eLenSet, eMeth, eMake, eMakeZ, endsOf, start2, List.map_cons, List.map_nil, List.length_cons, List.length_nil, Nat.reduceSub, Nat.reduceAdd, List.replicate_zero, List.replicate_succ, List.append_nil, List.cons_append, List.nil_append, List.getElem?_cons_zero, List.getElem?_cons_succ, List.set_cons_zero, List.set_cons_succ, Option.some.injEq, exists_eq_left', exists_eq_left, truOf_bl, Bool.not_true, Bool.not_false, if_true, if_false, Bool.false_eq_true, reduceIte, D.bl.injEq, D.int.injEq, D.str.injEq, D.tup.injEq, D.lst.injEq, D.ref.injEq, wipeD, List.cons.injEq, and_true, true_and, opAdd_int, opSub_int, opMul_int, opDiv_int, opMod_int, opPow_int, opLt_int, opLe_int, opGt_int, opGe_int, opAddI_int, opEq_int, opNe_int, opIsN_eq, opNotN_eq, isN_non, isN_int, isN_bl, isN_tup, isN_lst, isN_str, seqZ_lst, seqZ_tup, opIx_lst, opIx_tup, fLen_lst, fLen_tup, fSum_iD, fTuple_lst, fList_lst, fMin2_int, fMax2_int, exists_const, sup_sup, sup_get]
      refine hnx _ _ ⟨some (.int (0 + (i : Int))), ?_, rfl⟩
      rw [show ((0 : Int) + (i : Int)).toNat = i by omega]
      rfl
  · rintro ρ S' ⟨e5, rfl, rfl⟩
    rw [intsD_len, show (n + 1).toNat = n.toNat + 1 by omega]
    simp only [sSeq, sIf, sRet, sRetN, sSet, sExpr, sNext, sAug, sAugS, sAsg, sPar, sFldS, sFz, sRetZ, sRetZZ, sNever, sRaise, sWhile, sFor, sBreak, sCont, eVar, eC, eOp, eCB, lCB, eCBK, eTup, lDisp, lOp, lRep, eFr, eMu, eFld, eIf, eAnd, eOr, eNot, eNeg, unNeg, eChain, tBl, tTru, tAnd2, tOr2, tNot2, tYes2, aNil, aCons, eCall, eCallK, gN, gTup2, gsCons, gsNil, gSub2, iSeq, iRng, iRngB, iEnum2, iStr2, lLc, lLcR, eSl, lSl, oNo, oSome, eBM, lBM, eLenSet, eMeth, eMake, eMakeZ, endsOf, start2, List.map_cons, List.map_nil, List.length_cons, List.length_nil, Nat.reduceSub, Nat.reduceAdd, List.replicate_zero, List.replicate_succ, List.append_nil, List.cons_append, List.nil_append, List.getElem?_cons_zero, List.getElem?_cons_succ, List.set_cons_zero, List.set_cons_succ, Option.some.injEq, exists_eq_left', exists_eq_left, truOf_bl, Bool.not_true, Bool.not_false, if_true, if_false, Bool.false_eq_true, reduceIte, D.bl.injEq, D.int.injEq, D.str.injEq, D.tup.injEq, D.lst.injEq, D.ref.injEq, wipeD, List.cons.injEq, and_true, true_and, opAdd_int, opSub_int, opMul_int, opDiv_int, opMod_int, opPow_int, opLt_int, opLe_int, opGt_int, opGe_int, opAddI_int, opEq_int, opNe_int, opIsN_eq, opNotN_eq, isN_non, isN_int, isN_bl, isN_tup, isN_lst, isN_str, seqZ_lst, seqZ_tup, opIx_lst, opIx_tup, fLen_lst, fLen_tup, fSum_iD, fTuple_lst, fList_lst, fMin2_int, fMax2_int, exists_const, sup_sup, sup_get]
    exact q4
def sp_rrows (C : Addr) : Sp2 := fun ds S Q E => ∃ ms xs n, ds = [kindD C ms, rkD xs, .int n] ∧ mksOk ms ∧ rkOk xs ∧ 0 ≤ n ∧ n ≤ 60 ∧ ∀ w : Nat, 2 ≤ w → (n < (w : Int) ∨ ∀ x ∈ xs, x < (w : Int)) → Q (.lst (frz (nsOf ms) (n.toNat + 1) w)) S
theorem s_rrows (C : Addr) : ∀ ds S Q E, sp_rrows C ds S Q E → r_rack_rows (sp_tree C) (endsOf Q E) (start2 N_rack_rows ds) S := by
  rintro _ S Q E ⟨ms, xs, n, rfl, hm, hx, n0, n1, q⟩
  obtain ⟨w0, w1, w2⟩ := maxOr_ge hx.2
  unfold r_rack_rows
  simp only [sSeq, sIf, sRet, sRetN, sSet, sExpr, sNext, sAug, sAugS, sAsg, sPar, sFldS, sFz, sRetZ, sRetZZ, sNever, sRaise, sWhile, sFor, sBreak, sCont, eVar, eC, eOp, eCB, lCB, eCBK, eTup, lDisp, lOp, lRep, eFr, eMu, eFld, eIf, eAnd, eOr, eNot, eNeg, unNeg, eChain, tBl, tTru, tAnd2, tOr2, tNot2, tYes2, aNil, aCons, eCall, eCallK, gN, gTup2, gsCons, gsNil, gSub2, iSeq, iRng, iRngB, iEnum2, iStr2, lLc, lLcR, eSl, lSl, oNo, oSome, eBM, lBM, eLenSet, eMeth, eMake, eMakeZ, endsOf, start2, List.map_cons, List.map_nil, List.length_cons, List.length_nil, Nat.reduceSub, Nat.reduceAdd, List.replicate_zero, List.replicate_succ, List.append_nil, List.cons_append, List.nil_append, List.getElem?_cons_zero, List.getElem?_cons_succ, List.set_cons_zero, List.set_cons_succ, Option.some.injEq, exists_eq_left', exists_eq_left, truOf_bl, Bool.not_true, Bool.not_false, if_true, if_false, Bool.false_eq_true, reduceIte, D.bl.injEq, D.int.injEq, D.str.injEq, D.tup.injEq, D.lst.injEq, D.ref.injEq, wipeD, List.cons.injEq, and_true, true_and, opAdd_int, opSub_int, opMul_int, opDiv_int, opMod_int, opPow_int, opLt_int, opLe_int, opGt_int, opGe_int, opAddI_int, opEq_int, opNe_int, opIsN_eq, opNotN_eq, isN_non, isN_int, isN_bl, isN_tup, isN_lst, isN_str, seqZ_lst, seqZ_tup, opIx_lst, opIx_tup, fLen_lst, fLen_tup, fSum_iD, fTuple_lst, fList_lst, fMin2_int, fMax2_int, exists_const, sup_sup, sup_get]
  rw [fMaxD_rk]
  exact ⟨ms, n, _, rfl, hm, n0, n1, w0, w1, fun w hw hww => q w hw (hww.imp id fun h x hx' => by have := w2 x hx'; omega)⟩
def sp_many (C : Addr) : Sp2 := fun ds S Q E => ∃ ms xs n, ds = [kindD C ms, rkD xs, .int n] ∧ mksOk ms ∧ rkOk xs ∧ 0 ≤ n ∧ n ≤ 60 ∧ Q (.int (lsum xs fun m => P (nsOf ms) m.toNat n.toNat)) S
theorem s_many (C CR CN : Addr) : ∀ ds S Q E, sp_many C ds S Q E → r_how_many_things sp_ways (sp_rrows C) (sp_sure_size CN) (sp_rackX CR) (endsOf Q E) (start2 N_how_many_things ds) S := by
  rintro _ S Q E ⟨ms, xs, n, rfl, hm, hx, n0, n1, q⟩
  unfold r_how_many_things
  simp only [sSeq, sIf, sRet, sRetN, sSet, sExpr, sNext, sAug, sAugS, sAsg, sPar, sFldS, sFz, sRetZ, sRetZZ, sNever, sRaise, sWhile, sFor, sBreak, sCont, eVar, eC, eOp, eCB, lCB, eCBK, eTup, lDisp, lOp, lRep, eFr, eMu, eFld, eIf, eAnd, eOr, eNot, eNeg, unNeg, eChain, tBl, tTru, tAnd2, tOr2, tNot2, tYes2, aNil, aCons, eCall, eCallK, gN, gTup2, gsCons, gsNil, gSub2, iSeq, iRng, iRngB, iEnum2, iStr2, lLc, lLcR, eSl, lSl, oNo, oSome, eBM, lBM, eLenSet, eMeth, eMake, eMakeZ, endsOf, start2, List.map_cons, List.map_nil, List.length_cons, List.length_nil, Nat.reduceSub, Nat.reduceAdd, List.replicate_zero, List.replicate_succ, List.append_nil, List.cons_append, List.nil_append, List.getElem?_cons_zero, List.getElem?_cons_succ, List.set_cons_zero, List.set_cons_succ, Option.some.injEq, exists_eq_left', exists_eq_left, truOf_bl, Bool.not_true, Bool.not_false, if_true, if_false, Bool.false_eq_true, reduceIte, D.bl.injEq, D.int.injEq, D.str.injEq, D.tup.injEq, D.lst.injEq, D.ref.injEq, wipeD, List.cons.injEq, and_true, true_and, opAdd_int, opSub_int, opMul_int, opDiv_int, opMod_int, opPow_int, opLt_int, opLe_int, opGt_int, opGe_int, opAddI_int, opEq_int, opNe_int, opIsN_eq, opNotN_eq, isN_non, isN_int, isN_bl, isN_tup, isN_lst, isN_str, seqZ_lst, seqZ_tup, opIx_lst, opIx_tup, fLen_lst, fLen_tup, fSum_iD, fTuple_lst, fList_lst, fMin2_int, fMax2_int, exists_const, sup_sup, sup_get]
  refine ⟨rkD xs, rfl, rk_ok hx, fun _ => ?_, fun h => by rw [rk_is hx] at h; cases h⟩
  have hz : isWh (.int n) (some 0) (some 60) = true := by simp [isWh, n0, n1]
  refine ⟨.int n, "int", rfl, rfl, fun _ => ?_, fun h => by rw [hz] at h; cases h⟩
  refine ⟨ms, xs, n, rfl, hm, hx, n0, n1, fun w hw hww => ?_⟩
  simp only [sSeq, sIf, sRet, sRetN, sSet, sExpr, sNext, sAug, sAugS, sAsg, sPar, sFldS, sFz, sRetZ, sRetZZ, sNever, sRaise, sWhile, sFor, sBreak, sCont, eVar, eC, eOp, eCB, lCB, eCBK, eTup, lDisp, lOp, lRep, eFr, eMu, eFld, eIf, eAnd, eOr, eNot, eNeg, unNeg, eChain, tBl, tTru, tAnd2, tOr2, tNot2, tYes2, aNil, aCons, eCall, eCallK, gN, gTup2, gsCons, gsNil, gSub2, iSeq, iRng, iRngB, iEnum2, iStr2, lLc, lLcR, eSl, lSl, oNo, oSome, eBM, lBM, eLenSet, eMeth, eMake, eMakeZ, endsOf, start2, List.map_cons, List.map_nil, List.length_cons, List.length_nil, Nat.reduceSub, Nat.reduceAdd, List.replicate_zero, List.replicate_succ, List.append_nil, List.cons_append, List.nil_append, List.getElem?_cons_zero, List.getElem?_cons_succ, List.set_cons_zero, List.set_cons_succ, Option.some.injEq, exists_eq_left', exists_eq_left, truOf_bl, Bool.not_true, Bool.not_false, if_true, if_false, Bool.false_eq_true, reduceIte, D.bl.injEq, D.int.injEq, D.str.injEq, D.tup.injEq, D.lst.injEq, D.ref.injEq, wipeD, List.cons.injEq, and_true, true_and, opAdd_int, opSub_int, opMul_int, opDiv_int, opMod_int, opPow_int, opLt_int, opLe_int, opGt_int, opGe_int, opAddI_int, opEq_int, opNe_int, opIsN_eq, opNotN_eq, isN_non, isN_int, isN_bl, isN_tup, isN_lst, isN_str, seqZ_lst, seqZ_tup, opIx_lst, opIx_tup, fLen_lst, fLen_tup, fSum_iD, fTuple_lst, fList_lst, fMin2_int, fMax2_int, exists_const, sup_sup, sup_get]
  refine ⟨iD xs, rfl, ?_⟩
  refine ways_sum (ns := nsOf ms) (n := n.toNat + 1) (w := w) (t := n) hx n0 (by omega) (fun x hx' => ?_) _ (fun x x0 hxw K k => ?_) ?_
  · rcases hww with h | h
    · right; omega
    · left; exact h x hx'
  · simp only [sSeq, sIf, sRet, sRetN, sSet, sExpr, sNext, sAug, sAugS, sAsg, sPar, sFldS, sFz, sRetZ, sRetZZ, sNever, sRaise, sWhile, sFor, sBreak, sCont, eVar, eC, eOp, eCB, lCB, eCBK, eTup, lDisp, lOp, lRep, eFr, eMu, eFld, eIf, eAnd, eOr, eNot, eNeg, unNeg, eChain, tBl, tTru, tAnd2, tOr2, tNot2, tYes2, aNil, aCons, eCall, eCallK, gN, gTup2, gsCons, gsNil, gSub2, iSeq, iRng, iRngB, iEnum2, iStr2, lLc, lLcR, eSl, lSl, oNo, oSome, eBM, lBM, eLenSet, eMeth, eMake, eMakeZ, endsOf, start2, List.map_cons, List.map_nil, List.length_cons, List.length_nil, Nat.reduceSub, Nat.reduceAdd, List.replicate_zero, List.replicate_succ, List.append_nil, List.cons_append, List.nil_append, List.getElem?_cons_zero, List.getElem?_cons_succ, List.set_cons_zero, List.set_cons_succ, Option.some.injEq, exists_eq_left', exists_eq_left, truOf_bl, Bool.not_true, Bool.not_false, if_true, if_false, Bool.false_eq_true, reduceIte, D.bl.injEq, D.int.injEq, D.str.injEq, D.tup.injEq, D.lst.injEq, D.ref.injEq, wipeD, List.cons.injEq, and_true, true_and, opAdd_int, opSub_int, opMul_int, opDiv_int, opMod_int, opPow_int, opLt_int, opLe_int, opGt_int, opGe_int, opAddI_int, opEq_int, opNe_int, opIsN_eq, opNotN_eq, isN_non, isN_int, isN_bl, isN_tup, isN_lst, isN_str, seqZ_lst, seqZ_tup, opIx_lst, opIx_tup, fLen_lst, fLen_tup, fSum_iD, fTuple_lst, fList_lst, fMin2_int, fMax2_int, exists_const, sup_sup, sup_get]
    exact ⟨nsOf ms, n.toNat + 1, w, x, _, rfl, x0, n0, by omega, hxw, k⟩
  · simp only [sSeq, sIf, sRet, sRetN, sSet, sExpr, sNext, sAug, sAugS, sAsg, sPar, sFldS, sFz, sRetZ, sRetZZ, sNever, sRaise, sWhile, sFor, sBreak, sCont, eVar, eC, eOp, eCB, lCB, eCBK, eTup, lDisp, lOp, lRep, eFr, eMu, eFld, eIf, eAnd, eOr, eNot, eNeg, unNeg, eChain, tBl, tTru, tAnd2, tOr2, tNot2, tYes2, aNil, aCons, eCall, eCallK, gN, gTup2, gsCons, gsNil, gSub2, iSeq, iRng, iRngB, iEnum2, iStr2, lLc, lLcR, eSl, lSl, oNo, oSome, eBM, lBM, eLenSet, eMeth, eMake, eMakeZ, endsOf, start2, List.map_cons, List.map_nil, List.length_cons, List.length_nil, Nat.reduceSub, Nat.reduceAdd, List.replicate_zero, List.replicate_succ, List.append_nil, List.cons_append, List.nil_append, List.getElem?_cons_zero, List.getElem?_cons_succ, List.set_cons_zero, List.set_cons_succ, Option.some.injEq, exists_eq_left', exists_eq_left, truOf_bl, Bool.not_true, Bool.not_false, if_true, if_false, Bool.false_eq_true, reduceIte, D.bl.injEq, D.int.injEq, D.str.injEq, D.tup.injEq, D.lst.injEq, D.ref.injEq, wipeD, List.cons.injEq, and_true, true_and, opAdd_int, opSub_int, opMul_int, opDiv_int, opMod_int, opPow_int, opLt_int, opLe_int, opGt_int, opGe_int, opAddI_int, opEq_int, opNe_int, opIsN_eq, opNotN_eq, isN_non, isN_int, isN_bl, isN_tup, isN_lst, isN_str, seqZ_lst, seqZ_tup, opIx_lst, opIx_tup, fLen_lst, fLen_tup, fSum_iD, fTuple_lst, fList_lst, fMin2_int, fMax2_int, exists_const, sup_sup, sup_get]
    exact q
def sp_due : Sp2 := fun ds S Q E => ∃ ns xs n, ds = [.lst (iD ns), rkD xs, .int n] ∧ nums5 ns ∧ rkOk xs ∧ 0 ≤ n ∧ n ≤ 60 ∧ Q (.int (cnt ns xs n.toNat)) S
theorem s_due : ∀ ds S Q E, sp_due ds S Q E → r__law_due sp_prod sp_rows (endsOf Q E) (start2 N__law_due ds) S := by
  rintro _ S Q E ⟨ns, xs, n, rfl, hns, hx, n0, n1, q⟩
  unfold r__law_due
  simp only [sSeq, sIf, sRet, sRetN, sSet, sExpr, sNext, sAug, sAugS, sAsg, sPar, sFldS, sFz, sRetZ, sRetZZ, sNever, sRaise, sWhile, sFor, sBreak, sCont, eVar, eC, eOp, eCB, lCB, eCBK, eTup, lDisp, lOp, lRep, eFr, eMu, eFld, eIf, eAnd, eOr, eNot, eNeg, unNeg, eChain, tBl, tTru, tAnd2, tOr2, tNot2, tYes2, aNil, aCons, eCall, eCallK, gN, gTup2, gsCons, gsNil, gSub2, iSeq, iRng, iRngB, iEnum2, iStr2, lLc, lLcR, eSl, lSl, oNo, oSome, eBM, lBM, eLenSet, eMeth, eMake, eMakeZ, endsOf, start2, List.map_cons, List.map_nil, List.length_cons, List.length_nil, Nat.reduceSub, Nat.reduceAdd, List.replicate_zero, List.replicate_succ, List.append_nil, List.cons_append, List.nil_append, List.getElem?_cons_zero, List.getElem?_cons_succ, List.set_cons_zero, List.set_cons_succ, Option.some.injEq, exists_eq_left', exists_eq_left, truOf_bl, Bool.not_true, Bool.not_false, if_true, if_false, Bool.false_eq_true, reduceIte, D.bl.injEq, D.int.injEq, D.str.injEq, D.tup.injEq, D.lst.injEq, D.ref.injEq, wipeD, List.cons.injEq, and_true, true_and, opAdd_int, opSub_int, opMul_int, opDiv_int, opMod_int, opPow_int, opLt_int, opLe_int, opGt_int, opGe_int, opAddI_int, opEq_int, opNe_int, opIsN_eq, opNotN_eq, isN_non, isN_int, isN_bl, isN_tup, isN_lst, isN_str, seqZ_lst, seqZ_tup, opIx_lst, opIx_tup, fLen_lst, fLen_tup, fSum_iD, fTuple_lst, fList_lst, fMin2_int, fMax2_int, exists_const, sup_sup, sup_get]
  refine ⟨ns, n, rfl, hns, n0, n1, ?_⟩
  simp only [sSeq, sIf, sRet, sRetN, sSet, sExpr, sNext, sAug, sAugS, sAsg, sPar, sFldS, sFz, sRetZ, sRetZZ, sNever, sRaise, sWhile, sFor, sBreak, sCont, eVar, eC, eOp, eCB, lCB, eCBK, eTup, lDisp, lOp, lRep, eFr, eMu, eFld, eIf, eAnd, eOr, eNot, eNeg, unNeg, eChain, tBl, tTru, tAnd2, tOr2, tNot2, tYes2, aNil, aCons, eCall, eCallK, gN, gTup2, gsCons, gsNil, gSub2, iSeq, iRng, iRngB, iEnum2, iStr2, lLc, lLcR, eSl, lSl, oNo, oSome, eBM, lBM, eLenSet, eMeth, eMake, eMakeZ, endsOf, start2, List.map_cons, List.map_nil, List.length_cons, List.length_nil, Nat.reduceSub, Nat.reduceAdd, List.replicate_zero, List.replicate_succ, List.append_nil, List.cons_append, List.nil_append, List.getElem?_cons_zero, List.getElem?_cons_succ, List.set_cons_zero, List.set_cons_succ, Option.some.injEq, exists_eq_left', exists_eq_left, truOf_bl, Bool.not_true, Bool.not_false, if_true, if_false, Bool.false_eq_true, reduceIte, D.bl.injEq, D.int.injEq, D.str.injEq, D.tup.injEq, D.lst.injEq, D.ref.injEq, wipeD, List.cons.injEq, and_true, true_and, opAdd_int, opSub_int, opMul_int, opDiv_int, opMod_int, opPow_int, opLt_int, opLe_int, opGt_int, opGe_int, opAddI_int, opEq_int, opNe_int, opIsN_eq, opNotN_eq, isN_non, isN_int, isN_bl, isN_tup, isN_lst, isN_str, seqZ_lst, seqZ_tup, opIx_lst, opIx_tup, fLen_lst, fLen_tup, fSum_iD, fTuple_lst, fList_lst, fMin2_int, fMax2_int, exists_const, sup_sup, sup_get]
  refine ⟨iD xs, rfl, ?_⟩
  refine forGo_inv (fun i ρ S' => ∃ e5 e6 e7, ρ = [some (.lst (iD ns)), some (rkD xs), some (.int n), some (.lst (frz ns (n.toNat + 1) 5)), some (.int (lsum (xs.take i) fun m => (tab (n.toNat + 1) (P ns m.toNat)).sum)), e5, e6, e7] ∧ S' = S) ?_ ⟨none, none, none, rfl, rfl⟩ ?_
  · rintro i d ρ S' nx bk ct hd ⟨e5, e6, e7, rfl, rfl⟩ hnx _ _
    rw [iD_get] at hd
    obtain ⟨x, hxi, rfl⟩ := Option.map_eq_some_iff.mp hd
    have hx2 := hx.2 x (List.mem_of_getElem? hxi)
    simp only [sSeq, sIf, sRet, sRetN, sSet, sExpr, sNext, sAug, sAugS, sAsg, sPar, sFldS, sFz, sRetZ, sRetZZ, sNever, sRaise, sWhile, sFor, sBreak, sCont, eVar, eC, eOp, eCB, lCB, eCBK, eTup, lDisp, lOp, lRep, eFr, eMu, eFld, eIf, eAnd, eOr, eNot, eNeg, unNeg, eChain, tBl, tTru, tAnd2, tOr2, tNot2, tYes2, aNil, aCons, eCall, eCallK, gN, gTup2, gsCons, gsNil, gSub2, iSeq, iRng, iRngB, iEnum2, iStr2, lLc, lLcR, eSl, lSl, oNo, oSome, eBM, lBM, eLenSet, eMeth, eMake, eMakeZ, endsOf, start2, List.map_cons, List.map_nil, List.length_cons, List.length_nil, Nat.reduceSub, Nat.reduceAdd, List.replicate_zero, List.replicate_succ, List.append_nil, List.cons_append, List.nil_append, List.getElem?_cons_zero, List.getElem?_cons_succ, List.set_cons_zero, List.set_cons_succ, Option.some.injEq, exists_eq_left', exists_eq_left, truOf_bl, Bool.not_true, Bool.not_false, if_true, if_false, Bool.false_eq_true, reduceIte, D.bl.injEq, D.int.injEq, D.str.injEq, D.tup.injEq, D.lst.injEq, D.ref.injEq, wipeD, List.cons.injEq, and_true, true_and, opAdd_int, opSub_int, opMul_int, opDiv_int, opMod_int, opPow_int, opLt_int, opLe_int, opGt_int, opGe_int, opAddI_int, opEq_int, opNe_int, opIsN_eq, opNotN_eq, isN_non, isN_int, isN_bl, isN_tup, isN_lst, isN_str, seqZ_lst, seqZ_tup, opIx_lst, opIx_tup, fLen_lst, fLen_tup, fSum_iD, fTuple_lst, fList_lst, fMin2_int, fMax2_int, exists_const, sup_sup, sup_get]
    refine ⟨_, atI_get (by decide) (frz_get (m := 0) (by omega)), ?_⟩
    refine ⟨by split <;> omega, by split <;> omega, ?_⟩
    refine forGo_inv (fun j ρ S2 => ∃ e7, ρ = [some (.lst (iD ns)), some (rkD xs), some (.int n), some (.lst (frz ns (n.toNat + 1) 5)), some (.int (lsum (xs.take i) fun m => (tab (n.toNat + 1) (P ns m.toNat)).sum)), some (.int x), some (.lst (iD (tab (n.toNat + 1) (P ns j)))), e7] ∧ S2 = S') ?_ ⟨e7, rfl, rfl⟩ ?_
    · rintro j d ρ S2 nx2 bk2 ct2 hd ⟨e7, rfl, rfl⟩ hnx2 _ _
      obtain ⟨hj, rfl⟩ := intsD_get hd
      simp only [sSeq, sIf, sRet, sRetN, sSet, sExpr, sNext, sAug, sAugS, sAsg, sPar, sFldS, sFz, sRetZ, sRetZZ, sNever, sRaise, sWhile, sFor, sBreak, sCont, eVar, eC, eOp, eCB, lCB, eCBK, eTup, lDisp, lOp, lRep, eFr, eMu, eFld, eIf, eAnd, eOr, eNot, eNeg, unNeg, eChain, tBl, tTru, tAnd2, tOr2, tNot2, tYes2, aNil, aCons, eCall, eCallK, gN, gTup2, gsCons, gsNil, gSub2, iSeq, iRng, iRngB, iEnum2, iStr2, lLc, lLcR, eSl, lSl, oNo, oSome, eBM, lBM, eLenSet, eMeth, eMake, eMakeZ, endsOf, start2, List.map_cons, List.map_nil, List.length_cons, List.length_nil, Nat.reduceSub, Nat.reduceAdd, List.replicate_zero, List.replicate_succ, List.append_nil, List.cons_append, List.nil_append, List.getElem?_cons_zero, List.getElem?_cons_succ, List.set_cons_zero, List.set_cons_succ, Option.some.injEq, exists_eq_left', exists_eq_left, truOf_bl, Bool.not_true, Bool.not_false, if_true, if_false, Bool.false_eq_true, reduceIte, D.bl.injEq, D.int.injEq, D.str.injEq, D.tup.injEq, D.lst.injEq, D.ref.injEq, wipeD, List.cons.injEq, and_true, true_and, opAdd_int, opSub_int, opMul_int, opDiv_int, opMod_int, opPow_int, opLt_int, opLe_int, opGt_int, opGe_int, opAddI_int, opEq_int, opNe_int, opIsN_eq, opNotN_eq, isN_non, isN_int, isN_bl, isN_tup, isN_lst, isN_str, seqZ_lst, seqZ_tup, opIx_lst, opIx_tup, fLen_lst, fLen_tup, fSum_iD, fTuple_lst, fList_lst, fMin2_int, fMax2_int, exists_const, sup_sup, sup_get]
      refine ⟨_, atI_get (by decide) (frz_get (m := 1) (by omega)), ?_⟩
      refine ⟨n.toNat + 1, P ns 1, P ns j, rfl, by omega, fun t ht => P_bnd hns.1 (by omega), fun t ht => P_bnd hns.1 (by omega), ?_⟩
      rw [cv_next]
      exact hnx2 _ _ ⟨_, rfl, rfl⟩
    · rintro ρ S2 ⟨e7, rfl, rfl⟩
      rw [intsD_len]
      simp only [sSeq, sIf, sRet, sRetN, sSet, sExpr, sNext, sAug, sAugS, sAsg, sPar, sFldS, sFz, sRetZ, sRetZZ, sNever, sRaise, sWhile, sFor, sBreak, sCont, eVar, eC, eOp, eCB, lCB, eCBK, eTup, lDisp, lOp, lRep, eFr, eMu, eFld, eIf, eAnd, eOr, eNot, eNeg, unNeg, eChain, tBl, tTru, tAnd2, tOr2, tNot2, tYes2, aNil, aCons, eCall, eCallK, gN, gTup2, gsCons, gsNil, gSub2, iSeq, iRng, iRngB, iEnum2, iStr2, lLc, lLcR, eSl, lSl, oNo, oSome, eBM, lBM, eLenSet, eMeth, eMake, eMakeZ, endsOf, start2, List.map_cons, List.map_nil, List.length_cons, List.length_nil, Nat.reduceSub, Nat.reduceAdd, List.replicate_zero, List.replicate_succ, List.append_nil, List.cons_append, List.nil_append, List.getElem?_cons_zero, List.getElem?_cons_succ, List.set_cons_zero, List.set_cons_succ, Option.some.injEq, exists_eq_left', exists_eq_left, truOf_bl, Bool.not_true, Bool.not_false, if_true, if_false, Bool.false_eq_true, reduceIte, D.bl.injEq, D.int.injEq, D.str.injEq, D.tup.injEq, D.lst.injEq, D.ref.injEq, wipeD, List.cons.injEq, and_true, true_and, opAdd_int, opSub_int, opMul_int, opDiv_int, opMod_int, opPow_int, opLt_int, opLe_int, opGt_int, opGe_int, opAddI_int, opEq_int, opNe_int, opIsN_eq, opNotN_eq, isN_non, isN_int, isN_bl, isN_tup, isN_lst, isN_str, seqZ_lst, seqZ_tup, opIx_lst, opIx_tup, fLen_lst, fLen_tup, fSum_iD, fTuple_lst, fList_lst, fMin2_int, fMax2_int, exists_const, sup_sup, sup_get]
      have e1 : tab (n.toNat + 1) (P ns (if n + 1 < x then n + 1 else x).toNat) = tab (n.toNat + 1) (P ns x.toNat) := by
        split
        · exact tab_congr fun t ht => by rw [P_low ns _ t (by omega), P_low ns _ t (by omega)]
        · rfl
      have e2 : xs.take (i + 1) = xs.take i ++ [x] := by rw [List.take_succ, hxi]; rfl
      have e3 : (lsum (xs.take i) fun m => (tab (n.toNat + 1) (P ns m.toNat)).sum) + (tab (n.toNat + 1) (P ns (if n + 1 < x then n + 1 else x).toNat)).sum = lsum (xs.take (i + 1)) fun m => (tab (n.toNat + 1) (P ns m.toNat)).sum := by
        rw [e1, e2, lsum_app]; simp [lsum]
      rw [e3]
      exact hnx _ _ ⟨_, _, _, rfl, rfl⟩
  · rintro ρ S' ⟨e5, e6, e7, rfl, rfl⟩
    rw [iD_len, List.take_length, ← cnt_due]
    simp only [sSeq, sIf, sRet, sRetN, sSet, sExpr, sNext, sAug, sAugS, sAsg, sPar, sFldS, sFz, sRetZ, sRetZZ, sNever, sRaise, sWhile, sFor, sBreak, sCont, eVar, eC, eOp, eCB, lCB, eCBK, eTup, lDisp, lOp, lRep, eFr, eMu, eFld, eIf, eAnd, eOr, eNot, eNeg, unNeg, eChain, tBl, tTru, tAnd2, tOr2, tNot2, tYes2, aNil, aCons, eCall, eCallK, gN, gTup2, gsCons, gsNil, gSub2, iSeq, iRng, iRngB, iEnum2, iStr2, lLc, lLcR, eSl, lSl, oNo, oSome, eBM, lBM, eLenSet, eMeth, eMake, eMakeZ, endsOf, start2, List.map_cons, List.map_nil, List.length_cons, List.length_nil, Nat.reduceSub, Nat.reduceAdd, List.replicate_zero, List.replicate_succ, List.append_nil, List.cons_append, List.nil_append, List.getElem?_cons_zero, List.getElem?_cons_succ, List.set_cons_zero, List.set_cons_succ, Option.some.injEq, exists_eq_left', exists_eq_left, truOf_bl, Bool.not_true, Bool.not_false, if_true, if_false, Bool.false_eq_true, reduceIte, D.bl.injEq, D.int.injEq, D.str.injEq, D.tup.injEq, D.lst.injEq, D.ref.injEq, wipeD, List.cons.injEq, and_true, true_and, opAdd_int, opSub_int, opMul_int, opDiv_int, opMod_int, opPow_int, opLt_int, opLe_int, opGt_int, opGe_int, opAddI_int, opEq_int, opNe_int, opIsN_eq, opNotN_eq, isN_non, isN_int, isN_bl, isN_tup, isN_lst, isN_str, seqZ_lst, seqZ_tup, opIx_lst, opIx_tup, fLen_lst, fLen_tup, fSum_iD, fTuple_lst, fList_lst, fMin2_int, fMax2_int, exists_const, sup_sup, sup_get]
    exact q
end L83
set_option linter.all false
set_option maxRecDepth 100000
set_option maxHeartbeats 4000000
namespace L83
open PySem PySem.Spec PyProof.Rows L2 Y M83
/-! what is refused -/
structure XF (K : PySem.W.Frag) (CR CN CT CS : Addr) : Prop where
  xR : ExcC K CR
  xN : ExcC K CN
  rr : PySem.W.kitOne K (.ref CR) (.ref CR) = some true
  rn : PySem.W.kitOne K (.ref CR) (.ref CN) = some false
  rt : PySem.W.kitOne K (.ref CR) (.ref CT) = some false
  rv : PySem.W.kitOne K (.ref CR) (.type "ValueError") = some true
  nr : PySem.W.kitOne K (.ref CN) (.ref CR) = some false
  nn : PySem.W.kitOne K (.ref CN) (.ref CN) = some true
  nt : PySem.W.kitOne K (.ref CN) (.ref CT) = some false
  nv : PySem.W.kitOne K (.ref CN) (.type "ValueError") = some true
  er : PySem.W.exmOne K (.ref CR) (.ref CS) = some true
  en : PySem.W.exmOne K (.ref CN) (.ref CS) = some true
def sp_class (CR CN : Addr) : SpE := fun a C ds S Q E => ∃ ns es, ds = [.exc a (.ref C) none ns es] ∧ ((C = CR ∧ Q (.str "rack") S) ∨ (C = CN ∧ Q (.str "number") S))
theorem fIsE_ref {K : PySem.W.Frag} {a C m : Addr} {ns : List Str} {es : List D} {S : Sto} {Q : QK} {b : Bool} (h : PySem.W.kitOne K (.ref C) (.ref m) = some b) (q : Q (.bl b) S) : fIsE K a C [.exc a (.ref C) none ns es, .ref m] S Q := ⟨ns, es, _, b, rfl, .inr ⟨m, rfl, h⟩, q⟩
theorem fIsE_ty {K : PySem.W.Frag} {a C : Addr} {m : String} {ns : List Str} {es : List D} {S : Sto} {Q : QK} {b : Bool} (h : PySem.W.kitOne K (.ref C) (.type m) = some b) (q : Q (.bl b) S) : fIsE K a C [.exc a (.ref C) none ns es, .ty m] S Q := ⟨ns, es, _, b, rfl, .inl ⟨m, rfl, h⟩, q⟩
def blD : D → Bool
  | .bl b => b
  | _ => false
theorem s_class {K : PySem.W.Frag} {CR CN CT CS : Addr} (F : XF K CR CN CT CS) : ∀ a C ds S Q E, sp_class CR CN a C ds S Q E → r__law_class K a C CT CN CR (endsOf Q E) (start2 N__law_class ds) S := by
  rintro a C _ S Q E ⟨ns, es, rfl, h⟩
  unfold r__law_class
  simp only [sSeq, sIf, sRet, sRetN, sSet, sExpr, sNext, sAug, sAugS, sAsg, sPar, sFldS, sFz, sRetZ, sRetZZ, sNever, sRaise, sWhile, sFor, sBreak, sCont, eVar, eC, eOp, eCB, lCB, eCBK, eTup, lDisp, lOp, lRep, eFr, eMu, eFld, eIf, eAnd, eOr, eNot, eNeg, unNeg, eChain, tBl, tTru, tAnd2, tOr2, tNot2, tYes2, aNil, aCons, eCall, eCallK, gN, gTup2, gsCons, gsNil, gSub2, iSeq, iRng, iRngB, iEnum2, iStr2, lLc, lLcR, eSl, lSl, oNo, oSome, eBM, lBM, eLenSet, eMeth, eMake, eMakeZ, endsOf, start2, List.map_cons, List.map_nil, List.length_cons, List.length_nil, Nat.reduceSub, Nat.reduceAdd, List.replicate_zero, List.replicate_succ, List.append_nil, List.cons_append, List.nil_append, List.getElem?_cons_zero, List.getElem?_cons_succ, List.set_cons_zero, List.set_cons_succ, Option.some.injEq, exists_eq_left', exists_eq_left, truOf_bl, Bool.not_true, Bool.not_false, if_true, if_false, Bool.false_eq_true, reduceIte, D.bl.injEq, D.int.injEq, D.str.injEq, D.tup.injEq, D.lst.injEq, D.ref.injEq, wipeD, List.cons.injEq, and_true, true_and, opAdd_int, opSub_int, opMul_int, opDiv_int, opMod_int, opPow_int, opLt_int, opLe_int, opGt_int, opGe_int, opAddI_int, opEq_int, opNe_int, opIsN_eq, opNotN_eq, isN_non, isN_int, isN_bl, isN_tup, isN_lst, isN_str, seqZ_lst, seqZ_tup, opIx_lst, opIx_tup, fLen_lst, fLen_tup, fSum_iD, fTuple_lst, fList_lst, fMin2_int, fMax2_int, exists_const, sup_sup, sup_get, lLcF, iSeqL]
  have tt : ∀ (xs : List D), (∀ d ∈ xs, ∃ b, d = .bl b) → xs.length ≤ 10 → ∀ (ρ : Rho) (Q : List D → Sto → Prop), 2 < ρ.length → Q (xs.filter blD) S → lcGo (gN 2) (tTru (eVar 2)) (eVar 2) ρ Q xs [] S := fun xs hb hl ρ Q hr q => by
    refine lcGo_filter blD (fun d => d) xs [] (fun d hd K k => ?_) (fun d hd _ K k => ?_) (by rw [sizeLine_eq]; simp; omega) (by simpa using q)
    · obtain ⟨b, rfl⟩ := hb d hd
      refine ⟨.bl b, ?_, b, rfl, k⟩
      rw [List.getElem?_set_self hr]
    · exact ⟨d, List.getElem?_set_self hr, k⟩
  rcases h with ⟨rfl, q⟩ | ⟨rfl, q⟩
  · refine fIsE_ref F.rr (fIsE_ref F.rn (fIsE_ref F.rt ⟨by rw [sizeLine_eq]; decide, fIsE_ty F.rv ?_⟩))
    simp only [sSeq, sIf, sRet, sRetN, sSet, sExpr, sNext, sAug, sAugS, sAsg, sPar, sFldS, sFz, sRetZ, sRetZZ, sNever, sRaise, sWhile, sFor, sBreak, sCont, eVar, eC, eOp, eCB, lCB, eCBK, eTup, lDisp, lOp, lRep, eFr, eMu, eFld, eIf, eAnd, eOr, eNot, eNeg, unNeg, eChain, tBl, tTru, tAnd2, tOr2, tNot2, tYes2, aNil, aCons, eCall, eCallK, gN, gTup2, gsCons, gsNil, gSub2, iSeq, iRng, iRngB, iEnum2, iStr2, lLc, lLcR, eSl, lSl, oNo, oSome, eBM, lBM, eLenSet, eMeth, eMake, eMakeZ, endsOf, start2, List.map_cons, List.map_nil, List.length_cons, List.length_nil, Nat.reduceSub, Nat.reduceAdd, List.replicate_zero, List.replicate_succ, List.append_nil, List.cons_append, List.nil_append, List.getElem?_cons_zero, List.getElem?_cons_succ, List.set_cons_zero, List.set_cons_succ, Option.some.injEq, exists_eq_left', exists_eq_left, truOf_bl, Bool.not_true, Bool.not_false, if_true, if_false, Bool.false_eq_true, reduceIte, D.bl.injEq, D.int.injEq, D.str.injEq, D.tup.injEq, D.lst.injEq, D.ref.injEq, wipeD, List.cons.injEq, and_true, true_and, opAdd_int, opSub_int, opMul_int, opDiv_int, opMod_int, opPow_int, opLt_int, opLe_int, opGt_int, opGe_int, opAddI_int, opEq_int, opNe_int, opIsN_eq, opNotN_eq, isN_non, isN_int, isN_bl, isN_tup, isN_lst, isN_str, seqZ_lst, seqZ_tup, opIx_lst, opIx_tup, fLen_lst, fLen_tup, fSum_iD, fTuple_lst, fList_lst, fMin2_int, fMax2_int, exists_const, sup_sup, sup_get]
    refine tt _ (by simp) (by simp) _ _ (by simp) ?_
    simp only [List.filter_cons, List.filter_nil, blD]
    simp only [sSeq, sIf, sRet, sRetN, sSet, sExpr, sNext, sAug, sAugS, sAsg, sPar, sFldS, sFz, sRetZ, sRetZZ, sNever, sRaise, sWhile, sFor, sBreak, sCont, eVar, eC, eOp, eCB, lCB, eCBK, eTup, lDisp, lOp, lRep, eFr, eMu, eFld, eIf, eAnd, eOr, eNot, eNeg, unNeg, eChain, tBl, tTru, tAnd2, tOr2, tNot2, tYes2, aNil, aCons, eCall, eCallK, gN, gTup2, gsCons, gsNil, gSub2, iSeq, iRng, iRngB, iEnum2, iStr2, lLc, lLcR, eSl, lSl, oNo, oSome, eBM, lBM, eLenSet, eMeth, eMake, eMakeZ, endsOf, start2, List.map_cons, List.map_nil, List.length_cons, List.length_nil, Nat.reduceSub, Nat.reduceAdd, List.replicate_zero, List.replicate_succ, List.append_nil, List.cons_append, List.nil_append, List.getElem?_cons_zero, List.getElem?_cons_succ, List.set_cons_zero, List.set_cons_succ, Option.some.injEq, exists_eq_left', exists_eq_left, truOf_bl, Bool.not_true, Bool.not_false, if_true, if_false, Bool.false_eq_true, reduceIte, D.bl.injEq, D.int.injEq, D.str.injEq, D.tup.injEq, D.lst.injEq, D.ref.injEq, wipeD, List.cons.injEq, and_true, true_and, opAdd_int, opSub_int, opMul_int, opDiv_int, opMod_int, opPow_int, opLt_int, opLe_int, opGt_int, opGe_int, opAddI_int, opEq_int, opNe_int, opIsN_eq, opNotN_eq, isN_non, isN_int, isN_bl, isN_tup, isN_lst, isN_str, seqZ_lst, seqZ_tup, opIx_lst, opIx_tup, fLen_lst, fLen_tup, fSum_iD, fTuple_lst, fList_lst, fMin2_int, fMax2_int, exists_const, sup_sup, sup_get]
    refine ⟨by rw [sizeLine_eq]; decide, .inl ⟨rfl, _, rfl⟩, _, [true, false, false], true, 0, rfl, rfl, rfl, rfl, fun m c hm => by omega, ?_⟩
    simp only [sSeq, sIf, sRet, sRetN, sSet, sExpr, sNext, sAug, sAugS, sAsg, sPar, sFldS, sFz, sRetZ, sRetZZ, sNever, sRaise, sWhile, sFor, sBreak, sCont, eVar, eC, eOp, eCB, lCB, eCBK, eTup, lDisp, lOp, lRep, eFr, eMu, eFld, eIf, eAnd, eOr, eNot, eNeg, unNeg, eChain, tBl, tTru, tAnd2, tOr2, tNot2, tYes2, aNil, aCons, eCall, eCallK, gN, gTup2, gsCons, gsNil, gSub2, iSeq, iRng, iRngB, iEnum2, iStr2, lLc, lLcR, eSl, lSl, oNo, oSome, eBM, lBM, eLenSet, eMeth, eMake, eMakeZ, endsOf, start2, List.map_cons, List.map_nil, List.length_cons, List.length_nil, Nat.reduceSub, Nat.reduceAdd, List.replicate_zero, List.replicate_succ, List.append_nil, List.cons_append, List.nil_append, List.getElem?_cons_zero, List.getElem?_cons_succ, List.set_cons_zero, List.set_cons_succ, Option.some.injEq, exists_eq_left', exists_eq_left, truOf_bl, Bool.not_true, Bool.not_false, if_true, if_false, Bool.false_eq_true, reduceIte, D.bl.injEq, D.int.injEq, D.str.injEq, D.tup.injEq, D.lst.injEq, D.ref.injEq, wipeD, List.cons.injEq, and_true, true_and, opAdd_int, opSub_int, opMul_int, opDiv_int, opMod_int, opPow_int, opLt_int, opLe_int, opGt_int, opGe_int, opAddI_int, opEq_int, opNe_int, opIsN_eq, opNotN_eq, isN_non, isN_int, isN_bl, isN_tup, isN_lst, isN_str, seqZ_lst, seqZ_tup, opIx_lst, opIx_tup, fLen_lst, fLen_tup, fSum_iD, fTuple_lst, fList_lst, fMin2_int, fMax2_int, exists_const, sup_sup, sup_get]
    exact ⟨_, rfl, q⟩
  · refine fIsE_ref F.nr (fIsE_ref F.nn (fIsE_ref F.nt ⟨by rw [sizeLine_eq]; decide, fIsE_ty F.nv ?_⟩))
    simp only [sSeq, sIf, sRet, sRetN, sSet, sExpr, sNext, sAug, sAugS, sAsg, sPar, sFldS, sFz, sRetZ, sRetZZ, sNever, sRaise, sWhile, sFor, sBreak, sCont, eVar, eC, eOp, eCB, lCB, eCBK, eTup, lDisp, lOp, lRep, eFr, eMu, eFld, eIf, eAnd, eOr, eNot, eNeg, unNeg, eChain, tBl, tTru, tAnd2, tOr2, tNot2, tYes2, aNil, aCons, eCall, eCallK, gN, gTup2, gsCons, gsNil, gSub2, iSeq, iRng, iRngB, iEnum2, iStr2, lLc, lLcR, eSl, lSl, oNo, oSome, eBM, lBM, eLenSet, eMeth, eMake, eMakeZ, endsOf, start2, List.map_cons, List.map_nil, List.length_cons, List.length_nil, Nat.reduceSub, Nat.reduceAdd, List.replicate_zero, List.replicate_succ, List.append_nil, List.cons_append, List.nil_append, List.getElem?_cons_zero, List.getElem?_cons_succ, List.set_cons_zero, List.set_cons_succ, Option.some.injEq, exists_eq_left', exists_eq_left, truOf_bl, Bool.not_true, Bool.not_false, if_true, if_false, Bool.false_eq_true, reduceIte, D.bl.injEq, D.int.injEq, D.str.injEq, D.tup.injEq, D.lst.injEq, D.ref.injEq, wipeD, List.cons.injEq, and_true, true_and, opAdd_int, opSub_int, opMul_int, opDiv_int, opMod_int, opPow_int, opLt_int, opLe_int, opGt_int, opGe_int, opAddI_int, opEq_int, opNe_int, opIsN_eq, opNotN_eq, isN_non, isN_int, isN_bl, isN_tup, isN_lst, isN_str, seqZ_lst, seqZ_tup, opIx_lst, opIx_tup, fLen_lst, fLen_tup, fSum_iD, fTuple_lst, fList_lst, fMin2_int, fMax2_int, exists_const, sup_sup, sup_get]
    refine tt _ (by simp) (by simp) _ _ (by simp) ?_
    simp only [List.filter_cons, List.filter_nil, blD]
    simp only [sSeq, sIf, sRet, sRetN, sSet, sExpr, sNext, sAug, sAugS, sAsg, sPar, sFldS, sFz, sRetZ, sRetZZ, sNever, sRaise, sWhile, sFor, sBreak, sCont, eVar, eC, eOp, eCB, lCB, eCBK, eTup, lDisp, lOp, lRep, eFr, eMu, eFld, eIf, eAnd, eOr, eNot, eNeg, unNeg, eChain, tBl, tTru, tAnd2, tOr2, tNot2, tYes2, aNil, aCons, eCall, eCallK, gN, gTup2, gsCons, gsNil, gSub2, iSeq, iRng, iRngB, iEnum2, iStr2, lLc, lLcR, eSl, lSl, oNo, oSome, eBM, lBM, eLenSet, eMeth, eMake, eMakeZ, endsOf, start2, List.map_cons, List.map_nil, List.length_cons, List.length_nil, Nat.reduceSub, Nat.reduceAdd, List.replicate_zero, List.replicate_succ, List.append_nil, List.cons_append, List.nil_append, List.getElem?_cons_zero, List.getElem?_cons_succ, List.set_cons_zero, List.set_cons_succ, Option.some.injEq, exists_eq_left', exists_eq_left, truOf_bl, Bool.not_true, Bool.not_false, if_true, if_false, Bool.false_eq_true, reduceIte, D.bl.injEq, D.int.injEq, D.str.injEq, D.tup.injEq, D.lst.injEq, D.ref.injEq, wipeD, List.cons.injEq, and_true, true_and, opAdd_int, opSub_int, opMul_int, opDiv_int, opMod_int, opPow_int, opLt_int, opLe_int, opGt_int, opGe_int, opAddI_int, opEq_int, opNe_int, opIsN_eq, opNotN_eq, isN_non, isN_int, isN_bl, isN_tup, isN_lst, isN_str, seqZ_lst, seqZ_tup, opIx_lst, opIx_tup, fLen_lst, fLen_tup, fSum_iD, fTuple_lst, fList_lst, fMin2_int, fMax2_int, exists_const, sup_sup, sup_get]
    refine ⟨by rw [sizeLine_eq]; decide, .inl ⟨rfl, _, rfl⟩, _, [false, true, false], true, 1, rfl, rfl, rfl, rfl, fun m c hm hc => ?_, ?_⟩
    · obtain rfl : m = 0 := by omega
      simp at hc; subst hc; simp
    · simp only [sSeq, sIf, sRet, sRetN, sSet, sExpr, sNext, sAug, sAugS, sAsg, sPar, sFldS, sFz, sRetZ, sRetZZ, sNever, sRaise, sWhile, sFor, sBreak, sCont, eVar, eC, eOp, eCB, lCB, eCBK, eTup, lDisp, lOp, lRep, eFr, eMu, eFld, eIf, eAnd, eOr, eNot, eNeg, unNeg, eChain, tBl, tTru, tAnd2, tOr2, tNot2, tYes2, aNil, aCons, eCall, eCallK, gN, gTup2, gsCons, gsNil, gSub2, iSeq, iRng, iRngB, iEnum2, iStr2, lLc, lLcR, eSl, lSl, oNo, oSome, eBM, lBM, eLenSet, eMeth, eMake, eMakeZ, endsOf, start2, List.map_cons, List.map_nil, List.length_cons, List.length_nil, Nat.reduceSub, Nat.reduceAdd, List.replicate_zero, List.replicate_succ, List.append_nil, List.cons_append, List.nil_append, List.getElem?_cons_zero, List.getElem?_cons_succ, List.set_cons_zero, List.set_cons_succ, Option.some.injEq, exists_eq_left', exists_eq_left, truOf_bl, Bool.not_true, Bool.not_false, if_true, if_false, Bool.false_eq_true, reduceIte, D.bl.injEq, D.int.injEq, D.str.injEq, D.tup.injEq, D.lst.injEq, D.ref.injEq, wipeD, List.cons.injEq, and_true, true_and, opAdd_int, opSub_int, opMul_int, opDiv_int, opMod_int, opPow_int, opLt_int, opLe_int, opGt_int, opGe_int, opAddI_int, opEq_int, opNe_int, opIsN_eq, opNotN_eq, isN_non, isN_int, isN_bl, isN_tup, isN_lst, isN_str, seqZ_lst, seqZ_tup, opIx_lst, opIx_tup, fLen_lst, fLen_tup, fSum_iD, fTuple_lst, fList_lst, fMin2_int, fMax2_int, exists_const, sup_sup, sup_get]
      exact ⟨_, rfl, q⟩
def r_word (K : PySem.W.Frag) (CS : Addr) (sp_count_to : Sp2) (sp__law_class : SpE) : TS2 :=
    (sSeq (sTryN K (.ref CS) 3 (sExpr (eCall sp_count_to [] (aCons (eVar 0) (aCons (eVar 1) (aCons (eVar 2) aNil)))))
    (fun a cls d => (sRet (eCallE K sp__law_class a cls d (aCons (eVar 3) aNil)))))
    (sRet (eC (.str "told"))))
section
variable {P : Program} {w : World} {K : PySem.W.Frag} {mg : Str → Option Value} {base : Heap}
theorem b_word (T : Tx K mg) {sp_count_to : Sp2} {sp__law_class : SpE} (D_count_to : FnD P w K mg base 4 T.f_count_to T.d_count_to ["kind", "rack", "size"] sp_count_to) (D__law_class : FnE P w K mg base 1 T.f__law_class T.d__law_class ["_law_e"] sp__law_class) {sp : Sp2} (len : ∀ ds S Q E, sp ds S Q E → ds.length = 3) (spec : ∀ ds S Q E, sp ds S Q E → r_word K T.C_SwapError sp_count_to sp__law_class (endsOf Q E) (start2 N__law_word ds) S) : FnD P w K mg base 5 T.f__law_word T.d__law_word ["_law_trade", "_law_shelf", "_law_great"] sp :=
  fnC T.F__law_word sc__law_word len (fun cdv A outer s H E hr =>
      (ss_cons (s_tryN 3 rfl rfl sc__law_word.nd ⟨by rfl, by decide +kernel, .inl T.m_SwapError⟩ (L2N.takes_of rfl rfl rfl rfl) (fun W pn xe tk po => (ss_one (s_expr (e_call D_count_to (hr.mono (by decide)) (by rfl) T.m_count_to T.F_count_to.kp T.b_count_to .nil (fun _ => .nil) tk (a_cons (e_var 0) (a_cons (e_var 1) (a_cons (e_var 2) a_nil)))))))
      (fun a oe cls d pn hz hf => (ss_one (s_ret (e_callE D__law_class (room_suite (hr.mono (by decide))) (hot_suite hz hf) List.mem_cons_self hz.zc (by rfl) T.m__law_class T.F__law_class.kp T.b__law_class takesF (a_cons (e_var 3) a_nil))))))
      (ss_one (s_ret e_str)))) spec
end
def sp_word (C : Addr) : Sp2 := fun ds S Q E => ∃ ms dr dz, ds = [kindD C ms, dr, dz] ∧ mksOk ms ∧ okR S dr ∧ (∃ m, clsOf S dz = some m) ∧ (isRk dr = false ∨ isWh dz (some 0) (some 60) = false) ∧ (isRk dr = false → Q (.str "rack") S) ∧ (isRk dr = true → Q (.str "number") S)
theorem s_word {K : PySem.W.Frag} {C CR CN CT CS : Addr} (F : XF K CR CN CT CS) : ∀ ds S Q E, sp_word C ds S Q E → r_word K CS (sp_count C CR CN) (sp_class CR CN) (endsOf Q E) (start2 N__law_word ds) S := by
  rintro _ S Q E ⟨ms, dr, dz, rfl, hm, hr, hz, hbad, q1, q2⟩
  unfold r_word
  simp only [sSeq, sIf, sRet, sRetN, sSet, sExpr, sNext, sAug, sAugS, sAsg, sPar, sFldS, sFz, sRetZ, sRetZZ, sNever, sRaise, sWhile, sFor, sBreak, sCont, eVar, eC, eOp, eCB, lCB, eCBK, eTup, lDisp, lOp, lRep, eFr, eMu, eFld, eIf, eAnd, eOr, eNot, eNeg, unNeg, eChain, tBl, tTru, tAnd2, tOr2, tNot2, tYes2, aNil, aCons, eCall, eCallK, gN, gTup2, gsCons, gsNil, gSub2, iSeq, iRng, iRngB, iEnum2, iStr2, lLc, lLcR, eSl, lSl, oNo, oSome, eBM, lBM, eLenSet, eMeth, eMake, eMakeZ, endsOf, start2, List.map_cons, List.map_nil, List.length_cons, List.length_nil, Nat.reduceSub, Nat.reduceAdd, List.replicate_zero, List.replicate_succ, List.append_nil, List.cons_append, List.nil_append, List.getElem?_cons_zero, List.getElem?_cons_succ, List.set_cons_zero, List.set_cons_succ, Option.some.injEq, exists_eq_left', exists_eq_left, truOf_bl, Bool.not_true, Bool.not_false, if_true, if_false, Bool.false_eq_true, reduceIte, D.bl.injEq, D.int.injEq, D.str.injEq, D.tup.injEq, D.lst.injEq, D.ref.injEq, wipeD, List.cons.injEq, and_true, true_and, opAdd_int, opSub_int, opMul_int, opDiv_int, opMod_int, opPow_int, opLt_int, opLe_int, opGt_int, opGe_int, opAddI_int, opEq_int, opNe_int, opIsN_eq, opNotN_eq, isN_non, isN_int, isN_bl, isN_tup, isN_lst, isN_str, seqZ_lst, seqZ_tup, opIx_lst, opIx_tup, fLen_lst, fLen_tup, fSum_iD, fTuple_lst, fList_lst, fMin2_int, fMax2_int, exists_const, sup_sup, sup_get, sTryN]
  refine ⟨ms, dr, dz, rfl, hm, hr, hz, fun h => ?_, fun h1 h2 => ?_, fun xs n e1 hx e2 n0 n1 => ?_⟩
  · refine ⟨true, F.er, fun _ a d hd => ?_, fun h => by cases h⟩
    obtain rfl := hd rfl
    simp only [sSeq, sIf, sRet, sRetN, sSet, sExpr, sNext, sAug, sAugS, sAsg, sPar, sFldS, sFz, sRetZ, sRetZZ, sNever, sRaise, sWhile, sFor, sBreak, sCont, eVar, eC, eOp, eCB, lCB, eCBK, eTup, lDisp, lOp, lRep, eFr, eMu, eFld, eIf, eAnd, eOr, eNot, eNeg, unNeg, eChain, tBl, tTru, tAnd2, tOr2, tNot2, tYes2, aNil, aCons, eCall, eCallK, gN, gTup2, gsCons, gsNil, gSub2, iSeq, iRng, iRngB, iEnum2, iStr2, lLc, lLcR, eSl, lSl, oNo, oSome, eBM, lBM, eLenSet, eMeth, eMake, eMakeZ, endsOf, start2, List.map_cons, List.map_nil, List.length_cons, List.length_nil, Nat.reduceSub, Nat.reduceAdd, List.replicate_zero, List.replicate_succ, List.append_nil, List.cons_append, List.nil_append, List.getElem?_cons_zero, List.getElem?_cons_succ, List.set_cons_zero, List.set_cons_succ, Option.some.injEq, exists_eq_left', exists_eq_left, truOf_bl, Bool.not_true, Bool.not_false, if_true, if_false, Bool.false_eq_true, reduceIte, D.bl.injEq, D.int.injEq, D.str.injEq, D.tup.injEq, D.lst.injEq, D.ref.injEq, wipeD, List.cons.injEq, and_true, true_and, opAdd_int, opSub_int, opMul_int, opDiv_int, opMod_int, opPow_int, opLt_int, opLe_int, opGt_int, opGe_int, opAddI_int, opEq_int, opNe_int, opIsN_eq, opNotN_eq, isN_non, isN_int, isN_bl, isN_tup, isN_lst, isN_str, seqZ_lst, seqZ_tup, opIx_lst, opIx_tup, fLen_lst, fLen_tup, fSum_iD, fTuple_lst, fList_lst, fMin2_int, fMax2_int, exists_const, sup_sup, sup_get, eCallE]
    exact ⟨CR, rfl, F.xR, [], [], rfl, .inl ⟨rfl, q1 h⟩⟩
  · refine ⟨true, F.en, fun _ a d hd => ?_, fun h => by cases h⟩
    obtain rfl := hd rfl
    simp only [sSeq, sIf, sRet, sRetN, sSet, sExpr, sNext, sAug, sAugS, sAsg, sPar, sFldS, sFz, sRetZ, sRetZZ, sNever, sRaise, sWhile, sFor, sBreak, sCont, eVar, eC, eOp, eCB, lCB, eCBK, eTup, lDisp, lOp, lRep, eFr, eMu, eFld, eIf, eAnd, eOr, eNot, eNeg, unNeg, eChain, tBl, tTru, tAnd2, tOr2, tNot2, tYes2, aNil, aCons, eCall, eCallK, gN, gTup2, gsCons, gsNil, gSub2, iSeq, iRng, iRngB, iEnum2, iStr2, lLc, lLcR, eSl, lSl, oNo, oSome, eBM, lBM, eLenSet, eMeth, eMake, eMakeZ, endsOf, start2, List.map_cons, List.map_nil, List.length_cons, List.length_nil, Nat.reduceSub, Nat.reduceAdd, List.replicate_zero, List.replicate_succ, List.append_nil, List.cons_append, List.nil_append, List.getElem?_cons_zero, List.getElem?_cons_succ, List.set_cons_zero, List.set_cons_succ, Option.some.injEq, exists_eq_left', exists_eq_left, truOf_bl, Bool.not_true, Bool.not_false, if_true, if_false, Bool.false_eq_true, reduceIte, D.bl.injEq, D.int.injEq, D.str.injEq, D.tup.injEq, D.lst.injEq, D.ref.injEq, wipeD, List.cons.injEq, and_true, true_and, opAdd_int, opSub_int, opMul_int, opDiv_int, opMod_int, opPow_int, opLt_int, opLe_int, opGt_int, opGe_int, opAddI_int, opEq_int, opNe_int, opIsN_eq, opNotN_eq, isN_non, isN_int, isN_bl, isN_tup, isN_lst, isN_str, seqZ_lst, seqZ_tup, opIx_lst, opIx_tup, fLen_lst, fLen_tup, fSum_iD, fTuple_lst, fList_lst, fMin2_int, fMax2_int, exists_const, sup_sup, sup_get, eCallE]
    exact ⟨CN, rfl, F.xN, [], [], rfl, .inr ⟨rfl, q2 h1⟩⟩
  · subst e1; subst e2
    rcases hbad with h | h
    · rw [rk_is hx] at h; cases h
    · simp [isWh, n0, n1] at h
def oddL : List D := [.lst [.int 1], .tup [.int 1, .int (-1)], .tup [.int 201], .tup [.bl true], .non, .str "1", .tup [.int 1, .non], .tup [.tup [.int 1]]]
def badL : List D := [.int (-1), .int 61, .bl true, .non, .str "2", .tup [.int 1], .lst [.int 0], .int 100000000000000000000000000000000000000000000000000]
theorem odd_ok {S : Sto} : ∀ d ∈ oddL, okR S d ∧ isRk d = false := by
  intro d hd
  simp only [oddL, List.mem_cons, List.not_mem_nil, or_false] at hd
  rcases hd with rfl | rfl | rfl | rfl | rfl | rfl | rfl | rfl <;> refine ⟨⟨⟨_, rfl⟩, fun xs e => ?_⟩, by decide⟩ <;> simp only [D.tup.injEq, reduceCtorEq] at e <;> subst e <;> refine ⟨by simp, fun x hx => ?_⟩ <;> simp at hx
  · rcases hx with rfl | rfl <;> exact ⟨_, rfl⟩
  · subst hx; exact ⟨_, rfl⟩
  · subst hx; exact ⟨_, rfl⟩
  · rcases hx with rfl | rfl <;> exact ⟨_, rfl⟩
  · subst hx; exact ⟨_, rfl⟩
theorem bad_ok {S : Sto} : ∀ d ∈ badL, (∃ m, clsOf S d = some m) ∧ isWh d (some 0) (some 60) = false := by
  intro d hd
  simp only [badL, List.mem_cons, List.not_mem_nil, or_false] at hd
  rcases hd with rfl | rfl | rfl | rfl | rfl | rfl | rfl | rfl <;> exact ⟨⟨_, rfl⟩, by decide⟩
def sp_refuse (C : Addr) : Sp2 := fun ds S Q E => ∃ a ms xs, ds = [.ref a, kindD C ms, rkD xs] ∧ WellS S a ∧ mksOk ms ∧ rkOk xs ∧ ∀ S', WellS S' a → SBut a S S' → Q (.bl true) S'
theorem s_refuse {C : Addr} : ∀ ds S Q E, sp_refuse C ds S Q E → r__law_refusals_right (sp_word C) sp_draw (endsOf Q E) (start2 N__law_refusals_right ds) S := by
  rintro _ S Q E ⟨a, ms, xs, rfl, hw, hm, hx, q⟩
  unfold r__law_refusals_right
  simp only [sSeq, sIf, sRet, sRetN, sSet, sExpr, sNext, sAug, sAugS, sAsg, sPar, sFldS, sFz, sRetZ, sRetZZ, sNever, sRaise, sWhile, sFor, sBreak, sCont, eVar, eC, eOp, eCB, lCB, eCBK, eTup, lDisp, lOp, lRep, eFr, eMu, eFld, eIf, eAnd, eOr, eNot, eNeg, unNeg, eChain, tBl, tTru, tAnd2, tOr2, tNot2, tYes2, aNil, aCons, eCall, eCallK, gN, gTup2, gsCons, gsNil, gSub2, iSeq, iRng, iRngB, iEnum2, iStr2, lLc, lLcR, eSl, lSl, oNo, oSome, eBM, lBM, eLenSet, eMeth, eMake, eMakeZ, endsOf, start2, List.map_cons, List.map_nil, List.length_cons, List.length_nil, Nat.reduceSub, Nat.reduceAdd, List.replicate_zero, List.replicate_succ, List.append_nil, List.cons_append, List.nil_append, List.getElem?_cons_zero, List.getElem?_cons_succ, List.set_cons_zero, List.set_cons_succ, Option.some.injEq, exists_eq_left', exists_eq_left, truOf_bl, Bool.not_true, Bool.not_false, if_true, if_false, Bool.false_eq_true, reduceIte, D.bl.injEq, D.int.injEq, D.str.injEq, D.tup.injEq, D.lst.injEq, D.ref.injEq, wipeD, List.cons.injEq, and_true, true_and, opAdd_int, opSub_int, opMul_int, opDiv_int, opMod_int, opPow_int, opLt_int, opLe_int, opGt_int, opGe_int, opAddI_int, opEq_int, opNe_int, opIsN_eq, opNotN_eq, isN_non, isN_int, isN_bl, isN_tup, isN_lst, isN_str, seqZ_lst, seqZ_tup, opIx_lst, opIx_tup, fLen_lst, fLen_tup, fSum_iD, fTuple_lst, fList_lst, fMin2_int, fMax2_int, exists_const, sup_sup, sup_get]
  refine ⟨by rw [sizeLine_eq]; decide, by rw [sizeLine_eq]; decide, by rw [sizeLine_eq]; decide, by rw [sizeLine_eq]; decide, by rw [sizeLine_eq]; decide, by rw [sizeLine_eq]; decide, by rw [sizeLine_eq]; decide, by rw [sizeLine_eq]; decide, ?_⟩
  refine ⟨a, 8, rfl, hw, by omega, by omega, fun r S1 r1 r2 hw1 sb1 => ?_⟩
  show opIx (.lst oddL) (.int r) S1 _
  have h8 : r.toNat < oddL.length := by show r.toNat < 8; omega
  rw [opIx_lst]
  refine ⟨oddL[r.toNat], atI_get r1 (List.getElem?_eq_getElem h8), ?_⟩
  obtain ⟨o1, o2⟩ := odd_ok (S := S1) _ (List.getElem_mem h8)
  have o3 := fun S => (odd_ok (S := S) _ (List.getElem_mem h8)).1
  generalize oddL[r.toNat] = odd at o1 o2 o3 ⊢
  have e50 : (10 : Int) ^ (50 : Int).toNat = 100000000000000000000000000000000000000000000000000 := by decide
  simp only [sSeq, sIf, sRet, sRetN, sSet, sExpr, sNext, sAug, sAugS, sAsg, sPar, sFldS, sFz, sRetZ, sRetZZ, sNever, sRaise, sWhile, sFor, sBreak, sCont, eVar, eC, eOp, eCB, lCB, eCBK, eTup, lDisp, lOp, lRep, eFr, eMu, eFld, eIf, eAnd, eOr, eNot, eNeg, unNeg, eChain, tBl, tTru, tAnd2, tOr2, tNot2, tYes2, aNil, aCons, eCall, eCallK, gN, gTup2, gsCons, gsNil, gSub2, iSeq, iRng, iRngB, iEnum2, iStr2, lLc, lLcR, eSl, lSl, oNo, oSome, eBM, lBM, eLenSet, eMeth, eMake, eMakeZ, endsOf, start2, List.map_cons, List.map_nil, List.length_cons, List.length_nil, Nat.reduceSub, Nat.reduceAdd, List.replicate_zero, List.replicate_succ, List.append_nil, List.cons_append, List.nil_append, List.getElem?_cons_zero, List.getElem?_cons_succ, List.set_cons_zero, List.set_cons_succ, Option.some.injEq, exists_eq_left', exists_eq_left, truOf_bl, Bool.not_true, Bool.not_false, if_true, if_false, Bool.false_eq_true, reduceIte, D.bl.injEq, D.int.injEq, D.str.injEq, D.tup.injEq, D.lst.injEq, D.ref.injEq, wipeD, List.cons.injEq, and_true, true_and, opAdd_int, opSub_int, opMul_int, opDiv_int, opMod_int, opPow_int, opLt_int, opLe_int, opGt_int, opGe_int, opAddI_int, opEq_int, opNe_int, opIsN_eq, opNotN_eq, isN_non, isN_int, isN_bl, isN_tup, isN_lst, isN_str, seqZ_lst, seqZ_tup, opIx_lst, opIx_tup, fLen_lst, fLen_tup, fSum_iD, fTuple_lst, fList_lst, fMin2_int, fMax2_int, exists_const, sup_sup, sup_get, e50]
  refine ⟨by rw [sizeLine_eq]; decide, by rw [sizeLine_eq]; decide, ⟨by decide, by decide, by decide⟩, by rw [sizeLine_eq]; decide, ?_⟩
  refine ⟨a, 8, rfl, hw1, by omega, by omega, fun t S2 t1 t2 hw2 sb2 => ?_⟩
  show opIx (.lst badL) (.int t) S2 _
  have k8 : t.toNat < badL.length := by show t.toNat < 8; omega
  rw [opIx_lst]
  refine ⟨badL[t.toNat], atI_get t1 (List.getElem?_eq_getElem k8), ?_⟩
  obtain ⟨b1, b2⟩ := bad_ok (S := S2) _ (List.getElem_mem k8)
  generalize badL[t.toNat] = bad at b1 b2 ⊢
  refine ⟨ms, odd, .int 3, rfl, hm, o3 _, ⟨_, rfl⟩, .inl o2, fun _ => ?_, fun h => by rw [o2] at h; cases h⟩
  refine ⟨ms, odd, bad, rfl, hm, o3 _, b1, .inl o2, fun _ => ?_, fun h => by rw [o2] at h; cases h⟩
  refine ⟨ms, rkD xs, bad, rfl, hm, rk_ok hx, b1, .inr b2, fun h => (by rw [rk_is hx] at h; cases h), fun _ => ?_⟩
  simp only [sSeq, sIf, sRet, sRetN, sSet, sExpr, sNext, sAug, sAugS, sAsg, sPar, sFldS, sFz, sRetZ, sRetZZ, sNever, sRaise, sWhile, sFor, sBreak, sCont, eVar, eC, eOp, eCB, lCB, eCBK, eTup, lDisp, lOp, lRep, eFr, eMu, eFld, eIf, eAnd, eOr, eNot, eNeg, unNeg, eChain, tBl, tTru, tAnd2, tOr2, tNot2, tYes2, aNil, aCons, eCall, eCallK, gN, gTup2, gsCons, gsNil, gSub2, iSeq, iRng, iRngB, iEnum2, iStr2, lLc, lLcR, eSl, lSl, oNo, oSome, eBM, lBM, eLenSet, eMeth, eMake, eMakeZ, endsOf, start2, List.map_cons, List.map_nil, List.length_cons, List.length_nil, Nat.reduceSub, Nat.reduceAdd, List.replicate_zero, List.replicate_succ, List.append_nil, List.cons_append, List.nil_append, List.getElem?_cons_zero, List.getElem?_cons_succ, List.set_cons_zero, List.set_cons_succ, Option.some.injEq, exists_eq_left', exists_eq_left, truOf_bl, Bool.not_true, Bool.not_false, if_true, if_false, Bool.false_eq_true, reduceIte, D.bl.injEq, D.int.injEq, D.str.injEq, D.tup.injEq, D.lst.injEq, D.ref.injEq, wipeD, List.cons.injEq, and_true, true_and, opAdd_int, opSub_int, opMul_int, opDiv_int, opMod_int, opPow_int, opLt_int, opLe_int, opGt_int, opGe_int, opAddI_int, opEq_int, opNe_int, opIsN_eq, opNotN_eq, isN_non, isN_int, isN_bl, isN_tup, isN_lst, isN_str, seqZ_lst, seqZ_tup, opIx_lst, opIx_tup, fLen_lst, fLen_tup, fSum_iD, fTuple_lst, fList_lst, fMin2_int, fMax2_int, exists_const, sup_sup, sup_get]
  refine ⟨by rw [sizeLine_eq]; decide, by rw [sizeLine_eq]; decide, by rw [resD_lst]; exact ⟨by decide +kernel, by decide +kernel⟩, by rw [resD_lst]; exact ⟨by decide +kernel, by decide +kernel⟩, ?_⟩
  have e : eqD (resD S2 (.lst [.str "rack", .str "rack", .str "number"])) (resD S2 (.lst [.str "rack", .str "rack", .str "number"])) = true := by rw [resD_lst]; decide +kernel
  rw [e]
  exact q S2 hw2 (sb1.trans sb2)
def sp_law : Sp2 := fun ds S Q E => ∃ script : List Int, ds = [.lst (iD script)] ∧ script.length ≤ 63 ∧ ∀ S', Q (.bl true) S'
theorem nums5_of {ms : List (Str × Int)} (h : mksOk ms) : nums5 (nsOf ms) := ⟨by simpa using h.2.1, fun x hx => by
  obtain ⟨p, hp, rfl⟩ := List.mem_map.mp hx
  exact (h.2.2.1 p hp).2⟩
theorem count_go {C CR CN : Addr} {ms : List (Str × Int)} {xs : List Int} {n : Int} {S : Sto} {Q : QK} {E : EK} (hm : mksOk ms) (hx : rkOk xs) (n0 : 0 ≤ n) (n1 : n ≤ 60) (q : Q (.int (cnt (nsOf ms) xs n.toNat)) S) : sp_count C CR CN [kindD C ms, rkD xs, .int n] S Q E := by
  refine ⟨ms, rkD xs, .int n, rfl, hm, rk_ok hx, ⟨_, rfl⟩, fun h => (by rw [rk_is hx] at h; cases h), fun _ h => (by simp [isWh, n0, n1] at h), fun ys m e1 _ e2 _ _ => ?_⟩
  have e3 : ys = xs := by
    simp only [rkD, D.tup.injEq, iD] at e1
    exact (List.map_inj_right (fun a b h => by simpa using h)).mp e1.symm
  simp only [D.int.injEq] at e2
  subst e3; subst e2
  exact q
theorem slD_lst {ds : List D} {l u : Option Int} {S : Sto} {Q : QK} : slD (.lst ds) l u S Q = Q (.lst (cutA ds l u)) S := by
  simp [slD, lstOf_lst]
theorem cut_mem {α : Type} {xs : List α} {l u : Option Int} {x : α} (h : x ∈ cutA xs l u) : x ∈ xs := List.mem_of_mem_drop (List.mem_of_mem_take h)
def r_tail (C CR CN : Addr) : TS2 :=
    (sSeq (sSet 8 (eCall (sp_count C CR CN) [] (aCons (eVar 5) (aCons (eVar 7) (aCons (eVar 6) aNil)))))
    (sSeq (sIf (tOr2 (tNot2 (tTru (eCB fIsi (aCons (eVar 8) (aCons (eC (.ty "int")) aNil))))) (tOr2 (tTru (eCB fIsi (aCons (eVar 8) (aCons (eC (.ty "bool")) aNil)))) (tBl (eOp opNe (eVar 8) (eCall sp_due [] (aCons (eVar 4) (aCons (eVar 7) (aCons (eVar 6) aNil))))))))
    (sRet (eC (.bl false))) sNext)
    (sSeq (sIf (tBl (eOp opNe (eCallK (sp_count C CR CN) (perm_count_to []) (aCons (eVar 6) (aCons (eVar 7) (aCons (eVar 5) aNil)))) (eVar 8)))
    (sRet (eC (.bl false))) sNext)
    (sSeq (sIf (tBl (eOp opLt (eVar 6) (eC (.int 60))))
    (sSeq (sSet 9 (eCall (sp_many C) [] (aCons (eVar 5) (aCons (eVar 7) (aCons (eOp opAdd (eVar 6) (eC (.int 1))) aNil)))))
    (sIf (tBl (eOp opNe (eCall (sp_count C CR CN) [] (aCons (eVar 5) (aCons (eVar 7) (aCons (eOp opAdd (eVar 6) (eC (.int 1))) aNil)))) (eOp opAdd (eVar 8) (eVar 9))))
    (sRet (eC (.bl false))) sNext)) sNext)
    (sSeq (sSet 10 (eCall (sp_rack ()) [] (aCons (eVar 2) (aCons (eC (.int 3)) (aCons (eC (.int 4)) aNil)))))
    (sSeq (sIf (tBl (eOp opNe (eCall (sp_count C CR CN) [] (aCons (eVar 5) (aCons (eCall sp_put_beside [] (aCons (eVar 7) (aCons (eVar 10) aNil))) (aCons (eVar 6) aNil)))) (eOp opAdd (eVar 8) (eCall sp_due [] (aCons (eVar 4) (aCons (eVar 10) (aCons (eVar 6) aNil)))))))
    (sRet (eC (.bl false))) sNext)
    (sIf (tNot2 (tTru (eCall (sp_refuse C) [] (aCons (eVar 2) (aCons (eVar 5) (aCons (eVar 7) aNil))))))
    (sRet (eC (.bl false))) sNext)))))))
theorem s_tail {C CR CN a : Addr} {D2 : Ends2} {e0 e1 e4 e9 e10 : Option D} {ms : List (Str × Int)} {great : Int} {xs : List Int} {S : Sto} (hm : mksOk ms) (g0 : 0 ≤ great) (g1 : great ≤ 60) (hx : rkOk xs) (hxl : xs.length ≤ 7) (hw : WellS S a)
    (hnx : ∀ (S' : Sto) e8 e9 e10, D2.nx [e0, e1, some (.ref a), some (.lst (mkD ms)), some (.lst (iD (nsOf ms))), some (kindD C ms), some (.int great), some (rkD xs), e8, e9, e10, none, none] S') :
    r_tail C CR CN D2 [e0, e1, some (.ref a), some (.lst (mkD ms)), some (.lst (iD (nsOf ms))), some (kindD C ms), some (.int great), some (rkD xs), e4, e9, e10, none, none] S := by
  have n5 := nums5_of hm
  unfold r_tail
  simp only [sSeq, sIf, sRet, sRetN, sSet, sExpr, sNext, sAug, sAugS, sAsg, sPar, sFldS, sFz, sRetZ, sRetZZ, sNever, sRaise, sWhile, sFor, sBreak, sCont, eVar, eC, eOp, eCB, lCB, eCBK, eTup, lDisp, lOp, lRep, eFr, eMu, eFld, eIf, eAnd, eOr, eNot, eNeg, unNeg, eChain, tBl, tTru, tAnd2, tOr2, tNot2, tYes2, aNil, aCons, eCall, eCallK, gN, gTup2, gsCons, gsNil, gSub2, iSeq, iRng, iRngB, iEnum2, iStr2, lLc, lLcR, eSl, lSl, oNo, oSome, eBM, lBM, eLenSet, eMeth, eMake, eMakeZ, endsOf, start2, List.map_cons, List.map_nil, List.length_cons, List.length_nil, Nat.reduceSub, Nat.reduceAdd, List.replicate_zero, List.replicate_succ, List.append_nil, List.cons_append, List.nil_append, List.getElem?_cons_zero, List.getElem?_cons_succ, List.set_cons_zero, List.set_cons_succ, Option.some.injEq, exists_eq_left', exists_eq_left, truOf_bl, Bool.not_true, Bool.not_false, if_true, if_false, Bool.false_eq_true, reduceIte, D.bl.injEq, D.int.injEq, D.str.injEq, D.tup.injEq, D.lst.injEq, D.ref.injEq, wipeD, List.cons.injEq, and_true, true_and, opAdd_int, opSub_int, opMul_int, opDiv_int, opMod_int, opPow_int, opLt_int, opLe_int, opGt_int, opGe_int, opAddI_int, opEq_int, opNe_int, opIsN_eq, opNotN_eq, isN_non, isN_int, isN_bl, isN_tup, isN_lst, isN_str, seqZ_lst, seqZ_tup, opIx_lst, opIx_tup, fLen_lst, fLen_tup, fSum_iD, fTuple_lst, fList_lst, fMin2_int, fMax2_int, exists_const, sup_sup, sup_get]
  refine count_go hm hx g0 g1 ?_
  have ci : ∀ (S : Sto) (n : Int), clsOf S (.int n) = some "int" := fun _ _ => rfl
  have e1 : isB "int" "int" = true := by decide
  have e2 : isB "int" "bool" = false := by decide
  rw [fIsi_of (ci _ _) (by decide), e1]
  simp only [sSeq, sIf, sRet, sRetN, sSet, sExpr, sNext, sAug, sAugS, sAsg, sPar, sFldS, sFz, sRetZ, sRetZZ, sNever, sRaise, sWhile, sFor, sBreak, sCont, eVar, eC, eOp, eCB, lCB, eCBK, eTup, lDisp, lOp, lRep, eFr, eMu, eFld, eIf, eAnd, eOr, eNot, eNeg, unNeg, eChain, tBl, tTru, tAnd2, tOr2, tNot2, tYes2, aNil, aCons, eCall, eCallK, gN, gTup2, gsCons, gsNil, gSub2, iSeq, iRng, iRngB, iEnum2, iStr2, lLc, lLcR, eSl, lSl, oNo, oSome, eBM, lBM, eLenSet, eMeth, eMake, eMakeZ, endsOf, start2, List.map_cons, List.map_nil, List.length_cons, List.length_nil, Nat.reduceSub, Nat.reduceAdd, List.replicate_zero, List.replicate_succ, List.append_nil, List.cons_append, List.nil_append, List.getElem?_cons_zero, List.getElem?_cons_succ, List.set_cons_zero, List.set_cons_succ, Option.some.injEq, exists_eq_left', exists_eq_left, truOf_bl, Bool.not_true, Bool.not_false, if_true, if_false, Bool.false_eq_true, reduceIte, D.bl.injEq, D.int.injEq, D.str.injEq, D.tup.injEq, D.lst.injEq, D.ref.injEq, wipeD, List.cons.injEq, and_true, true_and, opAdd_int, opSub_int, opMul_int, opDiv_int, opMod_int, opPow_int, opLt_int, opLe_int, opGt_int, opGe_int, opAddI_int, opEq_int, opNe_int, opIsN_eq, opNotN_eq, isN_non, isN_int, isN_bl, isN_tup, isN_lst, isN_str, seqZ_lst, seqZ_tup, opIx_lst, opIx_tup, fLen_lst, fLen_tup, fSum_iD, fTuple_lst, fList_lst, fMin2_int, fMax2_int, exists_const, sup_sup, sup_get]
  rw [fIsi_of (ci _ _) (by decide), e2]
  simp only [sSeq, sIf, sRet, sRetN, sSet, sExpr, sNext, sAug, sAugS, sAsg, sPar, sFldS, sFz, sRetZ, sRetZZ, sNever, sRaise, sWhile, sFor, sBreak, sCont, eVar, eC, eOp, eCB, lCB, eCBK, eTup, lDisp, lOp, lRep, eFr, eMu, eFld, eIf, eAnd, eOr, eNot, eNeg, unNeg, eChain, tBl, tTru, tAnd2, tOr2, tNot2, tYes2, aNil, aCons, eCall, eCallK, gN, gTup2, gsCons, gsNil, gSub2, iSeq, iRng, iRngB, iEnum2, iStr2, lLc, lLcR, eSl, lSl, oNo, oSome, eBM, lBM, eLenSet, eMeth, eMake, eMakeZ, endsOf, start2, List.map_cons, List.map_nil, List.length_cons, List.length_nil, Nat.reduceSub, Nat.reduceAdd, List.replicate_zero, List.replicate_succ, List.append_nil, List.cons_append, List.nil_append, List.getElem?_cons_zero, List.getElem?_cons_succ, List.set_cons_zero, List.set_cons_succ, Option.some.injEq, exists_eq_left', exists_eq_left, truOf_bl, Bool.not_true, Bool.not_false, if_true, if_false, Bool.false_eq_true, reduceIte, D.bl.injEq, D.int.injEq, D.str.injEq, D.tup.injEq, D.lst.injEq, D.ref.injEq, wipeD, List.cons.injEq, and_true, true_and, opAdd_int, opSub_int, opMul_int, opDiv_int, opMod_int, opPow_int, opLt_int, opLe_int, opGt_int, opGe_int, opAddI_int, opEq_int, opNe_int, opIsN_eq, opNotN_eq, isN_non, isN_int, isN_bl, isN_tup, isN_lst, isN_str, seqZ_lst, seqZ_tup, opIx_lst, opIx_tup, fLen_lst, fLen_tup, fSum_iD, fTuple_lst, fList_lst, fMin2_int, fMax2_int, exists_const, sup_sup, sup_get]
  refine ⟨nsOf ms, xs, great, rfl, n5, hx, g0, g1, ?_⟩
  simp only [sSeq, sIf, sRet, sRetN, sSet, sExpr, sNext, sAug, sAugS, sAsg, sPar, sFldS, sFz, sRetZ, sRetZZ, sNever, sRaise, sWhile, sFor, sBreak, sCont, eVar, eC, eOp, eCB, lCB, eCBK, eTup, lDisp, lOp, lRep, eFr, eMu, eFld, eIf, eAnd, eOr, eNot, eNeg, unNeg, eChain, tBl, tTru, tAnd2, tOr2, tNot2, tYes2, aNil, aCons, eCall, eCallK, gN, gTup2, gsCons, gsNil, gSub2, iSeq, iRng, iRngB, iEnum2, iStr2, lLc, lLcR, eSl, lSl, oNo, oSome, eBM, lBM, eLenSet, eMeth, eMake, eMakeZ, endsOf, start2, List.map_cons, List.map_nil, List.length_cons, List.length_nil, Nat.reduceSub, Nat.reduceAdd, List.replicate_zero, List.replicate_succ, List.append_nil, List.cons_append, List.nil_append, List.getElem?_cons_zero, List.getElem?_cons_succ, List.set_cons_zero, List.set_cons_succ, Option.some.injEq, exists_eq_left', exists_eq_left, truOf_bl, Bool.not_true, Bool.not_false, if_true, if_false, Bool.false_eq_true, reduceIte, D.bl.injEq, D.int.injEq, D.str.injEq, D.tup.injEq, D.lst.injEq, D.ref.injEq, wipeD, List.cons.injEq, and_true, true_and, opAdd_int, opSub_int, opMul_int, opDiv_int, opMod_int, opPow_int, opLt_int, opLe_int, opGt_int, opGe_int, opAddI_int, opEq_int, opNe_int, opIsN_eq, opNotN_eq, isN_non, isN_int, isN_bl, isN_tup, isN_lst, isN_str, seqZ_lst, seqZ_tup, opIx_lst, opIx_tup, fLen_lst, fLen_tup, fSum_iD, fTuple_lst, fList_lst, fMin2_int, fMax2_int, exists_const, sup_sup, sup_get, beq_self_eq_true]
  refine count_go hm hx g0 g1 ?_
  simp only [sSeq, sIf, sRet, sRetN, sSet, sExpr, sNext, sAug, sAugS, sAsg, sPar, sFldS, sFz, sRetZ, sRetZZ, sNever, sRaise, sWhile, sFor, sBreak, sCont, eVar, eC, eOp, eCB, lCB, eCBK, eTup, lDisp, lOp, lRep, eFr, eMu, eFld, eIf, eAnd, eOr, eNot, eNeg, unNeg, eChain, tBl, tTru, tAnd2, tOr2, tNot2, tYes2, aNil, aCons, eCall, eCallK, gN, gTup2, gsCons, gsNil, gSub2, iSeq, iRng, iRngB, iEnum2, iStr2, lLc, lLcR, eSl, lSl, oNo, oSome, eBM, lBM, eLenSet, eMeth, eMake, eMakeZ, endsOf, start2, List.map_cons, List.map_nil, List.length_cons, List.length_nil, Nat.reduceSub, Nat.reduceAdd, List.replicate_zero, List.replicate_succ, List.append_nil, List.cons_append, List.nil_append, List.getElem?_cons_zero, List.getElem?_cons_succ, List.set_cons_zero, List.set_cons_succ, Option.some.injEq, exists_eq_left', exists_eq_left, truOf_bl, Bool.not_true, Bool.not_false, if_true, if_false, Bool.false_eq_true, reduceIte, D.bl.injEq, D.int.injEq, D.str.injEq, D.tup.injEq, D.lst.injEq, D.ref.injEq, wipeD, List.cons.injEq, and_true, true_and, opAdd_int, opSub_int, opMul_int, opDiv_int, opMod_int, opPow_int, opLt_int, opLe_int, opGt_int, opGe_int, opAddI_int, opEq_int, opNe_int, opIsN_eq, opNotN_eq, isN_non, isN_int, isN_bl, isN_tup, isN_lst, isN_str, seqZ_lst, seqZ_tup, opIx_lst, opIx_tup, fLen_lst, fLen_tup, fSum_iD, fTuple_lst, fList_lst, fMin2_int, fMax2_int, exists_const, sup_sup, sup_get, beq_self_eq_true]
  by_cases h60 : great < 60
  · simp only [sSeq, sIf, sRet, sRetN, sSet, sExpr, sNext, sAug, sAugS, sAsg, sPar, sFldS, sFz, sRetZ, sRetZZ, sNever, sRaise, sWhile, sFor, sBreak, sCont, eVar, eC, eOp, eCB, lCB, eCBK, eTup, lDisp, lOp, lRep, eFr, eMu, eFld, eIf, eAnd, eOr, eNot, eNeg, unNeg, eChain, tBl, tTru, tAnd2, tOr2, tNot2, tYes2, aNil, aCons, eCall, eCallK, gN, gTup2, gsCons, gsNil, gSub2, iSeq, iRng, iRngB, iEnum2, iStr2, lLc, lLcR, eSl, lSl, oNo, oSome, eBM, lBM, eLenSet, eMeth, eMake, eMakeZ, endsOf, start2, List.map_cons, List.map_nil, List.length_cons, List.length_nil, Nat.reduceSub, Nat.reduceAdd, List.replicate_zero, List.replicate_succ, List.append_nil, List.cons_append, List.nil_append, List.getElem?_cons_zero, List.getElem?_cons_succ, List.set_cons_zero, List.set_cons_succ, Option.some.injEq, exists_eq_left', exists_eq_left, truOf_bl, Bool.not_true, Bool.not_false, if_true, if_false, Bool.false_eq_true, reduceIte, D.bl.injEq, D.int.injEq, D.str.injEq, D.tup.injEq, D.lst.injEq, D.ref.injEq, wipeD, List.cons.injEq, and_true, true_and, opAdd_int, opSub_int, opMul_int, opDiv_int, opMod_int, opPow_int, opLt_int, opLe_int, opGt_int, opGe_int, opAddI_int, opEq_int, opNe_int, opIsN_eq, opNotN_eq, isN_non, isN_int, isN_bl, isN_tup, isN_lst, isN_str, seqZ_lst, seqZ_tup, opIx_lst, opIx_tup, fLen_lst, fLen_tup, fSum_iD, fTuple_lst, fList_lst, fMin2_int, fMax2_int, exists_const, sup_sup, sup_get, h60, decide_true]
    refine ⟨ms, xs, great + 1, rfl, hm, hx, by omega, by omega, ?_⟩
    refine count_go hm hx (by omega) (by omega) ?_
    rw [show (great + 1).toNat = great.toNat + 1 by omega, cnt_more]
    simp only [sSeq, sIf, sRet, sRetN, sSet, sExpr, sNext, sAug, sAugS, sAsg, sPar, sFldS, sFz, sRetZ, sRetZZ, sNever, sRaise, sWhile, sFor, sBreak, sCont, eVar, eC, eOp, eCB, lCB, eCBK, eTup, lDisp, lOp, lRep, eFr, eMu, eFld, eIf, eAnd, eOr, eNot, eNeg, unNeg, eChain, tBl, tTru, tAnd2, tOr2, tNot2, tYes2, aNil, aCons, eCall, eCallK, gN, gTup2, gsCons, gsNil, gSub2, iSeq, iRng, iRngB, iEnum2, iStr2, lLc, lLcR, eSl, lSl, oNo, oSome, eBM, lBM, eLenSet, eMeth, eMake, eMakeZ, endsOf, start2, List.map_cons, List.map_nil, List.length_cons, List.length_nil, Nat.reduceSub, Nat.reduceAdd, List.replicate_zero, List.replicate_succ, List.append_nil, List.cons_append, List.nil_append, List.getElem?_cons_zero, List.getElem?_cons_succ, List.set_cons_zero, List.set_cons_succ, Option.some.injEq, exists_eq_left', exists_eq_left, truOf_bl, Bool.not_true, Bool.not_false, if_true, if_false, Bool.false_eq_true, reduceIte, D.bl.injEq, D.int.injEq, D.str.injEq, D.tup.injEq, D.lst.injEq, D.ref.injEq, wipeD, List.cons.injEq, and_true, true_and, opAdd_int, opSub_int, opMul_int, opDiv_int, opMod_int, opPow_int, opLt_int, opLe_int, opGt_int, opGe_int, opAddI_int, opEq_int, opNe_int, opIsN_eq, opNotN_eq, isN_non, isN_int, isN_bl, isN_tup, isN_lst, isN_str, seqZ_lst, seqZ_tup, opIx_lst, opIx_tup, fLen_lst, fLen_tup, fSum_iD, fTuple_lst, fList_lst, fMin2_int, fMax2_int, exists_const, sup_sup, sup_get, beq_self_eq_true]
    refine ⟨a, 3, 4, rfl, hw, by omega, by omega, by omega, by omega, fun ys S1 y1 y2 hw1 _ => ?_⟩
    have hy : rkOk ys := ⟨by omega, fun x hx => ⟨(y2 x hx).1, by have := (y2 x hx).2; omega⟩⟩
    have hxy : rkOk (xs ++ ys) := ⟨by simp; omega, fun x h => by
      rcases List.mem_append.mp h with h | h
      · exact hx.2 x h
      · exact hy.2 x h⟩
    refine ⟨xs, ys, rfl, hx, hy, by omega, ?_⟩
    refine count_go hm hxy g0 g1 ?_
    refine ⟨nsOf ms, ys, great, rfl, n5, hy, g0, g1, ?_⟩
    rw [cnt_app]
    simp only [sSeq, sIf, sRet, sRetN, sSet, sExpr, sNext, sAug, sAugS, sAsg, sPar, sFldS, sFz, sRetZ, sRetZZ, sNever, sRaise, sWhile, sFor, sBreak, sCont, eVar, eC, eOp, eCB, lCB, eCBK, eTup, lDisp, lOp, lRep, eFr, eMu, eFld, eIf, eAnd, eOr, eNot, eNeg, unNeg, eChain, tBl, tTru, tAnd2, tOr2, tNot2, tYes2, aNil, aCons, eCall, eCallK, gN, gTup2, gsCons, gsNil, gSub2, iSeq, iRng, iRngB, iEnum2, iStr2, lLc, lLcR, eSl, lSl, oNo, oSome, eBM, lBM, eLenSet, eMeth, eMake, eMakeZ, endsOf, start2, List.map_cons, List.map_nil, List.length_cons, List.length_nil, Nat.reduceSub, Nat.reduceAdd, List.replicate_zero, List.replicate_succ, List.append_nil, List.cons_append, List.nil_append, List.getElem?_cons_zero, List.getElem?_cons_succ, List.set_cons_zero, List.set_cons_succ, Option.some.injEq, exists_eq_left', exists_eq_left, truOf_bl, Bool.not_true, Bool.not_false, if_true, if_false, Bool.false_eq_true, reduceIte, D.bl.injEq, D.int.injEq, D.str.injEq, D.tup.injEq, D.lst.injEq, D.ref.injEq, wipeD, List.cons.injEq, and_true, true_and, opAdd_int, opSub_int, opMul_int, opDiv_int, opMod_int, opPow_int, opLt_int, opLe_int, opGt_int, opGe_int, opAddI_int, opEq_int, opNe_int, opIsN_eq, opNotN_eq, isN_non, isN_int, isN_bl, isN_tup, isN_lst, isN_str, seqZ_lst, seqZ_tup, opIx_lst, opIx_tup, fLen_lst, fLen_tup, fSum_iD, fTuple_lst, fList_lst, fMin2_int, fMax2_int, exists_const, sup_sup, sup_get, beq_self_eq_true]
    refine ⟨a, ms, xs, rfl, hw1, hm, hx, fun S2 _ _ => ?_⟩
    simp only [sSeq, sIf, sRet, sRetN, sSet, sExpr, sNext, sAug, sAugS, sAsg, sPar, sFldS, sFz, sRetZ, sRetZZ, sNever, sRaise, sWhile, sFor, sBreak, sCont, eVar, eC, eOp, eCB, lCB, eCBK, eTup, lDisp, lOp, lRep, eFr, eMu, eFld, eIf, eAnd, eOr, eNot, eNeg, unNeg, eChain, tBl, tTru, tAnd2, tOr2, tNot2, tYes2, aNil, aCons, eCall, eCallK, gN, gTup2, gsCons, gsNil, gSub2, iSeq, iRng, iRngB, iEnum2, iStr2, lLc, lLcR, eSl, lSl, oNo, oSome, eBM, lBM, eLenSet, eMeth, eMake, eMakeZ, endsOf, start2, List.map_cons, List.map_nil, List.length_cons, List.length_nil, Nat.reduceSub, Nat.reduceAdd, List.replicate_zero, List.replicate_succ, List.append_nil, List.cons_append, List.nil_append, List.getElem?_cons_zero, List.getElem?_cons_succ, List.set_cons_zero, List.set_cons_succ, Option.some.injEq, exists_eq_left', exists_eq_left, truOf_bl, Bool.not_true, Bool.not_false, if_true, if_false, Bool.false_eq_true, reduceIte, D.bl.injEq, D.int.injEq, D.str.injEq, D.tup.injEq, D.lst.injEq, D.ref.injEq, wipeD, List.cons.injEq, and_true, true_and, opAdd_int, opSub_int, opMul_int, opDiv_int, opMod_int, opPow_int, opLt_int, opLe_int, opGt_int, opGe_int, opAddI_int, opEq_int, opNe_int, opIsN_eq, opNotN_eq, isN_non, isN_int, isN_bl, isN_tup, isN_lst, isN_str, seqZ_lst, seqZ_tup, opIx_lst, opIx_tup, fLen_lst, fLen_tup, fSum_iD, fTuple_lst, fList_lst, fMin2_int, fMax2_int, exists_const, sup_sup, sup_get]
    exact hnx _ _ _ _
  · simp only [sSeq, sIf, sRet, sRetN, sSet, sExpr, sNext, sAug, sAugS, sAsg, sPar, sFldS, sFz, sRetZ, sRetZZ, sNever, sRaise, sWhile, sFor, sBreak, sCont, eVar, eC, eOp, eCB, lCB, eCBK, eTup, lDisp, lOp, lRep, eFr, eMu, eFld, eIf, eAnd, eOr, eNot, eNeg, unNeg, eChain, tBl, tTru, tAnd2, tOr2, tNot2, tYes2, aNil, aCons, eCall, eCallK, gN, gTup2, gsCons, gsNil, gSub2, iSeq, iRng, iRngB, iEnum2, iStr2, lLc, lLcR, eSl, lSl, oNo, oSome, eBM, lBM, eLenSet, eMeth, eMake, eMakeZ, endsOf, start2, List.map_cons, List.map_nil, List.length_cons, List.length_nil, Nat.reduceSub, Nat.reduceAdd, List.replicate_zero, List.replicate_succ, List.append_nil, List.cons_append, List.nil_append, List.getElem?_cons_zero, List.getElem?_cons_succ, List.set_cons_zero, List.set_cons_succ, Option.some.injEq, exists_eq_left', exists_eq_left, truOf_bl, Bool.not_true, Bool.not_false, if_true, if_false, Bool.false_eq_true, reduceIte, D.bl.injEq, D.int.injEq, D.str.injEq, D.tup.injEq, D.lst.injEq, D.ref.injEq, wipeD, List.cons.injEq, and_true, true_and, opAdd_int, opSub_int, opMul_int, opDiv_int, opMod_int, opPow_int, opLt_int, opLe_int, opGt_int, opGe_int, opAddI_int, opEq_int, opNe_int, opIsN_eq, opNotN_eq, isN_non, isN_int, isN_bl, isN_tup, isN_lst, isN_str, seqZ_lst, seqZ_tup, opIx_lst, opIx_tup, fLen_lst, fLen_tup, fSum_iD, fTuple_lst, fList_lst, fMin2_int, fMax2_int, exists_const, sup_sup, sup_get, h60, decide_false]
    refine ⟨a, 3, 4, rfl, hw, by omega, by omega, by omega, by omega, fun ys S1 y1 y2 hw1 _ => ?_⟩
    have hy : rkOk ys := ⟨by omega, fun x hx => ⟨(y2 x hx).1, by have := (y2 x hx).2; omega⟩⟩
    have hxy : rkOk (xs ++ ys) := ⟨by simp; omega, fun x h => by
      rcases List.mem_append.mp h with h | h
      · exact hx.2 x h
      · exact hy.2 x h⟩
    refine ⟨xs, ys, rfl, hx, hy, by omega, ?_⟩
    refine count_go hm hxy g0 g1 ?_
    refine ⟨nsOf ms, ys, great, rfl, n5, hy, g0, g1, ?_⟩
    rw [cnt_app]
    simp only [sSeq, sIf, sRet, sRetN, sSet, sExpr, sNext, sAug, sAugS, sAsg, sPar, sFldS, sFz, sRetZ, sRetZZ, sNever, sRaise, sWhile, sFor, sBreak, sCont, eVar, eC, eOp, eCB, lCB, eCBK, eTup, lDisp, lOp, lRep, eFr, eMu, eFld, eIf, eAnd, eOr, eNot, eNeg, unNeg, eChain, tBl, tTru, tAnd2, tOr2, tNot2, tYes2, aNil, aCons, eCall, eCallK, gN, gTup2, gsCons, gsNil, gSub2, iSeq, iRng, iRngB, iEnum2, iStr2, lLc, lLcR, eSl, lSl, oNo, oSome, eBM, lBM, eLenSet, eMeth, eMake, eMakeZ, endsOf, start2, List.map_cons, List.map_nil, List.length_cons, List.length_nil, Nat.reduceSub, Nat.reduceAdd, List.replicate_zero, List.replicate_succ, List.append_nil, List.cons_append, List.nil_append, List.getElem?_cons_zero, List.getElem?_cons_succ, List.set_cons_zero, List.set_cons_succ, Option.some.injEq, exists_eq_left', exists_eq_left, truOf_bl, Bool.not_true, Bool.not_false, if_true, if_false, Bool.false_eq_true, reduceIte, D.bl.injEq, D.int.injEq, D.str.injEq, D.tup.injEq, D.lst.injEq, D.ref.injEq, wipeD, List.cons.injEq, and_true, true_and, opAdd_int, opSub_int, opMul_int, opDiv_int, opMod_int, opPow_int, opLt_int, opLe_int, opGt_int, opGe_int, opAddI_int, opEq_int, opNe_int, opIsN_eq, opNotN_eq, isN_non, isN_int, isN_bl, isN_tup, isN_lst, isN_str, seqZ_lst, seqZ_tup, opIx_lst, opIx_tup, fLen_lst, fLen_tup, fSum_iD, fTuple_lst, fList_lst, fMin2_int, fMax2_int, exists_const, sup_sup, sup_get, beq_self_eq_true]
    refine ⟨a, ms, xs, rfl, hw1, hm, hx, fun S2 _ _ => ?_⟩
    simp only [sSeq, sIf, sRet, sRetN, sSet, sExpr, sNext, sAug, sAugS, sAsg, sPar, sFldS, sFz, sRetZ, sRetZZ, sNever, sRaise, sWhile, sFor, sBreak, sCont, eVar, eC, eOp, eCB, lCB, eCBK, eTup, lDisp, lOp, lRep, eFr, eMu, eFld, eIf, eAnd, eOr, eNot, eNeg, unNeg, eChain, tBl, tTru, tAnd2, tOr2, tNot2, tYes2, aNil, aCons, eCall, eCallK, gN, gTup2, gsCons, gsNil, gSub2, iSeq, iRng, iRngB, iEnum2, iStr2, lLc, lLcR, eSl, lSl, oNo, oSome, eBM, lBM, eLenSet, eMeth, eMake, eMakeZ, endsOf, start2, List.map_cons, List.map_nil, List.length_cons, List.length_nil, Nat.reduceSub, Nat.reduceAdd, List.replicate_zero, List.replicate_succ, List.append_nil, List.cons_append, List.nil_append, List.getElem?_cons_zero, List.getElem?_cons_succ, List.set_cons_zero, List.set_cons_succ, Option.some.injEq, exists_eq_left', exists_eq_left, truOf_bl, Bool.not_true, Bool.not_false, if_true, if_false, Bool.false_eq_true, reduceIte, D.bl.injEq, D.int.injEq, D.str.injEq, D.tup.injEq, D.lst.injEq, D.ref.injEq, wipeD, List.cons.injEq, and_true, true_and, opAdd_int, opSub_int, opMul_int, opDiv_int, opMod_int, opPow_int, opLt_int, opLe_int, opGt_int, opGe_int, opAddI_int, opEq_int, opNe_int, opIsN_eq, opNotN_eq, isN_non, isN_int, isN_bl, isN_tup, isN_lst, isN_str, seqZ_lst, seqZ_tup, opIx_lst, opIx_tup, fLen_lst, fLen_tup, fSum_iD, fTuple_lst, fList_lst, fMin2_int, fMax2_int, exists_const, sup_sup, sup_get]
    exact hnx _ _ _ _
theorem s_law {C CR CN : Addr} : ∀ ds S Q E, sp_law ds S Q E → r_law C (sp_refuse C) (sp_count C CR CN) sp_put_beside sp_due (sp_rack ()) (sp_many C) sp_draw (sp_init C) sp_mks sp_well (endsOf Q E) (start2 N_law ds) S := by
  rintro _ S Q E ⟨script, rfl, hl, q⟩
  unfold r_law
  simp only [sSeq, sIf, sRet, sRetN, sSet, sExpr, sNext, sAug, sAugS, sAsg, sPar, sFldS, sFz, sRetZ, sRetZZ, sNever, sRaise, sWhile, sFor, sBreak, sCont, eVar, eC, eOp, eCB, lCB, eCBK, eTup, lDisp, lOp, lRep, eFr, eMu, eFld, eIf, eAnd, eOr, eNot, eNeg, unNeg, eChain, tBl, tTru, tAnd2, tOr2, tNot2, tYes2, aNil, aCons, eCall, eCallK, gN, gTup2, gsCons, gsNil, gSub2, iSeq, iRng, iRngB, iEnum2, iStr2, lLc, lLcR, eSl, lSl, oNo, oSome, eBM, lBM, eLenSet, eMeth, eMake, eMakeZ, endsOf, start2, List.map_cons, List.map_nil, List.length_cons, List.length_nil, Nat.reduceSub, Nat.reduceAdd, List.replicate_zero, List.replicate_succ, List.append_nil, List.cons_append, List.nil_append, List.getElem?_cons_zero, List.getElem?_cons_succ, List.set_cons_zero, List.set_cons_succ, Option.some.injEq, exists_eq_left', exists_eq_left, truOf_bl, Bool.not_true, Bool.not_false, if_true, if_false, Bool.false_eq_true, reduceIte, D.bl.injEq, D.int.injEq, D.str.injEq, D.tup.injEq, D.lst.injEq, D.ref.injEq, wipeD, List.cons.injEq, and_true, true_and, opAdd_int, opSub_int, opMul_int, opDiv_int, opMod_int, opPow_int, opLt_int, opLe_int, opGt_int, opGe_int, opAddI_int, opEq_int, opNe_int, opIsN_eq, opNotN_eq, isN_non, isN_int, isN_bl, isN_tup, isN_lst, isN_str, seqZ_lst, seqZ_tup, opIx_lst, opIx_tup, fLen_lst, fLen_tup, fSum_iD, fTuple_lst, fList_lst, fMin2_int, fMax2_int, exists_const, sup_sup, sup_get]
  refine ⟨by rw [sizeLine_eq]; omega, iD script, [.int 0], rfl, rfl, by rw [iD_len, sizeLine_eq]; simp; omega, ?_⟩
  dsimp only
  rw [slD_lst]
  simp only [sSeq, sIf, sRet, sRetN, sSet, sExpr, sNext, sAug, sAugS, sAsg, sPar, sFldS, sFz, sRetZ, sRetZZ, sNever, sRaise, sWhile, sFor, sBreak, sCont, eVar, eC, eOp, eCB, lCB, eCBK, eTup, lDisp, lOp, lRep, eFr, eMu, eFld, eIf, eAnd, eOr, eNot, eNeg, unNeg, eChain, tBl, tTru, tAnd2, tOr2, tNot2, tYes2, aNil, aCons, eCall, eCallK, gN, gTup2, gsCons, gsNil, gSub2, iSeq, iRng, iRngB, iEnum2, iStr2, lLc, lLcR, eSl, lSl, oNo, oSome, eBM, lBM, eLenSet, eMeth, eMake, eMakeZ, endsOf, start2, List.map_cons, List.map_nil, List.length_cons, List.length_nil, Nat.reduceSub, Nat.reduceAdd, List.replicate_zero, List.replicate_succ, List.append_nil, List.cons_append, List.nil_append, List.getElem?_cons_zero, List.getElem?_cons_succ, List.set_cons_zero, List.set_cons_succ, Option.some.injEq, exists_eq_left', exists_eq_left, truOf_bl, Bool.not_true, Bool.not_false, if_true, if_false, Bool.false_eq_true, reduceIte, D.bl.injEq, D.int.injEq, D.str.injEq, D.tup.injEq, D.lst.injEq, D.ref.injEq, wipeD, List.cons.injEq, and_true, true_and, opAdd_int, opSub_int, opMul_int, opDiv_int, opMod_int, opPow_int, opLt_int, opLe_int, opGt_int, opGe_int, opAddI_int, opEq_int, opNe_int, opIsN_eq, opNotN_eq, isN_non, isN_int, isN_bl, isN_tup, isN_lst, isN_str, seqZ_lst, seqZ_tup, opIx_lst, opIx_tup, fLen_lst, fLen_tup, fSum_iD, fTuple_lst, fList_lst, fMin2_int, fMax2_int, exists_const, sup_sup, sup_get]
  refine forGo_inv (fun i ρ S' => ∃ e1 e2 e3 e4 e5 e6 e7 e8 e9 e10, ρ = [some (.lst (iD script)), e1, e2, e3, e4, e5, e6, e7, e8, e9, e10, none, none]) ?_ ⟨_, _, _, _, _, _, _, _, _, _, rfl⟩ ?_
  · rintro i d ρ S0 nx bk ct hd ⟨e1, e2, e3, e4, e5, e6, e7, e8, e9, e10, rfl⟩ hnx _ _
    have hdi : ∃ n, d = .int n := by
      have := cut_mem (List.mem_of_getElem? hd)
      rcases List.mem_append.mp this with h | h
      · obtain ⟨n, _, rfl⟩ := List.mem_map.mp h; exact ⟨n, rfl⟩
      · simp at h; exact ⟨0, h⟩
    obtain ⟨cell, rfl⟩ := hdi
    simp only [sSeq, sIf, sRet, sRetN, sSet, sExpr, sNext, sAug, sAugS, sAsg, sPar, sFldS, sFz, sRetZ, sRetZZ, sNever, sRaise, sWhile, sFor, sBreak, sCont, eVar, eC, eOp, eCB, lCB, eCBK, eTup, lDisp, lOp, lRep, eFr, eMu, eFld, eIf, eAnd, eOr, eNot, eNeg, unNeg, eChain, tBl, tTru, tAnd2, tOr2, tNot2, tYes2, aNil, aCons, eCall, eCallK, gN, gTup2, gsCons, gsNil, gSub2, iSeq, iRng, iRngB, iEnum2, iStr2, lLc, lLcR, eSl, lSl, oNo, oSome, eBM, lBM, eLenSet, eMeth, eMake, eMakeZ, endsOf, start2, List.map_cons, List.map_nil, List.length_cons, List.length_nil, Nat.reduceSub, Nat.reduceAdd, List.replicate_zero, List.replicate_succ, List.append_nil, List.cons_append, List.nil_append, List.getElem?_cons_zero, List.getElem?_cons_succ, List.set_cons_zero, List.set_cons_succ, Option.some.injEq, exists_eq_left', exists_eq_left, truOf_bl, Bool.not_true, Bool.not_false, if_true, if_false, Bool.false_eq_true, reduceIte, D.bl.injEq, D.int.injEq, D.str.injEq, D.tup.injEq, D.lst.injEq, D.ref.injEq, wipeD, List.cons.injEq, and_true, true_and, opAdd_int, opSub_int, opMul_int, opDiv_int, opMod_int, opPow_int, opLt_int, opLe_int, opGt_int, opGe_int, opAddI_int, opEq_int, opNe_int, opIsN_eq, opNotN_eq, isN_non, isN_int, isN_bl, isN_tup, isN_lst, isN_str, seqZ_lst, seqZ_tup, opIx_lst, opIx_tup, fLen_lst, fLen_tup, fSum_iD, fTuple_lst, fList_lst, fMin2_int, fMax2_int, exists_const, sup_sup, sup_get]
    refine ⟨cell, rfl, fun a S1 _ hw1 _ => ?_⟩
    simp only [sSeq, sIf, sRet, sRetN, sSet, sExpr, sNext, sAug, sAugS, sAsg, sPar, sFldS, sFz, sRetZ, sRetZZ, sNever, sRaise, sWhile, sFor, sBreak, sCont, eVar, eC, eOp, eCB, lCB, eCBK, eTup, lDisp, lOp, lRep, eFr, eMu, eFld, eIf, eAnd, eOr, eNot, eNeg, unNeg, eChain, tBl, tTru, tAnd2, tOr2, tNot2, tYes2, aNil, aCons, eCall, eCallK, gN, gTup2, gsCons, gsNil, gSub2, iSeq, iRng, iRngB, iEnum2, iStr2, lLc, lLcR, eSl, lSl, oNo, oSome, eBM, lBM, eLenSet, eMeth, eMake, eMakeZ, endsOf, start2, List.map_cons, List.map_nil, List.length_cons, List.length_nil, Nat.reduceSub, Nat.reduceAdd, List.replicate_zero, List.replicate_succ, List.append_nil, List.cons_append, List.nil_append, List.getElem?_cons_zero, List.getElem?_cons_succ, List.set_cons_zero, List.set_cons_succ, Option.some.injEq, exists_eq_left', exists_eq_left, truOf_bl, Bool.not_true, Bool.not_false, if_true, if_false, Bool.false_eq_true, reduceIte, D.bl.injEq, D.int.injEq, D.str.injEq, D.tup.injEq, D.lst.injEq, D.ref.injEq, wipeD, List.cons.injEq, and_true, true_and, opAdd_int, opSub_int, opMul_int, opDiv_int, opMod_int, opPow_int, opLt_int, opLe_int, opGt_int, opGe_int, opAddI_int, opEq_int, opNe_int, opIsN_eq, opNotN_eq, isN_non, isN_int, isN_bl, isN_tup, isN_lst, isN_str, seqZ_lst, seqZ_tup, opIx_lst, opIx_tup, fLen_lst, fLen_tup, fSum_iD, fTuple_lst, fList_lst, fMin2_int, fMax2_int, exists_const, sup_sup, sup_get]
    refine ⟨a, rfl, hw1, fun ms S2 hm hw2 _ => ?_⟩
    simp only [sSeq, sIf, sRet, sRetN, sSet, sExpr, sNext, sAug, sAugS, sAsg, sPar, sFldS, sFz, sRetZ, sRetZZ, sNever, sRaise, sWhile, sFor, sBreak, sCont, eVar, eC, eOp, eCB, lCB, eCBK, eTup, lDisp, lOp, lRep, eFr, eMu, eFld, eIf, eAnd, eOr, eNot, eNeg, unNeg, eChain, tBl, tTru, tAnd2, tOr2, tNot2, tYes2, aNil, aCons, eCall, eCallK, gN, gTup2, gsCons, gsNil, gSub2, iSeq, iRng, iRngB, iEnum2, iStr2, lLc, lLcR, eSl, lSl, oNo, oSome, eBM, lBM, eLenSet, eMeth, eMake, eMakeZ, endsOf, start2, List.map_cons, List.map_nil, List.length_cons, List.length_nil, Nat.reduceSub, Nat.reduceAdd, List.replicate_zero, List.replicate_succ, List.append_nil, List.cons_append, List.nil_append, List.getElem?_cons_zero, List.getElem?_cons_succ, List.set_cons_zero, List.set_cons_succ, Option.some.injEq, exists_eq_left', exists_eq_left, truOf_bl, Bool.not_true, Bool.not_false, if_true, if_false, Bool.false_eq_true, reduceIte, D.bl.injEq, D.int.injEq, D.str.injEq, D.tup.injEq, D.lst.injEq, D.ref.injEq, wipeD, List.cons.injEq, and_true, true_and, opAdd_int, opSub_int, opMul_int, opDiv_int, opMod_int, opPow_int, opLt_int, opLe_int, opGt_int, opGe_int, opAddI_int, opEq_int, opNe_int, opIsN_eq, opNotN_eq, isN_non, isN_int, isN_bl, isN_tup, isN_lst, isN_str, seqZ_lst, seqZ_tup, opIx_lst, opIx_tup, fLen_lst, fLen_tup, fSum_iD, fTuple_lst, fList_lst, fMin2_int, fMax2_int, exists_const, sup_sup, sup_get]
    refine lcGo_map dNum (fun d hd K k => ?_) (by rw [mkD_len]; exact small8 (by have := hm.2.1; omega)) ?_
    · simp only [mkD, List.mem_map] at hd
      obtain ⟨p, hp, rfl⟩ := hd
      simp only [sSeq, sIf, sRet, sRetN, sSet, sExpr, sNext, sAug, sAugS, sAsg, sPar, sFldS, sFz, sRetZ, sRetZZ, sNever, sRaise, sWhile, sFor, sBreak, sCont, eVar, eC, eOp, eCB, lCB, eCBK, eTup, lDisp, lOp, lRep, eFr, eMu, eFld, eIf, eAnd, eOr, eNot, eNeg, unNeg, eChain, tBl, tTru, tAnd2, tOr2, tNot2, tYes2, aNil, aCons, eCall, eCallK, gN, gTup2, gsCons, gsNil, gSub2, iSeq, iRng, iRngB, iEnum2, iStr2, lLc, lLcR, eSl, lSl, oNo, oSome, eBM, lBM, eLenSet, eMeth, eMake, eMakeZ, endsOf, start2, List.map_cons, List.map_nil, List.length_cons, List.length_nil, Nat.reduceSub, Nat.reduceAdd, List.replicate_zero, List.replicate_succ, List.append_nil, List.cons_append, List.nil_append, List.getElem?_cons_zero, List.getElem?_cons_succ, List.set_cons_zero, List.set_cons_succ, Option.some.injEq, exists_eq_left', exists_eq_left, truOf_bl, Bool.not_true, Bool.not_false, if_true, if_false, Bool.false_eq_true, reduceIte, D.bl.injEq, D.int.injEq, D.str.injEq, D.tup.injEq, D.lst.injEq, D.ref.injEq, wipeD, List.cons.injEq, and_true, true_and, opAdd_int, opSub_int, opMul_int, opDiv_int, opMod_int, opPow_int, opLt_int, opLe_int, opGt_int, opGe_int, opAddI_int, opEq_int, opNe_int, opIsN_eq, opNotN_eq, isN_non, isN_int, isN_bl, isN_tup, isN_lst, isN_str, seqZ_lst, seqZ_tup, opIx_lst, opIx_tup, fLen_lst, fLen_tup, fSum_iD, fTuple_lst, fList_lst, fMin2_int, fMax2_int, exists_const, sup_sup, sup_get]
      exact ⟨_, _, ⟨rfl, rfl⟩, _, _, rfl, rfl, k⟩
    rw [nums_iD]
    intro p hp
    refine ⟨p, ms, rfl, hm, sup_same, rfl, p, _, rfl, by rw [sup_sup]; exact sup_same, ?_⟩
    rw [sup_sup, sdel_sup hp]
    have hk : D.obj C (([("rows", D.lst (mkD ms))] : List (Str × D)).map (·.1)) (([("rows", D.lst (mkD ms))] : List (Str × D)).map (·.2)) = kindD C ms := rfl
    rw [hk]
    -- the size
    refine ⟨a, 7, rfl, hw2, by omega, by omega, fun r S3 r1 r2 hw3 _ => ?_⟩
    refine ⟨a, 25, rfl, hw3, by omega, by omega, fun t S4 t1 t2 hw4 _ => ?_⟩
    simp only [sSeq, sIf, sRet, sRetN, sSet, sExpr, sNext, sAug, sAugS, sAsg, sPar, sFldS, sFz, sRetZ, sRetZZ, sNever, sRaise, sWhile, sFor, sBreak, sCont, eVar, eC, eOp, eCB, lCB, eCBK, eTup, lDisp, lOp, lRep, eFr, eMu, eFld, eIf, eAnd, eOr, eNot, eNeg, unNeg, eChain, tBl, tTru, tAnd2, tOr2, tNot2, tYes2, aNil, aCons, eCall, eCallK, gN, gTup2, gsCons, gsNil, gSub2, iSeq, iRng, iRngB, iEnum2, iStr2, lLc, lLcR, eSl, lSl, oNo, oSome, eBM, lBM, eLenSet, eMeth, eMake, eMakeZ, endsOf, start2, List.map_cons, List.map_nil, List.length_cons, List.length_nil, Nat.reduceSub, Nat.reduceAdd, List.replicate_zero, List.replicate_succ, List.append_nil, List.cons_append, List.nil_append, List.getElem?_cons_zero, List.getElem?_cons_succ, List.set_cons_zero, List.set_cons_succ, Option.some.injEq, exists_eq_left', exists_eq_left, truOf_bl, Bool.not_true, Bool.not_false, if_true, if_false, Bool.false_eq_true, reduceIte, D.bl.injEq, D.int.injEq, D.str.injEq, D.tup.injEq, D.lst.injEq, D.ref.injEq, wipeD, List.cons.injEq, and_true, true_and, opAdd_int, opSub_int, opMul_int, opDiv_int, opMod_int, opPow_int, opLt_int, opLe_int, opGt_int, opGe_int, opAddI_int, opEq_int, opNe_int, opIsN_eq, opNotN_eq, isN_non, isN_int, isN_bl, isN_tup, isN_lst, isN_str, seqZ_lst, seqZ_tup, opIx_lst, opIx_tup, fLen_lst, fLen_tup, fSum_iD, fTuple_lst, fList_lst, fMin2_int, fMax2_int, exists_const, sup_sup, sup_get, iD_len, fInt_bl]
    have hv : ∃ v : Int, (v = 24 ∨ v = 60) ∧ L2.atI [D.int 24, D.int 60] (if (((nsOf ms).length : Int) == 2) = true then 1 else 0) = some (.int v) := by
      split
      · exact ⟨60, .inr rfl, rfl⟩
      · exact ⟨24, .inl rfl, rfl⟩
    obtain ⟨v, hv1, hv2⟩ := hv
    refine ⟨by rw [sizeLine_eq]; decide, _, hv2, by rw [sizeLine_eq]; decide, ?_⟩
    refine ⟨a, 3, rfl, hw4, by omega, by omega, fun u S5 u1 u2 hw5 _ => ?_⟩
    have hg : ∃ great : Int, 0 ≤ great ∧ great ≤ 60 ∧ L2.atI [D.int r, D.int t, D.int v] u = some (.int great) := by
      have hu : u = 0 ∨ u = 1 ∨ u = 2 := by omega
      rcases hu with rfl | rfl | rfl
      · exact ⟨r, by omega, by omega, rfl⟩
      · exact ⟨t, by omega, by omega, rfl⟩
      · exact ⟨v, by omega, by omega, rfl⟩
    obtain ⟨great, g0, g1, hg2⟩ := hg
    simp only [sSeq, sIf, sRet, sRetN, sSet, sExpr, sNext, sAug, sAugS, sAsg, sPar, sFldS, sFz, sRetZ, sRetZZ, sNever, sRaise, sWhile, sFor, sBreak, sCont, eVar, eC, eOp, eCB, lCB, eCBK, eTup, lDisp, lOp, lRep, eFr, eMu, eFld, eIf, eAnd, eOr, eNot, eNeg, unNeg, eChain, tBl, tTru, tAnd2, tOr2, tNot2, tYes2, aNil, aCons, eCall, eCallK, gN, gTup2, gsCons, gsNil, gSub2, iSeq, iRng, iRngB, iEnum2, iStr2, lLc, lLcR, eSl, lSl, oNo, oSome, eBM, lBM, eLenSet, eMeth, eMake, eMakeZ, endsOf, start2, List.map_cons, List.map_nil, List.length_cons, List.length_nil, Nat.reduceSub, Nat.reduceAdd, List.replicate_zero, List.replicate_succ, List.append_nil, List.cons_append, List.nil_append, List.getElem?_cons_zero, List.getElem?_cons_succ, List.set_cons_zero, List.set_cons_succ, Option.some.injEq, exists_eq_left', exists_eq_left, truOf_bl, Bool.not_true, Bool.not_false, if_true, if_false, Bool.false_eq_true, reduceIte, D.bl.injEq, D.int.injEq, D.str.injEq, D.tup.injEq, D.lst.injEq, D.ref.injEq, wipeD, List.cons.injEq, and_true, true_and, opAdd_int, opSub_int, opMul_int, opDiv_int, opMod_int, opPow_int, opLt_int, opLe_int, opGt_int, opGe_int, opAddI_int, opEq_int, opNe_int, opIsN_eq, opNotN_eq, isN_non, isN_int, isN_bl, isN_tup, isN_lst, isN_str, seqZ_lst, seqZ_tup, opIx_lst, opIx_tup, fLen_lst, fLen_tup, fSum_iD, fTuple_lst, fList_lst, fMin2_int, fMax2_int, exists_const, sup_sup, sup_get]
    refine ⟨_, hg2, by rw [sizeLine_eq]; decide, ?_⟩
    refine ⟨a, 2, rfl, hw5, by omega, by omega, fun z S6 z1 z2 hw6 _ => ?_⟩
    have hh : ∃ high : Int, 0 ≤ high ∧ high ≤ 9 ∧ L2.atI [D.int 3, D.int 9] z = some (.int high) := by
      have hz : z = 0 ∨ z = 1 := by omega
      rcases hz with rfl | rfl
      · exact ⟨3, by omega, by omega, rfl⟩
      · exact ⟨9, by omega, by omega, rfl⟩
    obtain ⟨high, h0, h1, hh2⟩ := hh
    simp only [sSeq, sIf, sRet, sRetN, sSet, sExpr, sNext, sAug, sAugS, sAsg, sPar, sFldS, sFz, sRetZ, sRetZZ, sNever, sRaise, sWhile, sFor, sBreak, sCont, eVar, eC, eOp, eCB, lCB, eCBK, eTup, lDisp, lOp, lRep, eFr, eMu, eFld, eIf, eAnd, eOr, eNot, eNeg, unNeg, eChain, tBl, tTru, tAnd2, tOr2, tNot2, tYes2, aNil, aCons, eCall, eCallK, gN, gTup2, gsCons, gsNil, gSub2, iSeq, iRng, iRngB, iEnum2, iStr2, lLc, lLcR, eSl, lSl, oNo, oSome, eBM, lBM, eLenSet, eMeth, eMake, eMakeZ, endsOf, start2, List.map_cons, List.map_nil, List.length_cons, List.length_nil, Nat.reduceSub, Nat.reduceAdd, List.replicate_zero, List.replicate_succ, List.append_nil, List.cons_append, List.nil_append, List.getElem?_cons_zero, List.getElem?_cons_succ, List.set_cons_zero, List.set_cons_succ, Option.some.injEq, exists_eq_left', exists_eq_left, truOf_bl, Bool.not_true, Bool.not_false, if_true, if_false, Bool.false_eq_true, reduceIte, D.bl.injEq, D.int.injEq, D.str.injEq, D.tup.injEq, D.lst.injEq, D.ref.injEq, wipeD, List.cons.injEq, and_true, true_and, opAdd_int, opSub_int, opMul_int, opDiv_int, opMod_int, opPow_int, opLt_int, opLe_int, opGt_int, opGe_int, opAddI_int, opEq_int, opNe_int, opIsN_eq, opNotN_eq, isN_non, isN_int, isN_bl, isN_tup, isN_lst, isN_str, seqZ_lst, seqZ_tup, opIx_lst, opIx_tup, fLen_lst, fLen_tup, fSum_iD, fTuple_lst, fList_lst, fMin2_int, fMax2_int, exists_const, sup_sup, sup_get]
    refine ⟨_, hh2, a, 6, high, rfl, hw6, by omega, by omega, h0, by omega, fun xs S7 x1 x2 hw7 _ => ?_⟩
    refine ⟨a, 4, rfl, hw7, by omega, by omega, fun y S8 y1 y2 hw8 _ => ?_⟩
    -- what is asked of the shelf
    have go : ∀ (xs : List Int) (S : Sto), rkOk xs → xs.length ≤ 7 → WellS S a → _ := fun xs S hx hxl hw => s_tail (C := C) (CR := CR) (CN := CN) (D2 := { nx := nx, rt := Q, bk := bk, ct := ct, xc := fun x _ S => E x S }) (e0 := some (.lst (iD script))) (e1 := some (.int cell)) (e4 := e8) (e9 := e9) (e10 := e10) hm g0 g1 hx hxl hw fun S' e8 e9 e10 => hnx _ _ ⟨_, _, _, _, _, _, _, _, _, _, rfl⟩
    unfold r_tail at go
    simp only [sSeq, sIf, sRet, sRetN, sSet, sExpr, sNext, sAug, sAugS, sAsg, sPar, sFldS, sFz, sRetZ, sRetZZ, sNever, sRaise, sWhile, sFor, sBreak, sCont, eVar, eC, eOp, eCB, lCB, eCBK, eTup, lDisp, lOp, lRep, eFr, eMu, eFld, eIf, eAnd, eOr, eNot, eNeg, unNeg, eChain, tBl, tTru, tAnd2, tOr2, tNot2, tYes2, aNil, aCons, eCall, eCallK, gN, gTup2, gsCons, gsNil, gSub2, iSeq, iRng, iRngB, iEnum2, iStr2, lLc, lLcR, eSl, lSl, oNo, oSome, eBM, lBM, eLenSet, eMeth, eMake, eMakeZ, endsOf, start2, List.map_cons, List.map_nil, List.length_cons, List.length_nil, Nat.reduceSub, Nat.reduceAdd, List.replicate_zero, List.replicate_succ, List.append_nil, List.cons_append, List.nil_append, List.getElem?_cons_zero, List.getElem?_cons_succ, List.set_cons_zero, List.set_cons_succ, Option.some.injEq, exists_eq_left', exists_eq_left, truOf_bl, Bool.not_true, Bool.not_false, if_true, if_false, Bool.false_eq_true, reduceIte, D.bl.injEq, D.int.injEq, D.str.injEq, D.tup.injEq, D.lst.injEq, D.ref.injEq, wipeD, List.cons.injEq, and_true, true_and, opAdd_int, opSub_int, opMul_int, opDiv_int, opMod_int, opPow_int, opLt_int, opLe_int, opGt_int, opGe_int, opAddI_int, opEq_int, opNe_int, opIsN_eq, opNotN_eq, isN_non, isN_int, isN_bl, isN_tup, isN_lst, isN_str, seqZ_lst, seqZ_tup, opIx_lst, opIx_tup, fLen_lst, fLen_tup, fSum_iD, fTuple_lst, fList_lst, fMin2_int, fMax2_int, exists_const, sup_sup, sup_get] at go
    have hx0 : rkOk xs := ⟨by omega, fun x hx => ⟨(x2 x hx).1, by have := (x2 x hx).2; omega⟩⟩
    have hxl : xs.length ≤ 6 := by omega
    simp only [sSeq, sIf, sRet, sRetN, sSet, sExpr, sNext, sAug, sAugS, sAsg, sPar, sFldS, sFz, sRetZ, sRetZZ, sNever, sRaise, sWhile, sFor, sBreak, sCont, eVar, eC, eOp, eCB, lCB, eCBK, eTup, lDisp, lOp, lRep, eFr, eMu, eFld, eIf, eAnd, eOr, eNot, eNeg, unNeg, eChain, tBl, tTru, tAnd2, tOr2, tNot2, tYes2, aNil, aCons, eCall, eCallK, gN, gTup2, gsCons, gsNil, gSub2, iSeq, iRng, iRngB, iEnum2, iStr2, lLc, lLcR, eSl, lSl, oNo, oSome, eBM, lBM, eLenSet, eMeth, eMake, eMakeZ, endsOf, start2, List.map_cons, List.map_nil, List.length_cons, List.length_nil, Nat.reduceSub, Nat.reduceAdd, List.replicate_zero, List.replicate_succ, List.append_nil, List.cons_append, List.nil_append, List.getElem?_cons_zero, List.getElem?_cons_succ, List.set_cons_zero, List.set_cons_succ, Option.some.injEq, exists_eq_left', exists_eq_left, truOf_bl, Bool.not_true, Bool.not_false, if_true, if_false, Bool.false_eq_true, reduceIte, D.bl.injEq, D.int.injEq, D.str.injEq, D.tup.injEq, D.lst.injEq, D.ref.injEq, wipeD, List.cons.injEq, and_true, true_and, opAdd_int, opSub_int, opMul_int, opDiv_int, opMod_int, opPow_int, opLt_int, opLe_int, opGt_int, opGe_int, opAddI_int, opEq_int, opNe_int, opIsN_eq, opNotN_eq, isN_non, isN_int, isN_bl, isN_tup, isN_lst, isN_str, seqZ_lst, seqZ_tup, opIx_lst, opIx_tup, fLen_lst, fLen_tup, fSum_iD, fTuple_lst, fList_lst, fMin2_int, fMax2_int, exists_const, sup_sup, sup_get]
    by_cases hy : y = 0
    · subst hy
      simp only [sSeq, sIf, sRet, sRetN, sSet, sExpr, sNext, sAug, sAugS, sAsg, sPar, sFldS, sFz, sRetZ, sRetZZ, sNever, sRaise, sWhile, sFor, sBreak, sCont, eVar, eC, eOp, eCB, lCB, eCBK, eTup, lDisp, lOp, lRep, eFr, eMu, eFld, eIf, eAnd, eOr, eNot, eNeg, unNeg, eChain, tBl, tTru, tAnd2, tOr2, tNot2, tYes2, aNil, aCons, eCall, eCallK, gN, gTup2, gsCons, gsNil, gSub2, iSeq, iRng, iRngB, iEnum2, iStr2, lLc, lLcR, eSl, lSl, oNo, oSome, eBM, lBM, eLenSet, eMeth, eMake, eMakeZ, endsOf, start2, List.map_cons, List.map_nil, List.length_cons, List.length_nil, Nat.reduceSub, Nat.reduceAdd, List.replicate_zero, List.replicate_succ, List.append_nil, List.cons_append, List.nil_append, List.getElem?_cons_zero, List.getElem?_cons_succ, List.set_cons_zero, List.set_cons_succ, Option.some.injEq, exists_eq_left', exists_eq_left, truOf_bl, Bool.not_true, Bool.not_false, if_true, if_false, Bool.false_eq_true, reduceIte, D.bl.injEq, D.int.injEq, D.str.injEq, D.tup.injEq, D.lst.injEq, D.ref.injEq, wipeD, List.cons.injEq, and_true, true_and, opAdd_int, opSub_int, opMul_int, opDiv_int, opMod_int, opPow_int, opLt_int, opLe_int, opGt_int, opGe_int, opAddI_int, opEq_int, opNe_int, opIsN_eq, opNotN_eq, isN_non, isN_int, isN_bl, isN_tup, isN_lst, isN_str, seqZ_lst, seqZ_tup, opIx_lst, opIx_tup, fLen_lst, fLen_tup, fSum_iD, fTuple_lst, fList_lst, fMin2_int, fMax2_int, exists_const, sup_sup, sup_get, beq_self_eq_true]
      by_cases hgr : great < 25
      · simp only [sSeq, sIf, sRet, sRetN, sSet, sExpr, sNext, sAug, sAugS, sAsg, sPar, sFldS, sFz, sRetZ, sRetZZ, sNever, sRaise, sWhile, sFor, sBreak, sCont, eVar, eC, eOp, eCB, lCB, eCBK, eTup, lDisp, lOp, lRep, eFr, eMu, eFld, eIf, eAnd, eOr, eNot, eNeg, unNeg, eChain, tBl, tTru, tAnd2, tOr2, tNot2, tYes2, aNil, aCons, eCall, eCallK, gN, gTup2, gsCons, gsNil, gSub2, iSeq, iRng, iRngB, iEnum2, iStr2, lLc, lLcR, eSl, lSl, oNo, oSome, eBM, lBM, eLenSet, eMeth, eMake, eMakeZ, endsOf, start2, List.map_cons, List.map_nil, List.length_cons, List.length_nil, Nat.reduceSub, Nat.reduceAdd, List.replicate_zero, List.replicate_succ, List.append_nil, List.cons_append, List.nil_append, List.getElem?_cons_zero, List.getElem?_cons_succ, List.set_cons_zero, List.set_cons_succ, Option.some.injEq, exists_eq_left', exists_eq_left, truOf_bl, Bool.not_true, Bool.not_false, if_true, if_false, Bool.false_eq_true, reduceIte, D.bl.injEq, D.int.injEq, D.str.injEq, D.tup.injEq, D.lst.injEq, D.ref.injEq, wipeD, List.cons.injEq, and_true, true_and, opAdd_int, opSub_int, opMul_int, opDiv_int, opMod_int, opPow_int, opLt_int, opLe_int, opGt_int, opGe_int, opAddI_int, opEq_int, opNe_int, opIsN_eq, opNotN_eq, isN_non, isN_int, isN_bl, isN_tup, isN_lst, isN_str, seqZ_lst, seqZ_tup, opIx_lst, opIx_tup, fLen_lst, fLen_tup, fSum_iD, fTuple_lst, fList_lst, fMin2_int, fMax2_int, exists_const, sup_sup, sup_get, hgr, decide_true]
        refine ⟨a, 180, rfl, hw8, by omega, by omega, fun c S9 c1 c2 hw9 _ => ?_⟩
        have e : opAdd (rkD xs) (.tup [.int (200 - c)]) S9 = fun Q => (iD xs).length + [D.int (200 - c)].length ≤ sizeLine ∧ Q (rkD (xs ++ [200 - c])) S9 := by
          funext Q; simp only [rkD, opAdd, iD, List.map_append, List.map_cons, List.map_nil]
        simp only [sSeq, sIf, sRet, sRetN, sSet, sExpr, sNext, sAug, sAugS, sAsg, sPar, sFldS, sFz, sRetZ, sRetZZ, sNever, sRaise, sWhile, sFor, sBreak, sCont, eVar, eC, eOp, eCB, lCB, eCBK, eTup, lDisp, lOp, lRep, eFr, eMu, eFld, eIf, eAnd, eOr, eNot, eNeg, unNeg, eChain, tBl, tTru, tAnd2, tOr2, tNot2, tYes2, aNil, aCons, eCall, eCallK, gN, gTup2, gsCons, gsNil, gSub2, iSeq, iRng, iRngB, iEnum2, iStr2, lLc, lLcR, eSl, lSl, oNo, oSome, eBM, lBM, eLenSet, eMeth, eMake, eMakeZ, endsOf, start2, List.map_cons, List.map_nil, List.length_cons, List.length_nil, Nat.reduceSub, Nat.reduceAdd, List.replicate_zero, List.replicate_succ, List.append_nil, List.cons_append, List.nil_append, List.getElem?_cons_zero, List.getElem?_cons_succ, List.set_cons_zero, List.set_cons_succ, Option.some.injEq, exists_eq_left', exists_eq_left, truOf_bl, Bool.not_true, Bool.not_false, if_true, if_false, Bool.false_eq_true, reduceIte, D.bl.injEq, D.int.injEq, D.str.injEq, D.tup.injEq, D.lst.injEq, D.ref.injEq, wipeD, List.cons.injEq, and_true, true_and, opAdd_int, opSub_int, opMul_int, opDiv_int, opMod_int, opPow_int, opLt_int, opLe_int, opGt_int, opGe_int, opAddI_int, opEq_int, opNe_int, opIsN_eq, opNotN_eq, isN_non, isN_int, isN_bl, isN_tup, isN_lst, isN_str, seqZ_lst, seqZ_tup, opIx_lst, opIx_tup, fLen_lst, fLen_tup, fSum_iD, fTuple_lst, fList_lst, fMin2_int, fMax2_int, exists_const, sup_sup, sup_get]
        refine ⟨by rw [sizeLine_eq]; decide, ?_⟩
        rw [e]
        refine ⟨by rw [iD_len, sizeLine_eq]; simp; omega, ?_⟩
        exact go (xs ++ [200 - c]) S9 ⟨by simp; omega, fun x hx => by
          rcases List.mem_append.mp hx with h | h
          · exact hx0.2 x h
          · simp at h; omega⟩ (by simp; omega) hw9
      · simp only [sSeq, sIf, sRet, sRetN, sSet, sExpr, sNext, sAug, sAugS, sAsg, sPar, sFldS, sFz, sRetZ, sRetZZ, sNever, sRaise, sWhile, sFor, sBreak, sCont, eVar, eC, eOp, eCB, lCB, eCBK, eTup, lDisp, lOp, lRep, eFr, eMu, eFld, eIf, eAnd, eOr, eNot, eNeg, unNeg, eChain, tBl, tTru, tAnd2, tOr2, tNot2, tYes2, aNil, aCons, eCall, eCallK, gN, gTup2, gsCons, gsNil, gSub2, iSeq, iRng, iRngB, iEnum2, iStr2, lLc, lLcR, eSl, lSl, oNo, oSome, eBM, lBM, eLenSet, eMeth, eMake, eMakeZ, endsOf, start2, List.map_cons, List.map_nil, List.length_cons, List.length_nil, Nat.reduceSub, Nat.reduceAdd, List.replicate_zero, List.replicate_succ, List.append_nil, List.cons_append, List.nil_append, List.getElem?_cons_zero, List.getElem?_cons_succ, List.set_cons_zero, List.set_cons_succ, Option.some.injEq, exists_eq_left', exists_eq_left, truOf_bl, Bool.not_true, Bool.not_false, if_true, if_false, Bool.false_eq_true, reduceIte, D.bl.injEq, D.int.injEq, D.str.injEq, D.tup.injEq, D.lst.injEq, D.ref.injEq, wipeD, List.cons.injEq, and_true, true_and, opAdd_int, opSub_int, opMul_int, opDiv_int, opMod_int, opPow_int, opLt_int, opLe_int, opGt_int, opGe_int, opAddI_int, opEq_int, opNe_int, opIsN_eq, opNotN_eq, isN_non, isN_int, isN_bl, isN_tup, isN_lst, isN_str, seqZ_lst, seqZ_tup, opIx_lst, opIx_tup, fLen_lst, fLen_tup, fSum_iD, fTuple_lst, fList_lst, fMin2_int, fMax2_int, exists_const, sup_sup, sup_get, hgr, decide_false]
        exact go xs S8 hx0 (by omega) hw8
    · have hyb : (y == 0) = false := by simpa using hy
      simp only [sSeq, sIf, sRet, sRetN, sSet, sExpr, sNext, sAug, sAugS, sAsg, sPar, sFldS, sFz, sRetZ, sRetZZ, sNever, sRaise, sWhile, sFor, sBreak, sCont, eVar, eC, eOp, eCB, lCB, eCBK, eTup, lDisp, lOp, lRep, eFr, eMu, eFld, eIf, eAnd, eOr, eNot, eNeg, unNeg, eChain, tBl, tTru, tAnd2, tOr2, tNot2, tYes2, aNil, aCons, eCall, eCallK, gN, gTup2, gsCons, gsNil, gSub2, iSeq, iRng, iRngB, iEnum2, iStr2, lLc, lLcR, eSl, lSl, oNo, oSome, eBM, lBM, eLenSet, eMeth, eMake, eMakeZ, endsOf, start2, List.map_cons, List.map_nil, List.length_cons, List.length_nil, Nat.reduceSub, Nat.reduceAdd, List.replicate_zero, List.replicate_succ, List.append_nil, List.cons_append, List.nil_append, List.getElem?_cons_zero, List.getElem?_cons_succ, List.set_cons_zero, List.set_cons_succ, Option.some.injEq, exists_eq_left', exists_eq_left, truOf_bl, Bool.not_true, Bool.not_false, if_true, if_false, Bool.false_eq_true, reduceIte, D.bl.injEq, D.int.injEq, D.str.injEq, D.tup.injEq, D.lst.injEq, D.ref.injEq, wipeD, List.cons.injEq, and_true, true_and, opAdd_int, opSub_int, opMul_int, opDiv_int, opMod_int, opPow_int, opLt_int, opLe_int, opGt_int, opGe_int, opAddI_int, opEq_int, opNe_int, opIsN_eq, opNotN_eq, isN_non, isN_int, isN_bl, isN_tup, isN_lst, isN_str, seqZ_lst, seqZ_tup, opIx_lst, opIx_tup, fLen_lst, fLen_tup, fSum_iD, fTuple_lst, fList_lst, fMin2_int, fMax2_int, exists_const, sup_sup, sup_get, hyb]
      exact go xs S8 hx0 (by omega) hw8
  · rintro ρ S' ⟨e1, e2, e3, e4, e5, e6, e7, e8, e9, e10, rfl⟩
    simp only [sSeq, sIf, sRet, sRetN, sSet, sExpr, sNext, sAug, sAugS, sAsg, sPar, sFldS, sFz, sRetZ, sRetZZ, sNever, sRaise, sWhile, sFor, sBreak, sCont, eVar, eC, eOp, eCB, lCB, eCBK, eTup, lDisp, lOp, lRep, eFr, eMu, eFld, eIf, eAnd, eOr, eNot, eNeg, unNeg, eChain, tBl, tTru, tAnd2, tOr2, tNot2, tYes2, aNil, aCons, eCall, eCallK, gN, gTup2, gsCons, gsNil, gSub2, iSeq, iRng, iRngB, iEnum2, iStr2, lLc, lLcR, eSl, lSl, oNo, oSome, eBM, lBM, eLenSet, eMeth, eMake, eMakeZ, endsOf, start2, List.map_cons, List.map_nil, List.length_cons, List.length_nil, Nat.reduceSub, Nat.reduceAdd, List.replicate_zero, List.replicate_succ, List.append_nil, List.cons_append, List.nil_append, List.getElem?_cons_zero, List.getElem?_cons_succ, List.set_cons_zero, List.set_cons_succ, Option.some.injEq, exists_eq_left', exists_eq_left, truOf_bl, Bool.not_true, Bool.not_false, if_true, if_false, Bool.false_eq_true, reduceIte, D.bl.injEq, D.int.injEq, D.str.injEq, D.tup.injEq, D.lst.injEq, D.ref.injEq, wipeD, List.cons.injEq, and_true, true_and, opAdd_int, opSub_int, opMul_int, opDiv_int, opMod_int, opPow_int, opLt_int, opLe_int, opGt_int, opGe_int, opAddI_int, opEq_int, opNe_int, opIsN_eq, opNotN_eq, isN_non, isN_int, isN_bl, isN_tup, isN_lst, isN_str, seqZ_lst, seqZ_tup, opIx_lst, opIx_tup, fLen_lst, fLen_tup, fSum_iD, fTuple_lst, fList_lst, fMin2_int, fMax2_int, exists_const, sup_sup, sup_get]
    exact q S'
end L83
set_option Elab.async false
set_option linter.all false
set_option maxRecDepth 100000
set_option maxHeartbeats 4000000
namespace L83
open PySem PySem.Spec PyProof.Rows L2 Y M83
section
variable {P : Program} {w : World} {K : PySem.W.Frag} {mg : Str → Option Value} {base : Heap}
theorem ok_law (T : Tx K mg) (F : XF K T.C_NoRack T.C_NoNumber T.C_NoTrees T.C_SwapError) : FnD P w K mg base 7 T.f_law T.d_law ["_law_script"] sp_law := by
  have D_row_ways : FnD P w K mg base 1 T.f_row_ways T.d_row_ways ["rows", "many", "total"] sp_ways := b_row_ways T  (by rintro _ _ _ _ ⟨_, _, _, _, _, rfl, _⟩; rfl) s_ways
  have D_product : FnD P w K mg base 1 T.f_product T.d_product ["one", "two"] sp_prod := b_product T  (by rintro _ _ _ _ ⟨_, _, _, rfl, _⟩; rfl) s_product
  have D_Kind_makers : FnD P w K mg base 1 T.f_Kind_makers T.d_Kind_makers ["self"] (sp_makers T.C_Kind) := b_Kind_makers T  (by rintro _ _ _ _ ⟨_, rfl, _⟩; rfl) (s_makers T.C_Kind)
  have D_tree_rows : FnD P w K mg base 2 T.f_tree_rows T.d_tree_rows ["kind", "most", "wide"] (sp_tree T.C_Kind) := b_tree_rows T D_product D_Kind_makers (by rintro _ _ _ _ ⟨_, _, _, rfl, _⟩; rfl) (s_tree T.C_Kind)
  have D_is_whole : FnD P w K mg base 1 T.f_is_whole T.d_is_whole ["thing", "low", "high"] sp_is_whole := b_is_whole T  (by rintro _ _ _ _ ⟨_, _, _, _, rfl, _⟩; rfl) s_is_whole
  have D_sure_size : FnD P w K mg base 2 T.f_sure_size T.d_sure_size ["thing"] (sp_sure_size T.C_NoNumber) := b_sure_size T D_is_whole (by rintro _ _ _ _ ⟨_, _, rfl, _⟩; rfl) (s_sure_size T.C_NoNumber)
  have D_is_rack : FnD P w K mg base 2 T.f_is_rack T.d_is_rack ["thing"] sp_is_rack := b_is_rack T D_is_whole (by rintro _ _ _ _ ⟨_, rfl, _⟩; rfl) s_is_rack
  have D_rack_unless : FnD P w K mg base 3 T.f_rack_unless T.d_rack_unless ["rack"] (sp_rackX T.C_NoRack) := b_rack_unless T D_is_rack (by rintro _ _ _ _ ⟨_, rfl, _⟩; rfl) (s_rack_unless T.C_NoRack)
  have D_count_to : FnD P w K mg base 4 T.f_count_to T.d_count_to ["kind", "rack", "size"] (sp_count T.C_Kind T.C_NoRack T.C_NoNumber) := b_count_to T D_row_ways D_tree_rows D_sure_size D_rack_unless (by rintro _ _ _ _ ⟨_, _, _, rfl, _⟩; rfl) (s_count T.C_Kind T.C_NoRack T.C_NoNumber)
  have D__law_class : FnE P w K mg base 1 T.f__law_class T.d__law_class ["_law_e"] (sp_class T.C_NoRack T.C_NoNumber) := b__law_class T  (by rintro _ _ _ _ _ _ ⟨_, _, rfl, _⟩; rfl) (s_class F)
  have D__law_word : FnD P w K mg base 5 T.f__law_word T.d__law_word ["_law_trade", "_law_shelf", "_law_great"] (sp_word T.C_Kind) := b_word T D_count_to D__law_class (by rintro _ _ _ _ ⟨_, _, _, rfl, _⟩; rfl) (s_word F)
  have D__law_draw : FnD P w K mg base 1 T.f__law_draw T.d__law_draw ["_law_well_here", "_law_many"] sp_draw := b__law_draw T  (by rintro _ _ _ _ ⟨_, _, rfl, _⟩; rfl) s_draw
  have D__law_refusals_right : FnD P w K mg base 6 T.f__law_refusals_right T.d__law_refusals_right ["_law_well_here", "_law_trade", "_law_shelf"] (sp_refuse T.C_Kind) := b__law_refusals_right T D__law_word D__law_draw (by rintro _ _ _ _ ⟨_, _, _, rfl, _⟩; rfl) s_refuse
  have D_sure_small : FnD P w K mg base 3 T.f_sure_small T.d_sure_small ["rack"] sp_sure_small := b_sure_small T D_is_rack (by rintro _ _ _ _ ⟨_, rfl, _⟩; rfl) s_sure_small
  have D_sure_rack : FnD P w K mg base 3 T.f_sure_rack T.d_sure_rack ["thing"] (sp_rackX T.C_NoRack) := b_sure_rack T D_is_rack (by rintro _ _ _ _ ⟨_, rfl, _⟩; rfl) (s_sure_rack T.C_NoRack)
  have D_put_beside : FnD P w K mg base 4 T.f_put_beside T.d_put_beside ["one", "two"] sp_put_beside := b_put_beside T D_sure_small D_sure_rack (by rintro _ _ _ _ ⟨_, _, rfl, _⟩; rfl) (s_put_beside T.C_NoRack)
  have D__law_times : FnD P w K mg base 1 T.f__law_times T.d__law_times ["_law_one", "_law_two"] sp_prod := b__law_times T  (by rintro _ _ _ _ ⟨_, _, _, rfl, _⟩; rfl) s_times
  have D__law_rows : FnD P w K mg base 1 T.f__law_rows T.d__law_rows ["_law_numbers", "_law_great"] sp_rows := b__law_rows T  (by rintro _ _ _ _ ⟨_, _, rfl, _⟩; rfl) s_rows
  have D__law_due : FnD P w K mg base 2 T.f__law_due T.d__law_due ["_law_numbers", "_law_shelf", "_law_great"] sp_due := b__law_due T D__law_times D__law_rows (by rintro _ _ _ _ ⟨_, _, _, rfl, _⟩; rfl) s_due
  have D__law_rack : FnD P w K mg base 2 T.f__law_rack T.d__law_rack ["_law_well_here", "_law_few", "_law_high"] (sp_rack ()) := b__law_rack T D__law_draw (by rintro _ _ _ _ ⟨_, _, _, rfl, _⟩; rfl) s_rack
  have D_rack_rows : FnD P w K mg base 3 T.f_rack_rows T.d_rack_rows ["kind", "rack", "size"] (sp_rrows T.C_Kind) := b_rack_rows T D_tree_rows (by rintro _ _ _ _ ⟨_, _, _, rfl, _⟩; rfl) (s_rrows T.C_Kind)
  have D_how_many_things : FnD P w K mg base 4 T.f_how_many_things T.d_how_many_things ["kind", "rack", "size"] (sp_many T.C_Kind) := b_how_many_things T D_row_ways D_rack_rows D_sure_size D_sure_rack (by rintro _ _ _ _ ⟨_, _, _, rfl, _⟩; rfl) (s_many T.C_Kind T.C_NoRack T.C_NoNumber)
  have D_is_name : FnD P w K mg base 1 T.f_is_name T.d_is_name ["thing"] sp_is_name := b_is_name T  (by rintro _ _ _ _ ⟨_, rfl, _⟩; rfl) s_is_name
  have D_is_maker_row : FnD P w K mg base 2 T.f_is_maker_row T.d_is_maker_row ["thing"] sp_is_maker_row := b_is_maker_row T D_is_name D_is_whole (by rintro _ _ _ _ ⟨_, _, rfl, _⟩; rfl) s_is_maker_row
  have D_are_makers : FnD P w K mg base 3 T.f_are_makers T.d_are_makers ["thing"] sp_are_makers := b_are_makers T D_is_maker_row (by rintro _ _ _ _ ⟨_, rfl, _⟩; rfl) s_are_makers
  have D_Kind___init__ : FnD P w K mg base 4 T.f_Kind___init__ T.d_Kind___init__ ["self", "makers"] (sp_init T.C_Kind) := b_Kind___init__ T D_are_makers (by rintro _ _ _ _ ⟨_, _, rfl, _⟩; rfl) (s_init T.C_Kind)
  have D__law_name : FnD P w K mg base 2 T.f__law_name T.d__law_name ["_law_well_here", "_law_taken"] sp_name := b__law_name T D__law_draw (by rintro _ _ _ _ ⟨_, _, rfl, _⟩; rfl) s_name
  have D__law_makers : FnD P w K mg base 3 T.f__law_makers T.d__law_makers ["_law_well_here"] sp_mks := b__law_makers T D__law_name D__law_draw (by rintro _ _ _ _ ⟨_, rfl, _⟩; rfl) s_makersL
  have D__law_well : FnD P w K mg base 1 T.f__law_well T.d__law_well ["_law_cell"] sp_well := b__law_well T  (by rintro _ _ _ _ ⟨_, rfl, _⟩; rfl) s_well
  have D_law : FnD P w K mg base 7 T.f_law T.d_law ["_law_script"] sp_law := b_law T D__law_refusals_right D_count_to D_put_beside D__law_due D__law_rack D_how_many_things D__law_draw D_Kind___init__ D__law_makers D__law_well (by rintro _ _ _ _ ⟨_, rfl, _⟩; rfl) s_law
  exact D_law
end
end L83
set_option Elab.async false
set_option linter.all false
set_option maxRecDepth 100000
set_option maxHeartbeats 4000000
namespace L83
open PySem PySem.Spec PyProof.Rows L2 Y M83
theorem kit_ref {K : PySem.W.Frag} {E C : Addr} {b : Bool} (h : PySem.W.subIn K (.ref E) (.ref C) = some b) (hd : PySem.W.subIn K (.ref E) (.ref E) = some true) (ic : PySem.W.isClsIn K C = true) (ty : PySem.W.typeIn K (.ref C) = some (.type "type")) : PySem.W.kitOne K (.ref E) (.ref C) = some b := by
  unfold PySem.W.kitOne
  split
  · rename_i e
    have e := beq_iff_eq.mp e
    cases e
    rw [hd] at h; exact h
  · unfold PySem.W.kitCls
    unfold PySem.W.isClsIn at ic
    simp only [ic, ty]
    simpa using h
theorem kit_ve {K : PySem.W.Frag} {E : Addr} {b : Bool} (h : PySem.W.subIn K (.ref E) (.type "ValueError") = some b) : PySem.W.kitOne K (.ref E) (.type "ValueError") = some b := by
  unfold PySem.W.kitOne
  rw [if_neg (by intro e; have e := beq_iff_eq.mp e; cases e)]
  unfold PySem.W.kitCls
  simp only
  rw [if_pos (by decide +kernel)]; exact h
theorem exm_ref {K : PySem.W.Frag} {E C : Addr} {b : Bool} (h : PySem.W.subIn K (.ref E) (.ref C) = some b) (hb : PySem.W.subIn K (.ref C) (.type "BaseException") = some true) (ic : PySem.W.isClsIn K C = true) (ty : PySem.W.typeIn K (.ref C) = some (.type "type")) : PySem.W.exmOne K (.ref E) (.ref C) = some b := by
  unfold PySem.W.exmOne
  rw [if_pos (by rw [hb]; rfl)]
  unfold PySem.W.kitCls
  unfold PySem.W.isClsIn at ic
  simp only [ic, ty]
  simpa using h
theorem kb_count {K : PySem.W.Frag} {fd : FuncData} (h : ∀ x0 x1 x2 : Value, bindArgs fd ⟨[], (["size", "rack", "kind"] : List Str).zip [x0, x1, x2]⟩ = pure ((["kind", "rack", "size"] : List Str).zip [x2, x1, x0])) : KBinds K fd ["kind", "rack", "size"] ["size", "rack", "kind"] perm_count_to perm_count_to := by
  refine ⟨fun s us ws _ hl => ?_, fun {vs us zs ws} r1 r2 => ?_⟩
  · rcases us with _ | ⟨u, us⟩
    · rcases ws with _ | ⟨x0, _ | ⟨x1, _ | ⟨x2, _ | ⟨x3, r⟩⟩⟩⟩ <;> first | (simp [perm_count_to] at hl; done) | exact .of_eq (h _ _ _)
    · simp [perm_count_to] at hl
  · cases r1 with
    | cons _ _ => exact .nil
    | nil =>
      cases r2 with
      | nil => exact .nil
      | cons a r2 =>
        cases r2 with
        | nil => exact .nil
        | cons b r2 =>
          cases r2 with
          | nil => exact .nil
          | cons c r2 =>
            cases r2 with
            | nil => exact .cons c (.cons b (.cons a .nil))
            | cons _ _ => exact .nil
theorem all_mk {l : PySem.W.OpenLaw} {w : World} {K : PySem.W.Frag} {h : Heap} {mg : Str → Option Value} {fa : Addr} {f_row_ways f_product f_Kind_makers f_tree_rows f_is_whole f_sure_size f_is_rack f_rack_unless f_count_to f__law_class f__law_word f__law_draw f__law_refusals_right f_sure_small f_sure_rack f_put_beside f__law_times f__law_rows f__law_due f__law_rack f_rack_rows f_how_many_things f_is_name f_is_maker_row f_are_makers f_Kind___init__ f__law_name f__law_makers f__law_well f_law C_SwapError C_NoNumber C_NoRack C_NoTrees C_Kind : Addr} (X : K.In h) (G : h.Ns mainGlobals mg) (hfa : mg "law" = some (.ref fa))
    {od_row_ways an_row_ways od_product an_product od_Kind_makers an_Kind_makers od_tree_rows an_tree_rows od_is_whole an_is_whole od_sure_size an_sure_size od_is_rack an_is_rack od_rack_unless an_rack_unless od_count_to an_count_to od__law_class an__law_class od__law_word an__law_word od__law_draw an__law_draw od__law_refusals_right an__law_refusals_right od_sure_small an_sure_small od_sure_rack an_sure_rack od_put_beside an_put_beside od__law_times an__law_times od__law_rows an__law_rows od__law_due an__law_due od__law_rack an__law_rack od_rack_rows an_rack_rows od_how_many_things an_how_many_things od_is_name an_is_name od_is_maker_row an_is_maker_row od_are_makers an_are_makers od_Kind___init__ an_Kind___init__ od__law_name an__law_name od__law_makers an__law_makers od__law_well an__law_well od_law an_law : Option Addr} {sl_row_ways sl_product sl_Kind_makers sl_tree_rows sl_is_whole sl_sure_size sl_is_rack sl_rack_unless sl_count_to sl__law_class sl__law_word sl__law_draw sl__law_refusals_right sl_sure_small sl_sure_rack sl_put_beside sl__law_times sl__law_rows sl__law_due sl__law_rack sl_rack_rows sl_how_many_things sl_is_name sl_is_maker_row sl_are_makers sl_Kind___init__ sl__law_name sl__law_makers sl__law_well sl_law : Array (Option Value)} {oc_row_ways kV_row_ways dc_row_ways pm_row_ways cd_row_ways ct_row_ways oc_product kV_product dc_product pm_product cd_product ct_product oc_Kind_makers kV_Kind_makers dc_Kind_makers pm_Kind_makers cd_Kind_makers ct_Kind_makers oc_tree_rows kV_tree_rows dc_tree_rows pm_tree_rows cd_tree_rows ct_tree_rows oc_is_whole kV_is_whole dc_is_whole pm_is_whole cd_is_whole ct_is_whole oc_sure_size kV_sure_size dc_sure_size pm_sure_size cd_sure_size ct_sure_size oc_is_rack kV_is_rack dc_is_rack pm_is_rack cd_is_rack ct_is_rack oc_rack_unless kV_rack_unless dc_rack_unless pm_rack_unless cd_rack_unless ct_rack_unless oc_count_to kV_count_to dc_count_to pm_count_to cd_count_to ct_count_to oc__law_class kV__law_class dc__law_class pm__law_class cd__law_class ct__law_class oc__law_word kV__law_word dc__law_word pm__law_word cd__law_word ct__law_word oc__law_draw kV__law_draw dc__law_draw pm__law_draw cd__law_draw ct__law_draw oc__law_refusals_right kV__law_refusals_right dc__law_refusals_right pm__law_refusals_right cd__law_refusals_right ct__law_refusals_right oc_sure_small kV_sure_small dc_sure_small pm_sure_small cd_sure_small ct_sure_small oc_sure_rack kV_sure_rack dc_sure_rack pm_sure_rack cd_sure_rack ct_sure_rack oc_put_beside kV_put_beside dc_put_beside pm_put_beside cd_put_beside ct_put_beside oc__law_times kV__law_times dc__law_times pm__law_times cd__law_times ct__law_times oc__law_rows kV__law_rows dc__law_rows pm__law_rows cd__law_rows ct__law_rows oc__law_due kV__law_due dc__law_due pm__law_due cd__law_due ct__law_due oc__law_rack kV__law_rack dc__law_rack pm__law_rack cd__law_rack ct__law_rack oc_rack_rows kV_rack_rows dc_rack_rows pm_rack_rows cd_rack_rows ct_rack_rows oc_how_many_things kV_how_many_things dc_how_many_things pm_how_many_things cd_how_many_things ct_how_many_things oc_is_name kV_is_name dc_is_name pm_is_name cd_is_name ct_is_name oc_is_maker_row kV_is_maker_row dc_is_maker_row pm_is_maker_row cd_is_maker_row ct_is_maker_row oc_are_makers kV_are_makers dc_are_makers pm_are_makers cd_are_makers ct_are_makers oc_Kind___init__ kV_Kind___init__ dc_Kind___init__ pm_Kind___init__ cd_Kind___init__ ct_Kind___init__ oc__law_name kV__law_name dc__law_name pm__law_name cd__law_name ct__law_name oc__law_makers kV__law_makers dc__law_makers pm__law_makers cd__law_makers ct__law_makers oc__law_well kV__law_well dc__law_well pm__law_well cd__law_well ct__law_well oc_law kV_law dc_law pm_law cd_law ct_law : Value} {t_LETTERS t_MOST_FORMS t_MOST_LETTERS t_MOST_MAKERS t_MOST_SIZE t_MOST_TREES t_MOST_WITHIN : Tok}
    (aC_SwapError : PySem.W.nsIn K mainGlobals "SwapError" = some (some (.ref C_SwapError)))
    (aC_NoNumber : PySem.W.nsIn K mainGlobals "NoNumber" = some (some (.ref C_NoNumber)))
    (aC_NoRack : PySem.W.nsIn K mainGlobals "NoRack" = some (some (.ref C_NoRack)))
    (aC_NoTrees : PySem.W.nsIn K mainGlobals "NoTrees" = some (some (.ref C_NoTrees)))
    (aC_Kind : PySem.W.nsIn K mainGlobals "Kind" = some (some (.ref C_Kind)))
    (a_row_ways : PySem.W.nsIn K mainGlobals "row_ways" = some (some (.ref f_row_ways)))
    (l_row_ways : K.lookup f_row_ways = some ⟨oc_row_ways, od_row_ways, .func (PySem.W.fnOf "row_ways" "row_ways" (defArgs st_row_ways) (defBody st_row_ways) (defScope st_row_ways) .none kV_row_ways dc_row_ways pm_row_ways an_row_ways cd_row_ways ct_row_ways), sl_row_ways⟩)
    (c_row_ways : PySem.W.codeIn K cd_row_ways "row_ways" = true)
    (k_row_ways : PySem.W.keepIn K (.ref f_row_ways) = true)
    (a_product : PySem.W.nsIn K mainGlobals "product" = some (some (.ref f_product)))
    (l_product : K.lookup f_product = some ⟨oc_product, od_product, .func (PySem.W.fnOf "product" "product" (defArgs st_product) (defBody st_product) (defScope st_product) .none kV_product dc_product pm_product an_product cd_product ct_product), sl_product⟩)
    (c_product : PySem.W.codeIn K cd_product "product" = true)
    (k_product : PySem.W.keepIn K (.ref f_product) = true)
    (a_Kind_makers : PySem.W.findIn K (.ref C_Kind) "makers" = some (some (.ref f_Kind_makers)))
    (i_Kind_makers : PySem.W.isFn K (.ref f_Kind_makers) = true)
    (l_Kind_makers : K.lookup f_Kind_makers = some ⟨oc_Kind_makers, od_Kind_makers, .func (PySem.W.fnOf "makers" "Kind.makers" (defArgs st_Kind_makers) (defBody st_Kind_makers) (defScope st_Kind_makers) .none kV_Kind_makers dc_Kind_makers pm_Kind_makers an_Kind_makers cd_Kind_makers ct_Kind_makers), sl_Kind_makers⟩)
    (c_Kind_makers : PySem.W.codeIn K cd_Kind_makers "Kind.makers" = true)
    (k_Kind_makers : PySem.W.keepIn K (.ref f_Kind_makers) = true)
    (a_tree_rows : PySem.W.nsIn K mainGlobals "tree_rows" = some (some (.ref f_tree_rows)))
    (l_tree_rows : K.lookup f_tree_rows = some ⟨oc_tree_rows, od_tree_rows, .func (PySem.W.fnOf "tree_rows" "tree_rows" (defArgs st_tree_rows) (defBody st_tree_rows) (defScope st_tree_rows) .none kV_tree_rows dc_tree_rows pm_tree_rows an_tree_rows cd_tree_rows ct_tree_rows), sl_tree_rows⟩)
    (c_tree_rows : PySem.W.codeIn K cd_tree_rows "tree_rows" = true)
    (k_tree_rows : PySem.W.keepIn K (.ref f_tree_rows) = true)
    (a_is_whole : PySem.W.nsIn K mainGlobals "is_whole" = some (some (.ref f_is_whole)))
    (l_is_whole : K.lookup f_is_whole = some ⟨oc_is_whole, od_is_whole, .func (PySem.W.fnOf "is_whole" "is_whole" (defArgs st_is_whole) (defBody st_is_whole) (defScope st_is_whole) .none kV_is_whole dc_is_whole pm_is_whole an_is_whole cd_is_whole ct_is_whole), sl_is_whole⟩)
    (c_is_whole : PySem.W.codeIn K cd_is_whole "is_whole" = true)
    (k_is_whole : PySem.W.keepIn K (.ref f_is_whole) = true)
    (a_sure_size : PySem.W.nsIn K mainGlobals "sure_size" = some (some (.ref f_sure_size)))
    (l_sure_size : K.lookup f_sure_size = some ⟨oc_sure_size, od_sure_size, .func (PySem.W.fnOf "sure_size" "sure_size" (defArgs st_sure_size) (defBody st_sure_size) (defScope st_sure_size) .none kV_sure_size dc_sure_size pm_sure_size an_sure_size cd_sure_size ct_sure_size), sl_sure_size⟩)
    (c_sure_size : PySem.W.codeIn K cd_sure_size "sure_size" = true)
    (k_sure_size : PySem.W.keepIn K (.ref f_sure_size) = true)
    (a_is_rack : PySem.W.nsIn K mainGlobals "is_rack" = some (some (.ref f_is_rack)))
    (l_is_rack : K.lookup f_is_rack = some ⟨oc_is_rack, od_is_rack, .func (PySem.W.fnOf "is_rack" "is_rack" (defArgs st_is_rack) (defBody st_is_rack) (defScope st_is_rack) .none kV_is_rack dc_is_rack pm_is_rack an_is_rack cd_is_rack ct_is_rack), sl_is_rack⟩)
    (c_is_rack : PySem.W.codeIn K cd_is_rack "is_rack" = true)
    (k_is_rack : PySem.W.keepIn K (.ref f_is_rack) = true)
    (a_rack_unless : PySem.W.nsIn K mainGlobals "rack_unless" = some (some (.ref f_rack_unless)))
    (l_rack_unless : K.lookup f_rack_unless = some ⟨oc_rack_unless, od_rack_unless, .func (PySem.W.fnOf "rack_unless" "rack_unless" (defArgs st_rack_unless) (defBody st_rack_unless) (defScope st_rack_unless) .none kV_rack_unless dc_rack_unless pm_rack_unless an_rack_unless cd_rack_unless ct_rack_unless), sl_rack_unless⟩)
    (c_rack_unless : PySem.W.codeIn K cd_rack_unless "rack_unless" = true)
    (k_rack_unless : PySem.W.keepIn K (.ref f_rack_unless) = true)
    (a_count_to : PySem.W.nsIn K mainGlobals "count_to" = some (some (.ref f_count_to)))
    (l_count_to : K.lookup f_count_to = some ⟨oc_count_to, od_count_to, .func (PySem.W.fnOf "count_to" "count_to" (defArgs st_count_to) (defBody st_count_to) (defScope st_count_to) .none kV_count_to dc_count_to pm_count_to an_count_to cd_count_to ct_count_to), sl_count_to⟩)
    (c_count_to : PySem.W.codeIn K cd_count_to "count_to" = true)
    (k_count_to : PySem.W.keepIn K (.ref f_count_to) = true)
    (a__law_class : PySem.W.nsIn K mainGlobals "_law_class" = some (some (.ref f__law_class)))
    (l__law_class : K.lookup f__law_class = some ⟨oc__law_class, od__law_class, .func (PySem.W.fnOf "_law_class" "_law_class" (defArgs st__law_class) (defBody st__law_class) (defScope st__law_class) .none kV__law_class dc__law_class pm__law_class an__law_class cd__law_class ct__law_class), sl__law_class⟩)
    (c__law_class : PySem.W.codeIn K cd__law_class "_law_class" = true)
    (k__law_class : PySem.W.keepIn K (.ref f__law_class) = true)
    (a__law_word : PySem.W.nsIn K mainGlobals "_law_word" = some (some (.ref f__law_word)))
    (l__law_word : K.lookup f__law_word = some ⟨oc__law_word, od__law_word, .func (PySem.W.fnOf "_law_word" "_law_word" (defArgs st__law_word) (defBody st__law_word) (defScope st__law_word) .none kV__law_word dc__law_word pm__law_word an__law_word cd__law_word ct__law_word), sl__law_word⟩)
    (c__law_word : PySem.W.codeIn K cd__law_word "_law_word" = true)
    (k__law_word : PySem.W.keepIn K (.ref f__law_word) = true)
    (a__law_draw : PySem.W.nsIn K mainGlobals "_law_draw" = some (some (.ref f__law_draw)))
    (l__law_draw : K.lookup f__law_draw = some ⟨oc__law_draw, od__law_draw, .func (PySem.W.fnOf "_law_draw" "_law_draw" (defArgs st__law_draw) (defBody st__law_draw) (defScope st__law_draw) .none kV__law_draw dc__law_draw pm__law_draw an__law_draw cd__law_draw ct__law_draw), sl__law_draw⟩)
    (c__law_draw : PySem.W.codeIn K cd__law_draw "_law_draw" = true)
    (k__law_draw : PySem.W.keepIn K (.ref f__law_draw) = true)
    (a__law_refusals_right : PySem.W.nsIn K mainGlobals "_law_refusals_right" = some (some (.ref f__law_refusals_right)))
    (l__law_refusals_right : K.lookup f__law_refusals_right = some ⟨oc__law_refusals_right, od__law_refusals_right, .func (PySem.W.fnOf "_law_refusals_right" "_law_refusals_right" (defArgs st__law_refusals_right) (defBody st__law_refusals_right) (defScope st__law_refusals_right) .none kV__law_refusals_right dc__law_refusals_right pm__law_refusals_right an__law_refusals_right cd__law_refusals_right ct__law_refusals_right), sl__law_refusals_right⟩)
    (c__law_refusals_right : PySem.W.codeIn K cd__law_refusals_right "_law_refusals_right" = true)
    (k__law_refusals_right : PySem.W.keepIn K (.ref f__law_refusals_right) = true)
    (a_sure_small : PySem.W.nsIn K mainGlobals "sure_small" = some (some (.ref f_sure_small)))
    (l_sure_small : K.lookup f_sure_small = some ⟨oc_sure_small, od_sure_small, .func (PySem.W.fnOf "sure_small" "sure_small" (defArgs st_sure_small) (defBody st_sure_small) (defScope st_sure_small) .none kV_sure_small dc_sure_small pm_sure_small an_sure_small cd_sure_small ct_sure_small), sl_sure_small⟩)
    (c_sure_small : PySem.W.codeIn K cd_sure_small "sure_small" = true)
    (k_sure_small : PySem.W.keepIn K (.ref f_sure_small) = true)
    (a_sure_rack : PySem.W.nsIn K mainGlobals "sure_rack" = some (some (.ref f_sure_rack)))
    (l_sure_rack : K.lookup f_sure_rack = some ⟨oc_sure_rack, od_sure_rack, .func (PySem.W.fnOf "sure_rack" "sure_rack" (defArgs st_sure_rack) (defBody st_sure_rack) (defScope st_sure_rack) .none kV_sure_rack dc_sure_rack pm_sure_rack an_sure_rack cd_sure_rack ct_sure_rack), sl_sure_rack⟩)
    (c_sure_rack : PySem.W.codeIn K cd_sure_rack "sure_rack" = true)
    (k_sure_rack : PySem.W.keepIn K (.ref f_sure_rack) = true)
    (a_put_beside : PySem.W.nsIn K mainGlobals "put_beside" = some (some (.ref f_put_beside)))
    (l_put_beside : K.lookup f_put_beside = some ⟨oc_put_beside, od_put_beside, .func (PySem.W.fnOf "put_beside" "put_beside" (defArgs st_put_beside) (defBody st_put_beside) (defScope st_put_beside) .none kV_put_beside dc_put_beside pm_put_beside an_put_beside cd_put_beside ct_put_beside), sl_put_beside⟩)
    (c_put_beside : PySem.W.codeIn K cd_put_beside "put_beside" = true)
    (k_put_beside : PySem.W.keepIn K (.ref f_put_beside) = true)
    (a__law_times : PySem.W.nsIn K mainGlobals "_law_times" = some (some (.ref f__law_times)))
    (l__law_times : K.lookup f__law_times = some ⟨oc__law_times, od__law_times, .func (PySem.W.fnOf "_law_times" "_law_times" (defArgs st__law_times) (defBody st__law_times) (defScope st__law_times) .none kV__law_times dc__law_times pm__law_times an__law_times cd__law_times ct__law_times), sl__law_times⟩)
    (c__law_times : PySem.W.codeIn K cd__law_times "_law_times" = true)
    (k__law_times : PySem.W.keepIn K (.ref f__law_times) = true)
    (a__law_rows : PySem.W.nsIn K mainGlobals "_law_rows" = some (some (.ref f__law_rows)))
    (l__law_rows : K.lookup f__law_rows = some ⟨oc__law_rows, od__law_rows, .func (PySem.W.fnOf "_law_rows" "_law_rows" (defArgs st__law_rows) (defBody st__law_rows) (defScope st__law_rows) .none kV__law_rows dc__law_rows pm__law_rows an__law_rows cd__law_rows ct__law_rows), sl__law_rows⟩)
    (c__law_rows : PySem.W.codeIn K cd__law_rows "_law_rows" = true)
    (k__law_rows : PySem.W.keepIn K (.ref f__law_rows) = true)
    (a__law_due : PySem.W.nsIn K mainGlobals "_law_due" = some (some (.ref f__law_due)))
    (l__law_due : K.lookup f__law_due = some ⟨oc__law_due, od__law_due, .func (PySem.W.fnOf "_law_due" "_law_due" (defArgs st__law_due) (defBody st__law_due) (defScope st__law_due) .none kV__law_due dc__law_due pm__law_due an__law_due cd__law_due ct__law_due), sl__law_due⟩)
    (c__law_due : PySem.W.codeIn K cd__law_due "_law_due" = true)
    (k__law_due : PySem.W.keepIn K (.ref f__law_due) = true)
    (a__law_rack : PySem.W.nsIn K mainGlobals "_law_rack" = some (some (.ref f__law_rack)))
    (l__law_rack : K.lookup f__law_rack = some ⟨oc__law_rack, od__law_rack, .func (PySem.W.fnOf "_law_rack" "_law_rack" (defArgs st__law_rack) (defBody st__law_rack) (defScope st__law_rack) .none kV__law_rack dc__law_rack pm__law_rack an__law_rack cd__law_rack ct__law_rack), sl__law_rack⟩)
    (c__law_rack : PySem.W.codeIn K cd__law_rack "_law_rack" = true)
    (k__law_rack : PySem.W.keepIn K (.ref f__law_rack) = true)
    (a_rack_rows : PySem.W.nsIn K mainGlobals "rack_rows" = some (some (.ref f_rack_rows)))
    (l_rack_rows : K.lookup f_rack_rows = some ⟨oc_rack_rows, od_rack_rows, .func (PySem.W.fnOf "rack_rows" "rack_rows" (defArgs st_rack_rows) (defBody st_rack_rows) (defScope st_rack_rows) .none kV_rack_rows dc_rack_rows pm_rack_rows an_rack_rows cd_rack_rows ct_rack_rows), sl_rack_rows⟩)
    (c_rack_rows : PySem.W.codeIn K cd_rack_rows "rack_rows" = true)
    (k_rack_rows : PySem.W.keepIn K (.ref f_rack_rows) = true)
    (a_how_many_things : PySem.W.nsIn K mainGlobals "how_many_things" = some (some (.ref f_how_many_things)))
    (l_how_many_things : K.lookup f_how_many_things = some ⟨oc_how_many_things, od_how_many_things, .func (PySem.W.fnOf "how_many_things" "how_many_things" (defArgs st_how_many_things) (defBody st_how_many_things) (defScope st_how_many_things) .none kV_how_many_things dc_how_many_things pm_how_many_things an_how_many_things cd_how_many_things ct_how_many_things), sl_how_many_things⟩)
    (c_how_many_things : PySem.W.codeIn K cd_how_many_things "how_many_things" = true)
    (k_how_many_things : PySem.W.keepIn K (.ref f_how_many_things) = true)
    (a_is_name : PySem.W.nsIn K mainGlobals "is_name" = some (some (.ref f_is_name)))
    (l_is_name : K.lookup f_is_name = some ⟨oc_is_name, od_is_name, .func (PySem.W.fnOf "is_name" "is_name" (defArgs st_is_name) (defBody st_is_name) (defScope st_is_name) .none kV_is_name dc_is_name pm_is_name an_is_name cd_is_name ct_is_name), sl_is_name⟩)
    (c_is_name : PySem.W.codeIn K cd_is_name "is_name" = true)
    (k_is_name : PySem.W.keepIn K (.ref f_is_name) = true)
    (a_is_maker_row : PySem.W.nsIn K mainGlobals "is_maker_row" = some (some (.ref f_is_maker_row)))
    (l_is_maker_row : K.lookup f_is_maker_row = some ⟨oc_is_maker_row, od_is_maker_row, .func (PySem.W.fnOf "is_maker_row" "is_maker_row" (defArgs st_is_maker_row) (defBody st_is_maker_row) (defScope st_is_maker_row) .none kV_is_maker_row dc_is_maker_row pm_is_maker_row an_is_maker_row cd_is_maker_row ct_is_maker_row), sl_is_maker_row⟩)
    (c_is_maker_row : PySem.W.codeIn K cd_is_maker_row "is_maker_row" = true)
    (k_is_maker_row : PySem.W.keepIn K (.ref f_is_maker_row) = true)
    (a_are_makers : PySem.W.nsIn K mainGlobals "are_makers" = some (some (.ref f_are_makers)))
    (l_are_makers : K.lookup f_are_makers = some ⟨oc_are_makers, od_are_makers, .func (PySem.W.fnOf "are_makers" "are_makers" (defArgs st_are_makers) (defBody st_are_makers) (defScope st_are_makers) .none kV_are_makers dc_are_makers pm_are_makers an_are_makers cd_are_makers ct_are_makers), sl_are_makers⟩)
    (c_are_makers : PySem.W.codeIn K cd_are_makers "are_makers" = true)
    (k_are_makers : PySem.W.keepIn K (.ref f_are_makers) = true)
    (a_Kind___init__ : PySem.W.findIn K (.ref C_Kind) "__init__" = some (some (.ref f_Kind___init__)))
    (i_Kind___init__ : PySem.W.isFn K (.ref f_Kind___init__) = true)
    (l_Kind___init__ : K.lookup f_Kind___init__ = some ⟨oc_Kind___init__, od_Kind___init__, .func (PySem.W.fnOf "__init__" "Kind.__init__" (defArgs st_Kind___init__) (defBody st_Kind___init__) (defScope st_Kind___init__) .none kV_Kind___init__ dc_Kind___init__ pm_Kind___init__ an_Kind___init__ cd_Kind___init__ ct_Kind___init__), sl_Kind___init__⟩)
    (c_Kind___init__ : PySem.W.codeIn K cd_Kind___init__ "Kind.__init__" = true)
    (k_Kind___init__ : PySem.W.keepIn K (.ref f_Kind___init__) = true)
    (a__law_name : PySem.W.nsIn K mainGlobals "_law_name" = some (some (.ref f__law_name)))
    (l__law_name : K.lookup f__law_name = some ⟨oc__law_name, od__law_name, .func (PySem.W.fnOf "_law_name" "_law_name" (defArgs st__law_name) (defBody st__law_name) (defScope st__law_name) .none kV__law_name dc__law_name pm__law_name an__law_name cd__law_name ct__law_name), sl__law_name⟩)
    (c__law_name : PySem.W.codeIn K cd__law_name "_law_name" = true)
    (k__law_name : PySem.W.keepIn K (.ref f__law_name) = true)
    (a__law_makers : PySem.W.nsIn K mainGlobals "_law_makers" = some (some (.ref f__law_makers)))
    (l__law_makers : K.lookup f__law_makers = some ⟨oc__law_makers, od__law_makers, .func (PySem.W.fnOf "_law_makers" "_law_makers" (defArgs st__law_makers) (defBody st__law_makers) (defScope st__law_makers) .none kV__law_makers dc__law_makers pm__law_makers an__law_makers cd__law_makers ct__law_makers), sl__law_makers⟩)
    (c__law_makers : PySem.W.codeIn K cd__law_makers "_law_makers" = true)
    (k__law_makers : PySem.W.keepIn K (.ref f__law_makers) = true)
    (a__law_well : PySem.W.nsIn K mainGlobals "_law_well" = some (some (.ref f__law_well)))
    (l__law_well : K.lookup f__law_well = some ⟨oc__law_well, od__law_well, .func (PySem.W.fnOf "_law_well" "_law_well" (defArgs st__law_well) (defBody st__law_well) (defScope st__law_well) .none kV__law_well dc__law_well pm__law_well an__law_well cd__law_well ct__law_well), sl__law_well⟩)
    (c__law_well : PySem.W.codeIn K cd__law_well "_law_well" = true)
    (k__law_well : PySem.W.keepIn K (.ref f__law_well) = true)
    (a_law : PySem.W.nsIn K mainGlobals "law" = some (some (.ref f_law)))
    (l_law : K.lookup f_law = some ⟨oc_law, od_law, .func (PySem.W.fnOf "law" "law" (defArgs st_law) (defBody st_law) (defScope st_law) .none kV_law dc_law pm_law an_law cd_law ct_law), sl_law⟩)
    (c_law : PySem.W.codeIn K cd_law "law" = true)
    (k_law : PySem.W.keepIn K (.ref f_law) = true)
    (pg_Kind : PySem.W.plainGet K C_Kind Str.empty = true)
    (hd_Kind : PySem.W.hasDictIn K C_Kind = true)
    (po_Kind : PySem.W.plainOver K C_Kind = true)
    (sa_Kind : PySem.W.findIn K (.ref C_Kind) "__setattr__" = some (some (.builtin "object.__setattr__")))
    (mk_Kind : PySem.W.makesIn K C_Kind = true)
    (kc_Kind : PySem.W.keepIn K (.ref C_Kind) = true)
    (no_Kind_rows : PySem.W.findIn K (.ref C_Kind) "rows" = some none)
    (ex_NoNumber : PySem.W.excIn K C_NoNumber [.type "ValueError", .type "Exception", .type "BaseException", .type "object"] "ValueError.__new__" = true)
    (kp_NoNumber : PySem.W.keepIn K (.ref C_NoNumber) = true)
    (sb_NoNumber : PySem.W.subIn K (.ref C_NoNumber) (.type "BaseException") = some true)
    (ty_NoNumber : PySem.W.typeIn K (.ref C_NoNumber) = some (.type "type"))
    (hg_NoNumber : PySem.W.findIn K (.ref C_NoNumber) "__getattribute__" = some (some (.builtin "BaseException.__getattribute__")))
    (hk_NoNumber : PySem.W.findIn K (.ref C_NoNumber) "__getattr__" = some none)
    (hx_NoNumber : PySem.W.hasDictIn K C_NoNumber = true)
    (ha_NoNumber : PySem.W.findIn K (.ref C_NoNumber) "__class__" = some (some (.builtin "object.__class__")))
    (hm_NoNumber : PySem.W.mroIn K C_NoNumber (.type "object") = some true)
    (ex_NoRack : PySem.W.excIn K C_NoRack [.type "ValueError", .type "Exception", .type "BaseException", .type "object"] "ValueError.__new__" = true)
    (kp_NoRack : PySem.W.keepIn K (.ref C_NoRack) = true)
    (sb_NoRack : PySem.W.subIn K (.ref C_NoRack) (.type "BaseException") = some true)
    (ty_NoRack : PySem.W.typeIn K (.ref C_NoRack) = some (.type "type"))
    (hg_NoRack : PySem.W.findIn K (.ref C_NoRack) "__getattribute__" = some (some (.builtin "BaseException.__getattribute__")))
    (hk_NoRack : PySem.W.findIn K (.ref C_NoRack) "__getattr__" = some none)
    (hx_NoRack : PySem.W.hasDictIn K C_NoRack = true)
    (ha_NoRack : PySem.W.findIn K (.ref C_NoRack) "__class__" = some (some (.builtin "object.__class__")))
    (hm_NoRack : PySem.W.mroIn K C_NoRack (.type "object") = some true)
    (hn : PySem.W.specialIn K (.builtin "object.__class__") "__get__" = some (some (.builtin "getset_descriptor.__get__")))
    (ht : PySem.W.takesIn K (.builtin "object.__class__") = some true)
    (ic_SwapError : PySem.W.isClsIn K C_SwapError = true)
    (ty_SwapError : PySem.W.typeIn K (.ref C_SwapError) = some (.type "type"))
    (ic_NoNumber : PySem.W.isClsIn K C_NoNumber = true)
    (ic_NoRack : PySem.W.isClsIn K C_NoRack = true)
    (ic_NoTrees : PySem.W.isClsIn K C_NoTrees = true)
    (ty_NoTrees : PySem.W.typeIn K (.ref C_NoTrees) = some (.type "type"))
    (sb_SwapError : PySem.W.subIn K (.ref C_SwapError) (.type "BaseException") = some true)
    (s_NoRack_NoRack : PySem.W.subIn K (.ref C_NoRack) (.ref C_NoRack) = some true)
    (s_NoRack_NoNumber : PySem.W.subIn K (.ref C_NoRack) (.ref C_NoNumber) = some false)
    (s_NoRack_NoTrees : PySem.W.subIn K (.ref C_NoRack) (.ref C_NoTrees) = some false)
    (s_NoRack_SwapError : PySem.W.subIn K (.ref C_NoRack) (.ref C_SwapError) = some true)
    (s_NoRack_VE : PySem.W.subIn K (.ref C_NoRack) (.type "ValueError") = some true)
    (s_NoNumber_NoRack : PySem.W.subIn K (.ref C_NoNumber) (.ref C_NoRack) = some false)
    (s_NoNumber_NoNumber : PySem.W.subIn K (.ref C_NoNumber) (.ref C_NoNumber) = some true)
    (s_NoNumber_NoTrees : PySem.W.subIn K (.ref C_NoNumber) (.ref C_NoTrees) = some false)
    (s_NoNumber_SwapError : PySem.W.subIn K (.ref C_NoNumber) (.ref C_SwapError) = some true)
    (s_NoNumber_VE : PySem.W.subIn K (.ref C_NoNumber) (.type "ValueError") = some true)
    (z_ValueError : PySem.W.nsIn K mainGlobals "ValueError" = some none)
    (z_all : PySem.W.nsIn K mainGlobals "all" = some none)
    (z_bool : PySem.W.nsIn K mainGlobals "bool" = some none)
    (z_divmod : PySem.W.nsIn K mainGlobals "divmod" = some none)
    (z_enumerate : PySem.W.nsIn K mainGlobals "enumerate" = some none)
    (z_int : PySem.W.nsIn K mainGlobals "int" = some none)
    (z_isinstance : PySem.W.nsIn K mainGlobals "isinstance" = some none)
    (z_len : PySem.W.nsIn K mainGlobals "len" = some none)
    (z_list : PySem.W.nsIn K mainGlobals "list" = some none)
    (z_max : PySem.W.nsIn K mainGlobals "max" = some none)
    (z_min : PySem.W.nsIn K mainGlobals "min" = some none)
    (z_range : PySem.W.nsIn K mainGlobals "range" = some none)
    (z_set : PySem.W.nsIn K mainGlobals "set" = some none)
    (z_str : PySem.W.nsIn K mainGlobals "str" = some none)
    (z_sum : PySem.W.nsIn K mainGlobals "sum" = some none)
    (z_tuple : PySem.W.nsIn K mainGlobals "tuple" = some none)
    (v_LETTERS : PySem.W.nsIn K mainGlobals "LETTERS" = some (some (.str "abcdefghijklmnopqrstuvwxyz" t_LETTERS)))
    (v_MOST_FORMS : PySem.W.nsIn K mainGlobals "MOST_FORMS" = some (some (.int 4000 t_MOST_FORMS)))
    (v_MOST_LETTERS : PySem.W.nsIn K mainGlobals "MOST_LETTERS" = some (some (.int 8 t_MOST_LETTERS)))
    (v_MOST_MAKERS : PySem.W.nsIn K mainGlobals "MOST_MAKERS" = some (some (.int 5 t_MOST_MAKERS)))
    (v_MOST_SIZE : PySem.W.nsIn K mainGlobals "MOST_SIZE" = some (some (.int 60 t_MOST_SIZE)))
    (v_MOST_TREES : PySem.W.nsIn K mainGlobals "MOST_TREES" = some (some (.int 200 t_MOST_TREES)))
    (v_MOST_WITHIN : PySem.W.nsIn K mainGlobals "MOST_WITHIN" = some (some (.int 4 t_MOST_WITHIN)))
    : ∃ fd : FuncData, (∀ (s : Shared) (v : Value), BindsTo s fd ⟨[v], []⟩ [("_law_script", v)]) ∧ ∀ base : Heap, K.In base → base.Ns mainGlobals mg → FnOk l.prog w K mg base (L2N.CX l.prog w) 7 fa fd ["_law_script"] (loF K sp_law) := by
  have e := hfa.symm.trans (PySem.W.mg_of X G a_law)
  cases e
  have F_row_ways := fun_mk (st := st_row_ways) l_row_ways c_row_ways k_row_ways
  have b_row_ways := F_row_ways.binds (ps := ["rows", "many", "total"]) fun _ _ _ _ _ _ us hl => match us, hl with | [_, _, _], _ => rfl
  have F_product := fun_mk (st := st_product) l_product c_product k_product
  have b_product := F_product.binds (ps := ["one", "two"]) fun _ _ _ _ _ _ us hl => match us, hl with | [_, _], _ => rfl
  have F_Kind_makers := fun_mk (st := st_Kind_makers) l_Kind_makers c_Kind_makers k_Kind_makers
  have b_Kind_makers := F_Kind_makers.binds (ps := ["self"]) fun _ _ _ _ _ _ us hl => match us, hl with | [_], _ => rfl
  have F_tree_rows := fun_mk (st := st_tree_rows) l_tree_rows c_tree_rows k_tree_rows
  have b_tree_rows := F_tree_rows.binds (ps := ["kind", "most", "wide"]) fun _ _ _ _ _ _ us hl => match us, hl with | [_, _, _], _ => rfl
  have F_is_whole := fun_mk (st := st_is_whole) l_is_whole c_is_whole k_is_whole
  have b_is_whole := F_is_whole.binds (ps := ["thing", "low", "high"]) fun _ _ _ _ _ _ us hl => match us, hl with | [_, _, _], _ => rfl
  have F_sure_size := fun_mk (st := st_sure_size) l_sure_size c_sure_size k_sure_size
  have b_sure_size := F_sure_size.binds (ps := ["thing"]) fun _ _ _ _ _ _ us hl => match us, hl with | [_], _ => rfl
  have F_is_rack := fun_mk (st := st_is_rack) l_is_rack c_is_rack k_is_rack
  have b_is_rack := F_is_rack.binds (ps := ["thing"]) fun _ _ _ _ _ _ us hl => match us, hl with | [_], _ => rfl
  have F_rack_unless := fun_mk (st := st_rack_unless) l_rack_unless c_rack_unless k_rack_unless
  have b_rack_unless := F_rack_unless.binds (ps := ["rack"]) fun _ _ _ _ _ _ us hl => match us, hl with | [_], _ => rfl
  have F_count_to := fun_mk (st := st_count_to) l_count_to c_count_to k_count_to
  have b_count_to := F_count_to.binds (ps := ["kind", "rack", "size"]) fun _ _ _ _ _ _ us hl => match us, hl with | [_, _, _], _ => rfl
  have F__law_class := fun_mk (st := st__law_class) l__law_class c__law_class k__law_class
  have b__law_class := F__law_class.binds (ps := ["_law_e"]) fun _ _ _ _ _ _ us hl => match us, hl with | [_], _ => rfl
  have F__law_word := fun_mk (st := st__law_word) l__law_word c__law_word k__law_word
  have b__law_word := F__law_word.binds (ps := ["_law_trade", "_law_shelf", "_law_great"]) fun _ _ _ _ _ _ us hl => match us, hl with | [_, _, _], _ => rfl
  have F__law_draw := fun_mk (st := st__law_draw) l__law_draw c__law_draw k__law_draw
  have b__law_draw := F__law_draw.binds (ps := ["_law_well_here", "_law_many"]) fun _ _ _ _ _ _ us hl => match us, hl with | [_, _], _ => rfl
  have F__law_refusals_right := fun_mk (st := st__law_refusals_right) l__law_refusals_right c__law_refusals_right k__law_refusals_right
  have b__law_refusals_right := F__law_refusals_right.binds (ps := ["_law_well_here", "_law_trade", "_law_shelf"]) fun _ _ _ _ _ _ us hl => match us, hl with | [_, _, _], _ => rfl
  have F_sure_small := fun_mk (st := st_sure_small) l_sure_small c_sure_small k_sure_small
  have b_sure_small := F_sure_small.binds (ps := ["rack"]) fun _ _ _ _ _ _ us hl => match us, hl with | [_], _ => rfl
  have F_sure_rack := fun_mk (st := st_sure_rack) l_sure_rack c_sure_rack k_sure_rack
  have b_sure_rack := F_sure_rack.binds (ps := ["thing"]) fun _ _ _ _ _ _ us hl => match us, hl with | [_], _ => rfl
  have F_put_beside := fun_mk (st := st_put_beside) l_put_beside c_put_beside k_put_beside
  have b_put_beside := F_put_beside.binds (ps := ["one", "two"]) fun _ _ _ _ _ _ us hl => match us, hl with | [_, _], _ => rfl
  have F__law_times := fun_mk (st := st__law_times) l__law_times c__law_times k__law_times
  have b__law_times := F__law_times.binds (ps := ["_law_one", "_law_two"]) fun _ _ _ _ _ _ us hl => match us, hl with | [_, _], _ => rfl
  have F__law_rows := fun_mk (st := st__law_rows) l__law_rows c__law_rows k__law_rows
  have b__law_rows := F__law_rows.binds (ps := ["_law_numbers", "_law_great"]) fun _ _ _ _ _ _ us hl => match us, hl with | [_, _], _ => rfl
  have F__law_due := fun_mk (st := st__law_due) l__law_due c__law_due k__law_due
  have b__law_due := F__law_due.binds (ps := ["_law_numbers", "_law_shelf", "_law_great"]) fun _ _ _ _ _ _ us hl => match us, hl with | [_, _, _], _ => rfl
  have F__law_rack := fun_mk (st := st__law_rack) l__law_rack c__law_rack k__law_rack
  have b__law_rack := F__law_rack.binds (ps := ["_law_well_here", "_law_few", "_law_high"]) fun _ _ _ _ _ _ us hl => match us, hl with | [_, _, _], _ => rfl
  have F_rack_rows := fun_mk (st := st_rack_rows) l_rack_rows c_rack_rows k_rack_rows
  have b_rack_rows := F_rack_rows.binds (ps := ["kind", "rack", "size"]) fun _ _ _ _ _ _ us hl => match us, hl with | [_, _, _], _ => rfl
  have F_how_many_things := fun_mk (st := st_how_many_things) l_how_many_things c_how_many_things k_how_many_things
  have b_how_many_things := F_how_many_things.binds (ps := ["kind", "rack", "size"]) fun _ _ _ _ _ _ us hl => match us, hl with | [_, _, _], _ => rfl
  have F_is_name := fun_mk (st := st_is_name) l_is_name c_is_name k_is_name
  have b_is_name := F_is_name.binds (ps := ["thing"]) fun _ _ _ _ _ _ us hl => match us, hl with | [_], _ => rfl
  have F_is_maker_row := fun_mk (st := st_is_maker_row) l_is_maker_row c_is_maker_row k_is_maker_row
  have b_is_maker_row := F_is_maker_row.binds (ps := ["thing"]) fun _ _ _ _ _ _ us hl => match us, hl with | [_], _ => rfl
  have F_are_makers := fun_mk (st := st_are_makers) l_are_makers c_are_makers k_are_makers
  have b_are_makers := F_are_makers.binds (ps := ["thing"]) fun _ _ _ _ _ _ us hl => match us, hl with | [_], _ => rfl
  have F_Kind___init__ := fun_mk (st := st_Kind___init__) l_Kind___init__ c_Kind___init__ k_Kind___init__
  have b_Kind___init__ := F_Kind___init__.binds (ps := ["self", "makers"]) fun _ _ _ _ _ _ us hl => match us, hl with | [_, _], _ => rfl
  have F__law_name := fun_mk (st := st__law_name) l__law_name c__law_name k__law_name
  have b__law_name := F__law_name.binds (ps := ["_law_well_here", "_law_taken"]) fun _ _ _ _ _ _ us hl => match us, hl with | [_, _], _ => rfl
  have F__law_makers := fun_mk (st := st__law_makers) l__law_makers c__law_makers k__law_makers
  have b__law_makers := F__law_makers.binds (ps := ["_law_well_here"]) fun _ _ _ _ _ _ us hl => match us, hl with | [_], _ => rfl
  have F__law_well := fun_mk (st := st__law_well) l__law_well c__law_well k__law_well
  have b__law_well := F__law_well.binds (ps := ["_law_cell"]) fun _ _ _ _ _ _ us hl => match us, hl with | [_], _ => rfl
  have F_law := fun_mk (st := st_law) l_law c_law k_law
  have b_law := F_law.binds (ps := ["_law_script"]) fun _ _ _ _ _ _ us hl => match us, hl with | [_], _ => rfl
  let T : Tx K mg := {
    f_row_ways := f_row_ways, d_row_ways := _, F_row_ways := F_row_ways, b_row_ways := b_row_ways,
    m_row_ways := PySem.W.mg_of X G a_row_ways,
    f_product := f_product, d_product := _, F_product := F_product, b_product := b_product,
    m_product := PySem.W.mg_of X G a_product,
    f_Kind_makers := f_Kind_makers, d_Kind_makers := _, F_Kind_makers := F_Kind_makers, b_Kind_makers := b_Kind_makers,
    f_tree_rows := f_tree_rows, d_tree_rows := _, F_tree_rows := F_tree_rows, b_tree_rows := b_tree_rows,
    m_tree_rows := PySem.W.mg_of X G a_tree_rows,
    f_is_whole := f_is_whole, d_is_whole := _, F_is_whole := F_is_whole, b_is_whole := b_is_whole,
    m_is_whole := PySem.W.mg_of X G a_is_whole,
    f_sure_size := f_sure_size, d_sure_size := _, F_sure_size := F_sure_size, b_sure_size := b_sure_size,
    m_sure_size := PySem.W.mg_of X G a_sure_size,
    f_is_rack := f_is_rack, d_is_rack := _, F_is_rack := F_is_rack, b_is_rack := b_is_rack,
    m_is_rack := PySem.W.mg_of X G a_is_rack,
    f_rack_unless := f_rack_unless, d_rack_unless := _, F_rack_unless := F_rack_unless, b_rack_unless := b_rack_unless,
    m_rack_unless := PySem.W.mg_of X G a_rack_unless,
    f_count_to := f_count_to, d_count_to := _, F_count_to := F_count_to, b_count_to := b_count_to,
    k_count_to := kb_count fun _ _ _ => rfl,
    m_count_to := PySem.W.mg_of X G a_count_to,
    f__law_class := f__law_class, d__law_class := _, F__law_class := F__law_class, b__law_class := b__law_class,
    m__law_class := PySem.W.mg_of X G a__law_class,
    f__law_word := f__law_word, d__law_word := _, F__law_word := F__law_word, b__law_word := b__law_word,
    m__law_word := PySem.W.mg_of X G a__law_word,
    f__law_draw := f__law_draw, d__law_draw := _, F__law_draw := F__law_draw, b__law_draw := b__law_draw,
    m__law_draw := PySem.W.mg_of X G a__law_draw,
    f__law_refusals_right := f__law_refusals_right, d__law_refusals_right := _, F__law_refusals_right := F__law_refusals_right, b__law_refusals_right := b__law_refusals_right,
    m__law_refusals_right := PySem.W.mg_of X G a__law_refusals_right,
    f_sure_small := f_sure_small, d_sure_small := _, F_sure_small := F_sure_small, b_sure_small := b_sure_small,
    m_sure_small := PySem.W.mg_of X G a_sure_small,
    f_sure_rack := f_sure_rack, d_sure_rack := _, F_sure_rack := F_sure_rack, b_sure_rack := b_sure_rack,
    m_sure_rack := PySem.W.mg_of X G a_sure_rack,
    f_put_beside := f_put_beside, d_put_beside := _, F_put_beside := F_put_beside, b_put_beside := b_put_beside,
    m_put_beside := PySem.W.mg_of X G a_put_beside,
    f__law_times := f__law_times, d__law_times := _, F__law_times := F__law_times, b__law_times := b__law_times,
    m__law_times := PySem.W.mg_of X G a__law_times,
    f__law_rows := f__law_rows, d__law_rows := _, F__law_rows := F__law_rows, b__law_rows := b__law_rows,
    m__law_rows := PySem.W.mg_of X G a__law_rows,
    f__law_due := f__law_due, d__law_due := _, F__law_due := F__law_due, b__law_due := b__law_due,
    m__law_due := PySem.W.mg_of X G a__law_due,
    f__law_rack := f__law_rack, d__law_rack := _, F__law_rack := F__law_rack, b__law_rack := b__law_rack,
    m__law_rack := PySem.W.mg_of X G a__law_rack,
    f_rack_rows := f_rack_rows, d_rack_rows := _, F_rack_rows := F_rack_rows, b_rack_rows := b_rack_rows,
    m_rack_rows := PySem.W.mg_of X G a_rack_rows,
    f_how_many_things := f_how_many_things, d_how_many_things := _, F_how_many_things := F_how_many_things, b_how_many_things := b_how_many_things,
    m_how_many_things := PySem.W.mg_of X G a_how_many_things,
    f_is_name := f_is_name, d_is_name := _, F_is_name := F_is_name, b_is_name := b_is_name,
    m_is_name := PySem.W.mg_of X G a_is_name,
    f_is_maker_row := f_is_maker_row, d_is_maker_row := _, F_is_maker_row := F_is_maker_row, b_is_maker_row := b_is_maker_row,
    m_is_maker_row := PySem.W.mg_of X G a_is_maker_row,
    f_are_makers := f_are_makers, d_are_makers := _, F_are_makers := F_are_makers, b_are_makers := b_are_makers,
    m_are_makers := PySem.W.mg_of X G a_are_makers,
    f_Kind___init__ := f_Kind___init__, d_Kind___init__ := _, F_Kind___init__ := F_Kind___init__, b_Kind___init__ := b_Kind___init__,
    f__law_name := f__law_name, d__law_name := _, F__law_name := F__law_name, b__law_name := b__law_name,
    m__law_name := PySem.W.mg_of X G a__law_name,
    f__law_makers := f__law_makers, d__law_makers := _, F__law_makers := F__law_makers, b__law_makers := b__law_makers,
    m__law_makers := PySem.W.mg_of X G a__law_makers,
    f__law_well := f__law_well, d__law_well := _, F__law_well := F__law_well, b__law_well := b__law_well,
    m__law_well := PySem.W.mg_of X G a__law_well,
    f_law := fa, d_law := _, F_law := F_law, b_law := b_law,
    m_law := PySem.W.mg_of X G a_law,
    C_SwapError := C_SwapError, m_SwapError := PySem.W.mg_of X G aC_SwapError,
    C_NoNumber := C_NoNumber, m_NoNumber := PySem.W.mg_of X G aC_NoNumber,
    C_NoRack := C_NoRack, m_NoRack := PySem.W.mg_of X G aC_NoRack,
    C_NoTrees := C_NoTrees, m_NoTrees := PySem.W.mg_of X G aC_NoTrees,
    C_Kind := C_Kind, m_Kind := PySem.W.mg_of X G aC_Kind,
    cl_Kind := ⟨pg_Kind, hd_Kind, po_Kind, sa_Kind⟩, Mk_Kind := ⟨mk_Kind, a_Kind___init__, i_Kind___init__, kc_Kind⟩,
    M_Kind_makers := ⟨a_Kind_makers, i_Kind_makers, k_Kind_makers⟩,
    no_Kind_rows := no_Kind_rows,
    e_NoNumber := ⟨ex_NoNumber, kp_NoNumber, sb_NoNumber, ty_NoNumber⟩,
    e_NoRack := ⟨ex_NoRack, kp_NoRack, sb_NoRack, ty_NoRack⟩,
    n_ValueError := PySem.W.mg_none_of X G z_ValueError,
    n_all := PySem.W.mg_none_of X G z_all,
    n_bool := PySem.W.mg_none_of X G z_bool,
    n_divmod := PySem.W.mg_none_of X G z_divmod,
    n_enumerate := PySem.W.mg_none_of X G z_enumerate,
    n_int := PySem.W.mg_none_of X G z_int,
    n_isinstance := PySem.W.mg_none_of X G z_isinstance,
    n_len := PySem.W.mg_none_of X G z_len,
    n_list := PySem.W.mg_none_of X G z_list,
    n_max := PySem.W.mg_none_of X G z_max,
    n_min := PySem.W.mg_none_of X G z_min,
    n_range := PySem.W.mg_none_of X G z_range,
    n_set := PySem.W.mg_none_of X G z_set,
    n_str := PySem.W.mg_none_of X G z_str,
    n_sum := PySem.W.mg_none_of X G z_sum,
    n_tuple := PySem.W.mg_none_of X G z_tuple,
    c_LETTERS := ⟨_, PySem.W.mg_of X G v_LETTERS⟩,
    c_MOST_FORMS := ⟨_, PySem.W.mg_of X G v_MOST_FORMS⟩,
    c_MOST_LETTERS := ⟨_, PySem.W.mg_of X G v_MOST_LETTERS⟩,
    c_MOST_MAKERS := ⟨_, PySem.W.mg_of X G v_MOST_MAKERS⟩,
    c_MOST_SIZE := ⟨_, PySem.W.mg_of X G v_MOST_SIZE⟩,
    c_MOST_TREES := ⟨_, PySem.W.mg_of X G v_MOST_TREES⟩,
    c_MOST_WITHIN := ⟨_, PySem.W.mg_of X G v_MOST_WITHIN⟩ }
  have F : XF K T.C_NoRack T.C_NoNumber T.C_NoTrees T.C_SwapError := ⟨⟨hg_NoRack, hk_NoRack, sb_NoRack, hx_NoRack, ha_NoRack, hn, ht, hm_NoRack⟩, ⟨hg_NoNumber, hk_NoNumber, sb_NoNumber, hx_NoNumber, ha_NoNumber, hn, ht, hm_NoNumber⟩, kit_ref s_NoRack_NoRack s_NoRack_NoRack ic_NoRack ty_NoRack, kit_ref s_NoRack_NoNumber s_NoRack_NoRack ic_NoNumber ty_NoNumber, kit_ref s_NoRack_NoTrees s_NoRack_NoRack ic_NoTrees ty_NoTrees, kit_ve s_NoRack_VE, kit_ref s_NoNumber_NoRack s_NoNumber_NoNumber ic_NoRack ty_NoRack, kit_ref s_NoNumber_NoNumber s_NoNumber_NoNumber ic_NoNumber ty_NoNumber, kit_ref s_NoNumber_NoTrees s_NoNumber_NoNumber ic_NoTrees ty_NoTrees, kit_ve s_NoNumber_VE, exm_ref s_NoRack_SwapError sb_SwapError ic_SwapError ty_SwapError, exm_ref s_NoNumber_SwapError sb_SwapError ic_SwapError ty_SwapError⟩
  exact ⟨PySem.W.fnOf "law" "law" (defArgs st_law) (defBody st_law) (defScope st_law) .none kV_law dc_law pm_law an_law cd_law ct_law, fun s v => .of_eq rfl, fun base _ _ => ok_law (P := l.prog) (w := w) (base := base) T F⟩
theorem rp_ints {K : PySem.W.Frag} {G : Hp} : ∀ ns : List Int, RpAll K G (ns.map V.int) (iD ns)
  | [] => .nil
  | n :: ns => .cons (.int n) (rp_ints ns)
theorem walk {l : PySem.W.OpenLaw} {q : Program} {loose : List Str} {XP : (Str → Option Value) → Heap → Prop} {YP : World → Heap → Prop} {d : DefRec} {K : Params → PySem.W.Frag} (hn : l.most = some 63) (hdf : d.params.defaults = [])
    (hY : ∀ (w : World) (h : Heap), YP w h → (K w.params).In h)
    (F : ∀ (w : World) (mg : Str → Option Value) (fa : Addr) (h : Heap), (K w.params).In h → h.Ns mainGlobals mg → mg d.name = some (.ref fa) →
      ∃ fd : FuncData, (∀ (s : Shared) (u : Value), BindsTo s fd ⟨[u], []⟩ [("_law_script", u)]) ∧ ∀ base : Heap, (K w.params).In base → base.Ns mainGlobals mg → FnOk l.prog w (K w.params) mg base (L2N.CX l.prog w) 7 fa fd ["_law_script"] (loF (K w.params) sp_law)) :
    PySem.W.WalkO q loose XP YP l.row.toRowW d [] (fun f vs => PySem.call f vs) :=
  L2.walk_of (n := 63) (k := 7) (x := "_law_script") (CX := fun w => L2N.CX l.prog w) (sp := fun w => loF (K w.params) sp_law) hn (by decide) hdf ⟨rfl, by decide, by decide⟩ hY F
    (fun w H a ns hl _ hS => ⟨fun _ => none, H, fun _ => none, [.lst (iD ns)], fun d _ => d = .bl true, fun _ _ => False, ⟨Same.refl _, fun a so h => (by cases h), fun a o h => (by cases h), fun a o h => (by cases h), fun a o h => (by cases h)⟩, .cons (.lst hS (rp_ints ns)) .nil, ⟨ns, rfl, hl, fun _ => rfl⟩,
      fun v H' G' d S' _ _ r e => (by subst e; cases r; rfl), fun _ _ _ _ _ _ _ _ _ z => z⟩)
    fun w H s e s' ⟨_, _, _, _, _, _, _, _, _, _, _, _, z⟩ => z
end L83
set_option Elab.async false
open PySem PySem.W PyProof.Rows
set_option maxRecDepth 100000 in
set_option maxHeartbeats 0 in
theorem PySem.Challenge.cw_boughswap_k83_things_counted_up_to_a_siz_holds : PySem.Challenge.rw_boughswap_k83_things_counted_up_to_a_siz.Holds := by
  w_on; o_law; k_head; (case hw => w_witness2)
  k_fill
  refine L83.walk (l := PySem.Challenge.rw_boughswap_k83_things_counted_up_to_a_siz) rfl rfl (fun w h Y => PySem.W.kIn_of Y) ?F
  case F =>
    intro w mg fa h KX G hmg
    refine' L83.all_mk KX G hmg ?aC_SwapError ?aC_NoNumber ?aC_NoRack ?aC_NoTrees ?aC_Kind ?a_row_ways ?l_row_ways ?c_row_ways ?k_row_ways ?a_product ?l_product ?c_product ?k_product ?a_Kind_makers ?i_Kind_makers ?l_Kind_makers ?c_Kind_makers ?k_Kind_makers ?a_tree_rows ?l_tree_rows ?c_tree_rows ?k_tree_rows ?a_is_whole ?l_is_whole ?c_is_whole ?k_is_whole ?a_sure_size ?l_sure_size ?c_sure_size ?k_sure_size ?a_is_rack ?l_is_rack ?c_is_rack ?k_is_rack ?a_rack_unless ?l_rack_unless ?c_rack_unless ?k_rack_unless ?a_count_to ?l_count_to ?c_count_to ?k_count_to ?a__law_class ?l__law_class ?c__law_class ?k__law_class ?a__law_word ?l__law_word ?c__law_word ?k__law_word ?a__law_draw ?l__law_draw ?c__law_draw ?k__law_draw ?a__law_refusals_right ?l__law_refusals_right ?c__law_refusals_right ?k__law_refusals_right ?a_sure_small ?l_sure_small ?c_sure_small ?k_sure_small ?a_sure_rack ?l_sure_rack ?c_sure_rack ?k_sure_rack ?a_put_beside ?l_put_beside ?c_put_beside ?k_put_beside ?a__law_times ?l__law_times ?c__law_times ?k__law_times ?a__law_rows ?l__law_rows ?c__law_rows ?k__law_rows ?a__law_due ?l__law_due ?c__law_due ?k__law_due ?a__law_rack ?l__law_rack ?c__law_rack ?k__law_rack ?a_rack_rows ?l_rack_rows ?c_rack_rows ?k_rack_rows ?a_how_many_things ?l_how_many_things ?c_how_many_things ?k_how_many_things ?a_is_name ?l_is_name ?c_is_name ?k_is_name ?a_is_maker_row ?l_is_maker_row ?c_is_maker_row ?k_is_maker_row ?a_are_makers ?l_are_makers ?c_are_makers ?k_are_makers ?a_Kind___init__ ?i_Kind___init__ ?l_Kind___init__ ?c_Kind___init__ ?k_Kind___init__ ?a__law_name ?l__law_name ?c__law_name ?k__law_name ?a__law_makers ?l__law_makers ?c__law_makers ?k__law_makers ?a__law_well ?l__law_well ?c__law_well ?k__law_well ?a_law ?l_law ?c_law ?k_law ?pg_Kind ?hd_Kind ?po_Kind ?sa_Kind ?mk_Kind ?kc_Kind ?no_Kind_rows ?ex_NoNumber ?kp_NoNumber ?sb_NoNumber ?ty_NoNumber ?hg_NoNumber ?hk_NoNumber ?hx_NoNumber ?ha_NoNumber ?hm_NoNumber ?ex_NoRack ?kp_NoRack ?sb_NoRack ?ty_NoRack ?hg_NoRack ?hk_NoRack ?hx_NoRack ?ha_NoRack ?hm_NoRack ?hn ?ht ?ic_SwapError ?ty_SwapError ?ic_NoNumber ?ic_NoRack ?ic_NoTrees ?ty_NoTrees ?sb_SwapError ?s_NoRack_NoRack ?s_NoRack_NoNumber ?s_NoRack_NoTrees ?s_NoRack_SwapError ?s_NoRack_VE ?s_NoNumber_NoRack ?s_NoNumber_NoNumber ?s_NoNumber_NoTrees ?s_NoNumber_SwapError ?s_NoNumber_VE ?z_ValueError ?z_all ?z_bool ?z_divmod ?z_enumerate ?z_int ?z_isinstance ?z_len ?z_list ?z_max ?z_min ?z_range ?z_set ?z_str ?z_sum ?z_tuple ?v_LETTERS ?v_MOST_FORMS ?v_MOST_LETTERS ?v_MOST_MAKERS ?v_MOST_SIZE ?v_MOST_TREES ?v_MOST_WITHIN
    (case aC_SwapError => k_is)
    (case aC_NoNumber => k_is)
    (case aC_NoRack => k_is)
    (case aC_NoTrees => k_is)
    (case aC_Kind => k_is)
    (case a_row_ways => k_is)
    (case l_row_ways => k_is)
    (case c_row_ways => k_is)
    (case k_row_ways => k_is)
    (case a_product => k_is)
    (case l_product => k_is)
    (case c_product => k_is)
    (case k_product => k_is)
    (case a_Kind_makers => k_is)
    (case i_Kind_makers => k_is)
    (case l_Kind_makers => k_is)
    (case c_Kind_makers => k_is)
    (case k_Kind_makers => k_is)
    (case a_tree_rows => k_is)
    (case l_tree_rows => k_is)
    (case c_tree_rows => k_is)
    (case k_tree_rows => k_is)
    (case a_is_whole => k_is)
    (case l_is_whole => k_is)
    (case c_is_whole => k_is)
    (case k_is_whole => k_is)
    (case a_sure_size => k_is)
    (case l_sure_size => k_is)
    (case c_sure_size => k_is)
    (case k_sure_size => k_is)
    (case a_is_rack => k_is)
    (case l_is_rack => k_is)
    (case c_is_rack => k_is)
    (case k_is_rack => k_is)
    (case a_rack_unless => k_is)
    (case l_rack_unless => k_is)
    (case c_rack_unless => k_is)
    (case k_rack_unless => k_is)
    (case a_count_to => k_is)
    (case l_count_to => k_is)
    (case c_count_to => k_is)
    (case k_count_to => k_is)
    (case a__law_class => k_is)
    (case l__law_class => k_is)
    (case c__law_class => k_is)
    (case k__law_class => k_is)
    (case a__law_word => k_is)
    (case l__law_word => k_is)
    (case c__law_word => k_is)
    (case k__law_word => k_is)
    (case a__law_draw => k_is)
    (case l__law_draw => k_is)
    (case c__law_draw => k_is)
    (case k__law_draw => k_is)
    (case a__law_refusals_right => k_is)
    (case l__law_refusals_right => k_is)
    (case c__law_refusals_right => k_is)
    (case k__law_refusals_right => k_is)
    (case a_sure_small => k_is)
    (case l_sure_small => k_is)
    (case c_sure_small => k_is)
    (case k_sure_small => k_is)
    (case a_sure_rack => k_is)
    (case l_sure_rack => k_is)
    (case c_sure_rack => k_is)
    (case k_sure_rack => k_is)
    (case a_put_beside => k_is)
    (case l_put_beside => k_is)
    (case c_put_beside => k_is)
    (case k_put_beside => k_is)
    (case a__law_times => k_is)
    (case l__law_times => k_is)
    (case c__law_times => k_is)
    (case k__law_times => k_is)
    (case a__law_rows => k_is)
    (case l__law_rows => k_is)
    (case c__law_rows => k_is)
    (case k__law_rows => k_is)
    (case a__law_due => k_is)
    (case l__law_due => k_is)
    (case c__law_due => k_is)
    (case k__law_due => k_is)
    (case a__law_rack => k_is)
    (case l__law_rack => k_is)
    (case c__law_rack => k_is)
    (case k__law_rack => k_is)
    (case a_rack_rows => k_is)
    (case l_rack_rows => k_is)
    (case c_rack_rows => k_is)
    (case k_rack_rows => k_is)
    (case a_how_many_things => k_is)
    (case l_how_many_things => k_is)
    (case c_how_many_things => k_is)
    (case k_how_many_things => k_is)
    (case a_is_name => k_is)
    (case l_is_name => k_is)
    (case c_is_name => k_is)
    (case k_is_name => k_is)
    (case a_is_maker_row => k_is)
    (case l_is_maker_row => k_is)
    (case c_is_maker_row => k_is)
    (case k_is_maker_row => k_is)
    (case a_are_makers => k_is)
    (case l_are_makers => k_is)
    (case c_are_makers => k_is)
    (case k_are_makers => k_is)
    (case a_Kind___init__ => k_is)
    (case i_Kind___init__ => k_is)
    (case l_Kind___init__ => k_is)
    (case c_Kind___init__ => k_is)
    (case k_Kind___init__ => k_is)
    (case a__law_name => k_is)
    (case l__law_name => k_is)
    (case c__law_name => k_is)
    (case k__law_name => k_is)
    (case a__law_makers => k_is)
    (case l__law_makers => k_is)
    (case c__law_makers => k_is)
    (case k__law_makers => k_is)
    (case a__law_well => k_is)
    (case l__law_well => k_is)
    (case c__law_well => k_is)
    (case k__law_well => k_is)
    (case a_law => k_is)
    (case l_law => k_is)
    (case c_law => k_is)
    (case k_law => k_is)
    (case pg_Kind => k_is)
    (case hd_Kind => k_is)
    (case po_Kind => k_is)
    (case sa_Kind => k_is)
    (case mk_Kind => k_is)
    (case kc_Kind => k_is)
    (case no_Kind_rows => k_is)
    (case ex_NoNumber => k_exc)
    (case kp_NoNumber => k_is)
    (case sb_NoNumber => k_is)
    (case ty_NoNumber => k_is)
    (case hg_NoNumber => k_is)
    (case hk_NoNumber => k_is)
    (case hx_NoNumber => k_is)
    (case ha_NoNumber => k_is)
    (case hm_NoNumber => k_is)
    (case ex_NoRack => k_exc)
    (case kp_NoRack => k_is)
    (case sb_NoRack => k_is)
    (case ty_NoRack => k_is)
    (case hg_NoRack => k_is)
    (case hk_NoRack => k_is)
    (case hx_NoRack => k_is)
    (case ha_NoRack => k_is)
    (case hm_NoRack => k_is)
    (case hn => k_is)
    (case ht => k_is)
    (case ic_SwapError => k_is)
    (case ty_SwapError => k_is)
    (case ic_NoNumber => k_is)
    (case ic_NoRack => k_is)
    (case ic_NoTrees => k_is)
    (case ty_NoTrees => k_is)
    (case sb_SwapError => k_is)
    (case s_NoRack_NoRack => first | rfl | k_is)
    (case s_NoRack_NoNumber => first | rfl | k_is)
    (case s_NoRack_NoTrees => first | rfl | k_is)
    (case s_NoRack_SwapError => first | rfl | k_is)
    (case s_NoRack_VE => first | rfl | k_is)
    (case s_NoNumber_NoRack => first | rfl | k_is)
    (case s_NoNumber_NoNumber => first | rfl | k_is)
    (case s_NoNumber_NoTrees => first | rfl | k_is)
    (case s_NoNumber_SwapError => first | rfl | k_is)
    (case s_NoNumber_VE => first | rfl | k_is)
    (case z_ValueError => k_is)
    (case z_all => k_is)
    (case z_bool => k_is)
    (case z_divmod => k_is)
    (case z_enumerate => k_is)
    (case z_int => k_is)
    (case z_isinstance => k_is)
    (case z_len => k_is)
    (case z_list => k_is)
    (case z_max => k_is)
    (case z_min => k_is)
    (case z_range => k_is)
    (case z_set => k_is)
    (case z_str => k_is)
    (case z_sum => k_is)
    (case z_tuple => k_is)
    (case v_LETTERS => k_is)
    (case v_MOST_FORMS => k_is)
    (case v_MOST_LETTERS => k_is)
    (case v_MOST_MAKERS => k_is)
    (case v_MOST_SIZE => k_is)
    (case v_MOST_TREES => k_is)
    (case v_MOST_WITHIN => k_is)
#print axioms PySem.Challenge.cw_boughswap_k83_things_counted_up_to_a_siz_holds
