import PyProof.Rows.All
import Wide.All
import OpenK.AllK
import Wide.FinOn
import HandS.ForMost
import HandS.ForExc
import HandS.Wide
import HandS.Walk
import HandS.IsInst
import HandS.ExcInit
import HandS.ExcField
import HandS.TryMany
import HandS.Lambda
import HandS.Flow
import HandS.Style
import HandS.TupAny
import HandS.Conv
import HandS.RaiseMore
import HandS.ClsMeth
import HandS.Comp
import HandS.EndTab
import HandS.EndOwn
import HandS.Head0
import HandS.Head1
import HandS.Head2
import HandS.HeadHook1
import HandS.HeadHook2
import HandS.HeadHook4
import HandS.HeadWalk
import PySem.Challenge.RW_nearcurves_k02_whole_floors_and_texts_of
set_option Elab.async false
set_option linter.all false
set_option maxRecDepth 100000
set_option maxHeartbeats 2000000
/-! A layer over HandS: Python values as data (D), weakest preconditions over data. -/
namespace DL
open PySem PySem.Spec PyProof.Rows L2

abbrev St := L2.St
/-! ### data -/
/-- a value told by what it holds. obj: a handle on a thing that may change; ro: a list that is only read; raw: a def, a class, a type -/
inductive D where
  | non | bl (b : Bool) | int (i : Int) | str (x : Str)
  | lst (xs : List D) | tup (xs : List D) | dct (kvs : List (Key × D))
  | ro (xs : List D) | obj (a : Addr) | raw (v : V) | exc (a : Addr) (dd : Option Addr) (fs : List (Str × D)) | lam (a : Addr) (G : Hp) | ins (C : Addr) (fs : List (Str × D))
/-- what a handle stands for -/
inductive MO where
  | lst (xs : List D) | dct (kvs : List (Key × D)) | ins (C : Addr) (fs : List (Str × D)) | tbl (q : Str)
abbrev M := Addr → Option MO
def mput (μ : M) (a : Addr) (m : MO) : M := fun b => if b = a then some m else μ b
theorem mput_same {μ : M} {a : Addr} {m : MO} : mput μ a m a = some m := if_pos rfl
theorem mput_ne {μ : M} {a b : Addr} {m : MO} (h : b ≠ a) : mput μ a m b = μ b := if_neg h

mutual
inductive R (K : PySem.W.Frag) (G : Hp) : V → D → Prop
  | non : R K G .non .non
  | bl (b : Bool) : R K G (.bl b) (.bl b)
  | int (i : Int) : R K G (.int i) (.int i)
  | str (x : Str) : R K G (.str x) (.str x)
  | lst {a : Addr} {vs : List V} {ds : List D} : G a = some (.lst vs) → RA K G vs ds → R K G (.ref a) (.lst ds)
  | tup {a : Addr} {vs : List V} {ds : List D} : SqT K G a vs → RA K G vs ds → R K G (.ref a) (.tup ds)
  | dct {a : Addr} {kvs : List (Key × V)} {ks : List (Key × D)} : G a = some (.dK kvs) → RK K G kvs ks → R K G (.ref a) (.dct ks)
  | ro {a : Addr} {vs : List V} {ds : List D} : SqL K G a vs → RA K G vs ds → R K G (.ref a) (.ro ds)
  | obj (a : Addr) : R K G (.ref a) (.obj a)
  | raw (v : V) : R K G v (.raw v)
  | exc0 (a : Addr) (dd : Option Addr) : R K G (.ref a) (.exc a dd [])
  | lam (a : Addr) {G0 : Hp} : Same G0 G → R K G (.ref a) (.lam a G0)
  | ins {a C dx : Addr} {fvs : List (Str × V)} {fs : List (Str × D)} : G a = some (.ins C dx fvs) → RF K G fvs fs → R K G (.ref a) (.ins C fs)
  | exc1 {a d : Addr} {fvs : List (Str × V)} {fs : List (Str × D)} : G d = some (.xd fvs) → RF K G fvs fs → R K G (.ref a) (.exc a (some d) fs)
inductive RA (K : PySem.W.Frag) (G : Hp) : List V → List D → Prop
  | nil : RA K G [] []
  | cons {v : V} {d : D} {vs : List V} {ds : List D} : R K G v d → RA K G vs ds → RA K G (v :: vs) (d :: ds)
inductive RK (K : PySem.W.Frag) (G : Hp) : List (Key × V) → List (Key × D) → Prop
  | nil : RK K G [] []
  | cons {k : Key} {v : V} {d : D} {vs : List (Key × V)} {ds : List (Key × D)} : R K G v d → RK K G vs ds → RK K G ((k, v) :: vs) ((k, d) :: ds)
inductive RF (K : PySem.W.Frag) (G : Hp) : List (Str × V) → List (Str × D) → Prop
  | nil : RF K G [] []
  | cons {k : Str} {v : V} {d : D} {vs : List (Str × V)} {ds : List (Str × D)} : R K G v d → RF K G vs ds → RF K G ((k, v) :: vs) ((k, d) :: ds)
end

section
variable {K : PySem.W.Frag} {G G' : Hp}
theorem same_t {a : Addr} {xs : List V} (e : Same G G') (h : SqT K G a xs) : SqT K G' a xs := by
  rcases h with (h | ⟨o, h⟩) | h
  · exact .inl (.inl (e _ _ h))
  · exact .inl (.inr ⟨o, e _ _ h⟩)
  · exact .inr h
mutual
theorem R.mono (e : Same G G') : ∀ {v : V} {d : D}, R K G v d → R K G' v d
  | _, _, .non => .non
  | _, _, .bl b => .bl b
  | _, _, .int i => .int i
  | _, _, .str x => .str x
  | _, _, .lst h r => .lst (e _ _ h) (RA.mono e r)
  | _, _, .tup h r => .tup (same_t e h) (RA.mono e r)
  | _, _, .dct h r => .dct (e _ _ h) (RK.mono e r)
  | _, _, .ro h r => .ro (e.seq h) (RA.mono e r)
  | _, _, .obj a => .obj a
  | _, _, .raw v => .raw v
  | _, _, .exc0 a dd => .exc0 a dd
  | _, _, .lam a h => .lam a (h.trans e)
  | _, _, .exc1 h r => .exc1 (e _ _ h) (RF.mono e r)
  | _, _, .ins h r => .ins (e _ _ h) (RF.mono e r)
theorem RA.mono (e : Same G G') : ∀ {v : List V} {d : List D}, RA K G v d → RA K G' v d
  | _, _, .nil => .nil
  | _, _, .cons h r => .cons (R.mono e h) (RA.mono e r)
theorem RK.mono (e : Same G G') : ∀ {v : List (Key × V)} {d : List (Key × D)}, RK K G v d → RK K G' v d
  | _, _, .nil => .nil
  | _, _, .cons h r => .cons (R.mono e h) (RK.mono e r)
theorem RF.mono (e : Same G G') : ∀ {v : List (Str × V)} {d : List (Str × D)}, RF K G v d → RF K G' v d
  | _, _, .nil => .nil
  | _, _, .cons h r => .cons (R.mono e h) (RF.mono e r)
end
theorem RF.val {k : Str} {d : D} : ∀ {fvs : List (Str × V)} {fs : List (Str × D)}, RF K G fvs fs → fs.lookup k = some d → ∃ v, fvs.lookup k = some v ∧ R K G v d
  | _, _, .nil, h => by cases h
  | _, _, .cons (k := k1) (vs := vs) (ds := ds) q r, h => by
    rw [List.lookup_cons] at h ⊢
    cases e : (k == k1) with
    | true =>
      rw [e] at h
      cases h
      exact ⟨_, rfl, q⟩
    | false =>
      rw [e] at h
      exact RF.val r h
theorem RA.length : ∀ {vs : List V} {ds : List D}, RA K G vs ds → vs.length = ds.length
  | _, _, .nil => rfl
  | _, _, .cons _ r => congrArg (· + 1) r.length
theorem RK.length : ∀ {vs : List (Key × V)} {ds : List (Key × D)}, RK K G vs ds → vs.length = ds.length
  | _, _, .nil => rfl
  | _, _, .cons _ r => congrArg (· + 1) r.length
theorem RA.get : ∀ {vs : List V} {ds : List D} {i : Nat} {d : D}, RA K G vs ds → ds[i]? = some d → ∃ v, vs[i]? = some v ∧ R K G v d
  | _, _, _, _, .nil, h => by simp at h
  | _, _, 0, _, .cons h _, e => by
    simp at e
    subst e
    exact ⟨_, rfl, h⟩
  | _, _, i + 1, _, .cons _ r, e => by
    obtain ⟨v, h1, h2⟩ := RA.get (i := i) r e
    exact ⟨v, h1, h2⟩
theorem RA.get' {vs : List V} {ds : List D} {i : Nat} {v : V} (r : RA K G vs ds) (h : vs[i]? = some v) : ∃ d, ds[i]? = some d ∧ R K G v d := by
  obtain ⟨hi, _⟩ := List.getElem?_eq_some_iff.mp h
  have hd : i < ds.length := by rw [← r.length]; exact hi
  obtain ⟨w, h1, h2⟩ := r.get (i := i) (d := ds[i]) (List.getElem?_eq_getElem hd)
  rw [h] at h1
  cases h1
  exact ⟨_, List.getElem?_eq_getElem hd, h2⟩
theorem RA.append : ∀ {vs ws : List V} {ds es : List D}, RA K G vs ds → RA K G ws es → RA K G (vs ++ ws) (ds ++ es)
  | _, _, _, _, .nil, s => s
  | _, _, _, _, .cons h r, s => .cons h (r.append s)
theorem RA.take : ∀ {vs : List V} {ds : List D} (n : Nat), RA K G vs ds → RA K G (vs.take n) (ds.take n)
  | _, _, 0, _ => .nil
  | _, _, _ + 1, .nil => .nil
  | _, _, n + 1, .cons h r => .cons h (r.take n)
theorem RA.drop : ∀ {vs : List V} {ds : List D} (n : Nat), RA K G vs ds → RA K G (vs.drop n) (ds.drop n)
  | _, _, 0, r => r
  | _, _, _ + 1, .nil => .nil
  | _, _, n + 1, .cons _ r => r.drop n
theorem RA.rev {vs : List V} {ds : List D} (r : RA K G vs ds) : RA K G vs.reverse ds.reverse := by
  induction r using RA.rec (motive_1 := fun _ _ _ => True) (motive_3 := fun _ _ _ => True) (motive_4 := fun _ _ _ => True) with
  | nil => exact .nil
  | cons h r _ ih =>
    rw [List.reverse_cons, List.reverse_cons]
    exact ih.append (.cons h .nil)
  | _ => trivial
theorem RA.set {v : V} {d : D} (h : R K G v d) : ∀ {vs : List V} {ds : List D} (n : Nat), RA K G vs ds → RA K G (vs.set n v) (ds.set n d)
  | _, _, _, .nil => .nil
  | _, _, 0, .cons _ r => .cons h r
  | _, _, n + 1, .cons q r => .cons q (r.set h n)
theorem RA.ints : ∀ ns : List Int, RA K G (ns.map V.int) (ns.map D.int)
  | [] => .nil
  | n :: ns => .cons (.int n) (RA.ints ns)
theorem R.int_inv {v : V} {i : Int} (r : R K G v (.int i)) : v = .int i := by cases r; rfl
theorem R.bl_inv {v : V} {b : Bool} (r : R K G v (.bl b)) : v = .bl b := by cases r; rfl
theorem R.str_inv {v : V} {x : Str} (r : R K G v (.str x)) : v = .str x := by cases r; rfl
theorem R.non_inv {v : V} (r : R K G v .non) : v = .non := by cases r; rfl
theorem R.raw_inv {v w : V} (r : R K G v (.raw w)) : v = w := by cases r; rfl
theorem R.obj_inv {v : V} {a : Addr} (r : R K G v (.obj a)) : v = .ref a := by cases r; rfl
theorem RK.val {k : Key} {d : D} : ∀ {kvs : List (Key × V)} {ks : List (Key × D)}, RK K G kvs ks → (ks.find? fun p => decide (p.1 = k)).map (·.2) = some d → ∃ v, valV kvs k = some v ∧ R K G v d
  | _, _, .nil, h => by simp at h
  | _, _, .cons (k := k1) (vs := vs) (ds := ds) q r, h => by
    by_cases e : k1 = k
    · rw [List.find?_cons_of_pos (by simpa using e)] at h
      cases h
      refine ⟨_, ?_, q⟩
      unfold valV
      rw [List.find?_cons_of_pos (by simpa using e)] <;> rfl
    · rw [List.find?_cons_of_neg (by simpa using e)] at h
      obtain ⟨v, h1, h2⟩ := RK.val r h
      refine ⟨v, ?_, h2⟩
      unfold valV at h1 ⊢
      rw [List.find?_cons_of_neg (by simpa using e)]
      exact h1
end

/-! ### the heap without what the handles stand for -/
def notTbl : HO → Bool
  | .tbl _ => false
  | _ => true
def hid (H : Hp) (μ : M) : Hp := fun b => match μ b with
  | some _ => none
  | none => (H b).filter notTbl
theorem hid_some {H : Hp} {μ : M} {b : Addr} {o : HO} : hid H μ b = some o ↔ (μ b = none ∧ notTbl o = true) ∧ H b = some o := by
  unfold hid
  cases μ b with
  | some _ => simp
  | none =>
    simp only [Option.filter_eq_some_iff, true_and]
    exact and_comm
theorem hid_sub {H : Hp} {μ : M} : Same (hid H μ) H := fun _ _ h => (hid_some.mp h).2
def MOk (K : PySem.W.Frag) (H : Hp) (μ : M) (a : Addr) : MO → Prop
  | .lst ds => ∃ vs, H a = some (.lst vs) ∧ RA K (hid H μ) vs ds
  | .dct ks => ∃ kvs, H a = some (.dK kvs) ∧ RK K (hid H μ) kvs ks
  | .ins C fs => ∃ dx fvs, H a = some (.ins C dx fvs) ∧ RF K (hid H μ) fvs fs
  | .tbl q => ∃ ps : Array Value, H a = some (.tbl ps) ∧ TriplesOk ps.toList ∧ ∀ (pos : Pos) (cv : Value), codeAmong pos ps.toList = some cv → ∃ c, cv = .ref c ∧ hid H μ c = some (LamX.CodeO c q)
def MR (K : PySem.W.Frag) (H : Hp) (μ : M) : Prop := ∀ a m, μ a = some m → MOk K H μ a m
theorem MR.some {K : PySem.W.Frag} {H : Hp} {μ : M} (h : MR K H μ) {a : Addr} {m : MO} (e : μ a = some m) : ∃ o, H a = some o := by
  have q := h a m e
  cases m with
  | lst ds => obtain ⟨vs, q, _⟩ := q; exact ⟨_, q⟩
  | dct ds => obtain ⟨vs, q, _⟩ := q; exact ⟨_, q⟩
  | ins C fs => obtain ⟨dx, vs, q, _⟩ := q; exact ⟨_, q⟩
  | tbl _ => obtain ⟨vs, q, _⟩ := q; exact ⟨_, q⟩
/-- a new address is no handle -/
theorem MR.fresh {K : PySem.W.Frag} {H : Hp} {μ : M} (h : MR K H μ) {p : Addr} (e : H p = none) : μ p = none := by
  cases q : μ p with
  | none => rfl
  | some m =>
    obtain ⟨o, z⟩ := h.some q
    rw [e] at z
    cases z
/-- from one state to a later one: the data stays -/
structure Mv (K : PySem.W.Frag) (H : Hp) (μ : M) (H' : Hp) (μ' : M) : Prop where
  sm : Same (hid H μ) (hid H' μ')
  mr : MR K H' μ'
theorem Mv.trans {K : PySem.W.Frag} {H H1 H2 : Hp} {μ μ1 μ2 : M} (a : Mv K H μ H1 μ1) (b : Mv K H1 μ1 H2 μ2) : Mv K H μ H2 μ2 := ⟨a.sm.trans b.sm, b.mr⟩
theorem Mv.refl {K : PySem.W.Frag} {H : Hp} {μ : M} (h : MR K H μ) : Mv K H μ H μ := ⟨Same.refl _, h⟩
theorem hid_upd {H : Hp} {μ : M} {p : Addr} {o : HO} (e : H p = none) : Same (hid H μ) (hid (upd H p o) μ) := fun b u h => by
  obtain ⟨h1, h2⟩ := hid_some.mp h
  exact hid_some.mpr ⟨h1, by rw [upd_ne (ne_of_none h2 e)]; exact h2⟩
theorem MOk.mono {K : PySem.W.Frag} {H H' : Hp} {μ μ' : M} {a : Addr} {m : MO} (h : MOk K H μ a m) (e : Same (hid H μ) (hid H' μ')) (ha : H' a = H a) : MOk K H' μ' a m := by
  cases m with
  | lst ds => obtain ⟨vs, q, r⟩ := h; exact ⟨vs, ha.trans q, r.mono e⟩
  | dct ds => obtain ⟨vs, q, r⟩ := h; exact ⟨vs, ha.trans q, r.mono e⟩
  | ins C fs => obtain ⟨dx, vs, q, r⟩ := h; exact ⟨dx, vs, ha.trans q, r.mono e⟩
  | tbl _ => obtain ⟨vs, q, t, r⟩ := h; exact ⟨vs, ha.trans q, t, fun pos cv z => let ⟨c, h1, h2⟩ := r pos cv z; ⟨c, h1, e _ _ h2⟩⟩
/-- a new object, as data -/
theorem Mv.new {K : PySem.W.Frag} {H : Hp} {μ : M} {p : Addr} {o : HO} (h : MR K H μ) (e : H p = none) : Mv K H μ (upd H p o) μ :=
  ⟨hid_upd e, fun a m q => (h a m q).mono (hid_upd e) (upd_ne fun z => by
    obtain ⟨u, w⟩ := h.some q
    rw [z, e] at w
    cases w)⟩
/-- a handle's object is written -/
theorem Mv.put {K : PySem.W.Frag} {H : Hp} {μ : M} {p : Addr} {o : HO} {m : MO} (h : MR K H μ) (e : H p = none ∨ ∃ m0, μ p = some m0) (new : ∀ {G : Hp}, Same (hid H μ) G → hid (upd H p o) (mput μ p m) = G → MOk K (upd H p o) (mput μ p m) p m) : Mv K H μ (upd H p o) (mput μ p m) := by
  have ne : ∀ b u, hid H μ b = some u → b ≠ p := fun b u q z => by
    obtain ⟨h1, h2⟩ := hid_some.mp q
    rcases e with e | ⟨m0, e⟩
    · rw [z, e] at h2; cases h2
    · have h1 := h1.1
      rw [z, e] at h1; cases h1
  have sm : Same (hid H μ) (hid (upd H p o) (mput μ p m)) := fun b u q => by
    obtain ⟨h1, h2⟩ := hid_some.mp q
    exact hid_some.mpr ⟨⟨by rw [mput_ne (ne b u q)]; exact h1.1, h1.2⟩, by rw [upd_ne (ne b u q)]; exact h2⟩
  refine ⟨sm, fun a m' q => ?_⟩
  by_cases z : a = p
  · subst z
    rw [mput_same] at q
    cases q
    exact new sm rfl
  · rw [mput_ne z] at q
    exact (h a m' q).mono sm (upd_ne z)

/-! ### slots -/
abbrev DSt := List (Option D)
structure SD (K : PySem.W.Frag) (σ : St) (δ : DSt) (H : Hp) (μ : M) : Prop where
  sl : ∀ (i : Nat) (d : D), δ[i]? = some (some d) → ∃ v, σ[i]? = some (some v) ∧ R K (hid H μ) v d
  mr : MR K H μ
  len : σ.length = δ.length
theorem SD.step {K : PySem.W.Frag} {σ : St} {δ : DSt} {H H' : Hp} {μ μ' : M} (s : SD K σ δ H μ) (m : Mv K H μ H' μ') : SD K σ δ H' μ' :=
  ⟨fun i d e => let ⟨v, h, r⟩ := s.sl i d e; ⟨v, h, r.mono m.sm⟩, m.mr, s.len⟩
theorem SD.set {K : PySem.W.Frag} {σ : St} {δ : DSt} {H : Hp} {μ : M} {v : V} {d : D} (s : SD K σ δ H μ) (i : Nat) (r : R K (hid H μ) v d) : SD K (σ.set i (some v)) (δ.set i (some d)) H μ := by
  refine ⟨fun j e h => ?_, s.mr, by rw [List.length_set, List.length_set]; exact s.len⟩
  by_cases z : i = j
  · subst z
    by_cases hi : i < δ.length
    · rw [List.getElem?_set_self hi] at h
      cases h
      exact ⟨v, List.getElem?_set_self (by rw [s.len]; exact hi), r⟩
    · rw [List.getElem?_eq_none (by rw [List.length_set]; omega)] at h
      cases h
  · rw [List.getElem?_set_ne z] at h
    obtain ⟨w, h1, h2⟩ := s.sl j e h
    exact ⟨w, by rw [List.getElem?_set_ne z]; exact h1, h2⟩

/-! ### exceptions -/
/-- an exception: its class, its fields (none: it has no dict of its own) -/
structure Er where
  cls : Value
  fs : List (Str × D)
def ErR (K : PySem.W.Frag) (G : Hp) (cls : Value) (dd : Option Addr) (er : Er) : Prop :=
  cls = er.cls ∧ ∀ a, R K G (.ref a) (.exc a dd er.fs)
theorem ErR.mono {K : PySem.W.Frag} {G G' : Hp} {cls : Value} {dd : Option Addr} {er : Er} (e : Same G G') (h : ErR K G cls dd er) : ErR K G' cls dd er :=
  ⟨h.1, fun a => (h.2 a).mono e⟩
abbrev FK := Er → M → Prop

/-! ### what is wanted, over data -/
abbrev DK := D → M → Prop
abbrev DW := DSt → M → DK → FK → Prop
abbrev DA := DSt → M → (List D → M → Prop) → FK → Prop
abbrev DT := DSt → M → (Bool → M → Prop) → FK → Prop
structure DE where
  nx : DSt → M → Prop
  rt : DK
  bk : DSt → M → Prop := fun _ _ => False
  ct : DSt → M → Prop := fun _ _ => False
abbrev DS := DE → FK → DSt → M → Prop
/-- an exception's way out -/
def Ex1 (K : PySem.W.Frag) (W : WX) (σ : St) (H : Hp) (μ : M) (F : FK) : Prop := ∀ cls dd er H' μ', Mv K H μ H' μ' → ErR K (hid H' μ') cls dd er → F er μ' → W cls dd σ H'
theorem Ex1.step {K : PySem.W.Frag} {W : WX} {σ : St} {H H1 : Hp} {μ μ1 : M} {F : FK} (h : Ex1 K W σ H μ F) (m : Mv K H μ H1 μ1) : Ex1 K W σ H1 μ1 F := fun cls dd er H' μ' m' => h cls dd er H' μ' (m.trans m')
def LE (K : PySem.W.Frag) (W : WX) (t : TE) (w : DW) : Prop := ∀ (σ : St) (δ : DSt) (H : Hp) (μ : M) (Q : VK) (Qd : DK) (F : FK), SD K σ δ H μ → w δ μ Qd F →
  (∀ v d H' μ', Mv K H μ H' μ' → R K (hid H' μ') v d → Qd d μ' → Q v H') → Ex1 K W σ H μ F → t σ H Q
def LA (K : PySem.W.Frag) (W : WX) (t : TA) (w : DA) : Prop := ∀ (σ : St) (δ : DSt) (H : Hp) (μ : M) (Q : List V → Hp → Prop) (Qd : List D → M → Prop) (F : FK), SD K σ δ H μ → w δ μ Qd F →
  (∀ vs ds H' μ', Mv K H μ H' μ' → RA K (hid H' μ') vs ds → Qd ds μ' → Q vs H') → Ex1 K W σ H μ F → t σ H Q
def LT (K : PySem.W.Frag) (W : WX) (t : TT) (w : DT) : Prop := ∀ (σ : St) (δ : DSt) (H : Hp) (μ : M) (Q : Bool → Hp → Prop) (Qd : Bool → M → Prop) (F : FK), SD K σ δ H μ → w δ μ Qd F →
  (∀ b H' μ', Mv K H μ H' μ' → Qd b μ' → Q b H') → Ex1 K W σ H μ F → t σ H Q
/-- a statement, told from the entry's data G0 -/
structure DEn (K : PySem.W.Frag) (W : WX) (G0 : Hp) (D : Ends) (Dd : DE) (F : FK) : Prop where
  nx : ∀ σ δ H μ, Same G0 (hid H μ) → SD K σ δ H μ → Dd.nx δ μ → D.nx σ H
  rt : ∀ v d H μ, Same G0 (hid H μ) → MR K H μ → R K (hid H μ) v d → Dd.rt d μ → D.rt v H
  bk : ∀ σ δ H μ, Same G0 (hid H μ) → SD K σ δ H μ → Dd.bk δ μ → D.bk σ H
  ct : ∀ σ δ H μ, Same G0 (hid H μ) → SD K σ δ H μ → Dd.ct δ μ → D.ct σ H
  er : ∀ cls dd er σ H μ, Same G0 (hid H μ) → MR K H μ → ErR K (hid H μ) cls dd er → F er μ → W cls dd σ H
def LS (K : PySem.W.Frag) (W : WX) (t : TS) (w : DS) : Prop := ∀ (G0 : Hp) (σ : St) (δ : DSt) (H : Hp) (μ : M) (D : Ends) (Dd : DE) (F : FK), Same G0 (hid H μ) → SD K σ δ H μ → w Dd F δ μ → DEn K W G0 D Dd F → t D σ H
theorem DEn.ex1 {K : PySem.W.Frag} {W : WX} {G0 : Hp} {D : Ends} {Dd : DE} {F : FK} (e : DEn K W G0 D Dd F) {σ : St} {H : Hp} {μ : M} (g : Same G0 (hid H μ)) : Ex1 K W σ H μ F :=
  fun cls dd er H' μ' m r f => e.er cls dd er σ H' μ' (g.trans m.sm) m.mr r f

structure PD (X : Cx) (W : WX) (e : Expr) (t : TE) (w : DW) : Prop where
  pe : PE X e t
  le : LE X.K W t w
structure PDA (X : Cx) (W : WX) (es : List Expr) (t : TA) (w : DA) : Prop where
  pa : PA X es t
  la : LA X.K W t w
structure PDT (X : Cx) (W : WX) (e : Expr) (t : TT) (w : DT) : Prop where
  pt : PT X e t
  lt : LT X.K W t w
structure PDS (X : Cx) (W : WX) (st : Stmt) (t : TS) (w : DS) : Prop where
  ps : PS X st t
  ls : LS X.K W t w
structure PDB (X : Cx) (W : WX) (sts : List Stmt) (t : TS) (w : DS) : Prop where
  pss : PSs X sts t
  ls : LS X.K W t w
end DL

set_option maxHeartbeats 2000000
namespace DL
open PySem PySem.Spec PyProof.Rows L2

/-! ### data as the library's data -/
def keyP : Key → PyData
  | .inl i => .int i
  | .inr x => .str x
mutual
def D.py : D → Option PyData
  | .non => some .none
  | .bl b => some (.bool b)
  | .int i => some (.int i)
  | .str x => some (.str x)
  | .lst xs => (D.pyA xs).map .list
  | .ro xs => (D.pyA xs).map .list
  | .tup xs => (D.pyA xs).map .tuple
  | .dct ks => (D.pyK ks).map .dict
  | .obj _ => none
  | .raw _ => none
  | .exc _ _ _ => none
  | .lam _ _ => none
  | .ins _ _ => none
def D.pyA : List D → Option (List PyData)
  | [] => some []
  | d :: ds => match d.py, D.pyA ds with
    | some p, some ps => some (p :: ps)
    | _, _ => none
def D.pyK : List (Key × D) → Option (List (PyData × PyData))
  | [] => some []
  | (k, d) :: ds => match d.py, D.pyK ds with
    | some p, some ps => some ((keyP k, p) :: ps)
    | _, _ => none
end
/-- a list: written, or behind a handle -/
def lstOf (μ : M) : D → Option (List D)
  | .lst xs => some xs
  | .obj a => match μ a with
    | some (.lst xs) => some xs
    | _ => none
  | _ => none
/-- what may be read as a list or a tuple -/
def seqOf (μ : M) : D → Option (List D)
  | .lst xs => some xs
  | .ro xs => some xs
  | .tup xs => some xs
  | .obj a => match μ a with
    | some (.lst xs) => some xs
    | _ => none
  | _ => none
def pyOf (μ : M) : D → Option PyData
  | .obj a => match μ a with
    | some (.lst xs) => (D.pyA xs).map .list
    | _ => none
  | d => d.py

section
variable {K : PySem.W.Frag} {H G : Hp} {μ : M}
theorem lst_of {v : V} {d : D} {ds : List D} (m : MR K H μ) (r : R K (hid H μ) v d) (h : lstOf μ d = some ds) : ∃ a vs, v = .ref a ∧ H a = some (.lst vs) ∧ RA K (hid H μ) vs ds := by
  cases r with
  | @lst a vs ds' e ra =>
    cases h
    exact ⟨a, vs, rfl, (hid_some.mp e).2, ra⟩
  | obj a =>
    unfold lstOf at h
    cases q : μ a with
    | none => simp only [q] at h; cases h
    | some mo =>
      cases mo with
      | lst xs =>
        simp only [q] at h
        cases h
        obtain ⟨vs, e, ra⟩ := m a _ q
        exact ⟨a, vs, rfl, e, ra⟩
      | _ => simp only [q] at h; cases h
  | _ => cases h
theorem seq_of {v : V} {d : D} {ds : List D} (m : MR K H μ) (r : R K (hid H μ) v d) (h : seqOf μ d = some ds) : ∃ a vs, v = .ref a ∧ (SqL K H a vs ∨ SqT K H a vs) ∧ RA K (hid H μ) vs ds := by
  cases r with
  | @lst a vs ds' e ra =>
    cases h
    exact ⟨a, vs, rfl, .inl (SqL.of (hid_some.mp e).2), ra⟩
  | @tup a vs ds' e ra =>
    cases h
    exact ⟨a, vs, rfl, .inr (same_t hid_sub e), ra⟩
  | @ro a vs ds' e ra =>
    cases h
    exact ⟨a, vs, rfl, .inl (hid_sub.seq e), ra⟩
  | obj a =>
    obtain ⟨b, vs, e1, e2, e3⟩ := lst_of (d := .obj a) m (.obj a) (ds := ds) (by
      unfold seqOf at h
      unfold lstOf
      exact h)
    exact ⟨b, vs, e1, .inl (SqL.of e2), e3⟩
  | _ => cases h
theorem keyP_R {k : Key} : Dp K H (kV k) (keyP k) := by
  cases k with
  | inl i => exact .int i
  | inr x => exact .str x
end

/-! ### Dp with dicts: for repr -/
mutual
inductive Dq (K : PySem.W.Frag) (H : Hp) : V → PyData → Prop
  | non : Dq K H .non .none
  | bl (b : Bool) : Dq K H (.bl b) (.bool b)
  | int (i : Int) : Dq K H (.int i) (.int i)
  | str (x : Str) : Dq K H (.str x) (.str x)
  | lst {a : Addr} {xs : List V} {ds : List PyData} : SqL K H a xs → DqA K H xs ds → Dq K H (.ref a) (.list ds)
  | tup {a : Addr} {xs : List V} {ds : List PyData} : SqT K H a xs → DqA K H xs ds → Dq K H (.ref a) (.tuple ds)
  | dct {a : Addr} {kvs : List (Key × V)} {ps : List (PyData × PyData)} : H a = some (.dK kvs) → DqK K H kvs ps → Dq K H (.ref a) (.dict ps)
inductive DqA (K : PySem.W.Frag) (H : Hp) : List V → List PyData → Prop
  | nil : DqA K H [] []
  | cons {v : V} {vs : List V} {d : PyData} {ds : List PyData} : Dq K H v d → DqA K H vs ds → DqA K H (v :: vs) (d :: ds)
inductive DqK (K : PySem.W.Frag) (H : Hp) : List (Key × V) → List (PyData × PyData) → Prop
  | nil : DqK K H [] []
  | cons {k : Key} {v : V} {vs : List (Key × V)} {d : PyData} {ds : List (PyData × PyData)} : Dq K H v d → DqK K H vs ds → DqK K H ((k, v) :: vs) ((keyP k, d) :: ds)
end
section
variable {K : PySem.W.Frag} {H : Hp} {μ : M}
mutual
theorem Dq.of_R : ∀ {v : V} {d : D} {p : PyData}, R K (hid H μ) v d → d.py = some p → Dq K H v p
  | _, _, _, .non, e => by cases e; exact .non
  | _, _, _, .bl b, e => by cases e; exact .bl b
  | _, _, _, .int i, e => by cases e; exact .int i
  | _, _, _, .str x, e => by cases e; exact .str x
  | _, _, _, .lst h r, e => by
    simp only [D.py, Option.map_eq_some_iff] at e
    obtain ⟨ps, e1, rfl⟩ := e
    exact .lst (SqL.of (hid_some.mp h).2) (DqA.of_R r e1)
  | _, _, _, .tup h r, e => by
    simp only [D.py, Option.map_eq_some_iff] at e
    obtain ⟨ps, e1, rfl⟩ := e
    exact .tup (same_t hid_sub h) (DqA.of_R r e1)
  | _, _, _, .dct h r, e => by
    simp only [D.py, Option.map_eq_some_iff] at e
    obtain ⟨ps, e1, rfl⟩ := e
    exact .dct (hid_some.mp h).2 (DqK.of_R r e1)
  | _, _, _, .ro h r, e => by
    simp only [D.py, Option.map_eq_some_iff] at e
    obtain ⟨ps, e1, rfl⟩ := e
    exact .lst (hid_sub.seq h) (DqA.of_R r e1)
  | _, _, _, .obj a, e => by cases e
  | _, _, _, .raw v, e => by cases e
  | _, _, _, .exc0 _ _, e => by cases e
  | _, _, _, .lam _ _, e => by cases e
  | _, _, _, .exc1 _ _, e => by cases e
  | _, _, _, .ins _ _, e => by cases e
theorem DqA.of_R : ∀ {v : List V} {d : List D} {p : List PyData}, RA K (hid H μ) v d → D.pyA d = some p → DqA K H v p
  | _, _, _, .nil, e => by cases e; exact .nil
  | _, d :: ds, _, .cons h r, e => by
    cases e1 : d.py with
    | none => simp only [D.pyA, e1] at e; cases e
    | some p1 =>
      cases e2 : D.pyA ds with
      | none => simp only [D.pyA, e1, e2] at e; cases e
      | some p2 =>
        simp only [D.pyA, e1, e2] at e
        cases e
        exact .cons (Dq.of_R h e1) (DqA.of_R r e2)
theorem DqK.of_R : ∀ {v : List (Key × V)} {d : List (Key × D)} {p : List (PyData × PyData)}, RK K (hid H μ) v d → D.pyK d = some p → DqK K H v p
  | _, _, _, .nil, e => by cases e; exact .nil
  | _, (k, d) :: ds, _, .cons h r, e => by
    cases e1 : d.py with
    | none => simp only [D.pyK, e1] at e; cases e
    | some p1 =>
      cases e2 : D.pyK ds with
      | none => simp only [D.pyK, e1, e2] at e; cases e
      | some p2 =>
        simp only [D.pyK, e1, e2] at e
        cases e
        exact .cons (Dq.of_R h e1) (DqK.of_R r e2)
end
mutual
theorem Dp.of_Dq : ∀ {v : V} {p : PyData}, Dq K H v p → p.canLay0 = true → Dp K H v p
  | _, _, .non, _ => .non
  | _, _, .bl b, _ => .bl b
  | _, _, .int i, _ => .int i
  | _, _, .str x, _ => .str x
  | _, _, .lst h r, e => .lst h (DpAll.of_Dq r (by simpa [PyData.canLay0] using e))
  | _, _, .tup h r, e => .tup h (DpAll.of_Dq r (by simpa [PyData.canLay0] using e))
  | _, _, .dct h r, e => by simp [PyData.canLay0] at e
theorem DpAll.of_Dq : ∀ {v : List V} {p : List PyData}, DqA K H v p → PyData.canLayAll0 p = true → DpAll K H v p
  | _, _, .nil, _ => .nil
  | _, _, .cons h r, e => by
    simp only [PyData.canLayAll0, Bool.and_eq_true] at e
    exact .cons (Dp.of_Dq h e.1) (DpAll.of_Dq r e.2)
end
theorem Dq.of_pyOf {v : V} {d : D} {p : PyData} (m : MR K H μ) (r : R K (hid H μ) v d) (e : pyOf μ d = some p) : Dq K H v p := by
  cases d with
  | obj a =>
    cases r
    unfold pyOf at e
    cases q : μ a with
    | none => simp only [q] at e; cases e
    | some mo =>
      cases mo with
      | lst xs =>
        simp only [q, Option.map_eq_some_iff] at e
        obtain ⟨ps, e1, rfl⟩ := e
        obtain ⟨vs, e2, ra⟩ := m a _ q
        exact .lst (SqL.of e2) (DqA.of_R ra e1)
      | _ => simp only [q] at e; cases e
  | _ => exact Dq.of_R r e
end

section
variable {X : Cx} {pins : List (Addr × Obj)} {σ : St} {H : Hp} {s : Shared}
theorem keyP_reads {h : Heap} : ∀ {k : Key} {u : Value}, keyIs k u = true → ∃ as, Reads h u (keyP k) as ∧ as = []
  | .inl i, u, e => by
    obtain ⟨t, rfl⟩ := Value.isInt_shape e
    exact ⟨_, .int i t, rfl⟩
  | .inr x, u, e => by
    obtain ⟨t, rfl⟩ := Value.isStrOf_shape e
    exact ⟨_, .str x t, rfl⟩
/-- a tracked address is no address of the top's -/
theorem trk_base (I : Inv X pins σ H s) {a : Addr} {o : HO} (h : H a = some o) : X.base.get? a = none := by
  cases q : X.base.get? a with
  | none => rfl
  | some ob =>
    have z := (I.bs a ob q).2
    rw [h] at z
    cases z
/-- a value that holds nothing -/
def scP : PyData → Bool
  | .none => true
  | .bool _ => true
  | .int _ => true
  | .str _ => true
  | _ => false
theorem Dq.reads0 {v : V} {u : Value} : ∀ {d : PyData}, Dq X.K H v d → RelV v u → scP d = true → Reads s.heap u d []
  | .none, h, r, _ => by
    cases h
    cases r
    exact .none
  | .bool b, h, r, _ => by
    cases h
    cases r
    exact .bool b
  | .int i, h, r, _ => by
    cases h
    obtain ⟨t, rfl⟩ := r
    exact .int i t
  | .str x, h, r, _ => by
    cases h
    obtain ⟨t, rfl⟩ := r
    exact .str x t
  | .list _, _, _, e => by cases e
  | .tuple _, _, _, e => by cases e
  | .dict _, _, _, e => by cases e
theorem Dq.keys0 {h : Heap} : ∀ {ps : List (PyData × PyData)} {kvs : List (Key × V)} {vs : List (Key × Value)} {es : List DictEntry}, DqK X.K H kvs ps → KV kvs vs → Pairs (mixKind X.prog X.w) es vs → ReadsAll h (es.map (·.key)) (ps.map (·.1)) []
  | [], _, _, _, a, b, c => by
    cases a
    cases b
    cases c
    exact .nil
  | p :: ps, _, _, _, a, b, c => by
    cases a with
    | cons a1 a2 =>
      cases b with
      | cons b1 b2 =>
        cases c with
        | cons c1 c2 c3 =>
          rename_i k _ _ _ kv _ _ _
          obtain ⟨as, h1, h2⟩ := keyP_reads (h := h) (k := k) (by rw [show k = kv.1 from b1.1]; exact c1)
          subst h2
          exact .cons h1 (Dq.keys0 a2 b2 c3)
theorem Dq.vals0 : ∀ {ps : List (PyData × PyData)} {kvs : List (Key × V)} {vs : List (Key × Value)} {es : List DictEntry}, DqK X.K H kvs ps → KV kvs vs → Pairs (mixKind X.prog X.w) es vs → (ps.all fun p => scP p.2) = true → ReadsAll s.heap (es.map (·.val)) (ps.map (·.2)) []
  | [], _, _, _, a, b, c, _ => by
    cases a
    cases b
    cases c
    exact .nil
  | p :: ps, _, _, _, a, b, c, z => by
    rw [List.all_cons, Bool.and_eq_true] at z
    cases a with
    | cons a1 a2 =>
      cases b with
      | cons b1 b2 =>
        cases c with
        | cons c1 c2 c3 =>
          refine .cons (as := []) ?_ (Dq.vals0 a2 b2 c3 z.2)
          show Reads s.heap _ _ _
          have c2' := c2
          dsimp only
          rw [c2']
          exact a1.reads0 b1.2 z.1
mutual
theorem Dq.reads (I : Inv X pins σ H s) : ∀ (d : PyData) (v : V) (u : Value), Dq X.K H v d → d.hasDict = false → RelV v u → ∃ as, Reads s.heap u d as
  | .none, _, _, h, _, r => ⟨_, h.reads0 r rfl⟩
  | .bool b, _, _, h, _, r => ⟨_, h.reads0 r rfl⟩
  | .int i, _, _, h, _, r => ⟨_, h.reads0 r rfl⟩
  | .str x, _, _, h, _, r => ⟨_, h.reads0 r rfl⟩
  | .list ds, _, _, h, n, r => by
    cases h with
    | lst hs ha =>
      cases r
      obtain ⟨its, rv, ⟨o, n', ho, hc, _, hd⟩, _⟩ := I.list hs
      obtain ⟨as, hr⟩ := Dq.readsAll I ds _ its ha (by simpa [PyData.hasDict] using n) rv
      exact ⟨_, .list ho hc hd hr⟩
  | .tuple ds, _, _, h, n, r => by
    cases h with
    | tup hs ha =>
      cases r
      obtain ⟨its, rv, ⟨o, ho, hc, n', hd⟩, _⟩ := I.tuple hs
      obtain ⟨as, hr⟩ := Dq.readsAll I ds _ its ha (by simpa [PyData.hasDict] using n) rv
      exact ⟨_, .tuple ho hc hd hr⟩
  | .dict ps, _, _, h, n, r => by simp [PyData.hasDict] at n
theorem Dq.readsAll (I : Inv X pins σ H s) : ∀ (ds : List PyData) (vs : List V) (us : List Value), DqA X.K H vs ds → PyData.hasDictAll ds = false → Vals vs us → ∃ as, ReadsAll s.heap us ds as
  | [], _, _, h, _, r => by
    cases h
    cases r
    exact ⟨_, .nil⟩
  | d :: ds, _, _, h, n, r => by
    simp only [PyData.hasDictAll, Bool.or_eq_false_iff] at n
    cases h with
    | cons h1 h2 =>
      cases r with
      | cons r1 r2 =>
        obtain ⟨as, q1⟩ := Dq.reads I d _ _ h1 n.1 r1
        obtain ⟨bs, q2⟩ := Dq.readsAll I ds _ _ h2 n.2 r2
        exact ⟨_, .cons q1 q2⟩
end
/-- what repr is told of: no dict within, or a dict of values that hold nothing -/
def okP : PyData → Bool
  | .dict ps => ps.all fun p => scP p.2
  | p => !p.hasDict
theorem Dq.readsP (I : Inv X pins σ H s) {d : PyData} {v : V} {u : Value} (h : Dq X.K H v d) (n : okP d = true) (r : RelV v u) : ∃ as, Reads s.heap u d as ∧ (d.hasDict = true → sysModules ∉ as) := by
  cases d with
  | dict ps =>
    cases h with
    | @dct a kvs _ hs ha =>
      cases r
      obtain ⟨_, hne, vs, kv, o, es, ep, ho, hx, hd, he, hp, _⟩ := (show ObjOk X.prog X.w H s.heap a (.dK kvs) from I.hok a _ hs)
      refine ⟨_, .dict ho hx.1 hd (Dq.keys0 (X := X) (H := H) ha kv hp) (Dq.vals0 (X := X) (H := H) ha kv hp n), fun _ hm => ?_⟩
      have e : sysModules = a := by simpa using hm
      rw [← e] at hne
      exact absurd hne (by decide)
  | _ =>
    have n' := n
    simp only [okP, Bool.not_eq_true'] at n'
    obtain ⟨as, q⟩ := Dq.reads I _ _ _ h n' r
    exact ⟨as, q, fun z => by
      rw [n'] at z
      cases z⟩
end
end DL

set_option maxHeartbeats 2000000
namespace DL
open PySem PySem.Spec PyProof.Rows L2

/-! ### names, constants, argument lists -/
def wVar (i : Nat) : DW := fun δ μ Q _ => ∃ d, δ[i]? = some (some d) ∧ Q d μ
def wC (d : D) : DW := fun _ μ Q _ => Q d μ
def wNil : DA := fun _ μ Q _ => Q [] μ
def wCons (wa : DW) (wr : DA) : DA := fun δ μ Q F => wa δ μ (fun d μ1 => wr δ μ1 (fun ds μ2 => Q (d :: ds) μ2) F) F
section
variable {X : Cx} {W : WX} {x : Str} {pos : Pos} {a b c e : Expr} {es : List Expr} {ta tb tc te : TE} {wa wb wc we : DW} {tr : TA} {wr : DA} {tt tu : TT} {wt wu : DT}
theorem pdv (i : Nat) (hN : X.N[i]? = some x := by rfl) (hv : Vis X.env.scope x := by first | exact Or.inl rfl | exact Or.inr (Or.inl rfl) | exact Or.inr (Or.inr rfl)) (hd : (x == ("__debug__" : Str)) = false := by decide)
    (hcd : (x == ("__classdict__" : Str)) = false := by decide) : PD X W (.Name x pos) (tVar i) (wVar i) :=
  ⟨pe_var hN hv hd hcd, fun σ δ H μ Q Qd F S ⟨d, e, q⟩ kQ _ => let ⟨v, h, r⟩ := S.sl i d e; ⟨v, h, kQ v d H μ (.refl S.mr) r q⟩⟩
theorem le_c {K : PySem.W.Frag} {v : V} {d : D} (r : ∀ G, R K G v d) : LE K W (tC v) (wC d) := fun σ δ H μ Q Qd F S q kQ _ => kQ v d H μ (.refl S.mr) (r _) q
theorem pd_int {i : Int} {j} : PD X W (.Constant (.int i) j pos) (tC (.int i)) (wC (.int i)) := ⟨pe_int, le_c fun _ => .int i⟩
theorem pd_bl {i : Bool} {j} : PD X W (.Constant (.bool i) j pos) (tC (.bl i)) (wC (.bl i)) := ⟨pe_bl, le_c fun _ => .bl i⟩
theorem pd_non {j} : PD X W (.Constant .none j pos) (tC .non) (wC .non) := ⟨pe_non, le_c fun _ => .non⟩
theorem pd_str {z : Str} {j} : PD X W (.Constant (.str z) j pos) (tC (.str z)) (wC (.str z)) := ⟨pe_str, le_c fun _ => .str z⟩
/-- a def, a class of the module, as a value -/
theorem pd_raw {f : Addr} (hm : X.mg x = some (.ref f)) (hg : Gl X x := by rfl) (hd : (x == ("__debug__" : Str)) = false := by decide) : PD X W (.Name x pos) (tC (.ref f)) (wC (.raw (.ref f))) := ⟨pe_glob hg hm rfl hd, le_c fun _ => .raw _⟩
/-- a built-in type as a value -/
theorem pd_ty {T : String} (hm : X.mg x = none) (hv : bootBuiltins x = some (.type T)) (hg : Gl X x := by rfl) (hn : x ≠ "__name__" := by decide) (hd : (x == ("__debug__" : Str)) = false := by decide) : PD X W (.Name x pos) (tC (.ty T)) (wC (.raw (.ty T))) :=
  ⟨pe_bltn hg hm hv rfl hn hd, le_c fun _ => .raw _⟩
/-- a module's own text, int -/
theorem pd_gstr {z : Str} {t : Tok} (hm : X.mg x = some (.str z t)) (hg : Gl X x := by rfl) (hd : (x == ("__debug__" : Str)) = false := by decide) : PD X W (.Name x pos) (tC (.str z)) (wC (.str z)) := ⟨pe_glob hg hm ⟨t, rfl⟩ hd, le_c fun _ => .str _⟩
theorem pd_gint {z : Int} {t : Tok} (hm : X.mg x = some (.int z t)) (hg : Gl X x := by rfl) (hd : (x == ("__debug__" : Str)) = false := by decide) : PD X W (.Name x pos) (tC (.int z)) (wC (.int z)) := ⟨pe_glob hg hm ⟨t, rfl⟩ hd, le_c fun _ => .int _⟩
theorem pda_nil : PDA X W [] tNil wNil := ⟨pa_nil, fun σ δ H μ Q Qd F S q kQ _ => kQ [] [] H μ (.refl S.mr) .nil q⟩
theorem pda_cons (ha : PD X W e te we) (hr : PDA X W es tr wr) (hs : starEach (e :: es) X.env = (false, eval e X.env) :: starEach es X.env := by rfl) : PDA X W (e :: es) (tCons te tr) (wCons we wr) := by
  refine ⟨pa_cons ha.pe hr.pa hs, fun σ δ H μ Q Qd F S q kQ kF => ?_⟩
  refine ha.le σ δ H μ _ _ F S q (fun v d H1 μ1 m1 r1 q1 => ?_) kF
  refine hr.la σ δ H1 μ1 _ _ F (S.step m1) q1 (fun vs ds H2 μ2 m2 r2 q2 => ?_) (kF.step m1)
  exact kQ (v :: vs) (d :: ds) H2 μ2 (m1.trans m2) (.cons (r1.mono m2.sm) r2) q2
theorem PD.imp {w' : DW} (h : PD X W e te we) (k : ∀ δ μ Q F, w' δ μ Q F → we δ μ Q F) : PD X W e te w' := ⟨h.pe, fun σ δ H μ Q Qd F S q kQ kF => h.le σ δ H μ Q Qd F S (k _ _ _ _ q) kQ kF⟩

/-! ### operators -/
abbrev G1 := D → M → DK → Prop
abbrev G2 := D → D → M → DK → Prop
def OL (K : PySem.W.Frag) (r : R2) (g : G2) : Prop := ∀ (H : Hp) (μ : M) (x y : V) (dx dy : D) (Q : VK) (Qd : DK), MR K H μ → R K (hid H μ) x dx → R K (hid H μ) y dy → g dx dy μ Qd →
  (∀ v d H' μ', Mv K H μ H' μ' → R K (hid H' μ') v d → Qd d μ' → Q v H') → r x y H Q
def UL (K : PySem.W.Frag) (r : V → Hp → VK → Prop) (g : G1) : Prop := ∀ (H : Hp) (μ : M) (x : V) (dx : D) (Q : VK) (Qd : DK), MR K H μ → R K (hid H μ) x dx → g dx μ Qd →
  (∀ v d H' μ', Mv K H μ H' μ' → R K (hid H' μ') v d → Qd d μ' → Q v H') → r x H Q
def CL (K : PySem.W.Frag) (r : List V → Hp → VK → Prop) (g : List D → M → DK → Prop) : Prop := ∀ (H : Hp) (μ : M) (xs : List V) (ds : List D) (Q : VK) (Qd : DK), MR K H μ → RA K (hid H μ) xs ds → g ds μ Qd →
  (∀ v d H' μ', Mv K H μ H' μ' → R K (hid H' μ') v d → Qd d μ' → Q v H') → r xs H Q
def wBin (g : G2) (wa wb : DW) : DW := fun δ μ Q F => wa δ μ (fun x μ1 => wb δ μ1 (fun y μ2 => g x y μ2 Q) F) F
def wUn (g : G1) (wa : DW) : DW := fun δ μ Q F => wa δ μ (fun x μ1 => g x μ1 Q) F
def wCB (g : List D → M → DK → Prop) (wa : DA) : DW := fun δ μ Q F => wa δ μ (fun ds μ1 => g ds μ1 Q) F
theorem le_bin {K : PySem.W.Frag} {r : R2} {g : G2} (ha : LE K W ta wa) (hb : LE K W tb wb) (ho : OL K r g) : LE K W (tOp r ta tb) (wBin g wa wb) := fun σ δ H μ Q Qd F S q kQ kF => by
  refine ha σ δ H μ _ _ F S q (fun v d H1 μ1 m1 r1 q1 => ?_) kF
  refine hb σ δ H1 μ1 _ _ F (S.step m1) q1 (fun w e H2 μ2 m2 r2 q2 => ?_) (kF.step m1)
  exact ho H2 μ2 v w d e Q Qd m2.mr (r1.mono m2.sm) r2 q2 fun v3 d3 H3 μ3 m3 r3 q3 => kQ v3 d3 H3 μ3 (m1.trans (m2.trans m3)) r3 q3
theorem le_un {K : PySem.W.Frag} {r : V → Hp → VK → Prop} {g : G1} (ha : LE K W ta wa) (ho : UL K r g) : LE K W (tUn r ta) (wUn g wa) := fun σ δ H μ Q Qd F S q kQ kF => by
  refine ha σ δ H μ _ _ F S q (fun v d H1 μ1 m1 r1 q1 => ?_) kF
  exact ho H1 μ1 v d Q Qd m1.mr r1 q1 fun v3 d3 H3 μ3 m3 r3 q3 => kQ v3 d3 H3 μ3 (m1.trans m3) r3 q3
theorem le_cb {K : PySem.W.Frag} {r : List V → Hp → VK → Prop} {g : List D → M → DK → Prop} (ha : LA K W tr wr) (ho : CL K r g) : LE K W (tCB r tr) (wCB g wr) := fun σ δ H μ Q Qd F S q kQ kF => by
  refine ha σ δ H μ _ _ F S q (fun v d H1 μ1 m1 r1 q1 => ?_) kF
  exact ho H1 μ1 v d Q Qd m1.mr r1 q1 fun v3 d3 H3 μ3 m3 r3 q3 => kQ v3 d3 H3 μ3 (m1.trans m3) r3 q3
theorem pd_bin {op : Operator} {r : R2} {g : G2} (o : OpR X (binaryOp op) r ∧ OL X.K r g) (ha : PD X W a ta wa) (hb : PD X W b tb wb) : PD X W (.BinOp a op b pos) (tOp r ta tb) (wBin g wa wb) := ⟨pe_op o.1 ha.pe hb.pe, le_bin ha.le hb.le o.2⟩
theorem pd_un {op : UnaryOp} {r : V → Hp → VK → Prop} {g : G1} (o : UnR X (unaryOp op) r ∧ UL X.K r g) (ha : PD X W a ta wa) : PD X W (.UnaryOp op a pos) (tUn r ta) (wUn g wa) := ⟨pe_un o.1 ha.pe, le_un ha.le o.2⟩
theorem pd_cmp {op : CmpOp} {r : R2} {g : G2} (o : OpR X (compareOp op) r ∧ OL X.K r g) (ha : PD X W a ta wa) (hb : PD X W b tb wb) (hm : behindInMarks op b = false := by first | exact nomark _ | rfl) : PD X W (.Compare a [op] [b] pos) (tOp r ta tb) (wBin g wa wb) :=
  ⟨pe_cmpR o.1 ha.pe hb.pe hm, le_bin ha.le hb.le o.2⟩

/-! ### tests -/
def wTst (w : DW) : DT := fun δ μ Q F => w δ μ (fun d μ1 => ∃ k, d = .bl k ∧ Q k μ1) F
theorem lt_tst {K : PySem.W.Frag} (ha : LE K W ta wa) : LT K W (tTest ta) (wTst wa) := fun σ δ H μ Q Qd F S q kQ kF =>
  ha σ δ H μ _ _ F S q (fun v d H1 μ1 m1 r1 ⟨k, e, q1⟩ => by
    subst e
    exact ⟨k, r1.bl_inv, kQ k H1 μ1 m1 q1⟩) kF
theorem pdt_cmp {op : CmpOp} {r : R2} {g : G2} (o : OpR X (compareOp op) r ∧ OL X.K r g) (ha : PD X W a ta wa) (hb : PD X W b tb wb) (hm : behindInMarks op b = false := by first | exact nomark _ | rfl) : PDT X W (.Compare a [op] [b] pos) (tTest (tOp r ta tb)) (wTst (wBin g wa wb)) :=
  ⟨pt_cmpR o.1 ha.pe hb.pe hm, lt_tst (le_bin ha.le hb.le o.2)⟩
/-- an expression whose value is a bool -/
theorem pdt_val (ha : PD X W e te we) (he : ∀ whole, isTrue e X.env whole = (do let v ← whole; standAt e.pos; holding [v] (truthy v)) := by intro _; rfl) : PDT X W e (tB te) (wTst we) :=
  ⟨pt_val ha.pe he, lt_tst ha.le⟩
def wAnd (t u : DT) : DT := fun δ μ Q F => t δ μ (fun k μ1 => if k = true then u δ μ1 Q F else Q false μ1) F
def wOr (t u : DT) : DT := fun δ μ Q F => t δ μ (fun k μ1 => if k = true then Q true μ1 else u δ μ1 Q F) F
def wNot (t : DT) : DT := fun δ μ Q F => t δ μ (fun k μ1 => Q (!k) μ1) F
/-- a test whatever its 'whole' is -/
structure PDW (X : Cx) (W : WX) (e : Expr) (t : TT) (w : DT) : Prop where
  pw : PW X e t
  lt : LT X.K W t w
theorem PDW.pdt (h : PDW X W e tt wt) : PDT X W e tt wt := ⟨h.pw.pt, h.lt⟩
theorem pdw_and1 (ha : PDT X W a tt wt) : PDW X W (.BoolOp .And [a] pos) tt wt := ⟨pw_and1 ha.pt, ha.lt⟩
theorem pdw_or1 (ha : PDT X W a tt wt) : PDW X W (.BoolOp .Or [a] pos) tt wt := ⟨pw_or1 ha.pt, ha.lt⟩
theorem pdw_and (ha : PDT X W a tt wt) (hb : PDW X W (.BoolOp .And (b :: es) pos) tu wu) : PDW X W (.BoolOp .And (a :: b :: es) pos) (tAnd tt tu) (wAnd wt wu) := by
  refine ⟨pw_and ha.pt hb.pw, fun σ δ H μ Q Qd F S q kQ kF => ?_⟩
  refine ha.lt σ δ H μ _ _ F S q (fun k H1 μ1 m1 q1 => ?_) kF
  cases k with
  | true => exact hb.lt σ δ H1 μ1 _ _ F (S.step m1) q1 (fun k2 H2 μ2 m2 q2 => kQ k2 H2 μ2 (m1.trans m2) q2) (kF.step m1)
  | false => exact kQ false H1 μ1 m1 q1
theorem pdw_or (ha : PDT X W a tt wt) (hb : PDW X W (.BoolOp .Or (b :: es) pos) tu wu) : PDW X W (.BoolOp .Or (a :: b :: es) pos) (tOr tt tu) (wOr wt wu) := by
  refine ⟨pw_or ha.pt hb.pw, fun σ δ H μ Q Qd F S q kQ kF => ?_⟩
  refine ha.lt σ δ H μ _ _ F S q (fun k H1 μ1 m1 q1 => ?_) kF
  cases k with
  | false => exact hb.lt σ δ H1 μ1 _ _ F (S.step m1) q1 (fun k2 H2 μ2 m2 q2 => kQ k2 H2 μ2 (m1.trans m2) q2) (kF.step m1)
  | true => exact kQ true H1 μ1 m1 q1
theorem pdt_not (ha : PDT X W a tt wt) : PDT X W (.UnaryOp .Not a pos) (tNot tt) (wNot wt) :=
  ⟨pt_not ha.pt, fun σ δ H μ Q Qd F S q kQ kF => ha.lt σ δ H μ _ _ F S q (fun k H1 μ1 m1 q1 => kQ (!k) H1 μ1 m1 q1) kF⟩
/-! and, or, not of bools, as values -/
def wAndV (wa wb : DW) : DW := fun δ μ Q F => wa δ μ (fun d μ1 => ∃ k, d = .bl k ∧ if k = true then wb δ μ1 Q F else Q (.bl false) μ1) F
def wOrV (wa wb : DW) : DW := fun δ μ Q F => wa δ μ (fun d μ1 => ∃ k, d = .bl k ∧ if k = true then Q (.bl true) μ1 else wb δ μ1 Q F) F
def wNotV (wa : DW) : DW := fun δ μ Q F => wa δ μ (fun d μ1 => ∃ k, d = .bl k ∧ Q (.bl (!k)) μ1) F
theorem pd_one {op} (ha : PD X W a ta wa) : PD X W (.BoolOp op [a] pos) ta wa := ⟨pe_one ha.pe, ha.le⟩
theorem pd_and (ha : PD X W a ta wa) (hb : PD X W (.BoolOp .And (b :: es) pos) tb wb) : PD X W (.BoolOp .And (a :: b :: es) pos) (tAndV ta tb) (wAndV wa wb) := by
  refine ⟨pe_and ha.pe hb.pe, fun σ δ H μ Q Qd F S q kQ kF => ?_⟩
  refine ha.le σ δ H μ _ _ F S q (fun v d H1 μ1 m1 r1 q1 => ?_) kF
  obtain ⟨k, rfl, q1⟩ := q1
  refine ⟨k, r1.bl_inv, ?_⟩
  cases k with
  | true => exact hb.le σ δ H1 μ1 _ _ F (S.step m1) q1 (fun v2 d2 H2 μ2 m2 r2 q2 => kQ v2 d2 H2 μ2 (m1.trans m2) r2 q2) (kF.step m1)
  | false => exact kQ _ _ H1 μ1 m1 (.bl false) q1
theorem pd_or (ha : PD X W a ta wa) (hb : PD X W (.BoolOp .Or (b :: es) pos) tb wb) : PD X W (.BoolOp .Or (a :: b :: es) pos) (tOrV ta tb) (wOrV wa wb) := by
  refine ⟨pe_or ha.pe hb.pe, fun σ δ H μ Q Qd F S q kQ kF => ?_⟩
  refine ha.le σ δ H μ _ _ F S q (fun v d H1 μ1 m1 r1 q1 => ?_) kF
  obtain ⟨k, rfl, q1⟩ := q1
  refine ⟨k, r1.bl_inv, ?_⟩
  cases k with
  | false => exact hb.le σ δ H1 μ1 _ _ F (S.step m1) q1 (fun v2 d2 H2 μ2 m2 r2 q2 => kQ v2 d2 H2 μ2 (m1.trans m2) r2 q2) (kF.step m1)
  | true => exact kQ _ _ H1 μ1 m1 (.bl true) q1
theorem pd_not (ha : PD X W a ta wa) : PD X W (.UnaryOp .Not a pos) (tNotV ta) (wNotV wa) := by
  refine ⟨pe_not ha.pe, fun σ δ H μ Q Qd F S q kQ kF => ?_⟩
  refine ha.le σ δ H μ _ _ F S q (fun v d H1 μ1 m1 r1 q1 => ?_) kF
  obtain ⟨k, rfl, q1⟩ := q1
  exact ⟨k, r1.bl_inv, kQ _ _ H1 μ1 m1 (.bl _) q1⟩
/-- a if t else b -/
def wIf (t : DT) (wa wb : DW) : DW := fun δ μ Q F => t δ μ (fun k μ1 => if k = true then wa δ μ1 Q F else wb δ μ1 Q F) F
theorem pd_if (hc : PDT X W c tt wt) (ha : PD X W a ta wa) (hb : PD X W b tb wb) : PD X W (.IfExp c a b pos) (tIf tt ta tb) (wIf wt wa wb) := by
  refine ⟨pe_ifExp hc.pt ha.pe hb.pe, fun σ δ H μ Q Qd F S q kQ kF => ?_⟩
  refine hc.lt σ δ H μ _ _ F S q (fun k H1 μ1 m1 q1 => ?_) kF
  cases k with
  | true => exact ha.le σ δ H1 μ1 _ _ F (S.step m1) q1 (fun v2 d2 H2 μ2 m2 r2 q2 => kQ v2 d2 H2 μ2 (m1.trans m2) r2 q2) (kF.step m1)
  | false => exact hb.le σ δ H1 μ1 _ _ F (S.step m1) q1 (fun v2 d2 H2 μ2 m2 r2 q2 => kQ v2 d2 H2 μ2 (m1.trans m2) r2 q2) (kF.step m1)

/-! ### displays -/
def wTup (wa : DA) : DW := fun δ μ Q F => wa δ μ (fun ds μ1 => ds.length ≤ 1000000 ∧ Q (.tup ds) μ1) F
def wLst (wa : DA) : DW := fun δ μ Q F => wa δ μ (fun ds μ1 => ds.length ≤ 1000000 ∧ Q (.lst ds) μ1) F
/-- a list that will change: behind a handle -/
def wLstM (wa : DA) : DW := fun δ μ Q F => wa δ μ (fun ds μ1 => ds.length ≤ 1000000 ∧ ∀ p, μ1 p = none → Q (.obj p) (mput μ1 p (.lst ds))) F
theorem sz_ok {n : Nat} (h : n ≤ 1000000) : n ≤ sizeLine := Nat.le_trans h (by decide)
theorem hid_new {H : Hp} {μ : M} {p : Addr} {o : HO} (e : μ p = none) (n : notTbl o = true := by rfl) : hid (upd H p o) μ p = some o := hid_some.mpr ⟨⟨e, n⟩, upd_same⟩
theorem pd_tup {x1} (h : PDA X W es tr wr) : PD X W (.Tuple es x1 pos) (tTup tr) (wTup wr) := by
  refine ⟨pe_tup h.pa, fun σ δ H μ Q Qd F S q kQ kF => ?_⟩
  refine h.la σ δ H μ _ _ F S q (fun vs ds H1 μ1 m1 r1 ⟨z, q1⟩ => ⟨sz_ok (by rw [r1.length]; exact z), fun p hp => ?_⟩) kF
  have m2 := Mv.new (o := .tup vs) m1.mr hp
  exact kQ _ _ _ _ (m1.trans m2) (.tup (SqT.of (hid_new (m1.mr.fresh hp))) (r1.mono m2.sm)) q1
theorem pd_lst (h : PDA X W es tr wr) : PD X W (.List es pos) (tLst tr) (wLst wr) := by
  refine ⟨pe_lst h.pa, fun σ δ H μ Q Qd F S q kQ kF => ?_⟩
  refine h.la σ δ H μ _ _ F S q (fun vs ds H1 μ1 m1 r1 ⟨z, q1⟩ => ⟨sz_ok (by rw [r1.length]; exact z), fun p hp => ?_⟩) kF
  have m2 := Mv.new (o := .lst vs) m1.mr hp
  exact kQ _ _ _ _ (m1.trans m2) (.lst (hid_new (m1.mr.fresh hp)) (r1.mono m2.sm)) q1
theorem Mv.newL {K : PySem.W.Frag} {H : Hp} {μ : M} {p : Addr} {vs : List V} {ds : List D} (h : MR K H μ) (e : H p = none) (r : RA K (hid H μ) vs ds) : Mv K H μ (upd H p (.lst vs)) (mput μ p (.lst ds)) :=
  Mv.put h (.inl e) fun sm eq => ⟨vs, upd_same, by rw [eq]; exact r.mono sm⟩
theorem pd_lstM (h : PDA X W es tr wr) : PD X W (.List es pos) (tLst tr) (wLstM wr) := by
  refine ⟨pe_lst h.pa, fun σ δ H μ Q Qd F S q kQ kF => ?_⟩
  refine h.la σ δ H μ _ _ F S q (fun vs ds H1 μ1 m1 r1 ⟨z, q1⟩ => ⟨sz_ok (by rw [r1.length]; exact z), fun p hp => ?_⟩) kF
  exact kQ _ _ _ _ (m1.trans (Mv.newL m1.mr hp r1)) (.obj p) (q1 p (m1.mr.fresh hp))
end

/-! ### what the operators do -/
def gI (C : Int → Int → Prop) (g : Int → Int → D) : G2 := fun x y μ Q => ∃ i j, x = .int i ∧ y = .int j ∧ C i j ∧ Q (g i j) μ
def gU (g : Int → D) : G1 := fun x μ Q => ∃ i, x = .int i ∧ Q (g i) μ
theorem ol_int {K : PySem.W.Frag} {C C' : Int → Int → Prop} {g : Int → Int → Int} (h : ∀ i j, C' i j → C i j) : OL K (rI C fun i j => .int (g i j)) (gI C' fun i j => .int (g i j)) := fun H μ x y dx dy Q Qd m rx ry ⟨i, j, e1, e2, c, q⟩ k => by
  subst e1 e2
  exact ⟨i, j, rx.int_inv, ry.int_inv, h i j c, k _ _ H μ (.refl m) (.int _) q⟩
theorem ol_int0 {K : PySem.W.Frag} {g : Int → Int → Int} : OL K (rI0 fun i j => .int (g i j)) (gI (fun _ _ => True) fun i j => .int (g i j)) := fun H μ x y dx dy Q Qd m rx ry ⟨i, j, e1, e2, c, q⟩ k => by
  subst e1 e2
  exact ⟨i, j, rx.int_inv, ry.int_inv, k _ _ H μ (.refl m) (.int _) q⟩
theorem ol_bl0 {K : PySem.W.Frag} {g : Int → Int → Bool} : OL K (rI0 fun i j => .bl (g i j)) (gI (fun _ _ => True) fun i j => .bl (g i j)) := fun H μ x y dx dy Q Qd m rx ry ⟨i, j, e1, e2, c, q⟩ k => by
  subst e1 e2
  exact ⟨i, j, rx.int_inv, ry.int_inv, k _ _ H μ (.refl m) (.bl _) q⟩
/-- // by any divisor below 2 ^ 9000 -/
def CDivG (_ j : Int) : Prop := j ≠ 0 ∧ j.natAbs.log2 < 9000
section
variable {X : Cx}
theorem op_fdivG : OpR X (binaryOp .FloorDiv) (rI CDivG fun i j => .int (i.fdiv j)) := opI fun i j _ _ _ _ _ hc q => floordiv_int hc.1 q (.inl (PyProof.noPylong_of_log2 hc.2))
/-- + of ints, texts, lists, tuples -/
def gAdd : G2 := fun x y μ Q => (∃ i j, x = .int i ∧ y = .int j ∧ Q (.int (i + j)) μ) ∨ (∃ i j, x = .str i ∧ y = .str j ∧ i.length + j.length ≤ 1000000 ∧ Q (.str (i ++ j)) μ) ∨
  (∃ i j, lstOf μ x = some i ∧ lstOf μ y = some j ∧ i.length + j.length ≤ 1000000 ∧ Q (.lst (i ++ j)) μ) ∨ ∃ i j, x = .tup i ∧ y = .tup j ∧ i.length + j.length ≤ 1000000 ∧ Q (.tup (i ++ j)) μ
def rAddA (K : PySem.W.Frag) : R2 := fun x y H Q => (rI0 (fun i j => .int (i + j)) x y H Q ∨ (∃ i j, x = .str i ∧ y = .str j ∧ i.length + j.length ≤ sizeLine ∧ Q (.str (i ++ j)) H)) ∨ (rCat x y H Q ∨ rCatA K x y H Q)
theorem o_add : OpR X (binaryOp .Add) (rAddA X.K) ∧ OL X.K (rAddA X.K) gAdd := by
  refine ⟨OpR.or (OpR.or op_add op_add_str) (OpR.or op_cat op_catA), fun H μ x y dx dy Q Qd m rx ry h k => ?_⟩
  rcases h with ⟨i, j, rfl, rfl, q⟩ | ⟨i, j, rfl, rfl, z, q⟩ | ⟨i, j, e1, e2, z, q⟩ | ⟨i, j, rfl, rfl, z, q⟩
  · exact .inl (.inl ⟨i, j, rx.int_inv, ry.int_inv, k _ _ H μ (.refl m) (.int _) q⟩)
  · exact .inl (.inr ⟨i, j, rx.str_inv, ry.str_inv, sz_ok z, k _ _ H μ (.refl m) (.str _) q⟩)
  · obtain ⟨a, xs, rfl, h1, ra⟩ := lst_of m rx e1
    obtain ⟨b, ys, rfl, h2, rb⟩ := lst_of m ry e2
    refine .inr (.inl ⟨a, b, xs, ys, rfl, rfl, h1, h2, sz_ok (by rw [ra.length, rb.length]; exact z), fun p hp => ?_⟩)
    have m2 := Mv.new (o := .lst (xs ++ ys)) m hp
    exact k _ _ _ _ m2 (.lst (hid_new (m.fresh hp)) ((ra.append rb).mono m2.sm)) q
  · cases rx with
    | @tup a xs _ h1 ra =>
      cases ry with
      | @tup b ys _ h2 rb =>
        have t1 := same_t hid_sub h1
        have t2 := same_t hid_sub h2
        refine .inr (.inr ⟨a, b, xs, ys, rfl, rfl, t1, t2, sz_ok (by rw [ra.length, rb.length]; exact z), fun e => ?_, fun _ e => ?_, fun _ _ p hp => ?_⟩)
        · subst e
          cases ra
          exact k _ _ H μ (.refl m) (.tup h2 rb) q
        · subst e
          cases rb
          rw [List.append_nil] at q
          exact k _ _ H μ (.refl m) (.tup h1 ra) q
        · have m2 := Mv.new (o := .tup (xs ++ ys)) m hp
          exact k _ _ _ _ m2 (.tup (SqT.of (hid_new (m.fresh hp))) ((ra.append rb).mono m2.sm)) q
theorem o_sub : OpR X (binaryOp .Sub) (rI0 fun i j => .int (i - j)) ∧ OL X.K (rI0 fun i j => .int (i - j)) (gI (fun _ _ => True) fun i j => .int (i - j)) := ⟨op_sub, ol_int0⟩
theorem o_mul : OpR X (binaryOp .Mult) (rI CMulW fun i j => .int (i * j)) ∧ OL X.K (rI CMulW fun i j => .int (i * j)) (gI CMulW fun i j => .int (i * j)) := ⟨op_mulW, ol_int fun _ _ h => h⟩
theorem o_mod : OpR X (binaryOp .Mod) (rI (fun _ j => j ≠ 0) fun i j => .int (i.fmod j)) ∧ OL X.K (rI (fun _ j => j ≠ 0) fun i j => .int (i.fmod j)) (gI (fun _ j => j ≠ 0) fun i j => .int (i.fmod j)) := ⟨op_modN, ol_int fun _ _ h => h⟩
theorem o_div : OpR X (binaryOp .FloorDiv) (rI CDivG fun i j => .int (i.fdiv j)) ∧ OL X.K (rI CDivG fun i j => .int (i.fdiv j)) (gI CDivG fun i j => .int (i.fdiv j)) := ⟨op_fdivG, ol_int fun _ _ h => h⟩
theorem o_pow : OpR X (binaryOp .Pow) (rI CPow fun i j => .int (i ^ j.toNat)) ∧ OL X.K (rI CPow fun i j => .int (i ^ j.toNat)) (gI CPow fun i j => .int (i ^ j.toNat)) := ⟨op_pow, ol_int fun _ _ h => h⟩
theorem o_lt : OpR X (compareOp .Lt) (rI0 fun i j => .bl (decide (i < j))) ∧ OL X.K (rI0 fun i j => .bl (decide (i < j))) (gI (fun _ _ => True) fun i j => .bl (decide (i < j))) := ⟨op_lt, ol_bl0⟩
theorem o_le : OpR X (compareOp .LtE) (rI0 fun i j => .bl (decide (i ≤ j))) ∧ OL X.K (rI0 fun i j => .bl (decide (i ≤ j))) (gI (fun _ _ => True) fun i j => .bl (decide (i ≤ j))) := ⟨op_le, ol_bl0⟩
theorem o_gt : OpR X (compareOp .Gt) (rI0 fun i j => .bl (decide (j < i))) ∧ OL X.K (rI0 fun i j => .bl (decide (j < i))) (gI (fun _ _ => True) fun i j => .bl (decide (j < i))) := ⟨op_gt, ol_bl0⟩
theorem o_ge : OpR X (compareOp .GtE) (rI0 fun i j => .bl (decide (j ≤ i))) ∧ OL X.K (rI0 fun i j => .bl (decide (j ≤ i))) (gI (fun _ _ => True) fun i j => .bl (decide (j ≤ i))) := ⟨op_ge, ol_bl0⟩
theorem o_neg : UnR X (unaryOp .USub) (rU fun i => .int (-i)) ∧ UL X.K (rU fun i => .int (-i)) (gU fun i => .int (-i)) := ⟨un_neg, fun H μ x dx Q Qd m rx ⟨i, e, q⟩ k => by
  subst e
  exact ⟨i, rx.int_inv, k _ _ H μ (.refl m) (.int _) q⟩⟩
/-- ==, != of data -/
def gEq (neg : Bool) : G2 := fun x y μ Q => ∃ p q, pyOf μ x = some p ∧ pyOf μ y = some q ∧ SeqAt.shaped p = true ∧ SeqAt.shaped q = true ∧ Q (.bl (if neg = true then !PyData.eqv p q else PyData.eqv p q)) μ
theorem o_eq (hu : X.A.units + 64 < cLine) : OpR X (compareOp .Eq) (rEqD X.K) ∧ OL X.K (rEqD X.K) (gEq false) := by
  refine ⟨op_eqD hu, fun H μ x y dx dy Q Qd m rx ry ⟨p, q, e1, e2, s1, s2, h⟩ k => ?_⟩
  exact ⟨p, q, Dp.of_Dq (Dq.of_pyOf m rx e1) (SeqAt.canLay_of_shaped s1), Dp.of_Dq (Dq.of_pyOf m ry e2) (SeqAt.canLay_of_shaped s2), s1, s2, k _ _ H μ (.refl m) (.bl _) h⟩
theorem o_ne (hu : X.A.units + 64 < cLine) : OpR X (compareOp .NotEq) (rNeD X.K) ∧ OL X.K (rNeD X.K) (gEq true) := by
  refine ⟨op_neD hu, fun H μ x y dx dy Q Qd m rx ry ⟨p, q, e1, e2, s1, s2, h⟩ k => ?_⟩
  exact ⟨p, q, Dp.of_Dq (Dq.of_pyOf m rx e1) (SeqAt.canLay_of_shaped s1), Dp.of_Dq (Dq.of_pyOf m ry e2) (SeqAt.canLay_of_shaped s2), s1, s2, k _ _ H μ (.refl m) (.bl _) h⟩
/-- is None, is not None -/
def isNonD : D → Bool
  | .non => true
  | _ => false
def gIsN (neg : Bool) : G2 := fun x y μ Q => y = .non ∧ (∀ v, x ≠ .raw v) ∧ Q (.bl (if neg = true then !isNonD x else isNonD x)) μ
theorem isNon_R {K : PySem.W.Frag} {G : Hp} {v : V} {d : D} (r : R K G v d) (h : ∀ v, d ≠ .raw v) : decide (v = .non) = isNonD d := by
  cases r with
  | raw v => exact absurd rfl (h v)
  | non => rfl
  | _ => rfl
theorem o_is : OpR X (compareOp .Is) (fun x y H Q => y = .non ∧ Q (.bl (decide (x = .non))) H) ∧ OL X.K (fun x y H Q => y = .non ∧ Q (.bl (decide (x = .non))) H) (gIsN false) :=
  ⟨op_isN, fun H μ x y dx dy Q Qd m rx ry ⟨e, n, q⟩ k => by
    subst e
    exact ⟨ry.non_inv, k _ _ H μ (.refl m) (by rw [isNon_R rx n]; exact .bl _) q⟩⟩
theorem o_isnot : OpR X (compareOp .IsNot) (fun x y H Q => y = .non ∧ Q (.bl (!decide (x = .non))) H) ∧ OL X.K (fun x y H Q => y = .non ∧ Q (.bl (!decide (x = .non))) H) (gIsN true) :=
  ⟨op_notN, fun H μ x y dx dy Q Qd m rx ry ⟨e, n, q⟩ k => by
    subst e
    exact ⟨ry.non_inv, k _ _ H μ (.refl m) (by rw [isNon_R rx n]; exact .bl _) q⟩⟩
/-- is True, is False of bools -/
def gIsB : G2 := fun x y μ Q => ∃ a b, x = .bl a ∧ y = .bl b ∧ Q (.bl (decide (a = b))) μ
theorem o_isB : OpR X (compareOp .Is) rIsB ∧ OL X.K rIsB gIsB := ⟨op_isBl, fun H μ x y dx dy Q Qd m rx ry ⟨a, b, e1, e2, q⟩ k => by
  subst e1 e2
  exact ⟨a, b, rx.bl_inv, ry.bl_inv, k _ _ H μ (.refl m) (.bl _) q⟩⟩
end
end DL

set_option maxHeartbeats 2000000
namespace DL
open PySem PySem.Spec PyProof.Rows L2

/-! ### subscripts, slices -/
theorem at_of {K : PySem.W.Frag} {G : Hp} {vs : List V} {ds : List D} {i : Int} {d : D} (r : RA K G vs ds) (h : atI ds i = some d) : ∃ v, atI vs i = some v ∧ R K G v d := by
  unfold atI at h ⊢
  rw [r.length]
  cases e : ixN ds.length i with
  | none => rw [e] at h; cases h
  | some j =>
    rw [e] at h
    exact r.get h
def gIx : G2 := fun x y μ Q => (∃ ds i d, seqOf μ x = some ds ∧ y = .int i ∧ atI ds i = some d ∧ Q d μ) ∨ ∃ z i c, x = .str z ∧ y = .int i ∧ z.length ≤ 1000000 ∧ atI z.cps.toList i = some c ∧ Q (.str ⟨#[c]⟩) μ
/-- d[k], a dict behind a handle, or a written one -/
def dctOf (μ : M) : D → Option (List (Key × D))
  | .dct ks => some ks
  | .obj a => match μ a with
    | some (.dct ks) => some ks
    | _ => none
  | _ => none
def keyOf : D → Option Key
  | .int i => some (.inl i)
  | .str x => some (.inr x)
  | _ => none
def valD (ks : List (Key × D)) (k : Key) : Option D := (ks.find? fun p => decide (p.1 = k)).map (·.2)
def gDGet : G2 := fun x y μ Q => ∃ ks k d, dctOf μ x = some ks ∧ keyOf y = some k ∧ valD ks k = some d ∧ Q d μ
section
variable {K : PySem.W.Frag} {H : Hp} {μ : M}
theorem dct_of {v : V} {d : D} {ks : List (Key × D)} (m : MR K H μ) (r : R K (hid H μ) v d) (h : dctOf μ d = some ks) : ∃ a kvs, v = .ref a ∧ H a = some (.dK kvs) ∧ RK K (hid H μ) kvs ks := by
  cases r with
  | @dct a kvs ks' e ra =>
    cases h
    exact ⟨a, kvs, rfl, (hid_some.mp e).2, ra⟩
  | obj a =>
    unfold dctOf at h
    cases q : μ a with
    | none => simp only [q] at h; cases h
    | some mo =>
      cases mo with
      | dct xs =>
        simp only [q] at h
        cases h
        obtain ⟨vs, e, ra⟩ := m a _ q
        exact ⟨a, vs, rfl, e, ra⟩
      | _ => simp only [q] at h; cases h
  | _ => cases h
theorem key_of {v : V} {d : D} {k : Key} {G : Hp} (r : R K G v d) (h : keyOf d = some k) : v = kV k := by
  cases r with
  | int i => cases h; rfl
  | str x => cases h; rfl
  | _ => cases h
end
section
variable {X : Cx} {W : WX} {x : Str} {pos p2 : Pos} {a b c e : Expr} {es : List Expr} {ta tb tc te : TE} {wa wb wc we : DW} {tr : TA} {wr : DA}
theorem ol_ix : OL X.K (rIx X.K) gIx := fun H μ x y dx dy Q Qd m rx ry h k => by
  rcases h with ⟨ds, i, d, e1, e2, e3, q⟩ | ⟨z, i, c, e1, e2, hz, e3, q⟩
  · subst e2
    obtain ⟨p, vs, ev, hs, ra⟩ := seq_of m rx e1
    obtain ⟨v, h1, h2⟩ := at_of ra e3
    rcases hs with hs | hs
    · exact .inl ⟨p, vs, i, v, ev, ry.int_inv, hs, h1, k _ _ H μ (.refl m) h2 q⟩
    · exact .inr (.inl ⟨p, vs, i, v, ev, ry.int_inv, hs, h1, k _ _ H μ (.refl m) h2 q⟩)
  · subst e1 e2
    exact .inr (.inr ⟨z, i, c, rx.str_inv, ry.int_inv, sz_ok hz, e3, k _ _ H μ (.refl m) (.str _) q⟩)
theorem pd_ix (ha : PD X W a ta wa) (hb : PD X W b tb wb) (hs : PlainIx b := by exact fun _ _ => rfl) : PD X W (.Subscript a b pos) (tOp (rIx X.K) ta tb) (wBin gIx wa wb) := ⟨pe_ix ix_seq ha.pe hb.pe hs, le_bin ha.le hb.le ol_ix⟩
theorem pd_dget (hu : X.A.units + 1 < cLine) (ha : PD X W a ta wa) (hb : PD X W b tb wb) (hs : NoSl b := by exact fun _ _ => rfl) : PD X W (.Subscript a b pos) (tDGet ta tb) (wBin gDGet wa wb) := by
  refine ⟨pe_dget hu ha.pe hb.pe hs, fun σ δ H μ Q Qd F S q kQ kF => ?_⟩
  refine ha.le σ δ H μ _ _ F S q (fun v d H1 μ1 m1 r1 q1 => ?_) kF
  refine hb.le σ δ H1 μ1 _ _ F (S.step m1) q1 (fun w e H2 μ2 m2 r2 q2 => ?_) (kF.step m1)
  obtain ⟨ks, k, dd, e1, e2, e3, q3⟩ := q2
  obtain ⟨p, kvs, ev, hp, rk⟩ := dct_of m2.mr (r1.mono m2.sm) e1
  obtain ⟨vv, h1, h2⟩ := rk.val e3
  refine ⟨p, vv, ev, ?_, kQ _ _ H2 μ2 (m1.trans m2) h2 q3⟩
  rw [key_of r2 e2, ← h1]
  exact DGet.k hp
/-- a slice's parts -/
structure PDO (X : Cx) (W : WX) (e : Option Expr) (t : TO) (w : DSt → M → (Option Int → M → Prop) → FK → Prop) : Prop where
  po : PO X e t
  lo : ∀ (σ : St) (δ : DSt) (H : Hp) (μ : M) (Q : Option Int → Hp → Prop) (Qd : Option Int → M → Prop) (F : FK), SD X.K σ δ H μ → w δ μ Qd F → (∀ o H' μ', Mv X.K H μ H' μ' → Qd o μ' → Q o H') → Ex1 X.K W σ H μ F → t σ H Q
def wNoPart : DSt → M → (Option Int → M → Prop) → FK → Prop := fun _ μ Q _ => Q none μ
def wPart (wa : DW) : DSt → M → (Option Int → M → Prop) → FK → Prop := fun δ μ Q F => wa δ μ (fun d μ1 => ∃ i, d = .int i ∧ Q (some i) μ1) F
theorem pdo_none : PDO X W none tNoPart wNoPart := ⟨po_none, fun σ δ H μ Q Qd F S q kQ kF => kQ none H μ (.refl S.mr) q⟩
theorem pdo_some (ha : PD X W e te we) : PDO X W (some e) (tPart te) (wPart we) := ⟨po_some ha.pe, fun σ δ H μ Q Qd F S q kQ kF => ha.le σ δ H μ _ _ F S q (fun v d H1 μ1 m1 r1 ⟨i, e, q1⟩ => by
  subst e
  exact ⟨i, r1.int_inv, kQ _ H1 μ1 m1 q1⟩) kF⟩
theorem lro_of {K : PySem.W.Frag} {H : Hp} {μ : M} {v : V} {x : D} {ds : List D} (m : MR K H μ) (rx : R K (hid H μ) v x) (e : lstOf μ x = some ds ∨ x = .ro ds) : ∃ a vs, v = .ref a ∧ SqL K H a vs ∧ RA K (hid H μ) vs ds := by
  rcases e with e | e
  · obtain ⟨a, vs, ev, e1, ra⟩ := lst_of m rx e
    exact ⟨a, vs, ev, SqL.of e1, ra⟩
  · subst e
    cases rx with
    | ro e1 ra => exact ⟨_, _, rfl, hid_sub.seq e1, ra⟩
def cutD {α : Type} (xs : List α) (lo hi : Option Int) : List α := (xs.drop (HT.sIx xs.length 0 lo)).take (HT.sIx xs.length xs.length hi - HT.sIx xs.length 0 lo)
theorem cut_of {K : PySem.W.Frag} {G : Hp} {vs : List V} {ds : List D} (lo hi : Option Int) (r : RA K G vs ds) : RA K G (cutV vs lo hi) (cutD ds lo hi) := by
  unfold cutV cutD
  rw [r.length]
  exact (r.drop _).take _
def gSl (x : D) (lo hi : Option Int) (μ : M) (Q : DK) : Prop := (∃ ds, (lstOf μ x = some ds ∨ x = .ro ds) ∧ Q (.lst (cutD ds lo hi)) μ) ∨ (∃ ds, x = .tup ds ∧ Q (.tup (cutD ds lo hi)) μ) ∨ ∃ z, x = .str z ∧ z.length ≤ 1000000 ∧ Q (.str (Txt.slice z lo hi)) μ
def wSl (wa : DW) (wl wh : DSt → M → (Option Int → M → Prop) → FK → Prop) : DW := fun δ μ Q F => wa δ μ (fun x μ1 => wl δ μ1 (fun lo μ2 => wh δ μ2 (fun hi μ3 => gSl x lo hi μ3 Q) F) F) F
theorem cut_all {α : Type} {xs : List α} {lo hi : Option Int} (h : HT.sIx xs.length 0 lo = 0 ∧ HT.sIx xs.length xs.length hi = xs.length) : cutD xs lo hi = xs := by
  unfold cutD
  rw [h.1, h.2]
  simp
def rSlAny (K : PySem.W.Frag) : V → Option Int → Option Int → Hp → VK → Prop := fun x lo hi H Q => rSlL K x lo hi H Q ∨ (rSlA K x lo hi H Q ∨ C8.rSlX x lo hi H Q)
theorem sl_any : SlR X (rSlAny X.K) := SlR.or sl_list (SlR.or sl_tupA C8.sl_txt)
theorem sl_of {K : PySem.W.Frag} {H : Hp} {μ : M} {v : V} {x : D} {lo hi : Option Int} {Q : VK} {Qd : DK} (m : MR K H μ) (rx : R K (hid H μ) v x) (h : gSl x lo hi μ Qd) (k : ∀ v d H' μ', Mv K H μ H' μ' → R K (hid H' μ') v d → Qd d μ' → Q v H') : rSlAny K v lo hi H Q := by
  rcases h with ⟨ds, e, q⟩ | ⟨ds, e, q⟩ | ⟨z, e, hz, q⟩
  · obtain ⟨a, vs, ev, e1, ra⟩ := lro_of m rx e
    refine .inl ⟨a, vs, ev, e1, fun p hp => ?_⟩
    have m2 := Mv.new (o := .lst (cutV vs lo hi)) m hp
    exact k _ _ _ _ m2 (.lst (hid_new (m.fresh hp)) ((cut_of lo hi ra).mono m2.sm)) q
  · subst e
    cases rx with
    | @tup a vs _ e1 ra =>
      refine .inr (.inl ⟨a, vs, rfl, same_t hid_sub e1, fun hw => ?_, fun _ p hp => ?_⟩)
      · rw [ra.length] at hw
        rw [cut_all hw] at q
        exact k _ _ H μ (.refl m) (.tup e1 ra) q
      · have m2 := Mv.new (o := .tup (cutV vs lo hi)) m hp
        exact k _ _ _ _ m2 (.tup (SqT.of (hid_new (m.fresh hp))) ((cut_of lo hi ra).mono m2.sm)) q
  · subst e
    exact .inr (.inr ⟨z, rx.str_inv, sz_ok hz, k _ _ H μ (.refl m) (.str _) q⟩)
theorem pd_slice {lo hi : Option Expr} {tl th : TO} {wl wh : DSt → M → (Option Int → M → Prop) → FK → Prop} (he : PD X W e te we) (hl : PDO X W lo tl wl) (hh : PDO X W hi th wh) : PD X W (.Subscript e (.Slice lo hi none p2) pos) (tSl (rSlAny X.K) te tl th) (wSl we wl wh) := by
  refine ⟨pe_slice sl_any he.pe hl.po hh.po, fun σ δ H μ Q Qd F S q kQ kF => ?_⟩
  refine he.le σ δ H μ _ _ F S q (fun v d H1 μ1 m1 r1 q1 => ?_) kF
  refine hl.lo σ δ H1 μ1 _ _ F (S.step m1) q1 (fun o1 H2 μ2 m2 q2 => ?_) (kF.step m1)
  refine hh.lo σ δ H2 μ2 _ _ F (S.step (m1.trans m2)) q2 (fun o2 H3 μ3 m3 q3 => ?_) (kF.step (m1.trans m2))
  exact sl_of m3.mr (r1.mono (m2.trans m3).sm) q3 fun v d H' μ' m' r q' => kQ v d H' μ' ((m1.trans (m2.trans m3)).trans m') r q'

/-! ### built-in functions -/
theorem pd_callB {id : String} {r : List V → Hp → VK → Prop} {g : List D → M → DK → Prop} (o : CallR X (.builtin id) r ∧ CL X.K r g) (hm : X.mg x = none) (hv : bootBuiltins x = some (.builtin id)) (ha : PDA X W (e :: es) tr wr) (hg : Gl X x := by rfl) (hn : x ≠ "__name__" := by decide)
    (hdb : (x == ("__debug__" : Str)) = false := by decide) (he : starEach (e :: es) X.env = (false, eval e X.env) :: starEach es X.env := by rfl) (hpl : (backTo pos (starEach es X.env)).any (·.1) = false := by rfl) {p : Pos} :
    PD X W (.Call (.Name x p) (e :: es) [] pos) (tCB r tr) (wCB g wr) := ⟨pe_callB o.1 hg hm hv ha.pa hn hdb he hpl, le_cb ha.la o.2⟩
theorem pd_callT {T : String} {r : List V → Hp → VK → Prop} {g : List D → M → DK → Prop} (o : CallR X (.type T) r ∧ CL X.K r g) (hm : X.mg x = none) (hv : bootBuiltins x = some (.type T)) (ha : PDA X W (e :: es) tr wr) (hg : Gl X x := by rfl) (hn : x ≠ "__name__" := by decide)
    (hdb : (x == ("__debug__" : Str)) = false := by decide) (he : starEach (e :: es) X.env = (false, eval e X.env) :: starEach es X.env := by rfl) (hpl : (backTo pos (starEach es X.env)).any (·.1) = false := by rfl) {p : Pos} :
    PD X W (.Call (.Name x p) (e :: es) [] pos) (tCB r tr) (wCB g wr) := ⟨pe_callTy o.1 hg hm hv ha.pa hn hdb he hpl, le_cb ha.la o.2⟩
/-- one argument -/
def gOne (g : G1) : List D → M → DK → Prop := fun ds μ Q => ∃ d, ds = [d] ∧ g d μ Q
theorem ra1 {K : PySem.W.Frag} {G : Hp} {xs : List V} {d : D} (r : RA K G xs [d]) : ∃ v, xs = [v] ∧ R K G v d := by
  cases r with
  | cons h r => cases r; exact ⟨_, rfl, h⟩
theorem ra2 {K : PySem.W.Frag} {G : Hp} {xs : List V} {d e : D} (r : RA K G xs [d, e]) : ∃ v w, xs = [v, w] ∧ R K G v d ∧ R K G w e := by
  cases r with
  | cons h r =>
    obtain ⟨w, rfl, h2⟩ := ra1 r
    exact ⟨_, _, rfl, h, h2⟩
def gLen : G1 := fun x μ Q => (∃ ds, seqOf μ x = some ds ∧ Q (.int ds.length) μ) ∨ (∃ z, x = .str z ∧ z.length ≤ 1000000 ∧ Q (.int z.length) μ) ∨ ∃ ks, dctOf μ x = some ks ∧ Q (.int ks.length) μ
theorem c_len : CallR X (.builtin "len") (fun xs H Q => (∃ x n, xs = [x] ∧ LenV X.K x H n ∧ Q (.int n) H) ∨ ∃ a kvs, xs = [V.ref a] ∧ H a = some (.dK kvs) ∧ Q (.int kvs.length) H) ∧
    CL X.K (fun xs H Q => (∃ x n, xs = [x] ∧ LenV X.K x H n ∧ Q (.int n) H) ∨ ∃ a kvs, xs = [V.ref a] ∧ H a = some (.dK kvs) ∧ Q (.int kvs.length) H) (gOne gLen) := by
  refine ⟨CallR.or call_len call_lenD, fun H μ xs ds Q Qd m rx ⟨d, e, h⟩ k => ?_⟩
  subst e
  obtain ⟨v, rfl, rv⟩ := ra1 rx
  rcases h with ⟨ds, e, q⟩ | ⟨z, e, hz, q⟩ | ⟨ks, e, q⟩
  · obtain ⟨a, vs, rfl, hs, ra⟩ := seq_of m rv e
    refine .inl ⟨_, vs.length, rfl, ?_, k _ _ H μ (.refl m) (by rw [ra.length]; exact .int _) q⟩
    rcases hs with hs | hs
    · exact .inl ⟨vs, hs, rfl⟩
    · exact .inr ⟨vs, hs, rfl⟩
  · subst e
    rw [rv.str_inv]
    exact .inl ⟨_, z.length, rfl, ⟨sz_ok hz, rfl⟩, k _ _ H μ (.refl m) (.int _) q⟩
  · obtain ⟨a, kvs, rfl, hs, ra⟩ := dct_of m rv e
    exact .inr ⟨a, kvs, rfl, hs, k _ _ H μ (.refl m) (by rw [ra.length]; exact .int _) q⟩
def gInt : G1 := fun x μ Q => (∃ i, x = .int i ∧ Q (.int i) μ) ∨ ∃ b, x = .bl b ∧ Q (.int (if b then 1 else 0)) μ
theorem c_int : CallR X (.type "int") (fun xs H Q => (∃ i, xs = [.int i] ∧ Q (.int i) H) ∨ ∃ k, xs = [.bl k] ∧ Q (.int (if k then 1 else 0)) H) ∧
    CL X.K (fun xs H Q => (∃ i, xs = [.int i] ∧ Q (.int i) H) ∨ ∃ k, xs = [.bl k] ∧ Q (.int (if k then 1 else 0)) H) (gOne gInt) := by
  refine ⟨call_int1, fun H μ xs ds Q Qd m rx ⟨d, e, h⟩ k => ?_⟩
  subst e
  obtain ⟨v, rfl, rv⟩ := ra1 rx
  rcases h with ⟨i, rfl, q⟩ | ⟨i, rfl, q⟩
  · exact .inl ⟨i, by rw [rv.int_inv], k _ _ H μ (.refl m) (.int _) q⟩
  · exact .inr ⟨i, by rw [rv.bl_inv], k _ _ H μ (.refl m) (.int _) q⟩
theorem c_abs : CallR X (.builtin "abs") (fun xs H Q => ∃ i, xs = [.int i] ∧ Q (.int (if i < 0 then -i else i)) H) ∧
    CL X.K (fun xs H Q => ∃ i, xs = [.int i] ∧ Q (.int (if i < 0 then -i else i)) H) (gOne (gU fun i => .int (if i < 0 then -i else i))) := by
  refine ⟨call_abs, fun H μ xs ds Q Qd m rx ⟨d, e, i, e2, q⟩ k => ?_⟩
  subst e e2
  obtain ⟨v, rfl, rv⟩ := ra1 rx
  exact ⟨i, by rw [rv.int_inv], k _ _ H μ (.refl m) (.int _) q⟩
/-- list(x), as data; tuple(x) -/
def gList : G1 := fun x μ Q => ∃ ds, seqOf μ x = some ds ∧ Q (.lst ds) μ
theorem c_list : CallR X (.type "list") (fun xs H Q => ∃ p ys, xs = [.ref p] ∧ (SqL X.K H p ys ∨ SqT X.K H p ys) ∧ ∀ l, H l = none → Q (.ref l) (upd H l (.lst ys))) ∧
    CL X.K (fun xs H Q => ∃ p ys, xs = [.ref p] ∧ (SqL X.K H p ys ∨ SqT X.K H p ys) ∧ ∀ l, H l = none → Q (.ref l) (upd H l (.lst ys))) (gOne gList) := by
  refine ⟨call_list_of, fun H μ xs ds Q Qd m rx ⟨d, e, ds', e2, q⟩ k => ?_⟩
  subst e
  obtain ⟨v, rfl, rv⟩ := ra1 rx
  obtain ⟨a, vs, rfl, hs, ra⟩ := seq_of m rv e2
  refine ⟨a, vs, rfl, hs, fun p hp => ?_⟩
  have m2 := Mv.new (o := .lst vs) m hp
  exact k _ _ _ _ m2 (.lst (hid_new (m.fresh hp)) (ra.mono m2.sm)) q
/-- list(x), behind a handle -/
def gListM : G1 := fun x μ Q => ∃ ds, seqOf μ x = some ds ∧ ∀ p, μ p = none → Q (.obj p) (mput μ p (.lst ds))
theorem c_listM : CallR X (.type "list") (fun xs H Q => ∃ p ys, xs = [.ref p] ∧ (SqL X.K H p ys ∨ SqT X.K H p ys) ∧ ∀ l, H l = none → Q (.ref l) (upd H l (.lst ys))) ∧
    CL X.K (fun xs H Q => ∃ p ys, xs = [.ref p] ∧ (SqL X.K H p ys ∨ SqT X.K H p ys) ∧ ∀ l, H l = none → Q (.ref l) (upd H l (.lst ys))) (gOne gListM) := by
  refine ⟨call_list_of, fun H μ xs ds Q Qd m rx ⟨d, e, ds', e2, q⟩ k => ?_⟩
  subst e
  obtain ⟨v, rfl, rv⟩ := ra1 rx
  obtain ⟨a, vs, rfl, hs, ra⟩ := seq_of m rv e2
  exact ⟨a, vs, rfl, hs, fun p hp => k _ _ _ _ (Mv.newL m hp ra) (.obj p) (q p (m.fresh hp))⟩
def gTuple : G1 := fun x μ Q => (∃ ds, (lstOf μ x = some ds ∨ x = .ro ds) ∧ Q (.tup ds) μ) ∨ ∃ ds, x = .tup ds ∧ Q (.tup ds) μ
theorem c_tuple : CallR X (.type "tuple") (fun xs H Q => ∃ p ys, xs = [.ref p] ∧ ((SqL X.K H p ys ∧ ∀ l, H l = none → Q (.ref l) (upd H l (.tup ys))) ∨ (SqT X.K H p ys ∧ Q (.ref p) H))) ∧
    CL X.K (fun xs H Q => ∃ p ys, xs = [.ref p] ∧ ((SqL X.K H p ys ∧ ∀ l, H l = none → Q (.ref l) (upd H l (.tup ys))) ∨ (SqT X.K H p ys ∧ Q (.ref p) H))) (gOne gTuple) := by
  refine ⟨call_tuple_of, fun H μ xs ds Q Qd m rx ⟨d, e, h⟩ k => ?_⟩
  subst e
  obtain ⟨v, rfl, rv⟩ := ra1 rx
  rcases h with ⟨ds, e, q⟩ | ⟨ds, e, q⟩
  · obtain ⟨a, vs, rfl, hs, ra⟩ := lro_of m rv e
    refine ⟨a, vs, rfl, .inl ⟨hs, fun p hp => ?_⟩⟩
    have m2 := Mv.new (o := .tup vs) m hp
    exact k _ _ _ _ m2 (.tup (SqT.of (hid_new (m.fresh hp))) (ra.mono m2.sm)) q
  · subst e
    cases rv with
    | @tup a vs _ h1 ra => exact ⟨a, vs, rfl, .inr ⟨same_t hid_sub h1, k _ _ H μ (.refl m) (.tup h1 ra) q⟩⟩
def gStr : G1 := fun x μ Q => (∃ i : Int, x = .int i ∧ i.natAbs.log2 < 1920 ∧ Q (.str (toString i)) μ) ∨ ∃ z, x = .str z ∧ Q (.str z) μ
theorem c_str : CallR X (.type "str") (fun xs H Q => (∃ i : Int, xs = [.int i] ∧ i.natAbs.log2 < 1920 ∧ Q (.str (toString i)) H) ∨ ∃ a, xs = [.str a] ∧ Q (.str a) H) ∧
    CL X.K (fun xs H Q => (∃ i : Int, xs = [.int i] ∧ i.natAbs.log2 < 1920 ∧ Q (.str (toString i)) H) ∨ ∃ a, xs = [.str a] ∧ Q (.str a) H) (gOne gStr) := by
  refine ⟨CallR.or call_str_int SkE.call_str_str, fun H μ xs ds Q Qd m rx ⟨d, e, h⟩ k => ?_⟩
  subst e
  obtain ⟨v, rfl, rv⟩ := ra1 rx
  rcases h with ⟨i, rfl, z, q⟩ | ⟨i, rfl, q⟩
  · exact .inl ⟨i, by rw [rv.int_inv], z, k _ _ H μ (.refl m) (.str _) q⟩
  · exact .inr ⟨i, by rw [rv.str_inv], k _ _ H μ (.refl m) (.str _) q⟩
def gInt2 (g : Int → Int → Int) : List D → M → DK → Prop := fun ds μ Q => ∃ i j, ds = [.int i, .int j] ∧ Q (.int (g i j)) μ
theorem cl_int2 {K : PySem.W.Frag} {g : Int → Int → Int} : CL K (fun xs H Q => ∃ i j, xs = [.int i, .int j] ∧ Q (.int (g i j)) H) (gInt2 g) := fun H μ xs ds Q Qd m rx ⟨i, j, e, q⟩ k => by
  subst e
  obtain ⟨v, w, rfl, r1, r2⟩ := ra2 rx
  rw [r1.int_inv, r2.int_inv]
  exact ⟨i, j, rfl, k _ _ H μ (.refl m) (.int _) q⟩
theorem c_max2 (hc : X.calm = true) : CallR X (.builtin "max") (fun xs H Q => ∃ i j, xs = [.int i, .int j] ∧ Q (.int (if j > i then j else i)) H) ∧ CL X.K (fun xs H Q => ∃ i j, xs = [.int i, .int j] ∧ Q (.int (if j > i then j else i)) H) (gInt2 fun i j => if j > i then j else i) := ⟨call_max2 hc, cl_int2⟩
theorem c_min2 (hc : X.calm = true) : CallR X (.builtin "min") (fun xs H Q => ∃ i j, xs = [.int i, .int j] ∧ Q (.int (if j < i then j else i)) H) ∧ CL X.K (fun xs H Q => ∃ i j, xs = [.int i, .int j] ∧ Q (.int (if j < i then j else i)) H) (gInt2 fun i j => if j < i then j else i) := ⟨call_min2 hc, cl_int2⟩
end
end DL

set_option maxHeartbeats 2000000
namespace DL
open PySem PySem.Spec PyProof.Rows L2

/-! ### isinstance -/
/-- what a class must have for its instances' types to be told -/
structure InsTy (K : PySem.W.Frag) (C : Addr) : Prop where
  cl : Cls K C
  ha : PySem.W.findIn K (.ref C) "__class__" = some (some (.builtin "object.__class__"))
  hn : PySem.W.specialIn K (.builtin "object.__class__") "__get__" = some (some (.builtin "getset_descriptor.__get__"))
  htk : PySem.W.takesIn K (.builtin "object.__class__") = some true
  hm : PySem.W.mroIn K C (.type "object") = some true
inductive TyD (K : PySem.W.Frag) (μ : M) : D → Value → Prop
  | non : TyD K μ .non (.type "NoneType")
  | bl (b : Bool) : TyD K μ (.bl b) (.type "bool")
  | int (i : Int) : TyD K μ (.int i) (.type "int")
  | str (x : Str) : TyD K μ (.str x) (.type "str")
  | lst (ds : List D) : TyD K μ (.lst ds) (.type "list")
  | ro (ds : List D) : TyD K μ (.ro ds) (.type "list")
  | tup (ds : List D) : TyD K μ (.tup ds) (.type "tuple")
  | dct (ds : List (Key × D)) : TyD K μ (.dct ds) (.type "dict")
  | olst {a : Addr} {ds : List D} (h : μ a = some (.lst ds)) : TyD K μ (.obj a) (.type "list")
  | odct {a : Addr} {ds : List (Key × D)} (h : μ a = some (.dct ds)) : TyD K μ (.obj a) (.type "dict")
  | ins {a C : Addr} {fs : List (Str × D)} (h : μ a = some (.ins C fs)) (c : InsTy K C) : TyD K μ (.obj a) (.ref C)
theorem ty_of {K : PySem.W.Frag} {H : Hp} {μ : M} {v : V} {d : D} {t : Value} (m : MR K H μ) (r : R K (hid H μ) v d) (h : TyD K μ d t) : TyX K H v t := by
  cases h with
  | non => rw [r.non_inv]; exact .base .non
  | bl b => rw [r.bl_inv]; exact .base (.bl b)
  | int b => rw [r.int_inv]; exact .base (.int b)
  | str b => rw [r.str_inv]; exact .base (.str b)
  | lst ds =>
    cases r with
    | lst e _ => exact .base (.lst (hid_some.mp e).2)
  | ro ds =>
    cases r with
    | ro e _ =>
      rcases hid_sub.seq e with (e | ⟨o, e⟩) | ⟨o, its, n, e, c, _⟩
      · exact .base (.lst e)
      · exact .base (.frz e)
      · exact .kList e c
  | tup ds =>
    cases r with
    | tup e _ =>
      rcases same_t hid_sub e with (e | ⟨o, e⟩) | ⟨o, its, n, e, c, _⟩
      · exact .base (.tup e)
      · exact .fTuple e
      · exact .kTuple e c
  | dct ds =>
    cases r with
    | dct e _ => exact .base (.dK (hid_some.mp e).2)
  | olst h =>
    rw [r.obj_inv]
    obtain ⟨vs, e, _⟩ := m _ _ h
    exact .base (.lst e)
  | odct h =>
    rw [r.obj_inv]
    obtain ⟨vs, e, _⟩ := m _ _ h
    exact .base (.dK e)
  | ins h c =>
    rw [r.obj_inv]
    obtain ⟨dx, vs, e, _⟩ := m _ _ h
    exact .base (.ins e c.cl c.ha c.hn c.htk c.hm)
/-- a class, as a value -/
inductive ClsD : D → Value → Prop
  | ty (n : String) : ClsD (.raw (.ty n)) (.type n)
  | own (C : Addr) : ClsD (.raw (.ref C)) (.ref C)
theorem ClsD.v {K : PySem.W.Frag} {G : Hp} {v : V} {d : D} {u : Value} (c : ClsD d u) (r : R K G v d) : ClsV v u := by
  cases c with
  | ty n => rw [r.raw_inv]; exact .ty n
  | own C => rw [r.raw_inv]; exact .own C
theorem ClsD.vs {K : PySem.W.Frag} {G : Hp} : ∀ {ds : List D} {us : List Value} {vs : List V}, Paired ClsD ds us → RA K G vs ds → Paired ClsV vs us
  | _, _, _, .nil, r => by cases r; exact .nil
  | _, _, _, .cons h t, r => by
    cases r with
    | cons r1 r2 => exact .cons (h.v r1) (ClsD.vs t r2)
def gIsi (K : PySem.W.Frag) : List D → M → DK → Prop := fun ds μ Q => (∃ x c t u b, ds = [x, c] ∧ ClsD c u ∧ TyD K μ x t ∧ PySem.W.kitOne K t u = some b ∧ Q (.bl b) μ) ∨
  ∃ x cs t us b, ds = [x, .tup cs] ∧ Paired ClsD cs us ∧ TyD K μ x t ∧ PySem.W.kitAny K t us = some b ∧ Q (.bl b) μ
def rIsiA (K : PySem.W.Frag) : List V → Hp → VK → Prop := fun xs H Q => rIsi K xs H Q ∨ rIsiS K xs H Q
where rIsiS (K : PySem.W.Frag) : List V → Hp → VK → Prop := fun xs H Q => ∃ (x : V) (tp : Addr) (cs : List V) (t : Value) (us : List Value) (b : Bool), xs = [x, .ref tp] ∧ SqT K H tp cs ∧ Paired ClsV cs us ∧ TyX K H x t ∧ PySem.W.kitAny K t us = some b ∧ Q (.bl b) H
theorem isiS {X : Cx} : CallR X (.builtin "isinstance") (rIsiA.rIsiS X.K) := by
  intro pins s σ H xs us Q I r h
  obtain ⟨x, tp, cs, t, ws, b, rfl, hT, k, ty, e, q⟩ := h
  obtain ⟨u1, u2, rfl, r1, r2⟩ := vals2 r
  cases (show u2 = Value.ref tp from r2)
  obtain ⟨P, Z, p, hx⟩ := kit_of I r1 ty
  obtain ⟨its, rv, ⟨o, h1, h2, n, h3⟩, _⟩ := I.tuple hT
  have e3 := ClsV.all k rv
  subst e3
  obtain ⟨oc, od, dt, sl⟩ := o
  simp only at h2 h3
  subst h2 h3
  exact PySem.W.kia_tup Z I.kIn p h1 e hx fun tk => ⟨.bl b, H, I.tok tk, rfl, q⟩
section
variable {X : Cx} {W : WX}
theorem c_isi (K : PySem.W.Frag) (hK : X.K = K) : CallR X (.builtin "isinstance") (rIsiA X.K) ∧ CL X.K (rIsiA X.K) (gIsi K) := by
  subst hK
  refine ⟨CallR.or call_isi isiS, fun H μ xs ds Q Qd m rx h k => ?_⟩
  rcases h with ⟨x, c, t, u, b, e, hc, ht, hk, q⟩ | ⟨x, cs, t, us, b, e, hc, ht, hk, q⟩
  · subst e
    obtain ⟨v, w, rfl, r1, r2⟩ := ra2 rx
    exact .inl ⟨v, w, t, u, b, rfl, hc.v r2, ty_of m r1 ht, hk, k _ _ H μ (.refl m) (.bl _) q⟩
  · subst e
    obtain ⟨v, w, rfl, r1, r2⟩ := ra2 rx
    cases r2 with
    | @tup a vs _ h1 ra => exact .inr ⟨v, a, vs, t, us, b, rfl, same_t hid_sub h1, ClsD.vs hc ra, ty_of m r1 ht, hk, k _ _ H μ (.refl m) (.bl _) q⟩
end

/-! ### repr -/
def rRepr (K : PySem.W.Frag) : List V → Hp → VK → Prop := fun xs H Q => ∃ x p, xs = [x] ∧ Dq K H x p ∧ okP p = true ∧ p.showable = true ∧ p.depth ≤ 60 ∧ p.shown.length ≤ sizeLine ∧ Q (.str p.shown) H
def gRepr : G1 := fun x μ Q => ∃ p, pyOf μ x = some p ∧ okP p = true ∧ p.showable = true ∧ p.depth ≤ 60 ∧ p.shown.length ≤ 1000000 ∧ Q (.str p.shown) μ
theorem call_repr {X : Cx} (hg : X.A.guards = some []) (hu : X.A.units + 64 < cLine) : CallR X (.builtin "repr") (rRepr X.K) := by
  intro pins s σ H xs us Q I r h
  obtain ⟨x, p, rfl, hd, ok, hs, hdp, hz, q⟩ := h
  obtain ⟨u, rfl, ru⟩ := vals1 r
  have fin : ∀ (h' : Heap) (tk : Nat) (t : Tok), (∀ b o, s.heap.get? b = some o → h'.get? b = some o) → EP X pins σ Q (.str p.shown t) { s with heap := h', toks := tk } := fun h' tk t hk => ⟨.str _, H, I.kept hk, ⟨t, rfl⟩, q⟩
  have one : ∀ (t : Tok) (tk : Nat), EP X pins σ Q (.str p.shown t) { s with toks := tk } := fun t tk => ⟨.str _, H, I.tok tk, ⟨t, rfl⟩, q⟩
  obtain ⟨as, rd, hsm⟩ := Dq.readsP I hd ok ru
  cases hd with
  | non =>
    cases ru
    exact PySem.P.repr_of_none (one _ _)
  | bl b =>
    cases ru
    refine PySem.P.repr_of_bool ?_
    have := one s.toks (s.toks + 1)
    cases b <;> exact this
  | int i =>
    obtain ⟨t, rfl⟩ := ru
    exact PySem.P.repr_of_int (by simpa [PyData.showable] using hs) (by have := one s.toks (s.toks + 1); simpa only [PyData.shown] using this)
  | str z =>
    obtain ⟨t, rfl⟩ := ru
    refine PySem.P.repr_of_str (by have := one s.toks (s.toks + 1); simpa only [PyData.shown] using this) ?_
    simpa only [PyData.shown] using hz
  | lst _ _ =>
    cases ru
    exact repr_of_reads' rd hs hsm hg (by omega) (fun _ _ e => e) (fun h' u tk hk => fin h' tk u hk) hz
  | tup _ _ =>
    cases ru
    exact repr_of_reads' rd hs hsm hg (by omega) (fun _ _ e => e) (fun h' u tk hk => fin h' tk u hk) hz
  | dct _ _ =>
    cases ru
    exact repr_of_reads' rd hs hsm hg (by omega) (fun _ _ e => e) (fun h' u tk hk => fin h' tk u hk) hz
theorem c_repr {X : Cx} (K : PySem.W.Frag) (hK : X.K = K) (hg : X.A.guards = some []) (hu : X.A.units + 64 < cLine) : CallR X (.builtin "repr") (rRepr K) ∧ CL X.K (rRepr K) (gOne gRepr) := by
  subst hK
  refine ⟨call_repr hg hu, fun H μ xs ds Q Qd m rx ⟨d, e, p, e2, h1, h2, h3, h4, q⟩ k => ?_⟩
  subst e
  obtain ⟨v, rfl, rv⟩ := ra1 rx
  exact ⟨v, p, rfl, Dq.of_pyOf m rv e2, h1, h2, h3, sz_ok h4, k _ _ H μ (.refl m) (.str _) q⟩

/-! ### dict displays -/
/-- a written dict's pairs -/
inductive PPD (X : Cx) (W : WX) (pos : Pos) : List (Option Expr) → List Expr → List (TE × TE) → List (DW × DW) → Prop
  | nil : PPD X W pos [] [] [] []
  | cons {k v : Expr} {ks : List (Option Expr)} {vs : List Expr} {tk tv : TE} {wk wv : DW} {trs : List (TE × TE)} {ws : List (DW × DW)} (hk : PD X W k tk wk) (hv : PD X W v tv wv) (r : PPD X W pos ks vs trs ws) : PPD X W pos (some k :: ks) (v :: vs) ((tk, tv) :: trs) ((wk, wv) :: ws)
def wPairs : List (DW × DW) → DSt → M → (List (D × D) → M → Prop) → FK → Prop
  | [], _, μ, Q, _ => Q [] μ
  | (wk, wv) :: r, δ, μ, Q, F => wk δ μ (fun x μ1 => wv δ μ1 (fun y μ2 => wPairs r δ μ2 (fun ps μ3 => Q ((x, y) :: ps) μ3) F) F) F
theorem PPD.pps {X : Cx} {W : WX} {pos : Pos} {ks : List (Option Expr)} {vs : List Expr} {trs : List (TE × TE)} {ws : List (DW × DW)} (h : PPD X W pos ks vs trs ws) : PPs X pos ks vs trs := by
  induction h with
  | nil => exact pps_nil
  | cons hk hv _ ih => exact pps_cons hk.pe hv.pe ih
inductive RP (K : PySem.W.Frag) (G : Hp) : List (V × V) → List (D × D) → Prop
  | nil : RP K G [] []
  | cons {x y : V} {d e : D} {vs : List (V × V)} {ds : List (D × D)} : R K G x d → R K G y e → RP K G vs ds → RP K G ((x, y) :: vs) ((d, e) :: ds)
theorem PPD.lp {X : Cx} {W : WX} {pos : Pos} {ks : List (Option Expr)} {vs : List Expr} {trs : List (TE × TE)} {ws : List (DW × DW)} (h : PPD X W pos ks vs trs ws) : ∀ (σ : St) (δ : DSt) (H : Hp) (μ : M) (Q : List (V × V) → Hp → Prop) (Qd : List (D × D) → M → Prop) (F : FK), SD X.K σ δ H μ → wPairs ws δ μ Qd F →
    (∀ vs ds H' μ', Mv X.K H μ H' μ' → RP X.K (hid H' μ') vs ds → Qd ds μ' → Q vs H') → Ex1 X.K W σ H μ F → tPairs trs σ H Q := by
  induction h with
  | nil => exact fun σ δ H μ Q Qd F S q kQ _ => kQ [] [] H μ (.refl S.mr) .nil q
  | cons hk hv _ ih =>
    intro σ δ H μ Q Qd F S q kQ kF
    refine hk.le σ δ H μ _ _ F S q (fun x dx H1 μ1 m1 r1 q1 => ?_) kF
    refine hv.le σ δ H1 μ1 _ _ F (S.step m1) q1 (fun y dy H2 μ2 m2 r2 q2 => ?_) (kF.step m1)
    refine ih σ δ H2 μ2 _ _ F (S.step (m1.trans m2)) q2 (fun ps ds H3 μ3 m3 r3 q3 => ?_) (kF.step (m1.trans m2))
    exact kQ _ _ H3 μ3 (m1.trans (m2.trans m3)) (.cons (r1.mono (m2.trans m3).sm) (r2.mono m3.sm) r3) q3
def mergeD (kvs more : List (Key × D)) : List (Key × D) := more.foldl (fun acc kv => putD acc kv.1 kv.2) kvs
where putD (kvs : List (Key × D)) (k : Key) (v : D) : List (Key × D) := if kvs.any (fun kv => decide (kv.1 = k)) then kvs.map (fun kv => if kv.1 = k then (kv.1, v) else kv) else kvs ++ [(k, v)]
def putD := mergeD.putD
theorem rk_any {K : PySem.W.Frag} {G : Hp} {k : Key} : ∀ {kvs : List (Key × V)} {ks : List (Key × D)}, RK K G kvs ks → (kvs.any fun kv => decide (kv.1 = k)) = (ks.any fun kv => decide (kv.1 = k))
  | _, _, .nil => rfl
  | _, _, .cons _ r => by
    rw [List.any_cons, List.any_cons, rk_any r]
theorem rk_map {K : PySem.W.Frag} {G : Hp} {k : Key} {v : V} {d : D} (h : R K G v d) : ∀ {kvs : List (Key × V)} {ks : List (Key × D)}, RK K G kvs ks → RK K G (kvs.map fun kv => if kv.1 = k then (kv.1, v) else kv) (ks.map fun kv => if kv.1 = k then (kv.1, d) else kv)
  | _, _, .nil => .nil
  | _, _, .cons (k := k1) q r => by
    rw [List.map_cons, List.map_cons]
    by_cases e : k1 = k
    · rw [if_pos e, if_pos e]
      exact .cons h (rk_map h r)
    · rw [if_neg e, if_neg e]
      exact .cons q (rk_map h r)
theorem rk_app {K : PySem.W.Frag} {G : Hp} {k : Key} {v : V} {d : D} (h : R K G v d) : ∀ {kvs : List (Key × V)} {ks : List (Key × D)}, RK K G kvs ks → RK K G (kvs ++ [(k, v)]) (ks ++ [(k, d)])
  | _, _, .nil => .cons h .nil
  | _, _, .cons q r => .cons q (rk_app h r)
theorem rk_put {K : PySem.W.Frag} {G : Hp} {k : Key} {v : V} {d : D} {kvs : List (Key × V)} {ks : List (Key × D)} (r : RK K G kvs ks) (h : R K G v d) : RK K G (putK kvs k v) (putD ks k d) := by
  unfold putK putD mergeD.putD
  rw [rk_any r]
  by_cases e : (ks.any fun kv => decide (kv.1 = k)) = true
  · rw [if_pos e, if_pos e]
    exact rk_map h r
  · rw [if_neg e, if_neg e]
    exact rk_app h r
theorem rk_merge {K : PySem.W.Frag} {G : Hp} : ∀ {more : List (Key × V)} {mored : List (Key × D)}, RK K G more mored → ∀ {kvs : List (Key × V)} {ks : List (Key × D)}, RK K G kvs ks → RK K G (mergeK kvs more) (mergeD ks mored)
  | _, _, .nil, _, _, r => r
  | _, _, .cons h t, _, _, r => rk_merge t (rk_put r h)
theorem rp_keys {K : PySem.W.Frag} {G : Hp} : ∀ {vs : List (V × V)} {ds : List (D × D)} {kds : List (Key × D)}, RP K G vs ds → (ds.mapM fun p => (keyOf p.1).map fun k => (k, p.2)) = some kds → ∃ kvs : List (Key × V), vs = kvs.map (fun kv => (kV kv.1, kv.2)) ∧ RK K G kvs kds
  | _, _, _, .nil, e => by
    simp at e
    subst e
    exact ⟨[], rfl, .nil⟩
  | _, _, kds, .cons (d := d) (e := d2) (ds := ds) h1 h2 r, e => by
    rw [List.mapM_cons] at e
    cases ek : keyOf d with
    | none => simp [ek] at e
    | some k =>
      cases er : (ds.mapM fun p => (keyOf p.1).map fun k => (k, p.2)) with
      | none => simp [ek, er] at e
      | some kr =>
        simp [ek, er] at e
        subst e
        obtain ⟨kvs, e2, r2⟩ := rp_keys r er
        refine ⟨(k, _) :: kvs, ?_, .cons h2 r2⟩
        rw [e2, key_of h1 ek]
        rfl
section
variable {X : Cx} {W : WX} {pos : Pos}
/-- a written dict, behind a handle -/
def wDctM (ws : List (DW × DW)) : DW := fun δ μ Q F => ∀ p, μ p = none → wPairs ws δ (mput μ p (.dct [])) (fun ps μ1 => μ1 p = some (.dct []) ∧ ps.length ≤ 15 ∧ ∃ kds, (ps.mapM fun p => (keyOf p.1).map fun k => (k, p.2)) = some kds ∧ Q (.obj p) (mput μ1 p (.dct (mergeD [] kds)))) F
theorem pd_dctM {keys : List (Option Expr)} {values : List Expr} {trs : List (TE × TE)} {ws : List (DW × DW)} (h : PPD X W pos keys values trs ws) (hall : keys.all (·.isSome) = true := by rfl) (hl : keys.length = values.length := by rfl) (h0 : keys ≠ [] := by exact List.cons_ne_nil _ _) (h15 : keys.length ≤ 15 := by decide) :
    PD X W (.Dict keys values pos) (tDisp trs) (wDctM ws) := by
  refine ⟨pe_disp h.pps hall hl h0 h15, fun σ δ H μ Q Qd F S q kQ kF p hp => ?_⟩
  have m1 : Mv X.K H μ (upd H p (.dK [])) (mput μ p (.dct [])) := Mv.put S.mr (.inl hp) fun _ _ => ⟨[], upd_same, .nil⟩
  refine h.lp σ δ _ _ _ _ F (S.step m1) (q p (S.mr.fresh hp)) (fun vs ds H2 μ2 m2 r2 q2 => ?_) (kF.step m1)
  obtain ⟨e1, hz, kds, e2, q3⟩ := q2
  obtain ⟨kvs, ev, rk⟩ := rp_keys r2 e2
  obtain ⟨kv0, e3, r0⟩ := m2.mr p _ e1
  cases r0
  have hlen : kvs.length ≤ 15 := by
    have h1 : vs.length = ds.length := by
      clear kQ kF q3 e2 ev rk
      induction r2 with
      | nil => rfl
      | cons _ _ _ ih => exact congrArg (· + 1) (ih (by simp only [List.length_cons] at hz; omega))
    rw [ev, List.length_map] at h1
    omega
  refine ⟨e3, kvs, ev, hlen, ?_⟩
  have m3 : Mv X.K H2 μ2 (upd H2 p (.dK (mergeK [] kvs))) (mput μ2 p (.dct (mergeD [] kds))) :=
    Mv.put m2.mr (.inr ⟨_, e1⟩) fun sm eq => ⟨_, upd_same, by rw [eq]; exact rk_merge (rk.mono sm) .nil⟩
  exact kQ _ _ _ _ (m1.trans (m2.trans m3)) (.obj p) q3
/-- a handle is let go: what it stands for is data from now on -/
def mdel (μ : M) (a : Addr) : M := fun b => if b = a then none else μ b
theorem mdel_ne {μ : M} {a b : Addr} (h : b ≠ a) : mdel μ a b = μ b := if_neg h
theorem mdel_same {μ : M} {a : Addr} : mdel μ a a = none := if_pos rfl
theorem Mv.drop {K : PySem.W.Frag} {H : Hp} {μ : M} (m : MR K H μ) (a : Addr) : Mv K H μ H (mdel μ a) := by
  have sm : Same (hid H μ) (hid H (mdel μ a)) := fun b o h => by
    obtain ⟨h1, h2⟩ := hid_some.mp h
    refine hid_some.mpr ⟨⟨?_, h1.2⟩, h2⟩
    by_cases e : b = a
    · rw [e, mdel_same]
    · rw [mdel_ne e]; exact h1.1
  refine ⟨sm, fun b mo h => ?_⟩
  by_cases e : b = a
  · rw [e, mdel_same] at h; cases h
  · rw [mdel_ne e] at h
    exact (m b mo h).mono sm rfl
/-- a written dict, as data -/
def wDct (ws : List (DW × DW)) : DW := fun δ μ Q F => ∀ p, μ p = none → wPairs ws δ (mput μ p (.dct [])) (fun ps μ1 => μ1 p = some (.dct []) ∧ ps.length ≤ 15 ∧ ∃ kds, (ps.mapM fun p => (keyOf p.1).map fun k => (k, p.2)) = some kds ∧ Q (.dct (mergeD [] kds)) (mdel μ1 p)) F
theorem mdel_put {μ : M} {p : Addr} {m : MO} : mdel (mput μ p m) p = mdel μ p := by
  funext b
  by_cases e : b = p
  · rw [e, mdel_same, mdel_same]
  · rw [mdel_ne e, mdel_ne e, mput_ne e]
theorem pd_dct {keys : List (Option Expr)} {values : List Expr} {trs : List (TE × TE)} {ws : List (DW × DW)} (h : PPD X W pos keys values trs ws) (hall : keys.all (·.isSome) = true := by rfl) (hl : keys.length = values.length := by rfl) (h0 : keys ≠ [] := by exact List.cons_ne_nil _ _) (h15 : keys.length ≤ 15 := by decide) :
    PD X W (.Dict keys values pos) (tDisp trs) (wDct ws) := by
  refine ⟨pe_disp h.pps hall hl h0 h15, fun σ δ H μ Q Qd F S q kQ kF p hp => ?_⟩
  have m1 : Mv X.K H μ (upd H p (.dK [])) (mput μ p (.dct [])) := Mv.put S.mr (.inl hp) fun _ _ => ⟨[], upd_same, .nil⟩
  refine h.lp σ δ _ _ _ _ F (S.step m1) (q p (S.mr.fresh hp)) (fun vs ds H2 μ2 m2 r2 q2 => ?_) (kF.step m1)
  obtain ⟨e1, hz, kds, e2, q3⟩ := q2
  obtain ⟨kvs, ev, rk⟩ := rp_keys r2 e2
  obtain ⟨kv0, e3, r0⟩ := m2.mr p _ e1
  cases r0
  have hlen : kvs.length ≤ 15 := by
    have h1 : vs.length = ds.length := by
      clear kQ kF q3 e2 ev rk
      induction r2 with
      | nil => rfl
      | cons _ _ _ ih => exact congrArg (· + 1) (ih (by simp only [List.length_cons] at hz; omega))
    rw [ev, List.length_map] at h1
    omega
  refine ⟨e3, kvs, ev, hlen, ?_⟩
  have m3 : Mv X.K H2 μ2 (upd H2 p (.dK (mergeK [] kvs))) (mput μ2 p (.dct (mergeD [] kds))) :=
    Mv.put m2.mr (.inr ⟨_, e1⟩) fun sm eq => ⟨_, upd_same, by rw [eq]; exact rk_merge (rk.mono sm) .nil⟩
  have m4 := Mv.drop m3.mr p
  rw [mdel_put] at m4
  have e5 : hid (upd H2 p (.dK (mergeK [] kvs))) (mdel μ2 p) p = some (.dK (mergeK [] kvs)) := hid_some.mpr ⟨⟨mdel_same, rfl⟩, upd_same⟩
  exact kQ _ _ _ _ (m1.trans (m2.trans (m3.trans m4))) (.dct e5 (rk_merge (rk.mono (m3.trans m4).sm) .nil)) q3
end
end DL

set_option maxHeartbeats 2000000
namespace DL
open PySem PySem.Spec PyProof.Rows L2

/-! ### what a def promises, over data -/
abbrev DF := List D → M → DK → FK → Prop
def spD (K : PySem.W.Frag) (wp : DF) : Sp := fun vs H Q E => ∃ (ds : List D) (μ : M) (Qd : DK) (F : FK), RA K (hid H μ) vs ds ∧ MR K H μ ∧ wp ds μ Qd F ∧
  (∀ v d H' μ', Mv K H μ H' μ' → R K (hid H' μ') v d → Qd d μ' → Q v H') ∧ ∀ cls dd er H' μ', Mv K H μ H' μ' → ErR K (hid H' μ') cls dd er → F er μ' → E cls dd H'
/-- the def at f, called with n arguments -/
def FnD (P : Program) (w : World) (K : PySem.W.Frag) (mg : Str → Option Value) (base : Heap) (k : Nat) (f : Addr) (wp : DF) : Prop :=
  ∀ (A : Around) (outer : List Env) (s : Shared) (H : Hp) (us : List Value) (vs : List V) (Q : VK) (E : XK), A.guards = some [] → Room k A → Env0 P w K mg base A outer s H → Vals vs us → spD K wp vs H Q E →
    codeAny (model P w) A (.call (.ref f) ⟨us, []⟩) (CR (L2.CX P w) outer P w H s Q E) s
/-- the def that the module calls x -/
structure CalD (P : Program) (w : World) (K : PySem.W.Frag) (mg : Str → Option Value) (base : Heap) (k : Nat) (x : Str) (wp : DF) : Prop where
  ex : ∃ f, mg x = some (.ref f) ∧ PySem.W.keepIn K (.ref f) = true ∧ FnD P w K mg base k f wp
section
variable {P : Program} {w : World} {K : PySem.W.Frag} {mg : Str → Option Value} {base : Heap} {k j : Nat} {f : Addr} {wp wp' : DF} {x : Str}
theorem spD.imp {vs : List V} {H : Hp} {Q : VK} {E : XK} (h : ∀ ds μ Q F, wp' ds μ Q F → wp ds μ Q F) (s : spD K wp' vs H Q E) : spD K wp vs H Q E := by
  obtain ⟨ds, μ, Qd, F, h1, h2, h3, h4⟩ := s
  exact ⟨ds, μ, Qd, F, h1, h2, h _ _ _ _ h3, h4⟩
theorem FnD.imp (F : FnD P w K mg base k f wp) (h : ∀ ds μ Q F, wp' ds μ Q F → wp ds μ Q F) : FnD P w K mg base k f wp' := fun A outer s H us vs Q E g r e v z => F A outer s H us vs Q E g r e v (z.imp h)
theorem CalD.imp (F : CalD P w K mg base k x wp) (h : ∀ ds μ Q F, wp' ds μ Q F → wp ds μ Q F) : CalD P w K mg base k x wp' := by
  obtain ⟨f, h1, h2, h3⟩ := F.ex
  exact ⟨f, h1, h2, h3.imp h⟩
theorem FnD.mono (F : FnD P w K mg base j f wp) (h : j ≤ k) : FnD P w K mg base k f wp := fun A outer s H us vs Q E g r e v z => F A outer s H us vs Q E g (r.mono h) e v z
theorem CalD.mono (F : CalD P w K mg base j x wp) (h : j ≤ k) : CalD P w K mg base k x wp := by
  obtain ⟨f, h1, h2, h3⟩ := F.ex
  exact ⟨f, h1, h2, h3.mono h⟩
end

/-! ### a body's surroundings -/
structure Ct (X : Cx) (W : WX) (k : Nat) : Prop where
  tk : Takes X W
  gd : X.A.guards = some []
  hr : Room k X.A
  calm : X.calm = true
theorem Ct.hu {X : Cx} {W : WX} {k : Nat} (c : Ct X W k) : X.A.units + 64 < cLine := c.hr.units
theorem Ct.hu1 {X : Cx} {W : WX} {k : Nat} (c : Ct X W k) : X.A.units + 1 < cLine := hu_of c.hr
section
variable {X : Cx} {W : WX} {k j : Nat} {wp : DF} {x : Str} {p pos : Pos} {e : Expr} {es : List Expr} {tr : TA} {wr : DA} {E : St → XK}
theorem run_fnD {pins : List (Addr × Obj)} {σ : St} {H : Hp} {s : Shared} {Q : VK} {us : List Value} {vs : List V} {f : Addr} (F : FnD X.prog X.w X.K X.mg X.base k f wp) (gd : X.A.guards = some []) (hr : Room k X.A) (hx : PassesAt (L2.CX X.prog X.w) X σ (E σ))
    (I : Inv X pins σ H s) (r : Vals vs us) (h : spD X.K wp vs H Q (E σ)) : wpAny (model X.prog X.w) X.A (call (.ref f) us) (EP X pins σ Q) X.xe s := by
  refine wpAny_call (codeAny_mono (F X.A X.stack s H us vs Q (E σ) gd hr I.env0 r h) fun r s' hq => ?_)
  cases r with
  | error e => exact hx pins H s e s' I hq
  | ok fl => cases fl <;> first | exact I.after hq | exact False.elim hq
def tCallD (K : PySem.W.Frag) (W : WX) (wp : DF) (t : TA) : TE := fun σ H Q => t σ H fun vs H1 => spD K wp vs H1 Q (WE W σ)
def wCall (wp : DF) (wa : DA) : DW := fun δ μ Q F => wa δ μ (fun ds μ1 => wp ds μ1 Q F) F
theorem le_call {K : PySem.W.Frag} {W : WX} (ha : LA K W tr wr) : LE K W (tCallD K W wp tr) (wCall wp wr) := fun σ δ H μ Q Qd F S q kQ kF =>
  ha σ δ H μ _ _ F S q (fun vs ds H1 μ1 m1 r1 q1 => ⟨ds, μ1, Qd, F, r1, m1.mr, q1, fun v d H' μ' m r q' => kQ v d H' μ' (m1.trans m) r q', fun cls dd er H' μ' m r f => kF cls dd er H' μ' (m1.trans m) r f⟩) kF
theorem pd_call (K : PySem.W.Frag) (hK : X.K = K) (c : Ct X W j) (C : CalD X.prog X.w X.K X.mg X.base k x wp) (ha : PDA X W (e :: es) tr wr) (hk : k ≤ j := by decide) (hg : Gl X x := by rfl)
    (hdb : (x == ("__debug__" : Str)) = false := by decide) (he : starEach (e :: es) X.env = (false, eval e X.env) :: starEach es X.env := by rfl) (hpl : (backTo pos (starEach es X.env)).any (·.1) = false := by rfl) :
    PD X W (.Call (.Name x p) (e :: es) [] pos) (tCallD K W wp tr) (wCall wp wr) := by
  subst hK
  refine ⟨⟨fun pins s σ H Q I h => ?_⟩, le_call ha.la⟩
  obtain ⟨f, hm, kp, F⟩ := C.ex
  refine wpAny_Call_Name_kw (ld_glob I hg hm ?_ hdb)
  refine PySem.W.callWith_K (h₀ := X.base) I.ok.mod.kin kp (thn (ha.pa.run pos pins s σ H _ I h) fun us s1 ⟨vs, H1, I1, r, q⟩ => ⟨I1.kIn, ?_⟩) he hpl
  exact run_fnD F c.gd (c.hr.mono hk) (passAt c.tk σ) I1 r q
theorem pd_call0 (K : PySem.W.Frag) (hK : X.K = K) (c : Ct X W j) (C : CalD X.prog X.w X.K X.mg X.base k x wp) (hk : k ≤ j := by decide) (hg : Gl X x := by rfl) (hdb : (x == ("__debug__" : Str)) = false := by decide) :
    PD X W (.Call (.Name x p) [] [] pos) (tCallD K W wp tNil) (wCall wp wNil) := by
  subst hK
  refine ⟨⟨fun pins s σ H Q I h => ?_⟩, le_call pda_nil.la⟩
  obtain ⟨f, hm, kp, F⟩ := C.ex
  refine wpAny_Call_Name_kw (ld_glob I hg hm ?_ hdb)
  exact PySem.W.callWith_K0 I.kIn kp (run_fnD (us := []) F c.gd (c.hr.mono hk) (passAt c.tk σ) I .nil h)
end

/-! ### statements -/
def wNext : DS := fun D _ δ μ => D.nx δ μ
def wSeq (a b : DS) : DS := fun D F δ μ => a { D with nx := fun δ' μ' => b D F δ' μ' } F δ μ
def wRet (wa : DW) : DS := fun D F δ μ => wa δ μ D.rt F
def wRetN : DS := fun D _ _ μ => D.rt .non μ
def wBrk : DS := fun D _ δ μ => D.bk δ μ
def wCnt : DS := fun D _ δ μ => D.ct δ μ
def wDrop (wa : DW) : DS := fun D F δ μ => wa δ μ (fun _ μ1 => D.nx δ μ1) F
def wIfS (t : DT) (a b : DS) : DS := fun D F δ μ => t δ μ (fun k μ1 => if k = true then a D F δ μ1 else b D F δ μ1) F
/-- targets -/
abbrev DG := D → DSt → M → (DSt → M → Prop) → Prop
abbrev DGs := List D → DSt → M → (DSt → M → Prop) → Prop
def wName (i : Nat) : DG := fun d δ μ Q => Q (δ.set i (some d)) μ
def wGNil : DGs := fun ds δ μ Q => ds = [] ∧ Q δ μ
def wGCons (t : DG) (u : DGs) : DGs := fun ds δ μ Q => ∃ d r, ds = d :: r ∧ t d δ μ fun δ' μ' => u r δ' μ' Q
def wGTup (n : Nat) (t : DGs) : DG := fun d δ μ Q => ∃ ds, d = .tup ds ∧ ds.length = n ∧ t ds δ μ Q
/-- but for the slots sl all is as it was -/
def But (sl : List Nat) (σ σ' : St) : Prop := ∀ i, i ∉ sl → σ'[i]? = σ[i]?
theorem But.trans {sl sl' : List Nat} {σ σ1 σ2 : St} (a : But sl σ σ1) (b : But sl' σ1 σ2) : But (sl ++ sl') σ σ2 := fun i h => (b i fun z => h (List.mem_append_right _ z)).trans (a i fun z => h (List.mem_append_left _ z))
def LG (K : PySem.W.Frag) (t : TG) (w : DG) (sl : List Nat) : Prop := ∀ (σ : St) (δ : DSt) (H : Hp) (μ : M) (v : V) (d : D) (Q : St → Hp → Prop) (Qd : DSt → M → Prop), SD K σ δ H μ → R K (hid H μ) v d → w d δ μ Qd → (∀ σ' δ' H' μ', Same (hid H μ) (hid H' μ') → SD K σ' δ' H' μ' → But sl σ σ' → Qd δ' μ' → Q σ' H') → t v σ H Q
def LGs (K : PySem.W.Frag) (t : TGs) (w : DGs) (sl : List Nat) : Prop := ∀ (σ : St) (δ : DSt) (H : Hp) (μ : M) (vs : List V) (ds : List D) (Q : St → Hp → Prop) (Qd : DSt → M → Prop), SD K σ δ H μ → RA K (hid H μ) vs ds → w ds δ μ Qd → (∀ σ' δ' H' μ', Same (hid H μ) (hid H' μ') → SD K σ' δ' H' μ' → But sl σ σ' → Qd δ' μ' → Q σ' H') → t vs σ H Q
structure PDG (X : Cx) (e : Expr) (t : TG) (w : DG) (sl : List Nat) : Prop where
  pg : PG X e t
  lg : LG X.K t w sl
structure PDGs (X : Cx) (e : List Expr) (t : TGs) (w : DGs) (sl : List Nat) : Prop where
  pg : PGs X e t
  lg : LGs X.K t w sl
section
variable {X : Cx} {W : WX} {x : Str} {pos pos' : Pos} {e tg : Expr} {es : List Expr} {te : TE} {we : DW} {t u : TG} {wt wu : DG} {us : TGs} {wus : DGs} {st : Stmt} {sts a b : List Stmt} {ts tr ta tb : TS} {ws wr wa wb : DS} {tt : TT} {wc : DT} {i : Nat}
theorem pdg_name (i : Nat) (hN : X.N.Nodup) (hi : X.N[i]? = some x := by rfl) (hx : Loc X.env.scope x := by first | exact Or.inl rfl | exact Or.inr rfl) (hf : X.fn x = true ∨ X.env.scope.names.lookup x = some .local := by first | exact .inl rfl | exact .inr rfl) : PDG X (.Name x pos) (gName i) (wName i) [i] :=
  ⟨pg_name hN hi hx hf, fun σ δ H μ v d Q Qd S r q k => k _ _ H μ (Same.refl _) (S.set i r) (fun j h => List.getElem?_set_ne (fun e => h (by simp [e]))) q⟩
theorem pdgs_nil : PDGs X [] gNil wGNil [] := ⟨pgs_nil, fun σ δ H μ vs ds Q Qd S r ⟨e, q⟩ k => by
  subst e
  cases r
  exact ⟨rfl, k _ _ H μ (Same.refl _) S (fun _ _ => rfl) q⟩⟩
theorem pdgs_cons {sl sl' : List Nat} (h1 : PDG X e t wt sl) (h2 : PDGs X es us wus sl') (hs : (assignEach (e :: es) X.env).map (·.2) = assign e X.env :: (assignEach es X.env).map (·.2) := by rfl) : PDGs X (e :: es) (gCons t us) (wGCons wt wus) (sl ++ sl') := by
  refine ⟨pgs_cons h1.pg h2.pg hs, fun σ δ H μ vs ds Q Qd S r ⟨d, dr, e, q⟩ k => ?_⟩
  subst e
  cases r with
  | cons r1 r2 =>
    refine ⟨_, _, rfl, h1.lg σ δ H μ _ d _ _ S r1 q fun σ1 δ1 H1 μ1 m1 S1 b1 q1 => ?_⟩
    exact h2.lg σ1 δ1 H1 μ1 _ dr Q Qd S1 (r2.mono m1) q1 fun σ' δ' H' μ' m' S' b' q' => k σ' δ' H' μ' (m1.trans m') S' (b1.trans b') q'
theorem pdg_tup {n : Nat} {kk : Nat} {sl : List Nat} (hc : X.calm = true) (h : PDGs X es us wus sl) (hn : (assignEach es X.env).length = n := by rfl) (hst : (assignEach es X.env).findIdx? (·.1) = none := by rfl) : PDG X (.Tuple es kk pos) (gTup X.K n us) (wGTup n wus) sl :=
  ⟨pg_tup hc h.pg hn hst, fun σ δ H μ v d Q Qd S r ⟨ds, e, hl, q⟩ k => by
    subst e
    cases r with
    | @tup a vs _ h1 ra => exact ⟨a, vs, rfl, same_t hid_sub h1, by rw [ra.length]; exact hl, h.lg σ δ H μ vs ds Q Qd S ra q k⟩⟩

theorem pdb_nil : PDB X W [] tNext wNext := ⟨pss_nil, fun G0 σ δ H μ D Dd F g S q k => k.nx σ δ H μ g S q⟩
theorem pds_pass : PDS X W (.Pass pos) tNext wNext := ⟨ps_pass, fun G0 σ δ H μ D Dd F g S q k => k.nx σ δ H μ g S q⟩
theorem pdb_cons (h1 : PDS X W st ts ws) (h2 : PDB X W sts tr wr) : PDB X W (st :: sts) (tSeq ts tr) (wSeq ws wr) :=
  ⟨pss_cons h1.ps h2.pss, fun G0 σ δ H μ D Dd F g S q k => h1.ls G0 σ δ H μ _ _ F g S q ⟨fun σ1 δ1 H1 μ1 g1 S1 q1 => h2.ls G0 σ1 δ1 H1 μ1 D Dd F g1 S1 q1 k, k.rt, k.bk, k.ct, k.er⟩⟩
theorem pdb_one (h : PDS X W st ts ws) : PDB X W [st] ts ws := ⟨pss_one h.ps, h.ls⟩
theorem pds_ret (h : PD X W e te we) : PDS X W (.Return (some e) pos) (tRet te) (wRet we) :=
  ⟨ps_ret h.pe, fun G0 σ δ H μ D Dd F g S q k => h.le σ δ H μ _ _ F S q (fun v d H' μ' m r q' => k.rt v d H' μ' (g.trans m.sm) m.mr r q') (k.ex1 g)⟩
theorem pds_retN : PDS X W (.Return none pos) tRetN wRetN := ⟨ps_retN, fun G0 σ δ H μ D Dd F g S q k => k.rt .non .non H μ g S.mr .non q⟩
theorem pds_brk : PDS X W (.Break pos) tBreak wBrk := ⟨ps_break, fun G0 σ δ H μ D Dd F g S q k => k.bk σ δ H μ g S q⟩
theorem pds_cnt : PDS X W (.Continue pos) tCont wCnt := ⟨ps_continue, fun G0 σ δ H μ D Dd F g S q k => k.ct σ δ H μ g S q⟩
theorem pds_expr (h : PD X W e te we) (hs : swapsWith e none pos.line X.env = pure false := by rfl) : PDS X W (.Expr e pos) (tDrop te) (wDrop we) :=
  ⟨ps_expr h.pe hs, fun G0 σ δ H μ D Dd F g S q k => h.le σ δ H μ _ _ F S q (fun v d H' μ' m r q' => k.nx σ δ H' μ' (g.trans m.sm) (S.step m) q') (k.ex1 g)⟩
theorem pds_if {c : Expr} (hc : PDT X W c tt wc) (ha : PDB X W a ta wa) (hb : PDB X W b tb wb) : PDS X W (.If c a b pos) (tIfS tt ta tb) (wIfS wc wa wb) := by
  refine ⟨ps_if hc.pt ha.pss hb.pss, fun G0 σ δ H μ D Dd F g S q k => hc.lt σ δ H μ _ _ F S q (fun b H1 μ1 m1 q1 => ?_) (k.ex1 g)⟩
  cases b with
  | true => exact ha.ls G0 σ δ H1 μ1 D Dd F (g.trans m1.sm) (S.step m1) q1 k
  | false => exact hb.ls G0 σ δ H1 μ1 D Dd F (g.trans m1.sm) (S.step m1) q1 k
/-- target = e -/
def wAsg (wa : DW) (g : DG) : DS := fun D F δ μ => wa δ μ (fun d μ1 => g d δ μ1 D.nx) F
theorem ls_asg {K : PySem.W.Frag} {sl : List Nat} (h : LE K W te we) (hg : LG K t wt sl) : LS K W (tAsg te t) (wAsg we wt) := fun G0 σ δ H μ D Dd F g S q k =>
  h σ δ H μ _ _ F S q (fun v d H1 μ1 m1 r1 q1 => hg σ δ H1 μ1 v d _ _ (S.step m1) r1 q1 fun σ' δ' H' μ' m' S' _ q' => k.nx σ' δ' H' μ' ((g.trans m1.sm).trans m') S' q') (k.ex1 g)
theorem pds_set (i : Nat) (hN : X.N.Nodup) (he : PD X W e te we) (hi : X.N[i]? = some x := by rfl) (hx : Loc X.env.scope x := by first | exact Or.inl rfl | exact Or.inr rfl) (hs : swapsWith e (some (.Name x pos')) pos.line X.env = pure false := by rfl)
    (hf : X.fn x = true ∨ X.env.scope.names.lookup x = some .local := by first | exact .inl rfl | exact .inr rfl) : PDS X W (.Assign [.Name x pos'] e pos) (tAsg te (gName i)) (wAsg we (wName i)) :=
  ⟨ps_set hN hi hx he.pe hs hf, ls_asg (sl := [i]) he.le fun σ δ H μ v d Q Qd S r q k => k _ _ H μ (Same.refl _) (S.set i r) (fun j h => List.getElem?_set_ne (fun e => h (by simp [e]))) q⟩
theorem pds_asg {sl : List Nat} (he : PD X W e te we) (hg : PDG X tg t wt sl) (hs : swapsWithSole [tg] e pos.line X.env = pure false := by rfl) (hw : swappedStores [tg] e X.env = pure none := by rfl) (h1 : (assignEach [tg] X.env).map (·.2) = [assign tg X.env] := by rfl) : PDS X W (.Assign [tg] e pos) (tAsg te t) (wAsg we wt) :=
  ⟨ps_asg he.pe hg.pg hs hw h1, ls_asg he.le hg.lg⟩
/-- a, b = x, y, plain local names -/
def wPar (i j : Nat) (wa : DA) : DS := fun D F δ μ => wa δ μ (fun ds μ1 => ∃ v w, ds = [v, w] ∧ D.nx ((δ.set i (some v)).set j (some w)) μ1) F
theorem pds_par (i j : Nat) {y : Str} {a b : Expr} {ta : TA} {wa : DA} {px py pt : Pos} {kt k2 pt2} (hc : X.calm = true) (hN : X.N.Nodup) (ha : PDA X W [a, b] ta wa) (hi : X.N[i]? = some x := by rfl) (hj : X.N[j]? = some y := by rfl) (hij : i ≠ j := by decide)
    (hx : X.env.scope.names.lookup x = some .local := by rfl) (hy : X.env.scope.names.lookup y = some .local := by rfl)
    (hw : swappedStores [.Tuple [.Name x px, .Name y py] kt pt] (.Tuple [a, b] k2 pt2) X.env = pure (some [x, y]) := by rfl)
    (hs : swapsWithSole [.Tuple [.Name x px, .Name y py] kt pt] (.Tuple [a, b] k2 pt2) pos.line X.env = pure false := by rfl) :
    PDS X W (.Assign [.Tuple [.Name x px, .Name y py] kt pt] (.Tuple [a, b] k2 pt2) pos) (tPar i j ta) (wPar i j wa) := by
  refine ⟨ps_par hc hN hi hj hij hx hy ha.pa hw hs, fun G0 σ δ H μ D Dd F g S q k => ha.la σ δ H μ _ _ F S q (fun vs ds H1 μ1 m1 r1 q1 => ?_) (k.ex1 g)⟩
  obtain ⟨d1, d2, e, q1⟩ := q1
  subst e
  obtain ⟨v, w, rfl, h1, h2⟩ := ra2 r1
  exact ⟨v, w, rfl, k.nx _ _ H1 μ1 (g.trans m1.sm) (((S.step m1).set i h1).set j h2) q1⟩
/-- d[k] = v of a dict behind a handle -/
def wDPut (wd wk wv : DW) : DS := fun D F δ μ => wv δ μ (fun v μ1 => wd δ μ1 (fun d μ2 => wk δ μ2 (fun y μ3 => ∃ a ks k, d = .obj a ∧ μ3 a = some (.dct ks) ∧ keyOf y = some k ∧ ks.length ≤ 1000000 ∧ D.nx δ (mput μ3 a (.dct (putD ks k v)))) F) F) F
theorem pds_dput {o i value : Expr} {td ty tv : TE} {wd wk wv : DW} (hu : X.A.units + 1 < cLine) (ho : PD X W o td wd) (hi : PD X W i ty wk) (hv : PD X W value tv wv) (hs : swapsWith value (some (.Subscript o i pos')) pos.line X.env = pure false := by rfl) :
    PDS X W (.Assign [.Subscript o i pos'] value pos) (sDPut td ty tv) (wDPut wd wk wv) := by
  refine ⟨ps_dput hu ho.pe hi.pe hv.pe hs, fun G0 σ δ H μ D Dd F g S q k => ?_⟩
  refine hv.le σ δ H μ _ _ F S q (fun v dv H1 μ1 m1 r1 q1 => ?_) (k.ex1 g)
  refine ho.le σ δ H1 μ1 _ _ F (S.step m1) q1 (fun d dd H2 μ2 m2 r2 q2 => ?_) (k.ex1 (g.trans m1.sm))
  refine hi.le σ δ H2 μ2 _ _ F (S.step (m1.trans m2)) q2 (fun y dy H3 μ3 m3 r3 q3 => ?_) (k.ex1 ((g.trans m1.sm).trans m2.sm))
  obtain ⟨a, ks, key, e1, e2, e3, hz, q4⟩ := q3
  subst e1
  obtain ⟨kvs, e4, rk⟩ := m3.mr a _ e2
  refine ⟨a, upd H3 a (.dK (putK kvs key v)), r2.obj_inv, ?_, ?_⟩
  · rw [key_of r3 e3]
    exact DPut.k e4 (Nat.lt_of_le_of_lt (by rw [rk.length]; exact hz) (by decide))
  · have m4 : Mv X.K H3 μ3 (upd H3 a (.dK (putK kvs key v))) (mput μ3 a (.dct (putD ks key dv))) := Mv.put m3.mr (.inr ⟨_, e2⟩) fun sm eq => ⟨_, upd_same, by rw [eq]; exact rk_put (rk.mono sm) (r1.mono ((m2.trans m3).sm.trans sm))⟩
    have m := m1.trans (m2.trans (m3.trans m4))
    exact k.nx σ δ _ _ (g.trans m.sm) (S.step m) q4
/-- xs.append(e), xs behind a handle; as an expression it is None -/
def wApp (wo we : DW) : DW := fun δ μ Q F => wo δ μ (fun d μ1 => ∃ a, d = .obj a ∧ (∃ ds0, μ1 a = some (.lst ds0)) ∧ we δ μ1 (fun v μ2 => ∃ ds, μ2 a = some (.lst ds) ∧ ds.length ≤ 1000000 ∧ Q .non (mput μ2 a (.lst (ds ++ [v])))) F) F
theorem pd_app {o : Expr} {apos cpos : Pos} {to : TE} {wo : DW} (ho : PD X W o to wo) (he : PD X W e te we) (hs : starEach [e] X.env = (false, eval e X.env) :: starEach [] X.env := by rfl)
    (hbase : attributeBase o "append" X.env (eval o X.env) = eval o X.env := by rfl)
    (hfew : ((backTo cpos (starEach [e] X.env)).all (fun x => !x.1) && (backToKw cpos (keywordEach [] X.env)).all (fun x => x.1.isSome) && decide ([e].length + ([] : List Keyword).length + (if ([] : List Keyword).isEmpty then 0 else 1) < 30)) = true := by rfl)
    (hline : (apos.endLine == cpos.line) = true := by rfl) :
    PD X W (.Call (.Attribute o "append" apos) [e] [] cpos) (tBM X.K "list" rAppend to (tCons te tNil)) (wApp wo we) := by
  refine ⟨pe_bm PySem.F.plainAttrs_list PySem.F.slot_list_append PySem.F.type_list_append mt_append ho.pe (pa_cons he.pe pa_nil hs) hbase hfew hline hs, fun σ δ H μ Q Qd F S q kQ kF => ?_⟩
  refine ho.le σ δ H μ _ _ F S q (fun v d H1 μ1 m1 r1 q1 => ?_) kF
  obtain ⟨a, e1, ⟨ds0, e0⟩, q1⟩ := q1
  subst e1
  rw [r1.obj_inv]
  obtain ⟨vs0, e2, ra0⟩ := m1.mr a _ e0
  refine ⟨.inl ⟨rfl, _, .inl (.inl e2)⟩, ?_⟩
  refine he.le σ δ H1 μ1 _ _ F (S.step m1) q1 (fun w dw H2 μ2 m2 r2 q2 => ?_) (kF.step m1)
  obtain ⟨ds, e3, hz, q3⟩ := q2
  obtain ⟨vs, e4, ra⟩ := m2.mr a _ e3
  refine ⟨a, vs, w, rfl, rfl, e4, Nat.lt_of_le_of_lt (by rw [ra.length]; exact hz) (by decide), ?_⟩
  have m3 : Mv X.K H2 μ2 (upd H2 a (.lst (vs ++ [w]))) (mput μ2 a (.lst (ds ++ [dw]))) := Mv.put m2.mr (.inr ⟨_, e3⟩) fun sm eq => ⟨_, upd_same, by rw [eq]; exact (ra.mono sm).append (.cons (r2.mono sm) .nil)⟩
  exact kQ _ _ _ _ (m1.trans (m2.trans m3)) .non q3
end
end DL

set_option maxHeartbeats 2000000
namespace DL
open PySem PySem.Spec PyProof.Rows L2

/-! ### what is walked: a list of data, while Gd stands -/
def ItD (K : PySem.W.Frag) (H : Hp) (μ : M) (J : It) (ds : List D) (Gd : M → Prop) : Prop := ∃ (G : Hp → Prop) (Y : Nat → Hp → V → Hp → Prop), Walk J ds.length G Y ∧ (∀ H1 μ1, Same (hid H μ) (hid H1 μ1) → MR K H1 μ1 → Gd μ1 → G H1) ∧
  ∀ i x H1 μ1 H2, i < ds.length → Same (hid H μ) (hid H1 μ1) → MR K H1 μ1 → Gd μ1 → Y i H1 x H2 → ∃ d, ds[i]? = some d ∧ Mv K H1 μ1 H2 μ1 ∧ R K (hid H2 μ1) x d
abbrev DI := DSt → M → (List D → (M → Prop) → M → Prop) → FK → Prop
def LI (K : PySem.W.Frag) (W : WX) (t : TI) (w : DI) : Prop := ∀ (σ : St) (δ : DSt) (H : Hp) (μ : M) (Q : It → Hp → Prop) (Qd : List D → (M → Prop) → M → Prop) (F : FK), SD K σ δ H μ → w δ μ Qd F →
  (∀ J ds Gd H' μ', Mv K H μ H' μ' → ItD K H' μ' J ds Gd → Qd ds Gd μ' → Q J H') → Ex1 K W σ H μ F → t σ H Q
structure PDI (X : Cx) (W : WX) (tg e : Expr) (t : TI) (w : DI) : Prop where
  pi : PI X tg e t
  li : LI X.K W t w
abbrev Any : M → Prop := fun _ => True
section
variable {K : PySem.W.Frag} {H : Hp} {μ : M} {a b : Addr} {vs ws : List V} {ds es : List D}
theorem itd_list (hs : SqL K (hid H μ) a vs) (r : RA K (hid H μ) vs ds) : ItD K H μ (Itl K a) ds Any := by
  refine ⟨_, _, by rw [← r.length]; exact walk_list, fun H1 μ1 m _ _ => hid_sub.seq (m.seq hs), fun i x H1 μ1 H2 _ m mr _ y => ?_⟩
  obtain ⟨e1, e2⟩ := y
  subst e1
  obtain ⟨d, h1, h2⟩ := r.get' e2
  exact ⟨d, h1, .refl mr, h2.mono m⟩
theorem itd_tup (hs : SqT K (hid H μ) a vs) (r : RA K (hid H μ) vs ds) : ItD K H μ (Itt K a) ds Any := by
  refine ⟨_, _, by rw [← r.length]; exact walk_tup, fun H1 μ1 m _ _ => same_t hid_sub (same_t m hs), fun i x H1 μ1 H2 _ m mr _ y => ?_⟩
  obtain ⟨e1, e2⟩ := y
  subst e1
  obtain ⟨d, h1, h2⟩ := r.get' e2
  exact ⟨d, h1, .refl mr, h2.mono m⟩
/-- a list behind a handle: as long as it stands as it is -/
theorem itd_obj (m : MR K H μ) (h : μ a = some (.lst ds)) : ItD K H μ (Itl K a) ds (fun μ' => μ' a = some (.lst ds)) := by
  obtain ⟨vs, e, r⟩ := m a _ h
  refine ⟨fun H1 => ∃ vs1, H1 a = some (.lst vs1) ∧ vs1.length = ds.length, fun i H1 x H2 => H2 = H1 ∧ ∃ vs1, H1 a = some (.lst vs1) ∧ vs1[i]? = some x, ⟨fun i H1 hi ⟨vs1, e1, el⟩ => ?_, fun H1 ⟨vs1, e1, el⟩ => ?_, fun i H1 x H2 hi ⟨vs1, e1, el⟩ y => ?_⟩, fun H1 μ1 _ mr g => ?_, fun i x H1 μ1 H2 hi _ mr g y => ?_⟩
  · exact ⟨vs1, vs1[i]'(by omega), SqL.of e1, by simp [show i < vs1.length by omega]⟩
  · exact ⟨vs1, SqL.of e1, by omega⟩
  · exact ⟨y.1, vs1, e1, y.2 vs1 (SqL.of e1)⟩
  · obtain ⟨vs1, e1, r1⟩ := mr a _ g
    exact ⟨vs1, e1, r1.length⟩
  · obtain ⟨e0, vs1, e1, e2⟩ := y
    subst e0
    obtain ⟨vs2, e3, r2⟩ := mr a _ g
    rw [e1] at e3
    cases e3
    obtain ⟨d, h1, h2⟩ := r2.get' e2
    exact ⟨d, h1, .refl mr, h2⟩
def intsD (lo : Int) (n : Nat) : List D := (List.range n).map fun i => .int (lo + (i : Nat))
theorem intsD_len (lo : Int) (n : Nat) : (intsD lo n).length = n := by simp [intsD]
theorem itd_range {lo : Int} {n : Nat} : ItD K H μ (Itr lo n) (intsD lo n) Any := by
  refine ⟨_, _, by rw [intsD_len]; exact walk_range, fun _ _ _ _ _ => True.intro, fun i x H1 μ1 H2 hi m mr _ y => ?_⟩
  obtain ⟨e1, e2⟩ := y
  subst e1 e2
  rw [intsD_len] at hi
  exact ⟨_, by simp [intsD, hi], .refl mr, .int _⟩
def pairs (ds es : List D) : List D := (ds.zip es).map fun p => .tup [p.1, p.2]
theorem pair_of {T : Addr} {x y : V} {d e : D} (m : MR K H μ) (hT : H T = none) (r1 : R K (hid H μ) x d) (r2 : R K (hid H μ) y e) : Mv K H μ (upd H T (.tup [x, y])) μ ∧ R K (hid (upd H T (.tup [x, y])) μ) (.ref T) (.tup [d, e]) := by
  have m2 := Mv.new (o := .tup [x, y]) m hT
  exact ⟨m2, .tup (SqT.of (hid_new (m.fresh hT))) (.cons (r1.mono m2.sm) (.cons (r2.mono m2.sm) .nil))⟩
def enum (ds : List D) : List D := (ds.zipIdx).map fun p => .tup [.int (p.2 : Nat), p.1]
theorem itd_enum (hs : SqL K (hid H μ) a vs) (r : RA K (hid H μ) vs ds) : ItD K H μ (Ite K a) (enum ds) Any := by
  have hl : (enum ds).length = vs.length := by rw [r.length]; simp [enum]
  refine ⟨_, _, by rw [hl]; exact walk_enum, fun H1 μ1 m _ _ => hid_sub.seq (m.seq hs), fun i x H1 μ1 H2 _ m mr _ y => ?_⟩
  obtain ⟨T, x1, x2, e0, e1, e2, e3, e4⟩ := y
  subst e0 e2
  obtain ⟨d, h1, h2⟩ := r.get' e4
  cases e3
  obtain ⟨m2, r2⟩ := pair_of mr e1 (.int (i : Nat)) (h2.mono m)
  exact ⟨_, by simp [enum, h1], m2, r2⟩
theorem itd_zip (hs : SqL K (hid H μ) a vs) (r : RA K (hid H μ) vs ds) (hs2 : SqL K (hid H μ) b ws) (r2 : RA K (hid H μ) ws es) : ItD K H μ (Itz K a b) (pairs ds es) Any := by
  have hl : (pairs ds es).length = min vs.length ws.length := by rw [r.length, r2.length]; simp [pairs]
  refine ⟨fun H => SqL K H a vs ∧ SqL K H b ws, YPair (fun i => vs[i]?) (fun i => ws[i]?), by rw [hl]; exact walk_zip rfl, fun H1 μ1 m _ _ => ⟨hid_sub.seq (m.seq hs), hid_sub.seq (m.seq hs2)⟩, fun i x H1 μ1 H2 _ m mr _ y => ?_⟩
  obtain ⟨T, x1, x2, e0, e1, e2, e3, e4⟩ := y
  subst e0 e2
  obtain ⟨d, h1, h2⟩ := r.get' e3
  obtain ⟨d2, h3, h4⟩ := r2.get' e4
  obtain ⟨m2, rr⟩ := pair_of mr e1 (h2.mono m) (h4.mono m)
  refine ⟨.tup [d, d2], ?_, m2, rr⟩
  have hz : (ds.zip es)[i]? = some (d, d2) := List.getElem?_zip_eq_some.mpr ⟨h1, h3⟩
  simp only [pairs, List.getElem?_map, hz, Option.map_some]
end
section
variable {X : Cx} {W : WX} {tg e : Expr} {te : TE} {we : DW} {p pos : Pos}
/-- over a list (written, read-only, or behind a handle) or a tuple -/
def iSeq (K : PySem.W.Frag) (tl : TE) : TI := fun σ H R => tl σ H fun x H1 => ∃ a, x = .ref a ∧ (((∃ xs, SqL K H1 a xs) ∧ R (Itl K a) H1) ∨ ((∃ xs, SqT K H1 a xs) ∧ R (Itt K a) H1))
theorem pi_seq {l : Expr} {tl : TE} (hl : PE X l tl) : PI X tg l (iSeq X.K tl) := by
  refine ⟨fun pins s σ H R I h => ?_⟩
  refine thn (hl.run pins s σ H _ I h) fun v s1 ⟨x, H1, I1, r1, a, e, q⟩ => ?_
  subst e
  cases r1
  have fp : ∀ b ∈ [s1.heap.objs.size], FpOk X pins H1 b := fun b hb => by
    rw [show b = s1.heap.objs.size by simpa using hb]
    exact I1.fpOk (Nat.le_refl _) (I1.hok.fresh (Nat.le_refl _))
  rcases q with ⟨⟨xs, hq⟩, q⟩ | ⟨⟨xs, hq⟩, q⟩
  · obtain ⟨its, rv, pl, hz⟩ := I1.list hq
    exact wpAny_pyIter_list pl.isList ⟨_, [s1.heap.objs.size], _, _, H1, rfl, I1.kept (t' := s1.toks) fun b o e => Heap.get?_push_of_some _ e, turn_list a _, ⟨_, Heap.get?_push_size _ rfl, rfl, rfl⟩, fp, q⟩
  · obtain ⟨its, rv, pl, hz⟩ := I1.tuple hq
    exact wpAny_pyIter_tuple (show s1.heap.IsTuple a its.toArray from pl) ⟨_, [s1.heap.objs.size], _, _, H1, rfl, I1.kept (t' := s1.toks) fun b o e => Heap.get?_push_of_some _ e, turn_tuple a _, ⟨_, Heap.get?_push_size _ rfl, rfl, rfl⟩, fp, q⟩
def wISeq (we : DW) : DI := fun δ μ Q F => we δ μ (fun d μ1 => (∃ ds, (d = .lst ds ∨ d = .ro ds ∨ d = .tup ds) ∧ Q ds Any μ1) ∨ ∃ a ds, d = .obj a ∧ μ1 a = some (.lst ds) ∧ Q ds (fun μ' => μ' a = some (.lst ds)) μ1) F
theorem pdi_seq (h : PD X W e te we) : PDI X W tg e (iSeq X.K te) (wISeq we) := by
  refine ⟨pi_seq h.pe, fun σ δ H μ Q Qd F S q kQ kF => h.le σ δ H μ _ _ F S q (fun v d H1 μ1 m1 r1 q1 => ?_) kF⟩
  rcases q1 with ⟨ds, e, q1⟩ | ⟨a, ds, e, hm, q1⟩
  · rcases e with e | e | e
    · subst e
      cases r1 with
      | lst h1 ra => exact ⟨_, rfl, .inl ⟨⟨_, SqL.of (hid_some.mp h1).2⟩, kQ _ _ _ H1 μ1 m1 (itd_list (SqL.of h1) ra) q1⟩⟩
    · subst e
      cases r1 with
      | ro h1 ra => exact ⟨_, rfl, .inl ⟨⟨_, hid_sub.seq h1⟩, kQ _ _ _ H1 μ1 m1 (itd_list h1 ra) q1⟩⟩
    · subst e
      cases r1 with
      | tup h1 ra => exact ⟨_, rfl, .inr ⟨⟨_, same_t hid_sub h1⟩, kQ _ _ _ H1 μ1 m1 (itd_tup h1 ra) q1⟩⟩
  · subst e
    obtain ⟨vs, h1, _⟩ := m1.mr a _ hm
    exact ⟨a, r1.obj_inv, .inl ⟨⟨vs, SqL.of h1⟩, kQ _ _ _ H1 μ1 m1 (itd_obj m1.mr hm) q1⟩⟩
def wIRng1 (wa : DA) : DI := fun δ μ Q F => wa δ μ (fun ds μ1 => ∃ j : Int, ds = [.int j] ∧ -(2 ^ 62) ≤ j ∧ j < 2 ^ 62 ∧ Q (intsD 0 j.toNat) Any μ1) F
def wIRng2 (wa : DA) : DI := fun δ μ Q F => wa δ μ (fun ds μ1 => ∃ i j : Int, ds = [.int i, .int j] ∧ (-(2 ^ 62) ≤ i ∧ i < 2 ^ 62 ∧ -(2 ^ 62) ≤ j ∧ j < 2 ^ 62) ∧ Q (intsD i (j - i).toNat) Any μ1) F
theorem pdi_range1 {a : Expr} {ta : TA} {wa : DA} (hm : X.mg "range" = none) (ha : PDA X W [a] ta wa) (hg : Gl X "range" := by rfl) (hs : starEach [a] X.env = [(false, eval a X.env)] := by rfl) : PDI X W tg (.Call (.Name "range" p) [a] [] pos) (iRng1 ta) (wIRng1 wa) := by
  refine ⟨pi_range1 hg hm ha.pa hs, fun σ δ H μ Q Qd F S q kQ kF => ha.la σ δ H μ _ _ F S q (fun vs ds H1 μ1 m1 r1 q1 => ?_) kF⟩
  obtain ⟨j, e, h1, h2, q1⟩ := q1
  subst e
  obtain ⟨v, rfl, rv⟩ := ra1 r1
  exact ⟨j, by rw [rv.int_inv], h1, h2, kQ _ _ _ H1 μ1 m1 itd_range q1⟩
theorem pdi_range2 {a b : Expr} {ta : TA} {wa : DA} (hm : X.mg "range" = none) (ha : PDA X W [a, b] ta wa) (hg : Gl X "range" := by rfl) (hs : starEach [a, b] X.env = [(false, eval a X.env), (false, eval b X.env)] := by rfl) (hs2 : starEach [b] X.env = [(false, eval b X.env)] := by rfl) : PDI X W tg (.Call (.Name "range" p) [a, b] [] pos) (iRng2 ta) (wIRng2 wa) := by
  refine ⟨pi_range2 hg hm ha.pa hs hs2, fun σ δ H μ Q Qd F S q kQ kF => ha.la σ δ H μ _ _ F S q (fun vs ds H1 μ1 m1 r1 q1 => ?_) kF⟩
  obtain ⟨i, j, e, h1, q1⟩ := q1
  subst e
  obtain ⟨v, w, rfl, rv, rw'⟩ := ra2 r1
  exact ⟨i, j, by rw [rv.int_inv, rw'.int_inv], h1, kQ _ _ _ H1 μ1 m1 itd_range q1⟩
/-- enumerate of a written list, zip of two -/
def wIEnum (wa : DA) : DI := fun δ μ Q F => wa δ μ (fun ds μ1 => ∃ xs, (ds = [.lst xs] ∨ ds = [.ro xs]) ∧ Q (enum xs) Any μ1) F
def wIZip (wa : DA) : DI := fun δ μ Q F => wa δ μ (fun ds μ1 => ∃ xs ys, ds = [.lst xs, .lst ys] ∧ Q (pairs xs ys) Any μ1) F
theorem pdi_enum {a : Expr} {ta : TA} {wa : DA} {tpos : Pos} {elts : List Expr} {kk : Nat} (hm : X.mg "enumerate" = none) (ha : PDA X W [a] ta wa) (hg : Gl X "enumerate" := by rfl) (hs : starEach [a] X.env = [(false, eval a X.env)] := by rfl) : PDI X W (.Tuple elts kk tpos) (.Call (.Name "enumerate" p) [a] [] pos) (iEnum X.K ta) (wIEnum wa) := by
  refine ⟨pi_enum hg hm ha.pa hs, fun σ δ H μ Q Qd F S q kQ kF => ha.la σ δ H μ _ _ F S q (fun vs ds H1 μ1 m1 r1 q1 => ?_) kF⟩
  obtain ⟨xs, e, q1⟩ := q1
  rcases e with e | e
  · subst e
    obtain ⟨v, rfl, rv⟩ := ra1 r1
    cases rv with
    | lst h1 ra => exact ⟨_, _, rfl, SqL.of (hid_some.mp h1).2, kQ _ _ _ H1 μ1 m1 (itd_enum (SqL.of h1) ra) q1⟩
  · subst e
    obtain ⟨v, rfl, rv⟩ := ra1 r1
    cases rv with
    | ro h1 ra => exact ⟨_, _, rfl, hid_sub.seq h1, kQ _ _ _ H1 μ1 m1 (itd_enum h1 ra) q1⟩
theorem pdi_zip {a b : Expr} {ta : TA} {wa : DA} {tpos : Pos} {elts : List Expr} {kk : Nat} (hm : X.mg "zip" = none) (ha : PDA X W [a, b] ta wa) (hg : Gl X "zip" := by rfl) (hs : starEach [a, b] X.env = (false, eval a X.env) :: starEach [b] X.env := by rfl) (hpl : (backTo pos (starEach [b] X.env)).any (·.1) = false := by rfl) : PDI X W (.Tuple elts kk tpos) (.Call (.Name "zip" p) [a, b] [] pos) (iZip X.K ta) (wIZip wa) := by
  refine ⟨pi_zip hg hm ha.pa hs hpl, fun σ δ H μ Q Qd F S q kQ kF => ha.la σ δ H μ _ _ F S q (fun vs ds H1 μ1 m1 r1 q1 => ?_) kF⟩
  obtain ⟨xs, ys, e, q1⟩ := q1
  subst e
  obtain ⟨v, w, rfl, rv, rw'⟩ := ra2 r1
  cases rv with
  | lst h1 ra =>
    cases rw' with
    | lst h2 rb => exact ⟨_, _, _, _, rfl, SqL.of (hid_some.mp h1).2, SqL.of (hid_some.mp h2).2, kQ _ _ _ H1 μ1 m1 (itd_zip (SqL.of h1) ra (SqL.of h2) rb) q1⟩

/-! ### for -/
def wLoop (Gd : M → Prop) (tg : DG) (body : DS) : List D → DS
  | [], D, _, δ, μ => Gd μ ∧ D.nx δ μ
  | d :: ds, D, F, δ, μ => Gd μ ∧ tg d δ μ fun δ1 μ1 => body { D with nx := fun δ2 μ2 => wLoop Gd tg body ds D F δ2 μ2, ct := fun δ2 μ2 => wLoop Gd tg body ds D F δ2 μ2, bk := D.nx } F δ1 μ1
theorem wLoop_g {Gd : M → Prop} {tg : DG} {body : DS} {ds : List D} {D : DE} {F : FK} {δ : DSt} {μ : M} (h : wLoop Gd tg body ds D F δ μ) : Gd μ := by
  cases ds <;> exact h.1
def wFor (wi : DI) (tg : DG) (body : DS) : DS := fun D F δ μ => wi δ μ (fun ds Gd μ1 => wLoop Gd tg body ds D F δ μ1) F
theorem pds_for {iter : Expr} {body : List Stmt} {wi : TI} {di : DI} {g : TG} {dg : DG} {sl : List Nat} {tb : TS} {db : DS} (hp : PassesOwn (model X.prog X.w) X.A X.env X.xe) (hc : X.calm = true) (hi : PDI X W tg iter wi di) (hg : PDG X tg g dg sl) (hb : PDB X W body tb db) (hs : ∀ x, foldedSetIterable iter X.env x = pure x := by intro _; rfl) :
    PDS X W (.For tg iter body [] pos) (tFor wi g tb) (wFor di dg db) := by
  refine ⟨ps_for hp hc hi.pi hg.pg hb.pss hs, fun G0 σ δ H μ D Dd F g0 S q k => hi.li σ δ H μ _ _ F S q (fun J ds Gd H1 μ1 m1 it q1 => ?_) (k.ex1 g0)⟩
  obtain ⟨G, Y, wk, gG, gY⟩ := it
  refine for_it wk (fun i σ' H' => ∃ δ' μ', Same (hid H1 μ1) (hid H' μ') ∧ SD X.K σ' δ' H' μ' ∧ wLoop Gd dg db (ds.drop i) Dd F δ' μ') ⟨δ, μ1, Same.refl _, S.step m1, q1⟩ ?_ ?_ ?_
  · rintro i σ' H' _ ⟨δ', μ', sm, S', q'⟩
    exact gG H' μ' sm S'.mr (wLoop_g q')
  · rintro i x σ' H' H2 hi ⟨δ', μ', sm, S', q'⟩ y
    obtain ⟨d, e1, m2, r2⟩ := gY i x H' μ' H2 hi sm S'.mr (wLoop_g q') y
    have ed : ds.drop i = d :: ds.drop (i + 1) := by
      obtain ⟨h1, h2⟩ := List.getElem?_eq_some_iff.mp e1
      rw [List.drop_eq_getElem_cons h1, h2]
    rw [ed] at q'
    refine hg.lg σ' δ' H2 μ' x d _ _ (S'.step m2) r2 q'.2 fun σ3 δ3 H3 μ3 m3 S3 _ q3 => ?_
    have g3 : Same (hid H1 μ1) (hid H3 μ3) := sm.trans (m2.sm.trans m3)
    refine hb.ls (hid H1 μ1) σ3 δ3 H3 μ3 _ _ F g3 S3 q3 ⟨?_, ?_, ?_, ?_, ?_⟩
    · exact fun σ4 δ4 H4 μ4 g4 S4 q4 => ⟨δ4, μ4, g4, S4, q4⟩
    · exact fun v d H4 μ4 g4 mr r q4 => k.rt v d H4 μ4 ((g0.trans m1.sm).trans g4) mr r q4
    · exact fun σ4 δ4 H4 μ4 g4 S4 q4 => k.nx σ4 δ4 H4 μ4 ((g0.trans m1.sm).trans g4) S4 q4
    · exact fun σ4 δ4 H4 μ4 g4 S4 q4 => ⟨δ4, μ4, g4, S4, q4⟩
    · exact fun cls dd er σ4 H4 μ4 g4 mr r f => k.er cls dd er σ4 H4 μ4 ((g0.trans m1.sm).trans g4) mr r f
  · rintro σ' H' ⟨δ', μ', sm, S', q'⟩
    rw [List.drop_length] at q'
    exact k.nx σ' δ' H' μ' ((g0.trans m1.sm).trans sm) S' q'.2

/-! ### while -/
def wRun (c : DT) (body : DS) : Nat → DS
  | 0, _, _, _, _ => False
  | n + 1, D, F, δ, μ => c δ μ (fun k μ1 => if k = true then body { D with nx := fun δ2 μ2 => wRun c body n D F δ2 μ2, ct := fun δ2 μ2 => wRun c body n D F δ2 μ2, bk := D.nx } F δ μ1 else D.nx δ μ1) F
def wWhile (c : DT) (body : DS) : DS := fun D F δ μ => ∃ n, wRun c body n D F δ μ
theorem pds_while {c : Expr} {body : List Stmt} {tc : TT} {dc : DT} {tb : TS} {db : DS} (hp : PassesOwn (model X.prog X.w) X.A X.env X.xe) (hc : PDT X W c tc dc) (hb : PDB X W body tb db) : PDS X W (.While c body [] pos) (tWhile tc tb) (wWhile dc db) := by
  refine ⟨ps_while hp hc.pt hb.pss, fun G0 σ δ H μ D Dd F g0 S q k => ?_⟩
  obtain ⟨n, q⟩ := q
  refine ⟨fun n σ' H' => ∃ δ' μ', Same G0 (hid H' μ') ∧ SD X.K σ' δ' H' μ' ∧ wRun dc db n Dd F δ' μ', ⟨n, δ, μ, g0, S, q⟩, ?_⟩
  rintro m σ' H' ⟨δ', μ', g', S', q'⟩
  cases m with
  | zero => exact False.elim q'
  | succ m =>
    refine hc.lt σ' δ' H' μ' _ _ F S' q' (fun b H1 μ1 m1 q1 => ?_) (k.ex1 g')
    cases b with
    | false => exact k.nx σ' δ' H1 μ1 (g'.trans m1.sm) (S'.step m1) q1
    | true =>
      refine ⟨fun σ2 H2 => ∃ δ2 μ2, Same G0 (hid H2 μ2) ∧ SD X.K σ2 δ2 H2 μ2 ∧ wRun dc db m Dd F δ2 μ2, fun σ2 H2 z => ⟨m, Nat.lt_succ_self m, z⟩, ?_⟩
      exact hb.ls G0 σ' δ' H1 μ1 _ _ F (g'.trans m1.sm) (S'.step m1) q1 ⟨fun σ2 δ2 H2 μ2 g2 S2 q2 => ⟨δ2, μ2, g2, S2, q2⟩, k.rt, fun σ2 δ2 H2 μ2 g2 S2 q2 => k.nx σ2 δ2 H2 μ2 g2 S2 q2, fun σ2 δ2 H2 μ2 g2 S2 q2 => ⟨δ2, μ2, g2, S2, q2⟩, k.er⟩
end

/-! ### a def of the text -/
/-- what the top has written of the def x -/
structure DefD (K : PySem.W.Frag) (mg : Str → Option Value) (x : Str) (st : Stmt) : Prop where
  ex : ∃ (f : Addr) (oc : Value) (od : Option Addr) (kV doc pm : Value) (an : Option Addr) (cdv ct : Value) (osl : Array (Option Value)), mg x = some (.ref f) ∧ PySem.W.keepIn K (.ref f) = true ∧
    K.lookup f = some ⟨oc, od, .func (PySem.W.fnOf x x (defArgs st) (defBody st) (defScope st) .none kV doc pm an cdv ct), osl⟩ ∧ PySem.W.codeIn K cdv x = true
def dstart (N : List Str) (ds : List D) : DSt := ds.map some ++ List.replicate (N.length - ds.length) none
theorem sd_start {K : PySem.W.Frag} {H : Hp} {μ : M} {N : List Str} {vs : List V} {ds : List D} (m : MR K H μ) (r : RA K (hid H μ) vs ds) : SD K (L2.start N vs) (dstart N ds) H μ := by
  refine ⟨fun i d h => ?_, m, by unfold L2.start dstart; simp [r.length]⟩
  unfold dstart at h
  by_cases hi : i < ds.length
  · rw [List.getElem?_append_left (by simpa using hi), List.getElem?_map] at h
    cases e : ds[i]? with
    | none => rw [e] at h; cases h
    | some d' =>
      rw [e] at h
      cases h
      obtain ⟨v, h1, h2⟩ := r.get e
      refine ⟨v, ?_, h2⟩
      unfold L2.start
      rw [List.getElem?_append_left (by simp; rw [r.length]; exact hi), List.getElem?_map, h1] <;> rfl
  · rw [List.getElem?_append_right (by simpa using hi), List.getElem?_replicate] at h
    split at h <;> cases h
abbrev WD (E : XK) : WX := fun cls d _ H => E cls d H
/-- a def's context -/
abbrev cxD (P : Program) (w : World) (K : PySem.W.Frag) (mg : Str → Option Value) (base : Heap) (N : List Str) (qual : Str) (sc : Scope) (f : Addr) (cdv : Value) (A : Around) (outer : List Env) (s : Shared) (H : Hp) (E : XK) : Cx :=
  cxOf (L2.CX P w) P w K mg base N qual sc f cdv A outer s H E
section
variable {P : Program} {w : World} {K : PySem.W.Frag} {mg : Str → Option Value} {base : Heap} {k : Nat} {wp : DF} {x : Str}
theorem ct_of {N : List Str} {qual : Str} {sc : Scope} {f : Addr} {cdv : Value} {A : Around} {outer : List Env} {s : Shared} {H : Hp} {E : XK} (hg : A.guards = some []) (hr : Room k (A.deeper (envOfC qual sc s.heap.objs.size f cdv))) : Ct (cxD P w K mg base N qual sc f cdv A outer s H E) (WD E) k :=
  ⟨takes_of rfl rfl rfl rfl, hg, hr, rfl⟩
/-- THE RULE: a def by its body. all its parameters given -/
theorem cal_of {st : Stmt} {N ps : List Str} {wb : DS} (D : DefD K mg x st) (S : FnScope N ps (defScope st))
    (hb : ∀ (kV doc pm : Value) (an : Option Addr) (cdv ct : Value) (us : List Value), us.length = ps.length → bindArgs (PySem.W.fnOf x x (defArgs st) (defBody st) (defScope st) .none kV doc pm an cdv ct) ⟨us, []⟩ = pure (ps.zip us))
    (body : ∀ (f : Addr) (cdv : Value) (A : Around) (outer : List Env) (s : Shared) (H : Hp) (E : XK), Ct (cxD P w K mg base N x (defScope st) f cdv A outer s H E) (WD E) k → ∃ t, PDB (cxD P w K mg base N x (defScope st) f cdv A outer s H E) (WD E) (defBody st) t wb)
    (h : ∀ ds μ Q F, wp ds μ Q F → ds.length = ps.length ∧ wb { nx := fun _ μ' => Q .non μ', rt := Q } F (dstart N ds) μ) : CalD P w K mg base (k + 1) x wp := by
  obtain ⟨f, oc, od, kV, doc, pm, an, cdv, ct, osl, hm, kp, lk, hcd⟩ := D.ex
  refine ⟨f, hm, kp, fun A outer s H us vs Q E hg hr e0 r sp => ?_⟩
  obtain ⟨ds, μ, Qd, F, ra, mr, q, kQ, kF⟩ := sp
  obtain ⟨hl, q⟩ := h ds μ Qd F q
  have hv : vs.length = ps.length := by rw [ra.length, hl]
  refine LamX.run_ofS (N := N) (ps := ps) (us := us) (vs := vs) lk hcd S hr e0 (.of_eq (hb _ _ _ _ _ _ us (by rw [← r.length, hv]))) r hv fun hr' => ?_
  obtain ⟨t, hb⟩ := body f cdv A outer s H E (ct_of hg hr')
  refine ⟨t, hb.pss, hb.ls (hid H μ) _ _ H μ _ _ F (Same.refl _) (sd_start mr ra) q ⟨fun σ δ H' μ' g S' q' => kQ .non .non H' μ' ⟨g, S'.mr⟩ .non q', fun v d H' μ' g m r q' => kQ v d H' μ' ⟨g, m⟩ r q', fun _ _ _ _ _ _ z => z, fun _ _ _ _ _ _ z => z, fun cls dd er σ H' μ' g m r f => kF cls dd er H' μ' ⟨g, m⟩ r f⟩⟩
end
end DL

set_option maxHeartbeats 2000000
namespace DL
open PySem PySem.Spec PyProof.Rows L2

/-! ### an own exception with an own __init__ -/
/-- B.__init__(self, ..), B an own class over ValueError that has none of its own -/
theorem pe_ceinit {X : Cx} {B : Addr} {mc : Value} {x : Str} {p1 p2 pos : Pos} {e : Expr} {es : List Expr} {ta : TA} {pl : Sem Bool} (hm : X.mg x = some (.ref B)) (r : ClX.CRead X.K B mc) (vB : PySem.W.findCls X.K (.ref B) mc "__init__" = some (.val (.builtin "ValueError.__init__"))) (ha : PA X (e :: es) ta) (hg : Gl X x := by rfl)
    (hdb : (x == ("__debug__" : Str)) = false := by decide)
    (hc : eval (.Call (.Attribute (.Name x p1) "__init__" p2) (e :: es) [] pos) X.env = (do
      let ov ← eval (.Name x p1) X.env
      standAt p2.atName
      let (f, first) ← holding [ov] (getMethod ov "__init__" pl)
      callWith pos f first (backTo pos (starEach (e :: es) X.env)) (backToKw pos (keywordEach [] X.env))) := by rfl)
    (he : starEach (e :: es) X.env = (false, eval e X.env) :: starEach es X.env := by rfl) (hpl : (backTo pos (starEach es X.env)).any (·.1) = false := by rfl) :
    PE X (.Call (.Attribute (.Name x p1) "__init__" p2) (e :: es) [] pos) (tVeI X.K ta) := by
  refine ⟨fun pins s σ H Q I h => ?_⟩
  refine PySem.W.methodCall_KW (ld_glob I hg hm ?_ hdb) hc
  refine PySem.W.method_cls I.kIn r.ga (PySem.W.cls_value I.kIn r.rd vB rfl ?_)
  show wpAny _ _ (callWith pos (Value.builtin "ValueError.__init__") [] (backTo pos (starEach (e :: es) X.env)) []) _ _ _
  refine PyProof.Rows.callWith_method1 (thn (ha.run pos pins _ σ H _ (I.tok _) h) fun us s1 ⟨vs, H1, I1, r1, a, C, ws, ev, hl, T, ea, q⟩ => ?_) he hpl
  subst ev
  cases r1 with
  | @cons _ u0 _ ur ra rw' =>
    obtain rfl : u0 = Value.ref a := ra
    have hlen : ur.length ≤ sizeLine := by
      rw [← Paired.length rw', sizeLine_eq]
      omega
    exact oinit_ok T I1 ea hlen fun s' J => ⟨.non, H1, J, rfl, q⟩
/-- what the __init__ of the class at C promises: the fields ns are set -/
def spI (C : Addr) (ns : List Str) : Sp := fun vs H Q _ => ∃ (a : Addr) (ws : List V), vs = .ref a :: ws ∧ ws.length = ns.length ∧ H a = some (exo a C none) ∧
  ∀ (d : Addr) (H' : Hp), H d = none → d ≠ a → H' a = some (exo a C (some d)) → H' d = some (exd d (ns.zip ws).reverse) → (∀ b, b ≠ a → b ≠ d → H' b = H b) → Q .non H'
/-- x names the class at C, whose instances are made of the fields ns -/
structure ExcD (P : Program) (w : World) (K : PySem.W.Frag) (mg : Str → Option Value) (base : Heap) (k : Nat) (x : Str) (C : Addr) (ns : List Str) : Prop where
  T : OexC K C
  ex : ∃ (fI : Addr) (fd : FuncData) (ps : List Str), PySem.W.findIn K (.ref C) "__init__" = some (some (.ref fI)) ∧ PySem.W.typeIn K (.ref fI) = some (.type "function") ∧ FnOk P w K mg base CX0 k fI fd ps (spI C ns) ∧ Binds K fd ps []
  gC : mg x = some (.ref C)
section
variable {P : Program} {w : World} {K : PySem.W.Frag} {mg : Str → Option Value} {base : Heap} {C fI : Addr} {x q f g z : Str} {st : Stmt} {fd : FuncData}
theorem excd1 (F : Fun K "__init__" q st fI fd) (T : OexC K C) (iC : PySem.W.findIn K (.ref C) "__init__" = some (some (.ref fI))) (tI : PySem.W.typeIn K (.ref fI) = some (.type "function")) (gC : mg x = some (.ref C)) (no : PySem.W.findIn K (.ref C) f = some none)
    (S : FnScope ["self", f] ["self", f] (defScope st)) (hb : Binds K fd ["self", f] [])
    (body : ∀ (cdv : Value) (A : Around) (outer : List Env) (s : Shared) (H : Hp) (E : XK), PSs (cxOf CX0 P w K mg base ["self", f] q (defScope st) fI cdv A outer s H E).nox (defBody st) (tSeq (tDrop (tVeI K (tCons (tVar 0) (tCons (tC (.str z)) tNil)))) (tOst K f (tVar 0) (tVar 1)))) : ExcD P w K mg base 1 x C [f] := by
  refine ⟨T, ⟨fI, fd, ["self", f], iC, tI, F.ok S (fun vs H Q E h => ?_) (fun cdv A outer s H vs Q E _ h => ⟨_, body cdv A outer s H E, ?_⟩), hb⟩, gC⟩
  · obtain ⟨a, ws, rfl, hl, _⟩ := h
    simp only [List.length_cons, hl, List.length_nil]
  · obtain ⟨a, ws, rfl, hl, ha, k⟩ := h
    match ws, hl with
    | [v], _ =>
      refine ⟨_, rfl, a, C, _, rfl, (by decide : 1 ≤ 1000), T, ha, _, rfl, _, rfl, a, C, rfl, T, no, .inl ⟨ha, fun dx n ne => k dx _ n ne upd_same (by rw [upd_ne ne, upd_same]; rfl) fun b h1 h2 => by rw [upd_ne h1, upd_ne h2]⟩⟩
theorem excd2 (F : Fun K "__init__" q st fI fd) (T : OexC K C) (iC : PySem.W.findIn K (.ref C) "__init__" = some (some (.ref fI))) (tI : PySem.W.typeIn K (.ref fI) = some (.type "function")) (gC : mg x = some (.ref C)) (no : PySem.W.findIn K (.ref C) f = some none) (no2 : PySem.W.findIn K (.ref C) g = some none)
    (S : FnScope ["self", f, g] ["self", f, g] (defScope st)) (hb : Binds K fd ["self", f, g] [])
    (body : ∀ (cdv : Value) (A : Around) (outer : List Env) (s : Shared) (H : Hp) (E : XK), PSs (cxOf CX0 P w K mg base ["self", f, g] q (defScope st) fI cdv A outer s H E).nox (defBody st) (tSeq (tDrop (tVeI K (tCons (tVar 0) (tCons (tC (.str z)) tNil)))) (tSeq (tOst K f (tVar 0) (tVar 1)) (tOst K g (tVar 0) (tVar 2))))) : ExcD P w K mg base 1 x C [f, g] := by
  refine ⟨T, ⟨fI, fd, ["self", f, g], iC, tI, F.ok S (fun vs H Q E h => ?_) (fun cdv A outer s H vs Q E _ h => ⟨_, body cdv A outer s H E, ?_⟩), hb⟩, gC⟩
  · obtain ⟨a, ws, rfl, hl, _⟩ := h
    simp only [List.length_cons, hl, List.length_nil]
  · obtain ⟨a, ws, rfl, hl, ha, k⟩ := h
    match ws, hl with
    | [v, u], _ =>
      refine ⟨_, rfl, a, C, _, rfl, (by decide : 1 ≤ 1000), T, ha, _, rfl, _, rfl, a, C, rfl, T, no, .inl ⟨ha, fun dx n ne => ?_⟩⟩
      refine ⟨_, rfl, _, rfl, a, C, rfl, T, no2, .inr ⟨dx, [(f, v)], upd_same, by rw [upd_ne ne, upd_same], (by show 1 ≤ 900; decide), ?_⟩⟩
      exact k dx _ n ne (by rw [upd_ne (Ne.symm ne), upd_same]) upd_same fun b h1 h2 => by rw [upd_ne h2, upd_ne h1, upd_ne h2]
end
/-- raise x(..) -/
def wRaise (C : Addr) (ns : List Str) (wa : DA) : DS := fun _ F δ μ => wa δ μ (fun ds μ1 => ds.length = ns.length ∧ F ⟨.ref C, (ns.zip ds).reverse⟩ μ1) F
theorem zip_RF {K : PySem.W.Frag} {G : Hp} : ∀ {ns : List Str} {vs : List V} {ds : List D}, RA K G vs ds → RF K G (ns.zip vs) (ns.zip ds)
  | [], _, _, _ => .nil
  | _ :: _, _, _, .nil => .nil
  | _ :: _, _, _, .cons h r => .cons h (zip_RF r)
theorem RF.append {K : PySem.W.Frag} {G : Hp} : ∀ {vs ws : List (Str × V)} {ds es : List (Str × D)}, RF K G vs ds → RF K G ws es → RF K G (vs ++ ws) (ds ++ es)
  | _, _, _, _, .nil, s => s
  | _, _, _, _, .cons h r, s => .cons h (r.append s)
theorem RF.rev {K : PySem.W.Frag} {G : Hp} : ∀ {vs : List (Str × V)} {ds : List (Str × D)}, RF K G vs ds → RF K G vs.reverse ds.reverse
  | _, _, .nil => .nil
  | _, _, .cons h r => by
    rw [List.reverse_cons, List.reverse_cons]
    exact r.rev.append (.cons h .nil)
section
variable {X : Cx} {W : WX} {k j : Nat} {x : Str} {C : Addr} {ns : List Str} {e : Expr} {es : List Expr} {ta : TA} {wa : DA} {p pos pos2 : Pos}
theorem pds_raise (c : Ct X W j) (E : ExcD X.prog X.w X.K X.mg X.base k x C ns) (ha : PDA X W (e :: es) ta wa) (hk : k + 1 ≤ j := by decide) (hg : Gl X x := by rfl) (hdb : (x == ("__debug__" : Str)) = false := by decide)
    (he : starEach (e :: es) X.env = (false, eval e X.env) :: starEach es X.env := by rfl) (hpl : (backTo pos (starEach es X.env)).any (·.1) = false := by rfl) (h1 : ns.length ≤ 1000 := by decide) :
    PDS X W (.Raise (some (.Call (.Name x p) (e :: es) [] pos)) none pos2) (fun _ σ H => tMkO C (spI C ns) [] ta σ H fun cls d H' => W cls d σ H') (wRaise C ns wa) := by
  obtain ⟨fI, fd, ps, iC, tI, F, hb⟩ := E.ex
  refine ⟨ps_raise c.calm c.tk (pmk_oex E.T iC tI F (c.hr.mono hk) hb .nil pass0 hg E.gC ha.pa hdb he hpl), fun G0 σ δ H μ D Dd F' g S q kk => ?_⟩
  refine ha.la σ δ H μ _ _ F' S q (fun vs ds H1 μ1 m1 r1 ⟨hl, q1⟩ => ⟨by rw [r1.length, hl]; exact h1, fun a na => ⟨a, vs ++ [], rfl, by rw [List.append_nil, r1.length, hl], upd_same, fun d H' hd da ea ed hb' => ⟨rfl, d, _, ea, ed, ?_, ?_⟩⟩⟩) (kk.ex1 g)
  · rw [upd_ne da] at hd
    exact hd
  · rw [upd_ne da] at hd
    have e1 : upd (del H' a) d (.xd (ns.zip (vs ++ [])).reverse) = upd H1 d (.xd (ns.zip vs).reverse) := by
      funext b
      rw [List.append_nil]
      by_cases h1 : b = d
      · rw [h1, upd_same, upd_same]
      · rw [upd_ne h1, upd_ne h1]
        by_cases h2 : b = a
        · rw [h2, del_same, na]
        · rw [del_ne h2, hb' b h2 h1, upd_ne h2]
    rw [e1]
    have m2 := Mv.new (o := .xd (ns.zip vs).reverse) m1.mr hd
    exact kk.er _ _ _ σ _ μ1 ((g.trans m1.sm).trans m2.sm) m2.mr ⟨rfl, fun b => .exc1 (hid_new (m1.mr.fresh hd)) ((zip_RF r1).rev.mono m2.sm)⟩ q1
end
end DL

set_option maxHeartbeats 2000000
namespace DL
open PySem PySem.Spec PyProof.Rows L2

/-! ### try .. except X as n (several clauses) -/
/-- a clause: the class that it names, its name's slot, its suite's reading -/
structure Cl where
  c : Value
  i : Nat
  ts : Addr → Value → Option Addr → TS
/-- the ends of a suite: its name goes -/
def Ends.gone (D : Ends) (i : Nat) : Ends := { nx := fun σ' H' => D.nx (σ'.set i none) H', rt := D.rt, bk := fun σ' H' => D.bk (σ'.set i none) H', ct := fun σ' H' => D.ct (σ'.set i none) H' }
def wCl (K : PySem.W.Frag) (Wout : WX) (D : Ends) : List Cl → WX
  | [], cls, d, σ, H => Wout cls d σ H
  | l :: r, cls, d, σ, H => ∃ b, PySem.W.exmOne K cls l.c = some b ∧ (b = true → ∀ a, H a = none → l.ts a cls d (Ends.gone D l.i) (σ.set l.i (some (.ref a))) H) ∧ (b = false → wCl K Wout D r cls d σ H)
inductive ClOk (X : Cx) : List ExceptHandler → List Cl → Prop
  | nil : ClOk X [] []
  | cons {x n : Str} {l : Cl} {b₀ : Stmt} {suite : List Stmt} {np pos' : Pos} {hds : List ExceptHandler} {ls : List Cl} (hc : Names X x l.c) (hi : X.N[l.i]? = some n) (hln : X.env.kindOf n = some .local)
      (hsu : ∀ (a : Addr) (oe : Obj) (cls : Value) (d : Option Addr) (pn : List (Addr × Obj)), Zc cls d oe → (∃ vs, oe.data = .fields vs) → PSs (X.suite a ((a, oe) :: pn)) (b₀ :: suite) (l.ts a cls d)) (r : ClOk X hds ls) :
      ClOk X (.ExceptHandler (some (.Name x np)) (some n) (b₀ :: suite) pos' :: hds) (l :: ls)
section
variable {X : Cx} {body : List Stmt} {h₀ : ExceptHandler} {hds : List ExceptHandler} {l : List Cl} {pos : Pos} {tb : WX → TS} {Wout : WX}
theorem ps_try_cl (hs : X.stack = X.env :: X.outer) (hf : X.env.frame = some X.env.locals) (hN : X.N.Nodup) (tk : Takes X Wout)
    (hb : ∀ (W : WX) (pn : List (Addr × Obj)) (xe : Value → Shared → Prop), Takes (X.tr pn xe) W → PassesOwn (model X.prog X.w) X.A X.env xe → PSs (X.tr pn xe) body (tb W))
    (hh : ClOk X (h₀ :: hds) l) : PS X (.Try body (h₀ :: hds) [] [] pos) (fun D σ H => tb (wCl X.K Wout D l) D σ H) := by
  constructor
  intro pins s σ H D I h
  have ok := I.ok
  have hfr : X.A.frames = some (X.env :: X.outer) := by rw [ok.frames, hs]
  apply wpAny_Try_except
  refine wpAny_mono ((hb (wCl X.K Wout D l) (X.pn ++ pins) (fun e s₁ => wpAny (model X.prog X.w) X.A (noteFrame e X.env) (fun _ s₂ => wpAny (model X.prog X.w) X.A (setFlight e none) (fun _ s₃ =>
    wpAny (model X.prog X.w) X.A (handleBy e X.env (h₀ :: hds)) (SP X pins D) X.xe s₃) X.xe s₂) X.xe s₁) (fun u s' xx => ?c) PassesOwn.looking).run [] s σ H D (I.toTry _) h) (fun f s1 hsp => ?n) (fun e s1 he => he)
  case n =>
    cases f with
    | next =>
      obtain ⟨σ', H', J, q⟩ := hsp
      exact wpAny_execs_nil ⟨σ', H', J.ofTry ok, q⟩
    | ret u =>
      obtain ⟨v, σ', H', J, r, q⟩ := hsp
      exact ⟨v, σ', H', J.ofTry ok, r, q⟩
    | brk =>
      obtain ⟨σ', H', J, q⟩ := hsp
      exact ⟨σ', H', J.ofTry ok, q⟩
    | cont =>
      obtain ⟨σ', H', J, q⟩ := hsp
      exact ⟨σ', H', J.ofTry ok, q⟩
  case c =>
    obtain ⟨a, B, sI, pins', σ', H', cls, d, rfl, J', nb, up, sky, na, os, ag, w⟩ := xx
    have J : Inv X pins σ' H' sI := J'.ofTry ok
    refine Sky.land Zc.steady hfr hf (L := X.env.locals) (B := B) (a := a) (Z := Zc cls d) (by rw [← hs]; exact sky) fun h3 fl3 up3 => ?_
    have J3 : Inv X pins σ' H' { s' with heap := h3 } := J.landed nb fl3.1 (up.trans up3) os ag
    obtain ⟨oe3, vs3, he3, hz3, hd3⟩ := fl3.there
    have nfr : a ∉ frs (X.env :: X.outer) := fun hm => by
      obtain ⟨_, o', e', hnf⟩ := fl3.2.2.1.mem hm
      rw [he3] at e'
      cases e'
      exact hnf _ hd3
    have nL : a ≠ X.env.locals := fun z => nfr (List.mem_filterMap.mpr ⟨X.env, List.mem_cons_self, by rw [hf, z]⟩)
    have nF : a ∉ X.fs := fun hm => by
      obtain ⟨e, he, q⟩ := List.mem_filterMap.mp hm
      exact nfr (List.mem_filterMap.mpr ⟨e, List.mem_cons_of_mem _ he, q⟩)
    have S3 := J3.suite he3 hd3 na nL nF
    have LT : PySem.W.Looks (model X.prog X.w) h3 (typeOf (.ref a)) cls := fun A Q E s k q => wpAny_typeOf_ref (k _ _ he3) (by rw [hz3.1]; exact q)
    show wpAny (model X.prog X.w) X.A (handleBy (.ref a) X.env (h₀ :: hds)) _ _ _
    revert w
    clear h
    generalize h₀ :: hds = hs' at hh
    induction hh with
    | nil =>
      intro w
      apply wpAny_handleBy_nil
      obtain ⟨k1, k2, k3, oe, vs, T, oT, ts', he, hz, hd, h1, hr⟩ := id fl3
      unfold PySem.passOn
      refine wpAny_bind (wpAny_field he hd h1 ?_)
      rw [if_neg (show ¬ ((Value.ref T == Value.none) = true) from by simp)]
      have fin : wpAny (model X.prog X.w) X.A (setFlight (.ref a) X.env.frame) (fun _ s4 => wpAny (model X.prog X.w) X.A (throw (.ref a) : Sem Flow) (SP X pins D) X.xe s4) X.xe { s' with heap := h3 } := by
        rw [hf]
        exact HandSPX.setFlight_upZ fl3 fun h4 hh4 up4 => wpAny_throw (tk _ _ ⟨a, B, sI, pins, σ', H', cls, d, rfl, J, nb, (up.trans up3).trans up4, .inr (.inr (by rw [hs]; exact hh4)), na, os, ag, w⟩)
      first
        | exact wpAny_bind (wpAny_pure (wpAny_bind fin))
        | exact wpAny_bind fin
    | @cons x n l b₀ suite np pos' hds2 ls hc hi hln hsu r ih =>
      intro w
      obtain ⟨b, hb1, hyes, hno⟩ := w
      have LM := PySem.W.exm_one (M := model X.prog X.w) (J3.kIn) LT hb1
      have hloc : Loc X.env.scope n := .inl hln
      apply wpAny_handleBy_cons (codeAny_handlers_test ?_) (by intro q; cases q)
      have test : ∀ {Q : Value → Shared → Prop} {E : Value → Shared → Prop}, Q l.c { s' with heap := h3 } → wpAny (model X.prog X.w) (X.A.mark (some (.ref a))) (eval (.Name x np) X.env) Q E { s' with heap := h3 } := fun {Q E} q => by
        rcases hc with ⟨hg, hdbg, hm | ⟨hm, hv, hnn⟩⟩
        · exact ld_glob (X := X.suite a ((a, oe3) :: (X.pn ++ pins))) S3 hg hm q hdbg
        · exact ld_blt (X := X.suite a ((a, oe3) :: (X.pn ++ pins))) S3 hg hm hv q hnn hdbg
      refine test (LM.here ?_)
      cases b with
      | false => exact ih (hno rfl)
      | true =>
        refine codeAny_handlers_suite_as (HandSPX.lands_againZ fl3 fun h4 fl4 up4 => ?_)
        have J4 : Inv X pins σ' H' { s' with heap := h4 } := J.landed nb fl4.1 ((up.trans up3).trans up4) os ag
        obtain ⟨oe4, vs4, he4, hz4, hd4⟩ := fl4.there
        refine store_ok (X := X.suite a ((a, oe4) :: (X.pn ++ pins))) (v := .ref a) (J4.suite he4 hd4 na nL nF) hN hi hloc rfl (fun s5 S5 => ?_) (.inr hln)
        have leave : ∀ {σ6 : St} {H6 : Hp} {s6 : Shared} {Q : Shared → Prop}, Inv (X.suite a ((a, oe4) :: (X.pn ++ pins))) [] σ6 H6 s6 → (∀ s7, Inv X pins (σ6.set l.i none) H6 s7 → Q s7) →
            wpAny (model X.prog X.w) X.A (do bindName X.env n .none; unbindBehindTheSuite X.env n pos') (fun _ s7 => Q s7) X.xe s6 := fun S6 hq => gone_ok (S6.unsuite ok) hN hi hln hq
        refine wpAny_mono ((hsu a oe4 cls d (X.pn ++ pins) hz4 ⟨_, hd4⟩).run [] s5 _ H' _ S5 (hyes rfl a na)) (fun f s6 hsp => ?_) (fun _ _ z => False.elim z)
        cases f with
        | ret u =>
          obtain ⟨v6, σ6, H6, S6, r6, q6⟩ := hsp
          exact leave S6 fun s7 J7 => ⟨_, _, _, J7, r6, q6⟩
        | next =>
          obtain ⟨σ6, H6, S6, q6⟩ := hsp
          exact leave S6 fun s7 J7 => ⟨_, _, J7, q6⟩
        | brk =>
          obtain ⟨σ6, H6, S6, q6⟩ := hsp
          exact leave S6 fun s7 J7 => ⟨_, _, J7, q6⟩
        | cont =>
          obtain ⟨σ6, H6, S6, q6⟩ := hsp
          exact leave S6 fun s7 J7 => ⟨_, _, J7, q6⟩
end
end DL

set_option maxHeartbeats 2000000
namespace DL
open PySem PySem.Spec PyProof.Rows L2

/-! ### try: e, except X as n: suite .., over data -/
structure DCl where
  c : Value
  i : Nat
  ws : Addr → Value → Option Addr → DS
def goneD (D : DE) (i : Nat) : DE := { nx := fun δ μ => D.nx (δ.set i none) μ, rt := D.rt, bk := fun δ μ => D.bk (δ.set i none) μ, ct := fun δ μ => D.ct (δ.set i none) μ }
def wClD (K : PySem.W.Frag) (er : Er) (D : DE) (F : FK) (δ : DSt) (μ : M) : List DCl → Prop
  | [] => F er μ
  | l :: r => ∃ b, PySem.W.exmOne K er.cls l.c = some b ∧ if b = true then ∀ a dd, μ a = none → l.ws a er.cls dd (goneD D l.i) (fun _ _ => False) (δ.set l.i (some (.exc a dd er.fs))) μ else wClD K er D F δ μ r
def W0 : WX := fun _ _ _ _ => False
/-- what a suite needs of its surroundings -/
structure CtS (X : Cx) : Prop where
  gd : X.A.guards = some []
  hu : X.A.units + 64 < cLine
inductive ClD (X : Cx) : List ExceptHandler → List Cl → List DCl → Prop
  | nil : ClD X [] [] []
  | cons {x n : Str} {c : Value} {i : Nat} {ts : Addr → Value → Option Addr → TS} {ws : Addr → Value → Option Addr → DS} {b₀ : Stmt} {suite : List Stmt} {np pos' : Pos} {hds : List ExceptHandler} {ls : List Cl} {ds : List DCl} (hc : Names X x c) (hi : X.N[i]? = some n) (hln : X.env.kindOf n = some .local)
      (hsu : ∀ (a : Addr) (oe : Obj) (cls : Value) (d : Option Addr) (pn : List (Addr × Obj)), CtS (X.suite a ((a, oe) :: pn)) → Zc cls d oe → (∃ vs, oe.data = .fields vs) → PDB (X.suite a ((a, oe) :: pn)) W0 (b₀ :: suite) (ts a cls d) (ws a cls d)) (r : ClD X hds ls ds) :
      ClD X (.ExceptHandler (some (.Name x np)) (some n) (b₀ :: suite) pos' :: hds) (⟨c, i, ts⟩ :: ls) (⟨c, i, ws⟩ :: ds)
theorem ClD.ok {X : Cx} {hds : List ExceptHandler} {ls : List Cl} {ds : List DCl} (h : ClD X hds ls ds) (cs : CtS X) : ClOk X hds ls := by
  induction h with
  | nil => exact .nil
  | cons hc hi hln hsu _ ih => exact .cons hc hi hln (fun a oe cls d pn z f => (hsu a oe cls d pn ⟨cs.gd, cs.hu⟩ z f).pss) ih
theorem SD.unset {K : PySem.W.Frag} {σ : St} {δ : DSt} {H : Hp} {μ : M} (s : SD K σ δ H μ) (i : Nat) : SD K (σ.set i none) (δ.set i none) H μ := by
  refine ⟨fun j d h => ?_, s.mr, by rw [List.length_set, List.length_set]; exact s.len⟩
  by_cases z : i = j
  · subst z
    by_cases hi : i < δ.length
    · rw [List.getElem?_set_self hi] at h
      cases h
    · rw [List.getElem?_eq_none (by rw [List.length_set]; omega)] at h
      cases h
  · rw [List.getElem?_set_ne z] at h
    obtain ⟨w, h1, h2⟩ := s.sl j d h
    exact ⟨w, by rw [List.getElem?_set_ne z]; exact h1, h2⟩
theorem ClD.ls {X : Cx} {W : WX} {hds : List ExceptHandler} {ls : List Cl} {ds : List DCl} (h : ClD X hds ls ds) (cs : CtS X) {G0 : Hp} {σ : St} {δ : DSt} {H : Hp} {μ : M} {D : Ends} {Dd : DE} {F : FK} {cls : Value} {dd : Option Addr} {er : Er} (g : Same G0 (hid H μ)) (S : SD X.K σ δ H μ) (r : ErR X.K (hid H μ) cls dd er)
    (k : DEn X.K W G0 D Dd F) (q : wClD X.K er Dd F δ μ ds) : wCl X.K W D ls cls dd σ H := by
  induction h with
  | nil => exact k.er cls dd er σ H μ g S.mr r q
  | @cons x n c i ts ws b₀ suite np pos' hds' ls' ds' hc hi hln hsu _ ih =>
    obtain ⟨b, hb, q⟩ := q
    refine ⟨b, by rw [r.1]; exact hb, fun e a na => ?_, fun e => ?_⟩
    · subst e
      have ma : μ a = none := S.mr.fresh na
      have q1 := q a dd ma
      rw [r.1]
      refine (hsu a { cls := er.cls, dict := dd, data := .fields #[] } er.cls dd X.pn ⟨cs.gd, cs.hu⟩ ⟨rfl, rfl⟩ ⟨_, rfl⟩).ls G0 _ _ H μ _ _ _ g (S.set i (r.2 a)) q1 ⟨?_, ?_, ?_, ?_, ?_⟩
      · exact fun σ' δ' H' μ' g' S' q' => k.nx _ _ H' μ' g' (S'.unset i) q'
      · exact fun v d H' μ' g' m r' q' => k.rt v d H' μ' g' m r' q'
      · exact fun σ' δ' H' μ' g' S' q' => k.bk _ _ H' μ' g' (S'.unset i) q'
      · exact fun σ' δ' H' μ' g' S' q' => k.ct _ _ H' μ' g' (S'.unset i) q'
      · exact fun _ _ _ _ _ _ _ _ _ z => z
    · subst e
      exact ih q
section
variable {X : Cx} {W : WX} {k : Nat} {e : Expr} {te : WX → TE} {we : DW} {h₀ : ExceptHandler} {hds : List ExceptHandler} {ls : List Cl} {ds : List DCl} {p1 pos : Pos}
def wTryE (K : PySem.W.Frag) (we : DW) (ds : List DCl) : DS := fun D F δ μ => we δ μ (fun _ μ1 => D.nx δ μ1) fun er μ1 => wClD K er D F δ μ1 ds
def wTryR (K : PySem.W.Frag) (we : DW) (ds : List DCl) : DS := fun D F δ μ => we δ μ D.rt fun er μ1 => wClD K er D F δ μ1 ds
theorem Ct.tr (c : Ct X W k) {W' : WX} {pn : List (Addr × Obj)} {xe : Value → Shared → Prop} (tk : Takes (X.tr pn xe) W') : Ct (X.tr pn xe) W' k := ⟨tk, c.gd, c.hr, c.calm⟩
theorem pds_tryE (c : Ct X W k) (hN : X.N.Nodup) (hb : ∀ (W' : WX) (pn : List (Addr × Obj)) (xe : Value → Shared → Prop), Ct (X.tr pn xe) W' k → PD (X.tr pn xe) W' e (te W') we) (hh : ClD X (h₀ :: hds) ls ds)
    (hs : X.stack = X.env :: X.outer := by rfl) (hf : X.env.frame = some X.env.locals := by rfl) (hsw : swapsWith e none p1.line X.env = pure false := by rfl) :
    PDS X W (.Try [.Expr e p1] (h₀ :: hds) [] [] pos) (fun D σ H => tDrop (te (wCl X.K W D ls)) D σ H) (wTryE X.K we ds) := by
  refine ⟨ps_try_cl (tb := fun W' => tDrop (te W')) hs hf hN c.tk (fun W' pn xe tk _ => pss_one (ps_expr (hb W' pn xe (c.tr tk)).pe hsw)) (hh.ok ⟨c.gd, c.hu⟩), fun G0 σ δ H μ D Dd F g S q kk => ?_⟩
  refine (hb (wCl X.K W D ls) [] (fun _ _ => True) (c.tr fun _ _ _ => trivial)).le σ δ H μ _ _ _ S q (fun v d H' μ' m r q' => kk.nx σ δ H' μ' (g.trans m.sm) (S.step m) q') fun cls dd er H' μ' m r q' => hh.ls ⟨c.gd, c.hu⟩ (g.trans m.sm) (S.step m) r kk q'
theorem pds_tryR (c : Ct X W k) (hN : X.N.Nodup) (hb : ∀ (W' : WX) (pn : List (Addr × Obj)) (xe : Value → Shared → Prop), Ct (X.tr pn xe) W' k → PD (X.tr pn xe) W' e (te W') we) (hh : ClD X (h₀ :: hds) ls ds)
    (hs : X.stack = X.env :: X.outer := by rfl) (hf : X.env.frame = some X.env.locals := by rfl) :
    PDS X W (.Try [.Return (some e) p1] (h₀ :: hds) [] [] pos) (fun D σ H => tRet (te (wCl X.K W D ls)) D σ H) (wTryR X.K we ds) := by
  refine ⟨ps_try_cl (tb := fun W' => tRet (te W')) hs hf hN c.tk (fun W' pn xe tk _ => pss_one (ps_ret (hb W' pn xe (c.tr tk)).pe)) (hh.ok ⟨c.gd, c.hu⟩), fun G0 σ δ H μ D Dd F g S q kk => ?_⟩
  refine (hb (wCl X.K W D ls) [] (fun _ _ => True) (c.tr fun _ _ _ => trivial)).le σ δ H μ _ _ _ S q (fun v d H' μ' m r q' => kk.rt v d H' μ' (g.trans m.sm) m.mr r q') fun cls dd er H' μ' m r q' => hh.ls ⟨c.gd, c.hu⟩ (g.trans m.sm) (S.step m) r kk q'
/-- e.n, e the exception that the suite holds -/
def wXf (a : Addr) (cls : Value) (d : Option Addr) (C : Addr) (n : Str) (we : DW) : DW := fun δ μ Q F => we δ μ (fun x μ1 => cls = .ref C ∧ ∃ fs dv, x = .exc a d fs ∧ fs.lookup n = some dv ∧ Q dv μ1) F
theorem pd_xf {a C : Addr} {oe : Obj} {cls : Value} {d : Option Addr} {pn : List (Addr × Obj)} {W' : WX} {t : TE} {n : Str} (T : XfC X.K C) (hno : PySem.W.findIn X.K (.ref C) n = some none) (hz : Zc cls d oe) (hf : ∃ vs, oe.data = .fields vs) (he : PD (X.suite a ((a, oe) :: pn)) W' e t we)
    (hb : attributeBase e n X.env (eval e X.env) = eval e X.env := by rfl) : PD (X.suite a ((a, oe) :: pn)) W' (.Attribute e n pos) (tXf a cls d C n t) (wXf a cls d C n we) := by
  refine ⟨pe_xf T hno hz hf he.pe hb, fun σ δ H μ Q Qd F S q kQ kF => ?_⟩
  refine he.le σ δ H μ _ _ F S q (fun v x H1 μ1 m1 r1 ⟨ec, fs, dv, e1, e2, q1⟩ => ?_) kF
  subst e1
  cases r1 with
  | exc0 a dd => cases e2
  | exc1 h r =>
    obtain ⟨u, e3, r3⟩ := r.val e2
    exact ⟨rfl, ec, _, _, u, rfl, (hid_some.mp h).2, e3, kQ u dv H1 μ1 m1 r3 q1⟩
end
end DL

set_option maxHeartbeats 2000000
namespace DL
open PySem PySem.Spec PyProof.Rows L2 LamX

/-! ### tables of code objects, over data -/
/-- the tables that are told of are T's -/
def TabM (T : List (Addr × Str)) (μ : M) : Prop := ∀ a q, μ a = some (.tbl q) ↔ (a, q) ∈ T
def isTbl : MO → Bool
  | .tbl _ => true
  | _ => false
theorem TabM.put {T : List (Addr × Str)} {μ : M} {p : Addr} {m : MO} (h : TabM T μ) (hp : ∀ q, μ p ≠ some (.tbl q)) (hm : isTbl m = false) : TabM T (mput μ p m) := fun a q => by
  by_cases e : a = p
  · subst e
    rw [mput_same]
    refine ⟨fun z => ?_, fun z => absurd ((h a q).mpr z) (hp q)⟩
    have z' := Option.some.inj z
    subst z'
    cases hm
  · rw [mput_ne e]
    exact h a q
theorem notCode {c : Addr} {q : Str} {G : Hp} {K : PySem.W.Frag} {H : Hp} {μ : M} {T : List (Addr × Str)} (m : MR K H μ) (t : TabM T μ) (eN : ExtN H G) (tG : Tabs T G) (hc : G c = some (CodeO c q)) : μ c = none := by
  cases e : μ c with
  | none => rfl
  | some mo =>
    have z := m c mo e
    have no : ∀ o, H c = some o → (∀ ps, o ≠ .tbl ps) → (∀ P, o ≠ .ext P) → False := fun o h1 h2 h3 => by
      have q1 := eN c o h1 h2
      rw [hc] at q1
      exact h3 _ (Option.some.inj q1).symm
    cases mo with
    | lst ds => obtain ⟨vs, h1, _⟩ := z; exact (no _ h1 (fun _ y => by cases y) fun _ y => by cases y).elim
    | dct ds => obtain ⟨vs, h1, _⟩ := z; exact (no _ h1 (fun _ y => by cases y) fun _ y => by cases y).elim
    | ins C fs => obtain ⟨dx, vs, h1, _⟩ := z; exact (no _ h1 (fun _ y => by cases y) fun _ y => by cases y).elim
    | tbl q' =>
      obtain ⟨ps, h1, _⟩ := tG (c, q') ((t c q').mp e)
      have h1' : G c = some (.tbl ps) := h1
      rw [hc] at h1'
      exact absurd (Option.some.inj h1') (codeO_ne ps)
theorem tabs_of {K : PySem.W.Frag} {H : Hp} {μ : M} {T : List (Addr × Str)} (m : MR K H μ) (t : TabM T μ) : Tabs T H := fun p hp => by
  obtain ⟨ps, h1, h2, h3⟩ := m p.1 _ ((t p.1 p.2).mpr hp)
  exact ⟨ps, h1, h2, fun pos cv z => let ⟨c, e1, e2⟩ := h3 pos cv z; ⟨c, e1, (hid_some.mp e2).2⟩⟩
theorem mv_tabs {K : PySem.W.Frag} {H G : Hp} {μ : M} {T : List (Addr × Str)} (m : MR K H μ) (t : TabM T μ) (eN : ExtN H G) (tG : Tabs T G) : Mv K H μ G μ := by
  have sm : Same (hid H μ) (hid G μ) := fun b o h => by
    obtain ⟨h1, h2⟩ := hid_some.mp h
    refine hid_some.mpr ⟨h1, eN b o h2 fun ps z => ?_⟩
    subst z
    cases h1.2
  refine ⟨sm, fun a mo e => ?_⟩
  have z := m a mo e
  have st : ∀ o, H a = some o → (∀ ps, o ≠ .tbl ps) → G a = H a := fun o h1 h2 => (eN a o h1 h2).trans h1.symm
  cases mo with
  | lst ds => exact z.mono sm (let ⟨vs, h1, _⟩ := z; st _ h1 fun _ y => by cases y)
  | dct ds => exact z.mono sm (let ⟨vs, h1, _⟩ := z; st _ h1 fun _ y => by cases y)
  | ins C fs => exact z.mono sm (let ⟨dx, vs, h1, _⟩ := z; st _ h1 fun _ y => by cases y)
  | tbl q =>
    obtain ⟨ps, h1, h2, h3⟩ := tG (a, q) ((t a q).mp e)
    exact ⟨ps, h1, h2, fun pos cv y => let ⟨c, e1, e2⟩ := h3 pos cv y; ⟨c, e1, hid_some.mpr ⟨⟨notCode m t eN tG e2, rfl⟩, e2⟩⟩⟩

/-! ### a lambda without parameters, handed to a def that calls it -/
section
variable {X : Cx} {pins : List (Addr × Obj)} {σ : L2.St} {H : Hp} {s : Shared}
/-- x() in the def that got the lambda -/
theorem act_ok {CXg : CXT} {Eg : XK} {Ng : List Str} {qg : Str} {sg : Scope} {g f c' : Addr} {cdg pm ctv : Value} {params : Arguments} {body : Expr} {scope : Scope} {k i : Nat} {a : Str} {pn : List (Addr × Obj)} {xe : Value → Shared → Prop} {W : WX} {tb : XK → TE} {p1 p2 : Pos}
    (I : Inv X pins σ H s) (L : LamS X.env.scope scope) (hf : s.heap.get? f = some (PySem.W.kla_obj "<lambda>" (X.env.qual ++ "<lambda>") params body scope (cloFrom X.env.cells scope.names []) pm c' ctv)) (hfn : H f = none) (hfr : f ∉ frs X.stack)
    (hbind : bindArgs (PySem.W.kla_fn "<lambda>" (X.env.qual ++ "<lambda>") params body scope (cloFrom X.env.cells scope.names []) pm (.ref c') ctv) ⟨[], []⟩ = pure [])
    (tk : Takes ((cxOf CXg X.prog X.w X.K X.mg X.base Ng qg sg g cdg X.A X.stack s H Eg).tr pn xe) W) (hr : Room (k + 1) (X.A.deeper (envOfC qg sg s.heap.objs.size g cdg)))
    (hbody : ∀ (outer : List Env) (s' : Shared) (H : Hp) (E : XK), Room k ((X.A.deeper (envOfC qg sg s.heap.objs.size g cdg)).deeper (lamEnv X scope s'.heap.objs.size f c')) → PE (lamCx X (X.A.deeper (envOfC qg sg s.heap.objs.size g cdg)) outer s' H E scope f c') body (tb E))
    (hN : Ng[i]? = some a) (hv : Vis sg a) (hd : (a == ("__debug__" : Str)) = false := by decide) (hcd : (a == ("__classdict__" : Str)) = false := by decide) :
    PE ((cxOf CXg X.prog X.w X.K X.mg X.base Ng qg sg g cdg X.A X.stack s H Eg).tr pn xe) (.Call (.Name a p1) [] [] p2)
      (fun σZ HZ Q => σZ[i]? = some (some (.ref f)) ∧ HZ c' = some (CodeO c' (X.env.qual ++ "<lambda>")) ∧ tb (WE W σZ) σ HZ Q) := by
  constructor
  rintro pinsZ sZ σZ HZ Q IZ ⟨hs, hc, ht⟩
  refine wpAny_Call_Name_kw (thn ((pe_var (pos := p1) (i := i) hN hv hd hcd).run pinsZ sZ σZ HZ (fun v H1 => v = .ref f ∧ H1 = HZ) IZ ⟨.ref f, hs, rfl, rfl⟩) ?_)
  rintro u s1 ⟨v, H1, I1, r1, rfl, rfl⟩
  obtain rfl : u = Value.ref f := r1
  have of1 := I1.base.keep f _ hf hfn hfr (fun z => nomatch (show f ∈ ([] : List Addr) from z))
  refine PySem.W.callWith_F0 ⟨_, _, _, _, of1⟩ ?_
  have un : Un (frs X.stack) [] H H1 s.heap s1.heap := I1.base
  obtain ⟨⟨oc, vs, t, hoc, hdc, hvc⟩, _, _⟩ := I1.hok c' _ hc
  have rc : codeAny (model X.prog X.w) (X.A.deeper (envOfC qg sg s.heap.objs.size g cdg)) (.call (.ref f) ⟨[], []⟩) (CR (L2.CX X.prog X.w) (envOfC qg sg s.heap.objs.size g cdg :: X.stack) X.prog X.w H1 s1 Q (WE W σZ)) s1 := by
    refine PySem.W.kla_callFunE hr.depth of1 rfl L.co L.gen rfl ⟨c', oc, vs, t, rfl, hoc, hdc, hvc⟩ ?_
    rw [hbind]
    refine wpAny_pure (wpAny_newFunctionEnv (fun y hy => (L.own y hy).2) (fun y hy => absurd hy (by simp)) (fun h₁ hns hsb => ⟨I1.nolimit.fresh _ hsb, ?_⟩) L.kind)
    show codeAny _ _ (.expr body (lamEnv X scope s1.heap.objs.size f c')) _ _
    have J : Inv (lamCx X (X.A.deeper (envOfC qg sg s.heap.objs.size g cdg)) (envOfC qg sg s.heap.objs.size g cdg :: X.stack) s1 H1 (WE W σZ) scope f c') [] σ H1 { s1 with heap := h₁, toks := s1.toks + ([] : List (Str × Value)).length } :=
      lam_start2 I L I1.env0 hr.hd un hns fun b o e => hsb.extBut b o (Nat.ne_of_lt (Heap.lt_size e)) (Heap.get?_push_of_some _ e)
    refine PySem.W.kla_codeExpr (wpAny_mono ((hbody _ s1 H1 (WE W σZ) (hr.deeper _)).run [] _ _ H1 Q J ht) (fun v s' hq => ?_) fun e s' hq => hq)
    obtain ⟨w', H', J', rv, q⟩ := hq
    exact ⟨w', H', J'.os, J'.bare, J'.base, J'.hok, rv, q⟩
  refine wpAny_call (codeAny_mono rc fun r s' hq => ?_)
  · have hx : PassesAt (L2.CX X.prog X.w) ((cxOf CXg X.prog X.w X.K X.mg X.base Ng qg sg g cdg X.A X.stack s H Eg).tr pn xe) σZ (WE W σZ) := passAt tk σZ
    cases r with
    | error e => exact hx pinsZ H1 s1 e s' I1 hq
    | ok fl => cases fl <;> first | exact I1.after hq | exact False.elim hq
end
/-- the call of what slot 0 holds, a lambda of this promise -/
def wLam (f : Addr) (G0 : Hp) (wl : M → DK → FK → Prop) : DW := fun δ μ Q F => δ[0]? = some (some (.lam f G0)) ∧ wl μ Q F
/-- x, a def with one parameter, calls what it gets; wT: what it makes of it -/
structure LamD (P : Program) (w : World) (K : PySem.W.Frag) (mg : Str → Option Value) (base : Heap) (k : Nat) (x : Str) (wT : (M → DK → FK → Prop) → M → DK → Prop) : Prop where
  ex : ∃ (g : Addr) (oc : Value) (od : Option Addr) (a : Str) (Ng : List Str) (pg : Arguments) (bg : List Stmt) (sg : Scope) (kV doc pm cdv ct : Value) (an : Option Addr) (osl : Array (Option Value)) (wb : DW → DS),
    mg x = some (.ref g) ∧ PySem.W.keepIn K (.ref g) = true ∧ K.lookup g = some ⟨oc, od, .func (PySem.W.fnOf x x pg bg sg .none kV doc pm an cdv ct), osl⟩ ∧ PySem.W.codeIn K cdv x = true ∧ L2.Binds K (PySem.W.fnOf x x pg bg sg .none kV doc pm an cdv ct) [a] [] ∧ FnScope Ng [a] sg ∧ Ng[0]? = some a ∧ Vis sg a ∧
    (a == ("__debug__" : Str)) = false ∧ (a == ("__classdict__" : Str)) = false ∧
    (∀ (A : Around) (outer : List Env) (s : Shared) (H : Hp) (f : Addr) (G0 : Hp) (wl : M → DK → FK → Prop), A.guards = some [] → Room k (A.deeper (envOfC x sg s.heap.objs.size g cdv)) →
      ∀ (te : WX → TE), (∀ (W : WX) (pn : List (Addr × Obj)) (xe : Value → Shared → Prop) (p1 p2 : Pos), Takes ((cxOf CX0 P w K mg base Ng x sg g cdv A outer s H E0).tr pn xe) W → PD ((cxOf CX0 P w K mg base Ng x sg g cdv A outer s H E0).tr pn xe) W (.Call (.Name a p1) [] [] p2) (te W) (wLam f G0 wl)) →
      ∃ t, PDB (cxOf CX0 P w K mg base Ng x sg g cdv A outer s H E0).nox W0 bg t (wb (wLam f G0 wl))) ∧
    ∀ (wl : M → DK → FK → Prop) (μ : M) (Q : DK), wT wl μ Q → ∀ (f : Addr) (G0 : Hp), wb (wLam f G0 wl) { nx := fun _ μ' => Q .non μ', rt := Q } (fun _ _ => False) (dstart Ng [.lam f G0]) μ
/-- x(lambda: body) -/
def wLamC (T : List (Addr × Str)) (wT : (M → DK → FK → Prop) → M → DK → Prop) (wb : DW) : DW := fun δ μ Q _ => TabM T μ ∧ wT (wb δ) μ Q
theorem pd_lamcall {X : Cx} {W : WX} {x : Str} {j k kb : Nat} {wT : (M → DK → FK → Prop) → M → DK → Prop} {T : List (Addr × Str)} {cc P : Addr} {params : Arguments} {body : Expr} {scope : Scope} {wb : DW} {t : XK → TE} {p lpos pos : Pos} (c : Ct X W j) (L : LamD X.prog X.w X.K X.mg X.base k x wT)
    (TB : TabB X.base X.mg cc P) (hcode : X.env.code = .ref cc) (hmT : (P, X.env.qual ++ "<lambda>") ∈ T) (LS : LamS X.env.scope scope) (hdef : defaultsOf params X.env = ([], []))
    (hbind : ∀ (q : Str) (cl : List (Str × Addr)) (pm cv ctv : Value), bindArgs (PySem.W.kla_fn "<lambda>" q params body scope cl pm cv ctv) ⟨[], []⟩ = pure [])
    (hbody : ∀ (A : Around) (outer : List Env) (s : Shared) (H : Hp) (E : XK) (f c' : Addr), Ct (lamCx X A outer s H E scope f c') (WD E) kb → PD (lamCx X A outer s H E scope f c') (WD E) body (t E) wb)
    (hk : k + 1 ≤ j := by decide) (hkb : kb + 2 ≤ j := by decide) (hg : Gl X x := by rfl) (hdb : (x == ("__debug__" : Str)) = false := by decide) :
    PD X W (.Call (.Name x p) [.Lambda params body scope lpos] [] pos) (fun σ H Q => ∃ δ μ Qd, SD X.K σ δ H μ ∧ wLamC T wT wb δ μ Qd (fun _ _ => False) ∧ ∀ v d H' μ', Mv X.K H μ H' μ' → R X.K (hid H' μ') v d → Qd d μ' → Q v H') (wLamC T wT wb) := by
  refine ⟨⟨fun pins s σ H Q I h => ?_⟩, fun σ δ H μ Q Qd F S q kQ _ => ⟨δ, μ, Qd, S, q, kQ⟩⟩
  obtain ⟨δ, μ, Qd, S, ⟨hT, hw⟩, kQ⟩ := h
  obtain ⟨g, oc, od, a, Ng, pg, bg, sg, kV, doc, pm, cdv, ct, an, osl, wbg, hm, kp, lk, hcg, hb, Sg, hNg, hva, hd, hcd, hbg, hwT⟩ := L.ex
  refine wpAny_Call_Name_kw (ld_glob I hg hm ?_ hdb)
  refine PySem.W.callWith_K (h₀ := X.base) I.ok.mod.kin kp ?_ (by rfl) (by rfl)
  show wpAny _ _ (spliced ((false, eval (.Lambda params body scope lpos) X.env) :: backTo pos (starEach [] X.env))) _ _ s
  have hu : ∀ p ∈ T, p.1 = P → p.2 = X.env.qual ++ "<lambda>" := fun p hp e => by
    have h1 := (hT p.1 p.2).mpr hp
    have h2 := (hT _ _).mpr hmT
    rw [e, h2] at h1
    have h3 := Option.some.inj h1
    injection h3 with h3
    exact h3.symm
  refine Calls.spliced_cons (lam_make2 I TB hcode hmT hu (tabs_of S.mr hT) hdef (LS.has I.ok) fun f c' pm' ctv H1 s' I1 eN T1 hf hfn hfr hco => ?_)
  refine Calls.spliced_nil ⟨I1.kIn, ?_⟩
  have m1 : Mv X.K H μ H1 μ := mv_tabs S.mr hT eN T1
  have S1 : SD X.K σ δ H1 μ := S.step m1
  have hcod : hid H1 μ c' = some (CodeO c' (X.env.qual ++ "<lambda>")) := hid_some.mpr ⟨⟨notCode S.mr hT eN T1 hco, rfl⟩, hco⟩
  have hrj := c.hr
  have rc : codeAny (model X.prog X.w) X.A (.call (.ref g) ⟨[.ref f], []⟩) (CR CX0 X.stack X.prog X.w H1 s' Q E0) s' := by
    obtain ⟨j', rfl⟩ : ∃ j', j = j' + 1 := ⟨j - 1, by omega⟩
    refine run_ofS (N := Ng) (ps := [a]) (us := [.ref f]) (vs := [.ref f]) lk hcg Sg hrj I1.env0 (hb s' [.ref f] I1.kIn rfl) (.cons rfl .nil) rfl fun hr' => ?_
    have act : ∀ (W : WX) (pn : List (Addr × Obj)) (xe : Value → Shared → Prop) (p1 p2 : Pos), Takes ((cxOf CX0 X.prog X.w X.K X.mg X.base Ng x sg g cdv X.A X.stack s' H1 E0).tr pn xe) W →
        PD ((cxOf CX0 X.prog X.w X.K X.mg X.base Ng x sg g cdv X.A X.stack s' H1 E0).tr pn xe) W (.Call (.Name a p1) [] [] p2) (fun σZ HZ Q => σZ[0]? = some (some (.ref f)) ∧ HZ c' = some (CodeO c' (X.env.qual ++ "<lambda>")) ∧ t (WE W σZ) σ HZ Q) (wLam f (hid H1 μ) (wb δ)) := fun W pn xe p1 p2 tk => by
      have ctx : ∀ (outer : List Env) (s2 : Shared) (H : Hp) (E : XK), Room kb ((X.A.deeper (envOfC x sg s'.heap.objs.size g cdv)).deeper (lamEnv X scope s2.heap.objs.size f c')) → Ct (lamCx X (X.A.deeper (envOfC x sg s'.heap.objs.size g cdv)) outer s2 H E scope f c') (WD E) kb := fun outer s2 H E hr2 =>
        ⟨takes_of rfl rfl rfl rfl, c.gd, hr2, rfl⟩
      refine ⟨act_ok (i := 0) (k := kb) (tb := fun E => t E) I1 LS hf hfn hfr (hbind _ _ _ _ _) tk (hr'.mono (by omega)) (fun outer s2 H E hr2 => (hbody _ outer s2 H E f c' (ctx outer s2 H E hr2)).pe) hNg hva hd hcd, ?_⟩
      rintro σZ δZ HZ μZ Q' Qd' F' SZ ⟨e0, q'⟩ kQ' kF'
      obtain ⟨v0, ev, rv⟩ := SZ.sl 0 _ e0
      cases rv with
      | lam _ sm =>
        refine ⟨ev, (hid_some.mp (sm _ _ hcod)).2, ?_⟩
        have SS : SD X.K σ δ HZ μZ := S1.step ⟨sm, SZ.mr⟩
        have room2 : Room kb ((X.A.deeper (envOfC x sg s'.heap.objs.size g cdv)).deeper (lamEnv X scope s'.heap.objs.size f c')) := (hr'.mono (by omega : kb + 1 ≤ j')).deeper _
        refine (hbody _ [] s' H1 (WE W σZ) f c' (ctx [] s' H1 (WE W σZ) room2)).le σ δ HZ μZ Q' Qd' F' SS q' kQ' fun cls dd er H' μ' m r fq => ?_
        exact kF' cls dd er H' μ' m r fq
    obtain ⟨t', hB⟩ := hbg X.A X.stack s' H1 f (hid H1 μ) (wb δ) c.gd (hr'.mono (by omega)) _ act
    refine ⟨t', hB.pss.nox, hB.ls (hid H1 μ) _ (dstart Ng [.lam f (hid H1 μ)]) H1 μ _ _ _ (Same.refl _) (sd_start S1.mr (.cons (.lam f (Same.refl _)) .nil)) (hwT (wb δ) μ Qd hw f _) ⟨?_, ?_, ?_, ?_, ?_⟩⟩
    · exact fun σ' δ' H' μ' g' S' q' => kQ .non .non H' μ' (m1.trans ⟨g', S'.mr⟩) .non q'
    · exact fun v d H' μ' g' m r q' => kQ v d H' μ' (m1.trans ⟨g', m⟩) r q'
    · exact fun _ _ _ _ _ _ z => z
    · exact fun _ _ _ _ _ _ z => z
    · exact fun _ _ _ _ _ _ _ _ _ z => z
  refine wpAny_call (codeAny_mono rc fun r s2 hq => ?_)
  cases r with
  | error e => exact (show False from hq).elim
  | ok fl => cases fl <;> first | exact I1.after hq | exact False.elim hq
end DL

set_option maxHeartbeats 2000000
namespace DL
open PySem PySem.Spec PyProof.Rows L2 LamX

/-! ### the call of what a name of the def holds: one of some defs -/
def wCallV (i : Nat) (fs : List (Addr × DF)) (wa : DA) : DW := fun δ μ Q F => ∃ p ∈ fs, δ[i]? = some (some (.raw (.ref p.1))) ∧ wa δ μ (fun ds μ1 => p.2 ds μ1 Q F) F
theorem pd_callV {X : Cx} {W : WX} {x : Str} {j k : Nat} {e : Expr} {es : List Expr} {tr : TA} {wr : DA} {p pos : Pos} (K : PySem.W.Frag) (hK : X.K = K) (c : Ct X W j) (i : Nat) (fs : List (Addr × DF)) (hfs : ∀ p ∈ fs, PySem.W.keepIn X.K (.ref p.1) = true ∧ FnD X.prog X.w X.K X.mg X.base k p.1 p.2) (ha : PDA X W (e :: es) tr wr)
    (hN : X.N[i]? = some x := by rfl) (hv : Vis X.env.scope x := by first | exact Or.inl rfl | exact Or.inr (Or.inl rfl) | exact Or.inr (Or.inr rfl)) (hd : (x == ("__debug__" : Str)) = false := by decide) (hcd : (x == ("__classdict__" : Str)) = false := by decide)
    (hk : k ≤ j := by decide) (he : starEach (e :: es) X.env = (false, eval e X.env) :: starEach es X.env := by rfl) (hpl : (backTo pos (starEach es X.env)).any (·.1) = false := by rfl) :
    PD X W (.Call (.Name x p) (e :: es) [] pos) (fun σ H Q => ∃ p ∈ fs, σ[i]? = some (some (.ref p.1)) ∧ tCallD K W p.2 tr σ H Q) (wCallV i fs wr) := by
  subst hK
  refine ⟨⟨fun pins s σ H Q I h => ?_⟩, fun σ δ H μ Q Qd F S q kQ kF => ?_⟩
  · obtain ⟨q, hq, hs, h⟩ := h
    obtain ⟨kp, F⟩ := hfs q hq
    refine wpAny_Call_Name_kw (thn ((pe_var (pos := p) (i := i) hN hv hd hcd).run pins s σ H (fun v H1 => v = .ref q.1 ∧ H1 = H) I ⟨.ref q.1, hs, rfl, rfl⟩) ?_)
    rintro u s1 ⟨v, H1, I1, r1, rfl, rfl⟩
    obtain rfl : u = Value.ref q.1 := r1
    refine PySem.W.callWith_K (h₀ := X.base) I1.ok.mod.kin kp (thn (ha.pa.run pos pins s1 σ H1 _ I1 h) fun us s2 ⟨vs, H2, I2, r2, q2⟩ => ⟨I2.kIn, ?_⟩) he hpl
    exact run_fnD F c.gd (c.hr.mono hk) (passAt c.tk σ) I2 r2 q2
  · obtain ⟨p, hp, hs, q⟩ := q
    obtain ⟨v, e1, r1⟩ := S.sl i _ hs
    cases r1
    exact ⟨p, hp, e1, le_call ha.la σ δ H μ Q Qd F S q kQ kF⟩
/-- a def with one parameter that calls what it gets, by its body -/
theorem lam_of {P : Program} {w : World} {K : PySem.W.Frag} {mg : Str → Option Value} {base : Heap} {k : Nat} {x a : Str} {st : Stmt} {Ng : List Str} {wT : (M → DK → FK → Prop) → M → DK → Prop} (wb : DW → DS) (D : DefD K mg x st) (S : FnScope Ng [a] (defScope st)) (hNg : Ng[0]? = some a) (hva : Vis (defScope st) a)
    (hd : (a == ("__debug__" : Str)) = false) (hcd : (a == ("__classdict__" : Str)) = false)
    (hb : ∀ (kV doc pm : Value) (an : Option Addr) (cdv ct : Value) (us : List Value), us.length = ([a] : List Str).length → bindArgs (PySem.W.fnOf x x (defArgs st) (defBody st) (defScope st) .none kV doc pm an cdv ct) ⟨us, []⟩ = pure (([a] : List Str).zip us))
    (body : ∀ (g : Addr) (cdv : Value) (A : Around) (outer : List Env) (s : Shared) (H : Hp) (wl : DW), Ct (cxOf CX0 P w K mg base Ng x (defScope st) g cdv A outer s H E0).nox W0 k →
      ∀ (te : WX → TE), (∀ (W : WX) (pn : List (Addr × Obj)) (xe : Value → Shared → Prop) (p1 p2 : Pos), Takes ((cxOf CX0 P w K mg base Ng x (defScope st) g cdv A outer s H E0).tr pn xe) W → PD ((cxOf CX0 P w K mg base Ng x (defScope st) g cdv A outer s H E0).tr pn xe) W (.Call (.Name a p1) [] [] p2) (te W) wl) →
      ∃ t, PDB (cxOf CX0 P w K mg base Ng x (defScope st) g cdv A outer s H E0).nox W0 (defBody st) t (wb wl))
    (h : ∀ (wl : M → DK → FK → Prop) (μ : M) (Q : DK), wT wl μ Q → ∀ (f : Addr) (G0 : Hp), wb (wLam f G0 wl) { nx := fun _ μ' => Q .non μ', rt := Q } (fun _ _ => False) (dstart Ng [.lam f G0]) μ) : LamD P w K mg base k x wT := by
  obtain ⟨g, oc, od, kV, doc, pm, an, cdv, ct, osl, hm, kp, lk, hcc⟩ := D.ex
  refine ⟨g, oc, od, a, Ng, defArgs st, defBody st, defScope st, kV, doc, pm, cdv, ct, an, osl, wb, hm, kp, lk, hcc, .all (hb kV doc pm an cdv ct), S, hNg, hva, hd, hcd, fun A outer s H f G0 wl hg hr te act => ?_, h⟩
  exact body g cdv A outer s H (wLam f G0 wl) ⟨LamX.takes0, hg, hr, rfl⟩ te act

/-! ### the end -/
section
variable {P : Program} {w : World} {K : PySem.W.Frag} {mg mb : Str → Option Value} {k : Nat} {fa a : Addr} {cs : List (Addr × Addr × Str)} {s₁ : Shared} {vs : List Value} {ns : List Int} {wp : DF}
/-- what is tracked at the law's call -/
def endH (K : PySem.W.Frag) (a : Addr) (vs : List Value) (ns : List Int) (T : List (Addr × Str)) : Hp := fun b =>
  if b = a then (if (K.lookup a).isSome = true then none else some (.frz { cls := .type "list", data := .seq vs.toArray } (.lst (ns.map V.int)))) else (T.lookup b).map fun _ => .tbl #[]
def endM (T : List (Addr × Str)) : M := fun b => (T.lookup b).map .tbl
theorem lk_mem {b : Addr} {q : Str} : ∀ {T : List (Addr × Str)}, T.lookup b = some q → (b, q) ∈ T
  | [], h => by cases h
  | (c, r) :: T, h => by
    rw [List.lookup_cons] at h
    cases e : (b == c) with
    | true =>
      rw [e] at h
      cases h
      rw [beq_iff_eq.mp e]
      exact List.mem_cons_self ..
    | false =>
      rw [e] at h
      exact List.mem_cons_of_mem _ (lk_mem h)
theorem mem_lk {b : Addr} {q : Str} : ∀ {T : List (Addr × Str)}, (b, q) ∈ T → ∃ q', T.lookup b = some q'
  | (c, r) :: T, h => by
    rw [List.lookup_cons]
    cases e : (b == c) with
    | true => exact ⟨r, rfl⟩
    | false =>
      rcases List.mem_cons.mp h with z | z
      · cases z
        simp at e
      · exact mem_lk z
theorem lookup_iff {T : List (Addr × Str)} (hT : ∀ b q q', (b, q) ∈ T → (b, q') ∈ T → q = q') {b : Addr} {q : Str} : T.lookup b = some q ↔ (b, q) ∈ T := by
  refine ⟨lk_mem, fun h => ?_⟩
  obtain ⟨q', h'⟩ := mem_lk h
  rw [h', hT b q q' h (lk_mem h')]
theorem law_end (KX : K.In s₁.heap) (hns : s₁.heap.Ns mainGlobals mg) (hb : s₁.heap.Ns builtinsNs mb) (hbb : ∀ x : Str, x ≠ "__name__" → mb x = bootBuiltins x) (hlim : s₁.heap.NoLimit) (hg : s₁.gens = #[])
    (hT : ∀ p ∈ cs, s₁.heap.get? p.2.1 = some { cls := .none, data := .fields #[] }) (nT : ∀ p ∈ cs, K.lookup p.2.1 = none) (C : ∀ p ∈ cs, PySem.W.CodeHd s₁.heap p.1 p.2.1) (fT : ∀ b q q', (b, q) ∈ cs.map (·.2) → (b, q') ∈ cs.map (·.2) → q = q')
    (hbm : ∃ (bm : Addr) (ob : Obj), mg "__builtins__" = some (.ref bm) ∧ bm ≠ builtinsNs ∧ s₁.heap.get? bm = some ob ∧ ob.cls = .type "module" ∧ ob.dict = some builtinsNs ∧ ob.data = .plain)
    (ha : s₁.heap.get? a = some { cls := .type "list", data := .seq vs.toArray }) (hi : IntsAre vs ns) (hl : ns.length ≤ sizeLine) (hr : Room k callerA)
    (F : ∀ base : Heap, K.In base → base.Ns mainGlobals mg → (∀ p ∈ cs, TabB base mg p.1 p.2.1) → FnD P w K mg base k fa wp) (hwp : ∀ μ : M, TabM (cs.map (·.2)) μ → wp [.ro (ns.map D.int)] μ (fun d _ => d = .bl true) fun _ _ => False) :
    codeAny (model P w) callerA (.call (.ref fa) ⟨[.ref a], []⟩) (fun r s' => r = .ok (.ret (.bool true)) ∧ OldK s₁.heap s'.heap ∧ s'.os = s₁.os ∧ AllBare s'.gens) s₁ := by
  obtain ⟨T, eT⟩ : ∃ T, T = cs.map (·.2) := ⟨_, rfl⟩
  obtain ⟨H, eH⟩ : ∃ H, H = endH K a vs ns T := ⟨_, rfl⟩
  rw [← eT] at fT hwp
  have rv := vals_ints hi
  have inT : ∀ {b : Addr} {q : Str}, T.lookup b = some q → ∃ p ∈ cs, p.2.1 = b := fun {b q} h => by
    have h' := lk_mem h
    rw [eT] at h'
    obtain ⟨p, hp, e⟩ := List.mem_map.mp h'
    exact ⟨p, hp, by rw [e]⟩
  have tabAt : ∀ {b : Addr} {q : Str}, T.lookup b = some q → s₁.heap.get? b = some { cls := .none, data := .fields #[] } ∧ K.lookup b = none := fun {b q} h => by
    obtain ⟨p, hp, rfl⟩ := inT h
    exact ⟨hT p hp, nT p hp⟩
  have ofT : ∀ p ∈ cs, ∃ q, T.lookup p.2.1 = some q := fun p hp => mem_lk (q := p.2.2) (by rw [eT]; exact List.mem_map.mpr ⟨p, hp, rfl⟩)
  have aT : T.lookup a = none := by
    cases e : T.lookup a with
    | none => rfl
    | some q =>
      have z := (tabAt e).1
      rw [ha] at z
      have z' : Data.seq vs.toArray _ = Data.fields #[] := congrArg Obj.data (Option.some.inj z)
      cases z'
  have hLen : (ns.map V.int).length ≤ sizeLine := by rw [List.length_map]; exact hl
  have at_a : H a = if (K.lookup a).isSome = true then none else some (.frz { cls := .type "list", data := .seq vs.toArray } (.lst (ns.map V.int))) := by rw [eH]; exact if_pos rfl
  have at_b : ∀ {b : Addr}, b ≠ a → H b = (T.lookup b).map fun _ => .tbl #[] := fun {b} h => by rw [eH]; exact if_neg h
  -- what is tracked is there, and of two kinds
  have kinds : ∀ {b : Addr} {u : HO}, H b = some u → (b = a ∧ K.lookup a = none ∧ u = .frz { cls := .type "list", data := .seq vs.toArray } (.lst (ns.map V.int))) ∨ ∃ q, T.lookup b = some q ∧ u = .tbl #[] := fun {b u} h => by
    by_cases e : b = a
    · subst e
      rw [at_a] at h
      split at h
      · cases h
      · rename_i hk
        exact .inl ⟨rfl, by cases q : K.lookup b with | none => rfl | some o => exact absurd (by rw [q]; rfl) hk, (Option.some.inj h).symm⟩
    · rw [at_b e, Option.map_eq_some_iff] at h
      obtain ⟨q, h1, h2⟩ := h
      exact .inr ⟨q, h1, h2.symm⟩
  have hok : HOk P w H s₁.heap := fun b u h => by
    rcases kinds h with ⟨rfl, hk, rfl⟩ | ⟨q, h1, rfl⟩
    · exact ⟨ha, hLen, vs, _, rv, ha⟩
    · exact (tabAt h1).1
  have noD : ∀ {b : Addr} {o : Obj}, s₁.heap.get? b = some o → (∀ vs n, o.data ≠ .seq vs n) → o.data ≠ .fields #[] → H b = none := fun {b o} e h1 h2 => by
    cases q : H b with
    | none => rfl
    | some u =>
      rcases kinds q with ⟨rfl, _, _⟩ | ⟨q', h3, _⟩
      · rw [ha] at e
        cases e
        exact absurd rfl (h1 _ _)
      · rw [(tabAt h3).1] at e
        cases e
        exact absurd rfl h2
  have base_of : ∀ {b : Addr} {o : Obj}, s₁.heap.get? b = some o → H b = none → (hidT s₁.heap H).get? b = some o := fun e n => hidT_get e n
  have nsK : ∀ {b : Addr} {m : Str → Option Value}, s₁.heap.Ns b m → (hidT s₁.heap H).Ns b m := fun {b m} ⟨o, es, ep, e, d, r⟩ =>
    ⟨o, es, ep, base_of e (noD e (fun vs n z => by rw [d] at z; cases z) fun z => by rw [d] at z; cases z), d, r⟩
  have hKb : K.In (hidT s₁.heap H) := fun b o e => base_of (KX b o e) (by
    cases q : H b with
    | none => rfl
    | some u =>
      rcases kinds q with ⟨rfl, hk, _⟩ | ⟨q', h3, _⟩
      · rw [hk] at e
        cases e
      · rw [(tabAt h3).2] at e
        cases e)
  have hM : L2.Mod K mg (hidT s₁.heap H) := ⟨hKb, nsK hns, ⟨mb, nsK hb, hbb⟩, let ⟨mc, h1, h2⟩ := hlim; ⟨mc, nsK h1, h2⟩⟩
  have TB : ∀ p ∈ cs, TabB (hidT s₁.heap H) mg p.1 p.2.1 := fun p hp => by
    have hTp := hT p hp
    refine ⟨?_, ?_, fun z => ?_⟩
    · obtain ⟨o, us, file, tf, flags, tg, inF, text, tt, e1, r1, r2, r3, r⟩ := C p hp
      refine ⟨o, us, file, tf, flags, tg, inF, text, tt, base_of e1 (noD e1 (fun vs n z => by rw [r2] at z; cases z) fun z => ?_), r1, r2, r3, r⟩
      rw [r2] at z
      cases z
      simp at r3
    · obtain ⟨bm, ob, b1, b2, b3, b4, b5, b6⟩ := hbm
      refine ⟨bm, ob, b1, b2, fun q => ?_, fun q => ?_, base_of b3 (noD b3 (fun vs n z => by rw [b6] at z; cases z) fun z => by rw [b6] at z; cases z), b4, b5, b6⟩
      · obtain ⟨o, es, ep, e, hd, _⟩ := hns
        rw [q, e] at b3
        cases b3
        rw [hd] at b6
        cases b6
      · rw [q, hTp] at b3
        cases b3
        cases b6
    · obtain ⟨o, es, ep, e, hd, _⟩ := hns
      rw [z, hTp] at e
      cases e
      cases hd
  have e0 : Env0 P w K mg (hidT s₁.heap H) callerA [] s₁ H := ⟨rfl, hM, fun b o e => of_hidT e, Nat.le_of_eq (hidT_size _ _), trivial, fun b hb => absurd (show b ∈ ([] : List Addr) from hb) (by simp), hok, .of_eq hg⟩
  have hTM : TabM T (endM T) := fun b q => by
    unfold endM
    rw [Option.map_eq_some_iff]
    constructor
    · rintro ⟨q', h1, h2⟩
      cases h2
      exact (lookup_iff fT).mp h1
    · exact fun h => ⟨q, (lookup_iff fT).mpr h, rfl⟩
  have mr : MR K H (endM T) := fun b m e => by
    unfold endM at e
    rw [Option.map_eq_some_iff] at e
    obtain ⟨q, h1, h2⟩ := e
    subst h2
    have hba : b ≠ a := fun z => by rw [z, aT] at h1; cases h1
    exact ⟨#[], by rw [at_b hba, h1]; rfl, True.intro, fun pos cv z => by
      have z' : codeAmong pos [] = some cv := z
      simp [codeAmong] at z'⟩
  have hS : SqL K (hid H (endM T)) a (ns.map V.int) := by
    cases hk : K.lookup a with
    | some o =>
      have e := KX a o hk
      rw [ha] at e
      cases e
      exact .inr ⟨_, vs.toArray, _, hk, rfl, rfl, rfl, by rw [List.size_toArray, hi.length]; exact hl, by simpa using rv⟩
    | none =>
      refine .inl (.inr ⟨{ cls := .type "list", data := .seq vs.toArray }, hid_some.mpr ⟨⟨?_, rfl⟩, ?_⟩⟩)
      · unfold endM
        rw [aT]
        rfl
      · rw [at_a, hk]
        rfl
  refine codeAny_mono (F _ hKb (nsK hns) TB callerA [] s₁ H [.ref a] [.ref a] (fun v _ => v = .bl true) (fun _ _ _ => False) rfl hr e0 (.cons rfl .nil) ⟨[.ro (ns.map D.int)], endM T, _, _, .cons (.ro hS (RA.ints ns)) .nil, mr, hwp _ hTM, fun v d H' μ' m r q => ?_, fun _ _ _ _ _ _ _ z => z⟩) fun r s' h => ?_
  · subst q
    exact r.bl_inv
  · cases r with
    | error e =>
      obtain ⟨_, _, _, _, _, _, _, _, _, _, _, _, z⟩ := h
      exact z.elim
    | ok fl =>
      cases fl with
      | next => exact False.elim h
      | brk => exact False.elim h
      | cont => exact False.elim h
      | ret u =>
        obtain ⟨v, H', os, bare, un, hok', r', q⟩ := h
        have q' : v = .bl true := q
        subst q'
        obtain rfl : u = Value.bool true := r'
        have key : ∀ b o, s₁.heap.get? b = some o → (∃ q, T.lookup b = some q) ∨ s'.heap.get? b = some o := fun b o e => by
          cases q : H b with
          | none => exact .inr (un.keep b o e q (by intro z; exact absurd (show b ∈ ([] : List Addr) from z) (by simp)) (by simp))
          | some u =>
            rcases kinds q with ⟨rfl, _, rfl⟩ | ⟨q', h3, _⟩
            · obtain ⟨e1, _⟩ := hok b _ q
              obtain ⟨e2, _⟩ := hok' b _ (un.frzs b _ _ q)
              rw [e] at e1
              cases e1
              exact .inr e2
            · exact .inl ⟨q', h3⟩
        have grown : ∀ {b : Addr} {q : Str}, T.lookup b = some q → ∃ more : Array Value, s'.heap.get? b = some { cls := .none, data := .fields more } := fun {b q} h => by
          have hba : b ≠ a := fun z => by rw [z, aT] at h; cases h
          obtain ⟨more, z⟩ := un.tbls b #[] (by rw [at_b hba, h]; rfl)
          exact ⟨_, hok' b _ z⟩
        refine ⟨rfl, ⟨fun b o e => ?_, fun b o e => ?_⟩, os, bare⟩
        · rcases key b o e with ⟨q, h⟩ | h
          · obtain ⟨more, hm⟩ := grown h
            obtain ⟨p, hp, ep⟩ := inT h
            have e2 := (tabAt h).1
            rw [e] at e2
            cases e2
            rw [← ep] at hm e ⊢
            exact .inr (.inl ⟨((C p hp).tab (hT p hp)).isCodeTable, rfl, #[], more, rfl, by rw [Array.empty_append]; exact hm⟩)
          · exact .inl h
        · rcases key b o e with ⟨q, h⟩ | h
          · obtain ⟨more, hm⟩ := grown h
            exact ⟨_, hm⟩
          · exact ⟨o, h⟩
end
/-- what is known of the law's promise at the head's heap h -/
def LawD (l : PySem.W.OpenLaw) (w : World) (K : PySem.W.Frag) (k n : Nat) (mg : Str → Option Value) (fa : Addr) (h : Heap) : Prop :=
  ∃ (cs : List (Addr × Addr × Str)) (wp : DF), (∀ p ∈ cs, h.get? p.2.1 = some { cls := .none, data := .fields #[] }) ∧ (∀ p ∈ cs, K.lookup p.2.1 = none) ∧ (∀ p ∈ cs, PySem.W.CodeHd h p.1 p.2.1) ∧ (∀ b q q', (b, q) ∈ cs.map (·.2) → (b, q') ∈ cs.map (·.2) → q = q') ∧
    (∀ (μ : M) (ns : List Int), ns.length ≤ n → (∀ z ∈ ns, Builtin.Int.intBits z ≤ 1048576) → TabM (cs.map (·.2)) μ → wp [.ro (ns.map D.int)] μ (fun d _ => d = .bl true) fun _ _ => False) ∧
    ∀ base : Heap, K.In base → base.Ns mainGlobals mg → (∀ p ∈ cs, TabB base mg p.1 p.2.1) → FnD l.prog w K mg base k fa wp
/-- the tables of the defs that are told of are empty -/
def TabF (q : Program) (K : PySem.W.Frag) (h : Heap) : Prop := ∀ (x : Str) (d : DefRec) (c P : Addr), (recsOf q).find? (fun e => e.name == x) = some d → PySem.W.tabIn K x = some (c, P) → PySem.W.CodeHd h c P ∧ h.get? P = some (PySem.W.tabObj #[])
theorem walk_d {l : PySem.W.OpenLaw} {n k : Nat} {q : Program} {loose : List Str} {XP : (Str → Option Value) → Heap → Prop} {YP : World → Heap → Prop} {d : DefRec} {K : Params → PySem.W.Frag}
    (hn : l.most = some n) (hn2 : n ≤ sizeLine) (hdf : d.params.defaults = []) (hr : Room k callerA) (hY : ∀ (w : World) (h : Heap), YP w h → (K w.params).In h)
    (F : ∀ (w : World) (mg : Str → Option Value) (fa : Addr) (h : Heap), YP w h → (K w.params).In h → h.Ns mainGlobals mg → mg d.name = some (.ref fa) → TabF q (K w.params) h → LawD l w (K w.params) k n mg fa h) :
    PySem.W.WalkO q loose XP YP l.row.toRowW d [] (fun f vs => PySem.call f vs) := by
  refine Att.attach_callB hn hdf fun w s₀ s₁ mg mb fa o pm cd doc a vs ns G Y ho hd hcd hmg hobj hints hlen hbits hg => ?_
  have KX := hY w _ Y
  obtain ⟨cs, wp, hT, nT, C, fT, hwp, hF⟩ := F w mg fa _ Y KX G.T.g hmg fun x d c P hr ht => PySem.W.tab_of G.T KX hr ht
  exact law_end KX G.T.g G.T.b G.T.builtins G.T.nolimit hg hT nT C fT G.T.bmain hobj hints (Nat.le_trans hlen hn2) hr hF fun μ hμ => hwp μ ns hlen hbits hμ
end DL

set_option maxHeartbeats 2000000
namespace DL
open PySem PySem.Spec PyProof.Rows L2 LamX

/-! ### names for the operators' readings -/
abbrev gSub : G2 := gI (fun _ _ => True) fun i j => .int (i - j)
abbrev gMul : G2 := gI CMulW fun i j => .int (i * j)
abbrev gMod : G2 := gI (fun _ j => j ≠ 0) fun i j => .int (i.fmod j)
abbrev gDiv : G2 := gI CDivG fun i j => .int (i.fdiv j)
abbrev gPow : G2 := gI CPow fun i j => .int (i ^ j.toNat)
abbrev gLt : G2 := gI (fun _ _ => True) fun i j => .bl (decide (i < j))
abbrev gLe : G2 := gI (fun _ _ => True) fun i j => .bl (decide (i ≤ j))
abbrev gGt : G2 := gI (fun _ _ => True) fun i j => .bl (decide (j < i))
abbrev gGe : G2 := gI (fun _ _ => True) fun i j => .bl (decide (j ≤ i))
abbrev gNeg : G1 := gU fun i => .int (-i)
abbrev gAbs : List D → M → DK → Prop := gOne (gU fun i => .int (if i < 0 then -i else i))
abbrev gMax2 : List D → M → DK → Prop := gInt2 fun i j => if j > i then j else i
abbrev gMin2 : List D → M → DK → Prop := gInt2 fun i j => if j < i then j else i

/-- an exception class that a clause names, its fields -/
structure ExF (K : PySem.W.Frag) (mg : Str → Option Value) (x : Str) (C : Addr) (fs : List Str) : Prop where
  gC : mg x = some (.ref C)
  xf : XfC K C
  no : ∀ f, f ∈ fs → PySem.W.findIn K (.ref C) f = some none
/-- a def whose code object is known -/
structure DefT (K : PySem.W.Frag) (mg : Str → Option Value) (x : Str) (st : Stmt) (cc : Addr) : Prop where
  ex : ∃ (f : Addr) (oc : Value) (od : Option Addr) (kV doc pm : Value) (an : Option Addr) (ct : Value) (osl : Array (Option Value)), mg x = some (.ref f) ∧ PySem.W.keepIn K (.ref f) = true ∧
    K.lookup f = some ⟨oc, od, .func (PySem.W.fnOf x x (defArgs st) (defBody st) (defScope st) .none kV doc pm an (.ref cc) ct), osl⟩ ∧ PySem.W.codeIn K (.ref cc) x = true
section
variable {P : Program} {w : World} {K : PySem.W.Frag} {mg : Str → Option Value} {base : Heap} {k : Nat} {wp : DF} {x : Str}
theorem cal_ofT {st : Stmt} {cc : Addr} {N ps : List Str} {wb : DS} (D : DefT K mg x st cc) (S : FnScope N ps (defScope st))
    (hb : ∀ (kV doc pm : Value) (an : Option Addr) (cdv ct : Value) (us : List Value), us.length = ps.length → bindArgs (PySem.W.fnOf x x (defArgs st) (defBody st) (defScope st) .none kV doc pm an cdv ct) ⟨us, []⟩ = pure (ps.zip us))
    (body : ∀ (f : Addr) (A : Around) (outer : List Env) (s : Shared) (H : Hp) (E : XK), Ct (cxD P w K mg base N x (defScope st) f (.ref cc) A outer s H E) (WD E) k → ∃ t, PDB (cxD P w K mg base N x (defScope st) f (.ref cc) A outer s H E) (WD E) (defBody st) t wb)
    (h : ∀ ds μ Q F, wp ds μ Q F → ds.length = ps.length ∧ wb { nx := fun _ μ' => Q .non μ', rt := Q } F (dstart N ds) μ) : CalD P w K mg base (k + 1) x wp := by
  obtain ⟨f, oc, od, kV, doc, pm, an, ct, osl, hm, kp, lk, hcd⟩ := D.ex
  refine ⟨f, hm, kp, fun A outer s H us vs Q E hg hr e0 r sp => ?_⟩
  obtain ⟨ds, μ, Qd, F, ra, mr, q, kQ, kF⟩ := sp
  obtain ⟨hl, q⟩ := h ds μ Qd F q
  have hv : vs.length = ps.length := by rw [ra.length, hl]
  refine LamX.run_ofS (N := N) (ps := ps) (us := us) (vs := vs) lk hcd S hr e0 (.of_eq (hb _ _ _ _ _ _ us (by rw [← r.length, hv]))) r hv fun hr' => ?_
  obtain ⟨t, hb⟩ := body f A outer s H E (ct_of hg hr')
  refine ⟨t, hb.pss, hb.ls (hid H μ) _ _ H μ _ _ F (Same.refl _) (sd_start mr ra) q ⟨fun σ δ H' μ' g S' q' => kQ .non .non H' μ' ⟨g, S'.mr⟩ .non q', fun v d H' μ' g m r q' => kQ v d H' μ' ⟨g, m⟩ r q', fun _ _ _ _ _ _ z => z, fun _ _ _ _ _ _ z => z, fun cls dd er σ H' μ' g m r f => kF cls dd er H' μ' ⟨g, m⟩ r f⟩⟩
end
end DL

set_option maxHeartbeats 2000000
namespace DL
open PySem PySem.Spec PyProof.Rows L2

/-! ### shown texts: their signs, their length -/
def okT (x : Str) : Prop := ∀ c ∈ x.cps.toList, c < 0x110000
theorem okT_strOk {x : Str} (h : okT x) : PyData.strOk x = true := by
  unfold PyData.strOk
  rw [Array.all_eq_true_iff_forall_mem]
  intro c hc
  simpa using h c (Array.mem_toList_iff.mpr hc)
theorem okT_of {x : Str} (h : PyData.strOk x = true) : okT x := fun c hc => by
  unfold PyData.strOk at h
  have := (Array.all_eq_true_iff_forall_mem.mp h) c (Array.mem_toList_iff.mp hc)
  simpa using this
theorem okT_app {x y : Str} (a : okT x) (b : okT y) : okT (x ++ y) := fun c hc => by
  rw [show (x ++ y).cps = x.cps ++ y.cps from rfl, Array.toList_append, List.mem_append] at hc
  rcases hc with hc | hc
  · exact a c hc
  · exact b c hc
theorem okT_join {s : Str} (hs : okT s) : ∀ {l : List Str}, (∀ x ∈ l, okT x) → okT (Str.join s l)
  | [], _ => fun c hc => by
    have hc' : c ∈ (Str.empty).cps.toList := hc
    simp [Str.empty] at hc'
  | [x], h => h x (by simp)
  | x :: y :: r, h => okT_app (okT_app (h x (by simp)) hs) (okT_join hs fun z hz => h z (List.mem_cons_of_mem _ hz))
theorem okT_sep : okT ((", " : String) : Str) := okT_of (by decide +kernel)
theorem okT_from : ∀ (l : List Str) (k : Nat) (acc : Str), okT acc → (∀ x ∈ l, okT x) → okT (textFrom k acc l)
  | [], _, _, a, _ => a
  | t :: ts, k, acc, a, h => okT_from ts (k + 1) _ (okT_app (okT_app a (by split <;> exact okT_of (by decide +kernel))) (h t (by simp))) fun z hz => h z (List.mem_cons_of_mem _ hz)
mutual
def bnd : PyData → Nat
  | .none => 4
  | .bool _ => 5
  | .int _ => 600
  | .str x => (reprText x).length
  | .list xs => bndA xs + 3
  | .tuple xs => bndA xs + 3
  | .dict ks => bndK ks + 3
def bndA : List PyData → Nat
  | [] => 0
  | x :: xs => bnd x + 2 + bndA xs
def bndK : List (PyData × PyData) → Nat
  | [] => 0
  | (k, v) :: r => bnd k + 2 + bnd v + 2 + bndK r
end
mutual
/-- may be shown: its ints are below 10 ^ 500 -/
def small : PyData → Bool
  | .none => true
  | .bool _ => true
  | .int i => decide (i.natAbs < 10 ^ 500)
  | .str x => PyData.strOk (reprText x)
  | .list xs => smallA xs
  | .tuple xs => smallA xs
  | .dict ks => smallK ks
def smallA : List PyData → Bool
  | [] => true
  | x :: xs => small x && smallA xs
def smallK : List (PyData × PyData) → Bool
  | [] => true
  | (k, v) :: r => small k && small v && smallK r
end
theorem log2_small {i : Int} (h : i.natAbs < 10 ^ 500) : i.natAbs.log2 < 1920 := by
  by_cases e : i.natAbs = 0
  · rw [e]
    decide
  · refine Nat.log2_lt e |>.mpr (Nat.lt_of_lt_of_le h ?_)
    decide +kernel
theorem len_small {i : Int} (h : i.natAbs < 10 ^ 500) : (PyData.shown (.int i)).length ≤ 600 := by
  have e := int_text_length_le10 (k := 500) (by decide) h
  show (Str.ofString (toString i)).length ≤ 600
  rw [PySem.ofString_length]
  omega
mutual
theorem shown_small : ∀ {p : PyData}, small p = true → p.showable = true ∧ p.shown.length ≤ bnd p ∧ okT p.shown
  | .none, _ => ⟨rfl, by decide +kernel, okT_of (by decide +kernel)⟩
  | .bool b, _ => ⟨rfl, by cases b <;> decide +kernel, by cases b <;> exact okT_of (by decide +kernel)⟩
  | .int i, h => by
    have h' : i.natAbs < 10 ^ 500 := of_decide_eq_true (by simpa only [small] using h)
    refine ⟨by simpa only [PyData.showable, decide_eq_true_eq] using log2_small h', by simpa only [bnd] using len_small h', fun c hc => ?_⟩
    by_cases z : c < 0x110000
    · exact z
    · exact absurd hc (shown_int_free' ⟨by omega, by omega⟩ i)
  | .str x, h => ⟨rfl, Nat.le_refl _, okT_of h⟩
  | .list xs, h => by
    obtain ⟨h1, h2, h3⟩ := shown_smallA (xs := xs) (by simpa only [small] using h)
    refine ⟨by simpa only [PyData.showable] using h1, ?_, ?_⟩
    · have e := listText_len_le (PyData.shownAll xs)
      simp only [bnd]
      show (listText (PyData.shownAll xs)).length ≤ _
      omega
    · show okT (listText (PyData.shownAll xs))
      exact okT_app (okT_from _ _ _ (okT_of (by decide +kernel)) h3) (okT_of (by decide +kernel))
  | .tuple xs, h => by
    obtain ⟨h1, h2, h3⟩ := shown_smallA (xs := xs) (by simpa only [small] using h)
    refine ⟨by simpa only [PyData.showable] using h1, ?_, ?_⟩
    · have e := tupleText_len_le (PyData.shownAll xs)
      simp only [bnd]
      show (tupleText (PyData.shownAll xs)).length ≤ _
      omega
    · show okT (tupleText (PyData.shownAll xs))
      unfold tupleText
      exact okT_app (okT_app (okT_of (by decide +kernel)) (okT_join okT_sep h3)) (by split <;> exact okT_of (by decide +kernel))
  | .dict ks, h => by
    obtain ⟨h1, h2, h3⟩ := shown_smallK (xs := ks) (by simpa only [small] using h)
    refine ⟨by simpa only [PyData.showable] using h1, ?_, ?_⟩
    · have e := dictText_len_le (PyData.shownKv ks)
      simp only [bnd]
      show (dictText (PyData.shownKv ks)).length ≤ _
      omega
    · show okT (dictText (PyData.shownKv ks))
      unfold dictText
      exact okT_app (okT_app (okT_of (by decide +kernel)) (okT_join okT_sep h3)) (okT_of (by decide +kernel))
theorem shown_smallA : ∀ {xs : List PyData}, smallA xs = true → PyData.showableAll xs = true ∧ ((PyData.shownAll xs).map (·.length)).sum + 2 * (PyData.shownAll xs).length ≤ bndA xs ∧ ∀ t ∈ PyData.shownAll xs, okT t
  | [], _ => ⟨rfl, by simp [PyData.shownAll, bndA], fun t ht => by simp [PyData.shownAll] at ht⟩
  | x :: xs, h => by
    have h' : small x = true ∧ smallA xs = true := by simpa only [smallA, Bool.and_eq_true] using h
    obtain ⟨a1, a2, a3⟩ := shown_small h'.1
    obtain ⟨b1, b2, b3⟩ := shown_smallA h'.2
    refine ⟨by simp only [PyData.showableAll, a1, b1, Bool.and_self], ?_, fun t ht => ?_⟩
    · simp only [PyData.shownAll, bndA, List.map_cons, List.sum_cons, List.length_cons]
      omega
    · simp only [PyData.shownAll, List.mem_cons] at ht
      rcases ht with rfl | ht
      · exact a3
      · exact b3 t ht
theorem shown_smallK : ∀ {xs : List (PyData × PyData)}, smallK xs = true → PyData.showableKv xs = true ∧ ((PyData.shownKv xs).map (·.length)).sum + 2 * (PyData.shownKv xs).length ≤ bndK xs ∧ ∀ t ∈ PyData.shownKv xs, okT t
  | [], _ => ⟨rfl, by simp [PyData.shownKv, bndK], fun t ht => by simp [PyData.shownKv] at ht⟩
  | (k, v) :: xs, h => by
    have h' : (small k = true ∧ small v = true) ∧ smallK xs = true := by simpa only [smallK, Bool.and_eq_true] using h
    obtain ⟨a1, a2, a3⟩ := shown_small h'.1.1
    obtain ⟨c1, c2, c3⟩ := shown_small h'.1.2
    obtain ⟨b1, b2, b3⟩ := shown_smallK h'.2
    refine ⟨by simp only [PyData.showableKv, a1, c1, b1, Bool.and_self], ?_, fun t ht => ?_⟩
    · have e : (PyData.shown k ++ ": " ++ PyData.shown v).length = (PyData.shown k).length + 2 + (PyData.shown v).length := by
        rw [strLen_append, strLen_append]
        rfl
      simp only [PyData.shownKv, bndK, List.map_cons, List.sum_cons, List.length_cons, e]
      omega
    · simp only [PyData.shownKv, List.mem_cons] at ht
      rcases ht with rfl | ht
      · exact okT_app (okT_app a3 (okT_of (by decide +kernel))) c3
      · exact b3 t ht
end
/-- repr -/
theorem repr_ok {x : D} {p : PyData} {μ : M} {Q : DK} (e : pyOf μ x = some p) (h1 : okP p = true) (h2 : small p = true) (h3 : p.depth ≤ 60) (h4 : bnd p ≤ 1000000) (q : Q (.str p.shown) μ) : gRepr x μ Q :=
  ⟨p, e, h1, (shown_small h2).1, h3, Nat.le_trans (shown_small h2).2.1 h4, q⟩
/-- two texts told apart -/
theorem eq_txt {neg : Bool} {x y : Str} {μ : M} {Q : DK} (hx : okT x) (hy : okT y) (q : Q (.bl (if neg = true then !(x == y) else (x == y))) μ) : gEq neg (.str x) (.str y) μ Q := by
  refine ⟨.str x, .str y, rfl, rfl, ?_, ?_, ?_⟩
  · simpa [SeqAt.shaped, PyData.canLay0, PyData.depth] using okT_strOk hx
  · simpa [SeqAt.shaped, PyData.canLay0, PyData.depth] using okT_strOk hy
  · simpa only [PyData.eqv] using q
/-- a thing is equal to itself -/
theorem eq_self {neg : Bool} {x y : D} {p : PyData} {μ : M} {Q : DK} (hx : pyOf μ x = some p) (hy : pyOf μ y = some p) (s : SeqAt.shaped p = true) (q : Q (.bl (!neg)) μ) : gEq neg x y μ Q := by
  refine ⟨p, p, hx, hy, s, s, ?_⟩
  rw [SeqAt.eqv_refl p (SeqAt.canLay_of_shaped s)]
  cases neg <;> exact q
/-- ints told apart -/
theorem eq_int {neg : Bool} {x y : Int} {μ : M} {Q : DK} (q : Q (.bl (if neg = true then !(x == y) else (x == y))) μ) : gEq neg (.int x) (.int y) μ Q :=
  ⟨.int x, .int y, rfl, rfl, rfl, rfl, by simpa only [PyData.eqv] using q⟩
theorem gEq_int {neg : Bool} {x y : Int} {μ : M} {Q : DK} : gEq neg (.int x) (.int y) μ Q ↔ Q (.bl (if neg = true then !(x == y) else (x == y))) μ := by
  refine ⟨fun ⟨p, q, e1, e2, _, _, h⟩ => ?_, eq_int⟩
  cases e1
  cases e2
  simpa only [PyData.eqv] using h

/-! ### isinstance of what is typed by a built-in class -/
def tyN : D → Option String
  | .non => some "NoneType"
  | .bl _ => some "bool"
  | .int _ => some "int"
  | .str _ => some "str"
  | .lst _ => some "list"
  | .ro _ => some "list"
  | .tup _ => some "tuple"
  | .dct _ => some "dict"
  | _ => none
theorem tyN_ok {K : PySem.W.Frag} {μ : M} {d : D} {t : String} (h : tyN d = some t) : TyD K μ d (.type t) := by
  cases d <;> first | (cases h <;> constructor) | cases h
def isW : D → Bool
  | .int _ => true
  | _ => false
def isB : D → Bool
  | .bl _ => true
  | _ => false
def isSq : D → Bool
  | .lst _ => true
  | .ro _ => true
  | .tup _ => true
  | _ => false
def isSt : D → Bool
  | .str _ => true
  | _ => false
theorem isi_int {K : PySem.W.Frag} {μ : M} {d : D} {t : String} {Q : DK} (h : tyN d = some t) (q : Q (.bl (isW d || isB d)) μ) : gIsi K [d, .raw (.ty "int")] μ Q :=
  .inl ⟨d, _, _, _, isW d || isB d, rfl, .ty "int", tyN_ok h, (by cases d <;> first | (cases h <;> rfl) | cases h), q⟩
theorem isi_bool {K : PySem.W.Frag} {μ : M} {d : D} {t : String} {Q : DK} (h : tyN d = some t) (q : Q (.bl (isB d)) μ) : gIsi K [d, .raw (.ty "bool")] μ Q :=
  .inl ⟨d, _, _, _, isB d, rfl, .ty "bool", tyN_ok h, (by cases d <;> first | (cases h <;> rfl) | cases h), q⟩
theorem isi_str {K : PySem.W.Frag} {μ : M} {d : D} {t : String} {Q : DK} (h : tyN d = some t) (q : Q (.bl (isSt d)) μ) : gIsi K [d, .raw (.ty "str")] μ Q :=
  .inl ⟨d, _, _, _, isSt d, rfl, .ty "str", tyN_ok h, (by cases d <;> first | (cases h <;> rfl) | cases h), q⟩
theorem isi_tl {K : PySem.W.Frag} {μ : M} {d : D} {t : String} {Q : DK} (h : tyN d = some t) (q : Q (.bl (isSq d)) μ) : gIsi K [d, .tup [.raw (.ty "tuple"), .raw (.ty "list")]] μ Q :=
  .inr ⟨d, _, _, _, isSq d, rfl, .cons (.ty "tuple") (.cons (.ty "list") .nil), tyN_ok h, (by cases d <;> first | (cases h <;> rfl) | cases h), q⟩
theorem isi_lt {K : PySem.W.Frag} {μ : M} {d : D} {t : String} {Q : DK} (h : tyN d = some t) (q : Q (.bl (isSq d)) μ) : gIsi K [d, .tup [.raw (.ty "list"), .raw (.ty "tuple")]] μ Q :=
  .inr ⟨d, _, _, _, isSq d, rfl, .cons (.ty "list") (.cons (.ty "tuple") .nil), tyN_ok h, (by cases d <;> first | (cases h <;> rfl) | cases h), q⟩
end DL

set_option maxHeartbeats 2000000
namespace DL
open PySem PySem.Spec PyProof.Rows L2

/-! ### what the readings come to -/
section
variable {μ : M} {Q : DK} {xs ys : List D} {i j : Int} {x y d : D}
theorem gIx_tup : gIx (.tup xs) (.int i) μ Q ↔ ∃ d, atI xs i = some d ∧ Q d μ := by
  refine ⟨fun h => ?_, fun ⟨d, h, q⟩ => .inl ⟨xs, i, d, rfl, rfl, h, q⟩⟩
  rcases h with ⟨ds, k, d, e1, e2, e3, q⟩ | ⟨z, _, _, e1, _⟩
  · cases e1
    cases e2
    exact ⟨d, e3, q⟩
  · cases e1
theorem gIx_lst : gIx (.lst xs) (.int i) μ Q ↔ ∃ d, atI xs i = some d ∧ Q d μ := by
  refine ⟨fun h => ?_, fun ⟨d, h, q⟩ => .inl ⟨xs, i, d, rfl, rfl, h, q⟩⟩
  rcases h with ⟨ds, k, d, e1, e2, e3, q⟩ | ⟨z, _, _, e1, _⟩
  · cases e1
    cases e2
    exact ⟨d, e3, q⟩
  · cases e1
theorem atI_0 : atI (x :: xs) 0 = some x := by simp [atI, ixN]
theorem atI_1 : atI (x :: y :: xs) 1 = some y := by
  have e : ixN (xs.length + 1 + 1) 1 = some 1 := by unfold ixN; simp; omega
  simp [atI, e]
theorem atI_2 : atI [x, y, d] 2 = some d := rfl
theorem gLen_tup : gLen (.tup xs) μ Q ↔ Q (.int xs.length) μ := by
  refine ⟨fun h => ?_, fun q => .inl ⟨xs, rfl, q⟩⟩
  rcases h with ⟨ds, e, q⟩ | ⟨z, e, _⟩ | ⟨ks, e, _⟩
  · cases e
    exact q
  · cases e
  · cases e
theorem gLen_lst : gLen (.lst xs) μ Q ↔ Q (.int xs.length) μ := by
  refine ⟨fun h => ?_, fun q => .inl ⟨xs, rfl, q⟩⟩
  rcases h with ⟨ds, e, q⟩ | ⟨z, e, _⟩ | ⟨ks, e, _⟩
  · cases e
    exact q
  · cases e
  · cases e
theorem gInt_int : gInt (.int i) μ Q ↔ Q (.int i) μ := by
  refine ⟨fun h => ?_, fun q => .inl ⟨i, rfl, q⟩⟩
  rcases h with ⟨ds, e, q⟩ | ⟨z, e, _⟩
  · cases e
    exact q
  · cases e
theorem gAdd_int : gAdd (.int i) (.int j) μ Q ↔ Q (.int (i + j)) μ := by
  refine ⟨fun h => ?_, fun q => .inl ⟨i, j, rfl, rfl, q⟩⟩
  rcases h with ⟨a, b, e1, e2, q⟩ | ⟨a, b, e1, _⟩ | ⟨a, b, e1, _⟩ | ⟨a, b, e1, _⟩
  · cases e1
    cases e2
    exact q
  · cases e1
  · cases e1
  · cases e1
theorem gAdd_lst : gAdd (.lst xs) (.lst ys) μ Q ↔ xs.length + ys.length ≤ 1000000 ∧ Q (.lst (xs ++ ys)) μ := by
  refine ⟨fun h => ?_, fun ⟨h, q⟩ => .inr (.inr (.inl ⟨xs, ys, rfl, rfl, h, q⟩))⟩
  rcases h with ⟨a, b, e1, e2, q⟩ | ⟨a, b, e1, _⟩ | ⟨a, b, e1, e2, h, q⟩ | ⟨a, b, e1, _⟩
  · cases e1
  · cases e1
  · cases e1
    cases e2
    exact ⟨h, q⟩
  · cases e1
theorem gAdd_tup : gAdd (.tup xs) (.tup ys) μ Q ↔ xs.length + ys.length ≤ 1000000 ∧ Q (.tup (xs ++ ys)) μ := by
  refine ⟨fun h => ?_, fun ⟨h, q⟩ => .inr (.inr (.inr ⟨xs, ys, rfl, rfl, h, q⟩))⟩
  rcases h with ⟨a, b, e1, e2, q⟩ | ⟨a, b, e1, _⟩ | ⟨a, b, e1, e2, h, q⟩ | ⟨a, b, e1, e2, h, q⟩
  · cases e1
  · cases e1
  · cases e1
  · cases e1
    cases e2
    exact ⟨h, q⟩
theorem gDGet_obj {a : Addr} {ks : List (Key × D)} {z : Str} (h : μ a = some (.dct ks)) : gDGet (.obj a) (.str z) μ Q ↔ ∃ d, valD ks (.inr z) = some d ∧ Q d μ := by
  refine ⟨fun ⟨ks', k, d, e1, e2, e3, q⟩ => ?_, fun ⟨d, e, q⟩ => ⟨ks, _, d, by simp [dctOf, h], rfl, e, q⟩⟩
  simp [dctOf, h] at e1
  cases e1
  cases e2
  exact ⟨d, e3, q⟩
theorem gIsB_bl {a b : Bool} : gIsB (.bl a) (.bl b) μ Q ↔ Q (.bl (decide (a = b))) μ := by
  refine ⟨fun ⟨a', b', e1, e2, q⟩ => ?_, fun q => ⟨a, b, rfl, rfl, q⟩⟩
  cases e1
  cases e2
  exact q
end
/-- but for the handle p nothing is told anew -/
def Only (p : Addr) (μ μ' : M) : Prop := ∀ b, b ≠ p → μ' b = μ b
theorem Only.refl {p : Addr} {μ : M} : Only p μ μ := fun _ _ => rfl
theorem Only.trans {p : Addr} {μ μ1 μ2 : M} (a : Only p μ μ1) (b : Only p μ1 μ2) : Only p μ μ2 := fun c h => (b c h).trans (a c h)
theorem Only.put {p : Addr} {μ : M} {m : MO} : Only p μ (mput μ p m) := fun _ h => mput_ne h
theorem mput_mput {μ : M} {p : Addr} {m m' : MO} : mput (mput μ p m) p m' = mput μ p m' := by
  funext b
  by_cases h : b = p
  · rw [h, mput_same, mput_same]
  · rw [mput_ne h, mput_ne h, mput_ne h]
theorem TabM.only {T : List (Addr × Str)} {p : Addr} {μ μ' : M} {ks ks' : List (Key × D)} (h : TabM T μ) (e : Only p μ μ') (h1 : μ p = some (.dct ks)) (h2 : μ' p = some (.dct ks')) : TabM T μ' := fun a q => by
  by_cases z : a = p
  · subst z
    rw [h2]
    have := h a q
    rw [h1] at this
    constructor
    · intro y
      cases y
    · intro y
      have y' := this.mpr y
      cases y'
  · rw [e a z]
    exact h a q

/-! ### the pen -/
def penD (cs : List Int) (a d n f : Int) : List (Key × D) := [(.inr "cells", .lst (cs.map .int)), (.inr "at", .int a), (.inr "digits", .int d), (.inr "count", .int n), (.inr "fold", .int f)]
/-- a pen stands behind p, at most m draws old -/
def Pen (p : Addr) (μ : M) (m : Nat) : Prop := ∃ cs a d n f, μ p = some (.dct (penD cs a d n f)) ∧ 0 ≤ a ∧ a ≤ cs.length ∧ cs.length ≤ 1000000 ∧ 0 ≤ d ∧ 0 ≤ n ∧ n ≤ m ∧ 0 ≤ f ∧ f < 2147483648
theorem Pen.mono {p : Addr} {μ : M} {m m' : Nat} (h : Pen p μ m) (e : m ≤ m') : Pen p μ m' := by
  obtain ⟨cs, a, d, n, f, h0, h1, h2, h3, h4, h5, h6, h7⟩ := h
  exact ⟨cs, a, d, n, f, h0, h1, h2, h3, h4, h5, by omega, h7⟩
theorem Pen.tab {T : List (Addr × Str)} {p : Addr} {μ μ' : M} {m m' : Nat} (t : TabM T μ) (e : Only p μ μ') (h1 : Pen p μ m) (h2 : Pen p μ' m') : TabM T μ' := by
  obtain ⟨_, _, _, _, _, h1, _⟩ := h1
  obtain ⟨_, _, _, _, _, h2, _⟩ := h2
  exact t.only e h1 h2
section
variable {cs : List Int} {a d n f v : Int} {dv : D}
theorem pen_cells : valD (penD cs a d n f) (.inr "cells") = some (.lst (cs.map .int)) := by rfl
theorem pen_at : valD (penD cs a d n f) (.inr "at") = some (.int a) := by rfl
theorem pen_digits : valD (penD cs a d n f) (.inr "digits") = some (.int d) := by rfl
theorem pen_count : valD (penD cs a d n f) (.inr "count") = some (.int n) := by rfl
theorem pen_fold : valD (penD cs a d n f) (.inr "fold") = some (.int f) := by rfl
theorem put_at : putD (penD cs a d n f) (.inr "at") (.int v) = penD cs v d n f := by rfl
theorem put_digits : putD (penD cs a d n f) (.inr "digits") (.int v) = penD cs a v n f := by rfl
theorem put_count : putD (penD cs a d n f) (.inr "count") (.int v) = penD cs a d v f := by rfl
theorem put_fold : putD (penD cs a d n f) (.inr "fold") (.int v) = penD cs a d n v := by rfl
end
end DL

set_option maxHeartbeats 2000000
namespace DL
open PySem PySem.Spec PyProof.Rows L2
/-! ### loops by an invariant -/
theorem loop_inv {Gd : M → Prop} {tg : DG} {body : DS} {Dd : DE} {F : FK} (ds : List D) {δ : DSt} {μ : M} (I : Nat → DSt → M → Prop) (h0 : I 0 δ μ) (gd : ∀ i δ μ, I i δ μ → Gd μ)
    (step : ∀ i d, ds[i]? = some d → ∀ δ μ, I i δ μ → ∀ R : DSt → M → Prop, (∀ δ' μ', I (i + 1) δ' μ' → R δ' μ') → tg d δ μ fun δ1 μ1 => body { Dd with nx := R, ct := R, bk := Dd.nx } F δ1 μ1)
    (last : ∀ δ μ, I ds.length δ μ → Dd.nx δ μ) : wLoop Gd tg body ds Dd F δ μ := by
  have key : ∀ (es : List D) (i : Nat) (δ : DSt) (μ : M), (∀ j, es[j]? = ds[i + j]?) → es.length + i = ds.length → I i δ μ → wLoop Gd tg body es Dd F δ μ := by
    intro es
    induction es with
    | nil =>
      intro i δ μ _ hl hI
      have : i = ds.length := by simpa using hl
      subst this
      exact ⟨gd _ _ _ hI, last δ μ hI⟩
    | cons e es ih =>
      intro i δ μ hj hl hI
      refine ⟨gd _ _ _ hI, ?_⟩
      refine step i e ?_ δ μ hI _ fun δ' μ' h' => ih (i + 1) δ' μ' (fun j => ?_) (by simp only [List.length_cons] at hl; omega) h'
      · have := hj 0
        simpa using this.symm
      · have := hj (j + 1)
        simp only [List.getElem?_cons_succ] at this
        rw [this]
        congr 1
        omega
  exact key ds 0 δ μ (fun j => by rw [Nat.zero_add]) (by omega) h0
/-- a loop of n laps whatever the items are -/
theorem laps_inv {Gd : M → Prop} {tg : DG} {body : DS} {Dd : DE} {F : FK} (ds : List D) {δ : DSt} {μ : M} (I : Nat → DSt → M → Prop) (h0 : I 0 δ μ) (gd : ∀ i δ μ, I i δ μ → Gd μ)
    (step : ∀ i d, i < ds.length → ∀ δ μ, I i δ μ → ∀ R : DSt → M → Prop, (∀ δ' μ', I (i + 1) δ' μ' → R δ' μ') → tg d δ μ fun δ1 μ1 => body { Dd with nx := R, ct := R, bk := Dd.nx } F δ1 μ1)
    (last : ∀ δ μ, I ds.length δ μ → Dd.nx δ μ) : wLoop Gd tg body ds Dd F δ μ :=
  loop_inv ds I h0 gd (fun i d h => step i d (by obtain ⟨h, _⟩ := List.getElem?_eq_some_iff.mp h; exact h)) last
/-- while, by a measure -/
theorem run_inv {c : DT} {body : DS} {Dd : DE} {F : FK} {δ : DSt} {μ : M} (I : Nat → DSt → M → Prop) (n : Nat) (h0 : I n δ μ)
    (step : ∀ m δ μ, I m δ μ → ∀ R : DSt → M → Prop, (∀ m' δ' μ', m' < m → I m' δ' μ' → R δ' μ') → c δ μ (fun k μ1 => if k = true then body { Dd with nx := R, ct := R, bk := Dd.nx } F δ μ1 else Dd.nx δ μ1) F) :
    ∃ n, wRun c body n Dd F δ μ := by
  have key : ∀ (f m : Nat) (δ : DSt) (μ : M), m ≤ f → I m δ μ → wRun c body (f + 1) Dd F δ μ := by
    intro f
    induction f with
    | zero =>
      intro m δ μ h hI
      exact step m δ μ hI _ fun m' _ _ h' => by omega
    | succ f ih =>
      intro m δ μ h hI
      exact step m δ μ hI _ fun m' δ' μ' h' hI' => ih m' δ' μ' (by omega) hI'
  exact ⟨n + 1, key n n δ μ (Nat.le_refl n) h0⟩
end DL

set_option maxHeartbeats 2000000
/-! the head: facts by names, over data -/
namespace DL
open PySem PySem.Spec PyProof.Rows L2 He
/-- what is looked at behind the top -/
def kOf (g : Addr → Option Obj) (n : Nat) : PySem.W.Frag := frT g (cStatics :: asD g n)
/-- an own exception, in the library's words -/
def oexB (K : PySem.W.Frag) (C : Addr) : Bool :=
  (match K.lookup C with
    | some ⟨.type "type", _, .cls cd, sl⟩ => (match cd.mro, sl.toList with
      | .ref D :: bm, [_, _, _, _, some (.builtin n), _] => D == C && (n == "ValueError.__new__" && (!cd.hasDel && (cd.hasDict && PySem.HandSPX.refsVE bm)))
      | _, _ => false)
    | _ => false) && (eqO (PySem.W.findIn K (.ref C) "__setattr__") (some (some (.builtin "object.__setattr__"))) &&
  (decide (PySem.W.subIn K (.ref C) (.type "BaseException") = some true) && (decide (PySem.W.typeIn K (.ref C) = some (.type "type")) && PySem.W.keepIn K (.ref C))))
theorem oexB_ok {K : PySem.W.Frag} {C : Addr} (h : oexB K C = true) : OexC K C := by
  obtain ⟨h1, h⟩ := ba h
  obtain ⟨h2, h⟩ := ba h
  obtain ⟨h3, h⟩ := ba h
  obtain ⟨h4, h5⟩ := ba h
  refine ⟨?_, eqO_ok h2, of_decide_eq_true h3, of_decide_eq_true h4, h5⟩
  split at h1
  · rename_i dd cd sl hk
    split at h1
    · rename_i D bm a0 a1 a2 a3 n a5 hm hs
      obtain ⟨e1, h1⟩ := ba h1
      obtain ⟨e2, h1⟩ := ba h1
      obtain ⟨e3, h1⟩ := ba h1
      obtain ⟨e4, e5⟩ := ba h1
      have e1 := beq_iff_eq.mp e1
      have e2 := beq_iff_eq.mp e2
      subst e1 e2
      obtain ⟨c1, c2, c3, c4, c5, c6, c7, c8, c9, c10, c11⟩ := cd
      simp only at hm e3 e4
      subst hm
      have e3' : c11 = false := by simpa using e3
      subst e3' e4
      have hs' : sl = #[a0, a1, a2, a3, some (.builtin "ValueError.__new__"), a5] := by rw [← Array.toList_inj]; exact hs
      subst hs'
      exact ⟨_, _, _, _, _, _, _, _, _, _, _, _, _, _, _, hk, e5⟩
    · cases h1
  · cases h1
/-- the base of the own exceptions, whose __init__ is ValueError's -/
def cinB (K : PySem.W.Frag) (B : Addr) : Bool := (PySem.W.readsIn K B (.type "type") && eqO (PySem.W.specialIn K (.ref B) "__getattribute__") (some (some (.builtin "type.__getattribute__")))) &&
  (match PySem.W.findCls K (.ref B) (.type "type") "__init__" with
    | some (.val (.builtin n)) => n == "ValueError.__init__"
    | _ => false)
theorem cinB_ok {K : PySem.W.Frag} {B : Addr} (h : cinB K B = true) : ClX.CRead K B (.type "type") ∧ PySem.W.findCls K (.ref B) (.type "type") "__init__" = some (.val (.builtin "ValueError.__init__")) := by
  obtain ⟨h1, h2⟩ := ba h
  obtain ⟨h3, h4⟩ := ba h1
  refine ⟨⟨h3, eqO_ok h4⟩, ?_⟩
  split at h2
  · rename_i n e
    rw [e, beq_iff_eq.mp h2]
  · cases h2
inductive Fb where
  | a (f : Fa) | oex (x : Str) | xf (x : Str) | cin (x : Str) | ini (x : Str) | apart (ps : List Defn)
def iniAt (K : PySem.W.Frag) (x : Str) : Addr := ma K (ga K x) "__init__"
def Fb.ok (K : PySem.W.Frag) : Fb → Bool
  | .a f => f.ok K
  | .oex x => oexB K (ga K x)
  | .xf x => xfB K (ga K x)
  | .cin x => cinB K (ga K x)
  | .ini x => eqO (PySem.W.findIn K (.ref (ga K x)) "__init__") (some (some (.ref (iniAt K x)))) && decide (PySem.W.typeIn K (.ref (iniAt K x)) = some (.type "function"))
  | .apart ps => decide ((ps.map fun p => (cT K p).2).Nodup)
structure SaysL (fn : List He.DefD) (fb : List Fb) (tf : List Defn) (h : Heap) (K : PySem.W.Frag) : Prop where
  fns : (fn.map fun d => fnW K d.at_) = fn.map He.DefD.val
  oks : (fn.all fun d => d.ok K) = true
  fbs : (fb.all fun f => f.ok K) = true
  hd : ∀ p ∈ tf, PySem.W.codeHdIn K (cT K p).1 (cT K p).2 = true
  out : ∀ p ∈ tf, K.lookup (cT K p).2 = none
  empty : ∀ p ∈ tf, h.get? (cT K p).2 = some (PySem.W.tabObj #[])
def tabL (g : Addr → Option Obj) (K : PySem.W.Frag) (p : Defn) : Bool := PySem.W.codeHdIn K (cT K p).1 (cT K p).2 && ((g (cT K p).2).any emptyTab)
def obsL (n : Nat) (fn : List He.DefD) (fb : List Fb) (tf : List Defn) (g : Addr → Option Obj) : List FnW × Bool :=
  ((fn.map fun d => fnW (kOf g n) d.at_), (fn.all fun d => d.ok (kOf g n)) && ((fb.all fun f => f.ok (kOf g n)) && tf.all (tabL g (kOf g n))))
theorem saysL_of {n : Nat} {fn : List He.DefD} {fb : List Fb} {tf : List Defn} {h : Heap} (e : obsL n fn fb tf h.get? = (fn.map He.DefD.val, true)) : SaysL fn fb tf h (kOf h.get? n) := by
  obtain ⟨e1, e2⟩ := Prod.mk.inj e
  obtain ⟨e2, e3⟩ := ba e2
  obtain ⟨e3, e4⟩ := ba e3
  have one : ∀ p ∈ tf, PySem.W.codeHdIn (kOf h.get? n) (cT (kOf h.get? n) p).1 (cT (kOf h.get? n) p).2 = true ∧ ∃ o, h.get? (cT (kOf h.get? n) p).2 = some o ∧ emptyTab o = true := fun p hp => by
    obtain ⟨a1, a2⟩ := ba (List.all_eq_true.mp e4 p hp)
    refine ⟨a1, ?_⟩
    cases q : h.get? (cT (kOf h.get? n) p).2 with
    | none =>
      rw [q] at a2
      cases a2
    | some o =>
      rw [q] at a2
      exact ⟨o, rfl, a2⟩
  refine ⟨e1, e2, e3, fun p hp => (one p hp).1, fun p hp => ?_, fun p hp => ?_⟩
  · obtain ⟨o, a1, a2⟩ := (one p hp).2
    exact frT_none a1 a2
  · obtain ⟨o, a1, a2⟩ := (one p hp).2
    rw [a1, emptyTab_eq a2]
def hookL (n : Nat) (fn : List He.DefD) (fb : List Fb) (tf : List Defn) : PySem.W.Hook where
  α := List FnW × Bool
  obs s := obsL n fn fb tf s.heap.get?
  val _ := (fn.map He.DefD.val, true)
  says _ h := ∃ K : PySem.W.Frag, K.In h ∧ SaysL fn fb tf h K
  of _ _ e := ⟨_, frT_in, saysL_of e⟩
  keeps _ _ _ s k := let ⟨K, i, c⟩ := s; ⟨K, i.keeps k, c.fns, c.oks, c.fbs, c.hd, c.out, fun p hp => k _ _ (c.empty p hp)⟩
theorem obsL_eq {n : Nat} {fn : List He.DefD} {fb : List Fb} {tf : List Defn} {g : Addr → Option Obj} {s : Shared} (h : ∀ a, g a = s.heap.get? a) : obsL n fn fb tf g = (hookL n fn fb tf).obs s := by
  rw [show g = s.heap.get? from funext h]
  rfl
section
variable {fn : List He.DefD} {fb : List Fb} {tf : List Defn} {h : Heap} {K : PySem.W.Frag} {mg : Str → Option Value}
theorem SaysL.f (c : SaysL fn fb tf h K) (i : Nat) {f : Fb} (e : fb[i]? = some f := by rfl) : f.ok K = true := List.all_eq_true.mp c.fbs f (List.mem_of_getElem? e)
theorem SaysL.d (c : SaysL fn fb tf h K) (i : Nat) {d : He.DefD} (e : fn[i]? = some d := by rfl) : ∃ fd, FunD K d.name d.qual d.params d.body d.scope (d.dvs K) (d.kws K) (fAd K d.at_) fd := by
  refine d.funD ?_ (List.all_eq_true.mp c.oks d (List.mem_of_getElem? e))
  have := congrArg (fun l => l[i]?) c.fns
  simpa [e] using this
/-- a def at the top -/
abbrev dTop (x : Str) (st : Stmt) : He.DefD := ⟨(x, none), x, x, defArgs st, defBody st, defScope st, [], []⟩
/-- the __init__ of the class x -/
abbrev dIni (x q : Str) (st : Stmt) : He.DefD := ⟨(x, some "__init__"), "__init__", q, defArgs st, defBody st, defScope st, [], []⟩
theorem SaysL.def_ (c : SaysL fn fb tf h K) (X : K.In h) (G : h.Ns mainGlobals mg) (i j : Nat) {x : Str} {st : Stmt} (e : fn[i]? = some (dTop x st) := by rfl) (e2 : fb[j]? = some (.a (.glo x)) := by rfl) : DefD K mg x st := by
  obtain ⟨fd, oc, od, dV, kV, doc, pm, an, cdv, ct, osl, rfl, lk, hc, hd, _⟩ : ∃ fd, _ := let ⟨fd, F⟩ := c.d i e; ⟨fd, F.ex⟩
  have kp := (let ⟨fd, F⟩ := c.d i e; F.kp : PySem.W.keepIn K (.ref (ga K x)) = true)
  obtain ⟨_, rfl⟩ : True ∧ dV = .none := by
    rcases hd with ⟨_, z⟩ | ⟨z, _⟩
    · exact ⟨trivial, z⟩
    · exact absurd rfl z
  exact ⟨_, oc, od, kV, doc, pm, an, cdv, ct, osl, glo_ok X G (c.f j e2), kp, lk, hc⟩
theorem SaysL.defT_ (c : SaysL fn fb tf h K) (X : K.In h) (G : h.Ns mainGlobals mg) (i j : Nat) {x : Str} {st : Stmt} (e : fn[i]? = some (dTop x st) := by rfl) (e2 : fb[j]? = some (.a (.glo x)) := by rfl) : DefT K mg x st (cT K (x, none)).1 := by
  obtain ⟨fd, oc, od, dV, kV, doc, pm, an, cdv, ct, osl, rfl, lk, hc, hd, _⟩ : ∃ fd, _ := let ⟨fd, F⟩ := c.d i e; ⟨fd, F.ex⟩
  have kp := (let ⟨fd, F⟩ := c.d i e; F.kp : PySem.W.keepIn K (.ref (ga K x)) = true)
  obtain ⟨_, rfl⟩ : True ∧ dV = .none := by
    rcases hd with ⟨_, z⟩ | ⟨z, _⟩
    · exact ⟨trivial, z⟩
    · exact absurd rfl z
  obtain ⟨cc, rfl⟩ := codeIn_ref hc
  have ecc : (cT K (x, none)).1 = cc := codeOf_eq lk rfl
  rw [ecc]
  exact ⟨_, oc, od, kV, doc, pm, an, ct, osl, glo_ok X G (c.f j e2), kp, lk, hc⟩
theorem SaysL.glo (c : SaysL fn fb tf h K) (X : K.In h) (G : h.Ns mainGlobals mg) (j : Nat) {x : Str} (e2 : fb[j]? = some (.a (.glo x)) := by rfl) : mg x = some (.ref (ga K x)) := glo_ok X G (c.f j e2)
theorem SaysL.free (c : SaysL fn fb tf h K) (X : K.In h) (G : h.Ns mainGlobals mg) (j : Nat) {x : Str} (e2 : fb[j]? = some (.a (.free x)) := by rfl) : mg x = none := free_ok X G (c.f j e2)
theorem SaysL.exm (c : SaysL fn fb tf h K) (j : Nat) {x y : Str} {b : Bool} (e2 : fb[j]? = some (.a (.exm x y b)) := by rfl) : PySem.W.exmOne K (.ref (ga K x)) (.ref (ga K y)) = some b := exm_ok (c.f j e2)
theorem SaysL.noat (c : SaysL fn fb tf h K) (j : Nat) {x y : Str} (e2 : fb[j]? = some (.a (.noat x y)) := by rfl) : PySem.W.findIn K (.ref (ga K x)) y = some none := noat_ok (c.f j e2)
theorem SaysL.ini (c : SaysL fn fb tf h K) (j : Nat) {x : Str} (e2 : fb[j]? = some (.ini x) := by rfl) : PySem.W.findIn K (.ref (ga K x)) "__init__" = some (some (.ref (iniAt K x))) ∧ PySem.W.typeIn K (.ref (iniAt K x)) = some (.type "function") := by
  obtain ⟨a, b⟩ := ba (c.f j e2)
  exact ⟨eqO_ok a, of_decide_eq_true b⟩
theorem SaysL.iniF (c : SaysL fn fb tf h K) (i : Nat) {x q : Str} {st : Stmt} (e : fn[i]? = some (dIni x q st) := by rfl) : ∃ fd, Fun K "__init__" q st (iniAt K x) fd := by
  obtain ⟨fd, oc, od, dV, kV, doc, pm, an, cdv, ct, osl, rfl, lk, hc, hd, _⟩ : ∃ fd, _ := let ⟨fd, F⟩ := c.d i e; ⟨fd, F.ex⟩
  have kp := (let ⟨fd, F⟩ := c.d i e; F.kp : PySem.W.keepIn K (.ref (iniAt K x)) = true)
  obtain ⟨_, rfl⟩ : True ∧ dV = .none := by
    rcases hd with ⟨_, z⟩ | ⟨z, _⟩
    · exact ⟨trivial, z⟩
    · exact absurd rfl z
  exact ⟨_, fun_mk lk hc kp⟩
theorem SaysL.exf (c : SaysL fn fb tf h K) (X : K.In h) (G : h.Ns mainGlobals mg) (j k : Nat) {x : Str} {fs : List Str} (no : ∀ f ∈ fs, PySem.W.findIn K (.ref (ga K x)) f = some none) (e : fb[j]? = some (.a (.glo x)) := by rfl) (e2 : fb[k]? = some (.xf x) := by rfl) : ExF K mg x (ga K x) fs :=
  ⟨glo_ok X G (c.f j e), xfB_ok (c.f k e2), no⟩
/-- what is known of the law's promise at the head's heap -/
theorem walk_l {l : PySem.W.OpenLaw} {n k m : Nat} {q : Program} {loose : List Str} {XP : (Str → Option Value) → Heap → Prop} {d : DefRec} {fn : List He.DefD} {fb : List Fb} {tf : List (Str × Str)} {ja : Nat}
    (hn : l.most = some n) (hn2 : n ≤ sizeLine) (hdf : d.params.defaults = []) (hr : Room k callerA) (hap : fb[ja]? = some (.apart (tf.map fun p => (p.1, none))))
    (F : ∀ (w : World) (mg : Str → Option Value) (K : PySem.W.Frag) (h : Heap), K.In h → h.Ns mainGlobals mg → SaysL fn fb (tf.map fun p => (p.1, none)) h K →
      ∃ wp : DF, (∀ (μ : M) (ns : List Int), ns.length ≤ n → (∀ z ∈ ns, Builtin.Int.intBits z ≤ 1048576) → TabM (tf.map fun p => ((cT K (p.1, none)).2, p.2)) μ → wp [.ro (ns.map D.int)] μ (fun d _ => d = .bl true) fun _ _ => False) ∧
        ∀ base : Heap, K.In base → base.Ns mainGlobals mg → (∀ p ∈ tf, LamX.TabB base mg (cT K (p.1, none)).1 (cT K (p.1, none)).2) → CalD l.prog w K mg base k d.name wp) :
    PySem.W.WalkO q loose XP (hookL m fn fb (tf.map fun p => (p.1, none))).says l.row.toRowW d [] (fun f vs => PySem.call f vs) := by
  refine Att.attach_callB hn hdf fun w s₀ s₁ mg mb fa o pm cd doc a vs ns G Y ho hd hcd hmg hobj hints hlen hbits hg => ?_
  obtain ⟨K, KX, c⟩ := Y
  obtain ⟨wp, hwp, hF⟩ := F w mg K _ KX G.T.g c
  have hap' : ((tf.map fun p => (p.1, (none : Option Str))).map fun p => (cT K p).2).Nodup := of_decide_eq_true (c.f ja hap)
  have mem : ∀ p ∈ tf, (p.1, (none : Option Str)) ∈ tf.map fun p => (p.1, (none : Option Str)) := fun p hp => List.mem_map.mpr ⟨p, hp, rfl⟩
  have eT : (tf.map fun p => ((cT K (p.1, none)).1, (cT K (p.1, none)).2, p.2)).map (·.2) = tf.map fun p => ((cT K (p.1, none)).2, p.2) := by simp [List.map_map, Function.comp_def]
  refine law_end (cs := tf.map fun p => ((cT K (p.1, none)).1, (cT K (p.1, none)).2, p.2)) KX G.T.g G.T.b G.T.builtins G.T.nolimit hg ?_ ?_ ?_ ?_ G.T.bmain hobj hints (Nat.le_trans hlen hn2) hr (wp := wp) ?_ ?_
  · rintro _ hq
    obtain ⟨p, hp, rfl⟩ := List.mem_map.mp hq
    exact c.empty _ (mem p hp)
  · rintro _ hq
    obtain ⟨p, hp, rfl⟩ := List.mem_map.mp hq
    exact c.out _ (mem p hp)
  · rintro _ hq
    obtain ⟨p, hp, rfl⟩ := List.mem_map.mp hq
    exact PySem.W.codeHd_of_K KX (c.hd _ (mem p hp))
  · rw [eT]
    have key : ∀ l : List (Str × Str), ((l.map fun p => (p.1, (none : Option Str))).map fun p => (cT K p).2).Nodup → ∀ b q q', (b, q) ∈ l.map (fun p => ((cT K (p.1, none)).2, p.2)) → (b, q') ∈ l.map (fun p => ((cT K (p.1, none)).2, p.2)) → q = q' := by
      intro l
      induction l with
      | nil => intro _ b q q' h; cases h
      | cons x l ih =>
        intro hn b q q' h h'
        simp only [List.map_cons, List.nodup_cons] at hn
        have nin : ∀ z, ((cT K (x.1, none)).2, z) ∉ l.map (fun p => ((cT K (p.1, none)).2, p.2)) := fun z hz => hn.1 (by
          obtain ⟨p, hp, e⟩ := List.mem_map.mp hz
          have e1 := (Prod.mk.inj e).1
          rw [List.map_map]
          exact List.mem_map.mpr ⟨p, hp, e1⟩)
        rcases List.mem_cons.mp h with e | h
        · rcases List.mem_cons.mp h' with e' | h'
          · cases e
            cases e'
            rfl
          · cases e
            exact absurd h' (nin _)
        · rcases List.mem_cons.mp h' with e' | h'
          · cases e'
            exact absurd h (nin _)
          · exact ih hn.2 b q q' h h'
    exact key tf hap'
  · intro base KB hB hTB
    obtain ⟨f, hm, _, hf⟩ := (hF base KB hB fun p hp => hTB _ (List.mem_map.mpr ⟨p, hp, rfl⟩)).ex
    rw [hmg] at hm
    cases hm
    exact hf
  · intro μ hμ
    rw [eT] at hμ
    exact hwp μ ns hlen hbits hμ
theorem fn_of_cal {P : Program} {w : World} {base : Heap} {k : Nat} {x : Str} {a : Addr} {wp : DF} (C : CalD P w K mg base k x wp) (m : mg x = some (.ref a)) : PySem.W.keepIn K (.ref a) = true ∧ FnD P w K mg base k a wp := by
  obtain ⟨f, h1, h2, h3⟩ := C.ex
  rw [m] at h1
  cases h1
  exact ⟨h2, h3⟩
end
end DL

set_option maxHeartbeats 2000000
namespace DL
open PySem PySem.Spec PyProof.Rows L2
/-! ### a < b < c; a, b, c = x, y, z -/
def wChain (g g' : G2) (wa wb wc : DW) : DW := fun δ μ Q F => wa δ μ (fun x μ1 => wb δ μ1 (fun y μ2 => g x y μ2 fun z μ3 => ∃ k, z = .bl k ∧ if k = true then wc δ μ3 (fun w μ4 => g' y w μ4 Q) F else Q (.bl false) μ3) F) F
section
variable {X : Cx} {W : WX} {a b c : Expr} {ta tb tc : TE} {wa wb wc : DW} {pos : Pos} {op op' : CmpOp} {r r' : R2} {g g' : G2}
theorem le_chain {K : PySem.W.Frag} (ha : LE K W ta wa) (hb : LE K W tb wb) (hc : LE K W tc wc) (ho : OL K r g) (ho' : OL K r' g') : LE K W (tChain r r' ta tb tc) (wChain g g' wa wb wc) := fun σ δ H μ Q Qd F S q kQ kF => by
  refine ha σ δ H μ _ _ F S q (fun v d H1 μ1 m1 r1 q1 => ?_) kF
  refine hb σ δ H1 μ1 _ _ F (S.step m1) q1 (fun u e H2 μ2 m2 r2 q2 => ?_) (kF.step m1)
  refine ho H2 μ2 v u d e _ _ m2.mr (r1.mono m2.sm) r2 q2 fun v3 d3 H3 μ3 m3 r3 q3 => ?_
  obtain ⟨k, rfl, q3⟩ := q3
  refine ⟨k, r3.bl_inv, ?_⟩
  have m := m1.trans (m2.trans m3)
  cases k with
  | false => exact kQ _ _ H3 μ3 m (.bl false) q3
  | true => exact hc σ δ H3 μ3 _ _ F (S.step m) q3 (fun w' d' H4 μ4 m4 r4 q4 => ho' H4 μ4 u w' e d' Q Qd m4.mr (r2.mono (m3.trans m4).sm) r4 q4 fun v5 d5 H5 μ5 m5 r5 q5 => kQ v5 d5 H5 μ5 (m.trans (m4.trans m5)) r5 q5) (kF.step m)
theorem pdt_chain (o : OpR X (compareOp op) r ∧ OL X.K r g) (o' : OpR X (compareOp op') r' ∧ OL X.K r' g') (ha : PD X W a ta wa) (hb : PD X W b tb wb) (hc : PD X W c tc wc) (hm : lastMarks [op, op'] [b, c] = false := by with_unfolding_all rfl) :
    PDT X W (.Compare a [op, op'] [b, c] pos) (tTest (tChain r r' ta tb tc)) (wTst (wChain g g' wa wb wc)) := ⟨pt_chain o.1 o'.1 ha.pe hb.pe hc.pe hm, lt_tst (le_chain ha.le hb.le hc.le o.2 o'.2)⟩
theorem pd_chain (o : OpR X (compareOp op) r ∧ OL X.K r g) (o' : OpR X (compareOp op') r' ∧ OL X.K r' g') (ha : PD X W a ta wa) (hb : PD X W b tb wb) (hc : PD X W c tc wc) (hm : lastMarks [op, op'] [b, c] = false := by with_unfolding_all rfl) :
    PD X W (.Compare a [op, op'] [b, c] pos) (tChain r r' ta tb tc) (wChain g g' wa wb wc) := ⟨pe_chain o.1 o'.1 ha.pe hb.pe hc.pe hm, le_chain ha.le hb.le hc.le o.2 o'.2⟩
theorem ra3 {K : PySem.W.Frag} {G : Hp} {xs : List V} {d e f : D} (r : RA K G xs [d, e, f]) : ∃ v w u, xs = [v, w, u] ∧ R K G v d ∧ R K G w e ∧ R K G u f := by
  cases r with
  | cons h r =>
    obtain ⟨w, u, rfl, h2, h3⟩ := ra2 r
    exact ⟨_, _, _, rfl, h, h2, h3⟩
def wPar3 (i j l : Nat) (wa : DA) : DS := fun D F δ μ => wa δ μ (fun ds μ1 => ∃ u v w, ds = [u, v, w] ∧ D.nx (((δ.set i (some u)).set j (some v)).set l (some w)) μ1) F
theorem pds_par3 (i j l : Nat) {x y z : Str} {a b c : Expr} {ta : TA} {wa : DA} {px py pz pt : Pos} {kt k2 pt2} (hc : X.calm = true) (hN : X.N.Nodup) (ha : PDA X W [a, b, c] ta wa) (hi : X.N[i]? = some x := by rfl) (hj : X.N[j]? = some y := by rfl) (hl : X.N[l]? = some z := by rfl) (hij : i ≠ j := by decide) (hil : i ≠ l := by decide) (hjl : j ≠ l := by decide)
    (hx : X.env.scope.names.lookup x = some .local := by rfl) (hy : X.env.scope.names.lookup y = some .local := by rfl) (hz : X.env.scope.names.lookup z = some .local := by rfl)
    (hw : swappedStores [.Tuple [.Name x px, .Name y py, .Name z pz] kt pt] (.Tuple [a, b, c] k2 pt2) X.env = pure (some [x, y, z]) := by rfl)
    (hs : swapsWithSole [.Tuple [.Name x px, .Name y py, .Name z pz] kt pt] (.Tuple [a, b, c] k2 pt2) pos.line X.env = pure false := by rfl) :
    PDS X W (.Assign [.Tuple [.Name x px, .Name y py, .Name z pz] kt pt] (.Tuple [a, b, c] k2 pt2) pos) (tPar3 i j l ta) (wPar3 i j l wa) := by
  refine ⟨ps_par3 hc hN hi hj hl hij hil hjl hx hy hz ha.pa hw hs, fun G0 σ δ H μ D Dd F g S q k => ha.la σ δ H μ _ _ F S q (fun vs ds H1 μ1 m1 r1 q1 => ?_) (k.ex1 g)⟩
  obtain ⟨d1, d2, d3, e, q1⟩ := q1
  subst e
  obtain ⟨v, w, u, rfl, h1, h2, h3⟩ := ra3 r1
  exact ⟨v, w, u, rfl, k.nx _ _ H1 μ1 (g.trans m1.sm) ((((S.step m1).set i h1).set j h2).set l h3) q1⟩
end
end DL

set_option maxHeartbeats 2000000
/-! plain law: whole ratios in lowest terms -/
namespace PL
theorem fm_lt {a b : Int} (h : b ≠ 0) : (a.fmod b).natAbs < b.natAbs := by
  rcases Int.lt_or_gt_of_ne h with h | h
  · have e : a.fmod b = -((-a).fmod (-b)) := by
      have h1 := Int.fmod_def a b
      have h2 := Int.fmod_def (-a) (-b)
      have h3 : (-a).fdiv (-b) = a.fdiv b := by rw [Int.neg_fdiv_neg]
      rw [h3] at h2
      rw [h1, h2, Int.neg_mul]
      omega
    have h1 := Int.fmod_lt_of_pos (-a) (b := -b) (by omega)
    have h2 := Int.fmod_nonneg_of_pos (-a) (b := -b) (by omega)
    omega
  · have h1 := Int.fmod_lt_of_pos a h
    have h2 := Int.fmod_nonneg_of_pos a h
    omega
theorem gcd_fm (a b : Int) : Int.gcd b (a.fmod b) = Int.gcd a b := by
  rw [Int.fmod_def, Int.gcd_sub_mul_left_right, Int.gcd_comm]
/-- the divisor, with the bottom's sign -/
def qB (t b : Int) : Int := if 0 < b then (Int.gcd t b : Int) else -(Int.gcd t b : Int)
def qN (t b : Int) : Int := t.fdiv (qB t b)
def qD (t b : Int) : Int := b.fdiv (qB t b)
/-- in lowest terms -/
def red (n d : Int) : Prop := 0 < d ∧ Int.gcd n d = 1
theorem gcd_pos {t b : Int} (h : b ≠ 0) : 0 < Int.gcd t b := Int.gcd_pos_iff.mpr (.inr h)
theorem qB_ne {t b : Int} (h : b ≠ 0) : qB t b ≠ 0 := by
  have := gcd_pos (t := t) h
  unfold qB
  split <;> omega
theorem qB_abs (t b : Int) : (qB t b).natAbs = Int.gcd t b := by
  unfold qB
  split <;> omega
theorem gcd_le {t b : Int} (h : b ≠ 0) : Int.gcd t b ≤ b.natAbs := by
  have := Int.gcd_dvd_right t b
  have h2 := Int.natAbs_dvd_natAbs.mpr this
  exact Nat.le_of_dvd (by omega) (by simpa using h2)
theorem qB_le {t b : Int} (h : b ≠ 0) : (qB t b).natAbs ≤ b.natAbs := by rw [qB_abs]; exact gcd_le h
theorem qB_dvd (t b : Int) : qB t b ∣ t ∧ qB t b ∣ b := by
  have h1 := Int.gcd_dvd_left t b
  have h2 := Int.gcd_dvd_right t b
  unfold qB
  split
  · exact ⟨h1, h2⟩
  · exact ⟨Int.neg_dvd.mpr h1, Int.neg_dvd.mpr h2⟩
theorem qN_eq (t b : Int) : qN t b = t / qB t b := Int.fdiv_eq_ediv_of_dvd (qB_dvd t b).1
theorem qD_eq (t b : Int) : qD t b = b / qB t b := Int.fdiv_eq_ediv_of_dvd (qB_dvd t b).2
theorem qN_mul (t b : Int) : qN t b * qB t b = t := by rw [qN_eq]; exact Int.ediv_mul_cancel (qB_dvd t b).1
theorem qD_mul (t b : Int) : qD t b * qB t b = b := by rw [qD_eq]; exact Int.ediv_mul_cancel (qB_dvd t b).2
theorem qD_pos {t b : Int} (h : b ≠ 0) : 0 < qD t b := by
  have e := qD_mul t b
  have g := gcd_pos (t := t) h
  unfold qB at e
  split at e
  · rename_i hb
    refine Int.pos_of_mul_pos_left (b := (Int.gcd t b : Int)) ?_ (by omega) |> fun z => z
    omega
  · rename_i hb
    have e2 : qD t b * (Int.gcd t b : Int) = -b := by rw [Int.mul_neg] at e; omega
    refine Int.pos_of_mul_pos_left (b := (Int.gcd t b : Int)) ?_ (by omega) |> fun z => z
    omega
theorem q_red {t b : Int} (h : b ≠ 0) : red (qN t b) (qD t b) := by
  refine ⟨qD_pos h, ?_⟩
  rw [qN_eq, qD_eq, Int.gcd_ediv (qB_dvd t b).1 (qB_dvd t b).2, qB_abs, Nat.div_self (gcd_pos h)]
theorem qN_le {t b : Int} (h : b ≠ 0) : (qN t b).natAbs ≤ t.natAbs := by
  have e := qN_mul t b
  have h1 : (qN t b).natAbs * (qB t b).natAbs = t.natAbs := by rw [← Int.natAbs_mul, e]
  have h2 : 1 ≤ (qB t b).natAbs := by have := qB_ne (t := t) h; omega
  calc (qN t b).natAbs = (qN t b).natAbs * 1 := (Nat.mul_one _).symm
    _ ≤ (qN t b).natAbs * (qB t b).natAbs := Nat.mul_le_mul_left _ h2
    _ = t.natAbs := h1
theorem qD_le {t b : Int} (h : b ≠ 0) : (qD t b).natAbs ≤ b.natAbs := by
  have e := qD_mul t b
  have h1 : (qD t b).natAbs * (qB t b).natAbs = b.natAbs := by rw [← Int.natAbs_mul, e]
  have h2 : 1 ≤ (qB t b).natAbs := by have := qB_ne (t := t) h; omega
  calc (qD t b).natAbs = (qD t b).natAbs * 1 := (Nat.mul_one _).symm
    _ ≤ (qD t b).natAbs * (qB t b).natAbs := Nat.mul_le_mul_left _ h2
    _ = b.natAbs := h1
theorem q_mul {n d k : Int} (h : red n d) (hk : 0 < k) : qN (n * k) (d * k) = n ∧ qD (n * k) (d * k) = d := by
  have hd : 0 < d * k := Int.mul_pos h.1 hk
  have e : qB (n * k) (d * k) = k := by
    unfold qB
    rw [if_pos hd, Int.gcd_mul_right, h.2]
    omega
  refine ⟨?_, ?_⟩
  · unfold qN
    rw [e]
    exact Int.mul_fdiv_cancel n (by omega)
  · unfold qD
    rw [e]
    exact Int.mul_fdiv_cancel d (by omega)
theorem q_self {n d : Int} (h : red n d) : qN n d = n ∧ qD n d = d := by
  have := q_mul h (k := 1) (by decide)
  simpa using this
end PL

namespace NC
open PySem PySem.Spec PyProof.Rows L2 DL PL
def w_is_whole_0 (K : PySem.W.Frag)  : DS := (wRet (wAndV (wCB (gIsi K) (wCons (wVar 0) (wCons (wC (.raw (.ty "int"))) wNil))) (wNotV (wCB (gIsi K) (wCons (wVar 0) (wCons (wC (.raw (.ty "bool"))) wNil))))))
def w_is_whole (K : PySem.W.Frag)  : DS := (w_is_whole_0 K)
def w_is_ratio_0 (K : PySem.W.Frag) (s_is_whole : DF) : DS := (wIfS (wTst (wCall s_is_whole (wCons (wVar 0) wNil))) (wRet (wC (.bl true))) wNext)
def w_is_ratio_1 (K : PySem.W.Frag) (s_is_whole : DF) : DS := (wIfS (wOr (wNot (wTst (wCB (gIsi K) (wCons (wVar 0) (wCons (wTup (wCons (wC (.raw (.ty "tuple"))) (wCons (wC (.raw (.ty "list"))) wNil))) wNil))))) (wTst (wBin (gEq true) (wCB (gOne gLen) (wCons (wVar 0) wNil)) (wC (.int 2))))) (wRet (wC (.bl false))) wNext)
def w_is_ratio_2 (K : PySem.W.Frag) (s_is_whole : DF) : DS := (wRet (wAndV (wCall s_is_whole (wCons (wBin gIx (wVar 0) (wC (.int 0))) wNil)) (wAndV (wCall s_is_whole (wCons (wBin gIx (wVar 0) (wC (.int 1))) wNil)) (wBin gGt (wBin gIx (wVar 0) (wC (.int 1))) (wC (.int 0))))))
def w_is_ratio (K : PySem.W.Frag) (s_is_whole : DF) : DS := (wSeq (w_is_ratio_0 K s_is_whole) (wSeq (w_is_ratio_1 K s_is_whole) (w_is_ratio_2 K s_is_whole)))
def w_divisor_0_0 (K : PySem.W.Frag)  : DS := (wPar 0 1 (wCons (wVar 1) (wCons (wBin gMod (wVar 0) (wVar 1)) wNil)))
def w_divisor_0 (K : PySem.W.Frag)  : DS := (wWhile (wTst (wBin (gEq true) (wVar 1) (wC (.int 0)))) (w_divisor_0_0 K))
def w_divisor_1 (K : PySem.W.Frag)  : DS := (wRet (wCB gAbs (wCons (wVar 0) wNil)))
def w_divisor (K : PySem.W.Frag)  : DS := (wSeq (w_divisor_0 K) (w_divisor_1 K))
def w_lowest_0 (K : PySem.W.Frag) (s_divisor : DF) : DS := (wAsg (wIf (wTst (wBin gGt (wVar 1) (wC (.int 0)))) (wCall s_divisor (wCons (wVar 0) (wCons (wVar 1) wNil))) (wUn gNeg (wCall s_divisor (wCons (wVar 0) (wCons (wVar 1) wNil))))) (wName 2))
def w_lowest_1 (K : PySem.W.Frag) (s_divisor : DF) : DS := (wRet (wTup (wCons (wBin gDiv (wVar 0) (wVar 2)) (wCons (wBin gDiv (wVar 1) (wVar 2)) wNil))))
def w_lowest (K : PySem.W.Frag) (s_divisor : DF) : DS := (wSeq (w_lowest_0 K s_divisor) (w_lowest_1 K s_divisor))
def w_told_0 (K : PySem.W.Frag) (a_BadNumber : Addr) (s_is_ratio s_is_whole s_lowest : DF) : DS := (wIfS (wNot (wTst (wCall s_is_ratio (wCons (wVar 0) wNil)))) (wRaise a_BadNumber ["what", "number"] (wCons (wVar 1) (wCons (wVar 0) wNil))) wNext)
def w_told_1 (K : PySem.W.Frag) (a_BadNumber : Addr) (s_is_ratio s_is_whole s_lowest : DF) : DS := (wRet (wIf (wTst (wCall s_is_whole (wCons (wVar 0) wNil))) (wTup (wCons (wVar 0) (wCons (wC (.int 1)) wNil))) (wCall s_lowest (wCons (wBin gIx (wVar 0) (wC (.int 0))) (wCons (wBin gIx (wVar 0) (wC (.int 1))) wNil)))))
def w_told (K : PySem.W.Frag) (a_BadNumber : Addr) (s_is_ratio s_is_whole s_lowest : DF) : DS := (wSeq (w_told_0 K a_BadNumber s_is_ratio s_is_whole s_lowest) (w_told_1 K a_BadNumber s_is_ratio s_is_whole s_lowest))
def w_plus_0 (K : PySem.W.Frag) (s_told s_lowest : DF) : DS := (wPar 2 3 (wCons (wCall s_told (wCons (wVar 0) (wCons (wC (.str "ratio")) wNil))) (wCons (wCall s_told (wCons (wVar 1) (wCons (wC (.str "ratio")) wNil))) wNil)))
def w_plus_1 (K : PySem.W.Frag) (s_told s_lowest : DF) : DS := (wRet (wCall s_lowest (wCons (wBin gAdd (wBin gMul (wBin gIx (wVar 2) (wC (.int 0))) (wBin gIx (wVar 3) (wC (.int 1)))) (wBin gMul (wBin gIx (wVar 3) (wC (.int 0))) (wBin gIx (wVar 2) (wC (.int 1))))) (wCons (wBin gMul (wBin gIx (wVar 2) (wC (.int 1))) (wBin gIx (wVar 3) (wC (.int 1)))) wNil))))
def w_plus (K : PySem.W.Frag) (s_told s_lowest : DF) : DS := (wSeq (w_plus_0 K s_told s_lowest) (w_plus_1 K s_told s_lowest))
def w_minus_0 (K : PySem.W.Frag) (s_told s_lowest : DF) : DS := (wPar 2 3 (wCons (wCall s_told (wCons (wVar 0) (wCons (wC (.str "ratio")) wNil))) (wCons (wCall s_told (wCons (wVar 1) (wCons (wC (.str "ratio")) wNil))) wNil)))
def w_minus_1 (K : PySem.W.Frag) (s_told s_lowest : DF) : DS := (wRet (wCall s_lowest (wCons (wBin gSub (wBin gMul (wBin gIx (wVar 2) (wC (.int 0))) (wBin gIx (wVar 3) (wC (.int 1)))) (wBin gMul (wBin gIx (wVar 3) (wC (.int 0))) (wBin gIx (wVar 2) (wC (.int 1))))) (wCons (wBin gMul (wBin gIx (wVar 2) (wC (.int 1))) (wBin gIx (wVar 3) (wC (.int 1)))) wNil))))
def w_minus (K : PySem.W.Frag) (s_told s_lowest : DF) : DS := (wSeq (w_minus_0 K s_told s_lowest) (w_minus_1 K s_told s_lowest))
def w_times_0 (K : PySem.W.Frag) (s_told s_lowest : DF) : DS := (wPar 2 3 (wCons (wCall s_told (wCons (wVar 0) (wCons (wC (.str "ratio")) wNil))) (wCons (wCall s_told (wCons (wVar 1) (wCons (wC (.str "ratio")) wNil))) wNil)))
def w_times_1 (K : PySem.W.Frag) (s_told s_lowest : DF) : DS := (wRet (wCall s_lowest (wCons (wBin gMul (wBin gIx (wVar 2) (wC (.int 0))) (wBin gIx (wVar 3) (wC (.int 0)))) (wCons (wBin gMul (wBin gIx (wVar 2) (wC (.int 1))) (wBin gIx (wVar 3) (wC (.int 1)))) wNil))))
def w_times (K : PySem.W.Frag) (s_told s_lowest : DF) : DS := (wSeq (w_times_0 K s_told s_lowest) (w_times_1 K s_told s_lowest))
def w_share_0 (K : PySem.W.Frag) (a_BadNumber : Addr) (s_told s_lowest : DF) : DS := (wPar 2 3 (wCons (wCall s_told (wCons (wVar 0) (wCons (wC (.str "ratio")) wNil))) (wCons (wCall s_told (wCons (wVar 1) (wCons (wC (.str "ratio")) wNil))) wNil)))
def w_share_1 (K : PySem.W.Frag) (a_BadNumber : Addr) (s_told s_lowest : DF) : DS := (wIfS (wTst (wBin (gEq false) (wBin gIx (wVar 3) (wC (.int 0))) (wC (.int 0)))) (wRaise a_BadNumber ["what", "number"] (wCons (wC (.str "divisor")) (wCons (wVar 1) wNil))) wNext)
def w_share_2 (K : PySem.W.Frag) (a_BadNumber : Addr) (s_told s_lowest : DF) : DS := (wRet (wCall s_lowest (wCons (wBin gMul (wBin gIx (wVar 2) (wC (.int 0))) (wBin gIx (wVar 3) (wC (.int 1)))) (wCons (wBin gMul (wBin gIx (wVar 2) (wC (.int 1))) (wBin gIx (wVar 3) (wC (.int 0)))) wNil))))
def w_share (K : PySem.W.Frag) (a_BadNumber : Addr) (s_told s_lowest : DF) : DS := (wSeq (w_share_0 K a_BadNumber s_told s_lowest) (wSeq (w_share_1 K a_BadNumber s_told s_lowest) (w_share_2 K a_BadNumber s_told s_lowest)))
def w_lower_0 (K : PySem.W.Frag) (s_told : DF) : DS := (wPar 2 3 (wCons (wCall s_told (wCons (wVar 0) (wCons (wC (.str "ratio")) wNil))) (wCons (wCall s_told (wCons (wVar 1) (wCons (wC (.str "ratio")) wNil))) wNil)))
def w_lower_1 (K : PySem.W.Frag) (s_told : DF) : DS := (wRet (wBin gLt (wBin gMul (wBin gIx (wVar 2) (wC (.int 0))) (wBin gIx (wVar 3) (wC (.int 1)))) (wBin gMul (wBin gIx (wVar 3) (wC (.int 0))) (wBin gIx (wVar 2) (wC (.int 1))))))
def w_lower (K : PySem.W.Frag) (s_told : DF) : DS := (wSeq (w_lower_0 K s_told) (w_lower_1 K s_told))

/-! ### is_whole -/
def s_is_whole : DF := fun ds μ Q _ => ∃ d t, ds = [d] ∧ tyN d = some t ∧ Q (.bl (isW d)) μ
theorem p_is_whole (K : PySem.W.Frag) : ∀ ds μ Q F, s_is_whole ds μ Q F → ds.length = 1 ∧ w_is_whole K { nx := fun _ μ' => Q .non μ', rt := Q } F (dstart ["value"] ds) μ := by
  rintro _ μ Q F ⟨d, t, rfl, ht, q⟩
  refine ⟨rfl, ?_⟩
  simp only [w_is_whole, w_is_whole_0, wRet, wRetN, wSeq, wNext, wIfS, wAsg, wName, wPar, wDrop, wDPut, wFor, wISeq, wIRng1, wIRng2, wVar, wC, wNil, wCons, wBin, wUn, wCB, wTst, wAnd, wOr, DL.wNot, wAndV, wOrV, wNotV, wIf, wTup, wLst, wLstM, wCall, wGTup, wGCons, wGNil, wBrk, wCnt, wRaise, gI, gU, gOne , DL.gSub, gMul, gMod, gDiv, gPow, gLt, gLe, gGt, gGe, gNeg, gAbs, gMax2, gMin2, gInt2, wChain, wPar3, dstart, List.map_cons, List.map_nil, List.length_cons, List.length_nil, List.replicate, List.cons_append, List.nil_append, List.append_nil, List.getElem?_cons_zero, List.getElem?_cons_succ, List.set_cons_zero, List.set_cons_succ, Option.some.injEq, exists_eq_left', exists_eq_left, D.int.injEq, D.bl.injEq, D.str.injEq, D.tup.injEq, D.lst.injEq, D.obj.injEq, List.cons.injEq, and_true, true_and, Nat.zero_add, Nat.reduceAdd, Nat.reduceSub, decide_eq_true_eq, Bool.not_eq_true', decide_eq_false_iff_not, exists_and_left, exists_and_right, and_assoc, Bool.true_eq_false, Bool.false_eq_true, if_true, if_false, ne_eq]
  refine isi_int ht ⟨_, rfl, ?_⟩
  by_cases h : isW d = true
  · have hb : isB d = false := by cases d <;> first | rfl | cases h
    simp only [h, Bool.true_or, if_true]
    refine isi_bool ht ⟨_, rfl, ?_⟩
    simp only [hb, Bool.not_false]
    rw [h] at q
    exact q
  · have h' : isW d = false := by simpa using h
    rw [h'] at q ⊢
    by_cases hb : isB d = true
    · simp only [hb, Bool.or_true, if_true]
      refine isi_bool ht ⟨_, rfl, ?_⟩
      simp only [hb, Bool.not_true]
      exact q
    · have hb' : isB d = false := by simpa using hb
      simp only [hb', Bool.or_false, Bool.false_eq_true, if_false]
      exact q

/-! ### divisor -/
def s_divisor : DF := fun ds μ Q _ => ∃ a b, ds = [.int a, .int b] ∧ Q (.int (Int.gcd a b)) μ
theorem p_divisor (K : PySem.W.Frag) : ∀ ds μ Q F, s_divisor ds μ Q F → ds.length = 2 ∧ w_divisor K { nx := fun _ μ' => Q .non μ', rt := Q } F (dstart ["one", "other"] ds) μ := by
  rintro _ μ Q F ⟨a, b, rfl, q⟩
  refine ⟨rfl, ?_⟩
  simp only [w_divisor, w_divisor_0_0, w_divisor_0, w_divisor_1, wRet, wRetN, wSeq, wNext, wIfS, wAsg, wName, wPar, wDrop, wDPut, wFor, wISeq, wIRng1, wIRng2, wVar, wC, wNil, wCons, wBin, wUn, wCB, wTst, wAnd, wOr, DL.wNot, wAndV, wOrV, wNotV, wIf, wTup, wLst, wLstM, wCall, wGTup, wGCons, wGNil, wBrk, wCnt, wRaise, gI, gU, gOne , DL.gSub, gMul, gMod, gDiv, gPow, gLt, gLe, gGt, gGe, gNeg, gAbs, gMax2, gMin2, gInt2, wChain, wPar3, dstart, List.map_cons, List.map_nil, List.length_cons, List.length_nil, List.replicate, List.cons_append, List.nil_append, List.append_nil, List.getElem?_cons_zero, List.getElem?_cons_succ, List.set_cons_zero, List.set_cons_succ, Option.some.injEq, exists_eq_left', exists_eq_left, D.int.injEq, D.bl.injEq, D.str.injEq, D.tup.injEq, D.lst.injEq, D.obj.injEq, List.cons.injEq, and_true, true_and, Nat.zero_add, Nat.reduceAdd, Nat.reduceSub, decide_eq_true_eq, Bool.not_eq_true', decide_eq_false_iff_not, exists_and_left, exists_and_right, and_assoc, Bool.true_eq_false, Bool.false_eq_true, if_true, if_false, ne_eq, wWhile]
  have key : ∀ (n : Nat) (a b : Int), b.natAbs < n → Q (.int (Int.gcd a b)) μ → wRun (wTst (wBin (gEq true) (wVar 1) (wC (D.int 0)))) (wPar 0 1 (wCons (wVar 1) (wCons (wBin (gI (fun x j => ¬j = 0) fun i j => D.int (i.fmod j)) (wVar 0) (wVar 1)) wNil))) n
      { nx := fun δ' μ' => ∃ d, δ'[0]? = some (some d) ∧ ∃ i, d = D.int i ∧ Q (D.int (if i < 0 then -i else i)) μ', rt := Q } F [some (D.int a), some (D.int b)] μ := by
    intro n
    induction n with
    | zero => intro a b h; omega
    | succ n ih =>
      intro a b h q
      simp only [wRun, wRet, wRetN, wSeq, wNext, wIfS, wAsg, wName, wPar, wDrop, wDPut, wFor, wISeq, wIRng1, wIRng2, wVar, wC, wNil, wCons, wBin, wUn, wCB, wTst, wAnd, wOr, DL.wNot, wAndV, wOrV, wNotV, wIf, wTup, wLst, wLstM, wCall, wGTup, wGCons, wGNil, wBrk, wCnt, wRaise, gI, gU, gOne , DL.gSub, gMul, gMod, gDiv, gPow, gLt, gLe, gGt, gGe, gNeg, gAbs, gMax2, gMin2, gInt2, wChain, wPar3, dstart, List.map_cons, List.map_nil, List.length_cons, List.length_nil, List.replicate, List.cons_append, List.nil_append, List.append_nil, List.getElem?_cons_zero, List.getElem?_cons_succ, List.set_cons_zero, List.set_cons_succ, Option.some.injEq, exists_eq_left', exists_eq_left, D.int.injEq, D.bl.injEq, D.str.injEq, D.tup.injEq, D.lst.injEq, D.obj.injEq, List.cons.injEq, and_true, true_and, Nat.zero_add, Nat.reduceAdd, Nat.reduceSub, decide_eq_true_eq, Bool.not_eq_true', decide_eq_false_iff_not, exists_and_left, exists_and_right, and_assoc, Bool.true_eq_false, Bool.false_eq_true, if_true, if_false, ne_eq, gEq_int]
      by_cases e : b = 0
      · subst e
        rw [Int.gcd_zero_right] at q
        have e2 : (if a < 0 then -a else a) = (a.natAbs : Int) := by split <;> omega
        rw [if_neg (by decide), e2]
        exact q
      · have e2 : (b == 0) = false := by simpa using e
        rw [if_pos e2]
        exact ⟨e, ih b (a.fmod b) (by have := fm_lt (a := a) e; omega) (by rw [gcd_fm]; exact q)⟩
  exact ⟨b.natAbs + 1, key _ a b (Nat.lt_succ_self _) q⟩

/-! ### lowest -/
def s_lowest : DF := fun ds μ Q _ => ∃ t b, ds = [.int t, .int b] ∧ b ≠ 0 ∧ b.natAbs < 10 ^ 500 ∧ Q (.tup [.int (qN t b), .int (qD t b)]) μ
theorem small_log {b : Int} (h : b.natAbs < 10 ^ 500) : b.natAbs.log2 < 1920 := log2_small h
theorem div_ok {t b : Int} (hb : b ≠ 0) (h : b.natAbs < 10 ^ 500) : CDivG t (qB t b) := by
  refine ⟨qB_ne hb, ?_⟩
  have h1 := log2_small (i := qB t b) (Nat.lt_of_le_of_lt (qB_le hb) h)
  omega
theorem p_lowest (K : PySem.W.Frag) : ∀ ds μ Q F, s_lowest ds μ Q F → ds.length = 2 ∧ w_lowest K s_divisor { nx := fun _ μ' => Q .non μ', rt := Q } F (dstart ["top", "bottom", "by"] ds) μ := by
  rintro _ μ Q F ⟨t, b, rfl, hb, hz, q⟩
  refine ⟨rfl, ?_⟩
  simp only [w_lowest, w_lowest_0, w_lowest_1, s_divisor, wRet, wRetN, wSeq, wNext, wIfS, wAsg, wName, wPar, wDrop, wDPut, wFor, wISeq, wIRng1, wIRng2, wVar, wC, wNil, wCons, wBin, wUn, wCB, wTst, wAnd, wOr, DL.wNot, wAndV, wOrV, wNotV, wIf, wTup, wLst, wLstM, wCall, wGTup, wGCons, wGNil, wBrk, wCnt, wRaise, gI, gU, gOne , DL.gSub, gMul, gMod, gDiv, gPow, gLt, gLe, gGt, gGe, gNeg, gAbs, gMax2, gMin2, gInt2, wChain, wPar3, dstart, List.map_cons, List.map_nil, List.length_cons, List.length_nil, List.replicate, List.cons_append, List.nil_append, List.append_nil, List.getElem?_cons_zero, List.getElem?_cons_succ, List.set_cons_zero, List.set_cons_succ, Option.some.injEq, exists_eq_left', exists_eq_left, D.int.injEq, D.bl.injEq, D.str.injEq, D.tup.injEq, D.lst.injEq, D.obj.injEq, List.cons.injEq, and_true, true_and, Nat.zero_add, Nat.reduceAdd, Nat.reduceSub, decide_eq_true_eq, Bool.not_eq_true', decide_eq_false_iff_not, exists_and_left, exists_and_right, and_assoc, Bool.true_eq_false, Bool.false_eq_true, if_true, if_false, ne_eq]
  have c := div_ok (t := t) hb hz
  have c2 : CDivG b (qB t b) := c
  by_cases h : 0 < b
  · have e : qB t b = (Int.gcd t b : Int) := if_pos h
    unfold qN qD at q
    rw [e] at c c2 q
    rw [if_pos h]
    exact ⟨c, c2, by decide, q⟩
  · have e : qB t b = -(Int.gcd t b : Int) := if_neg h
    unfold qN qD at q
    rw [e] at c c2 q
    rw [if_neg h]
    exact ⟨c, c2, by decide, q⟩

/-! ### is_ratio -/
/-- a value whose type, and whose two items' types, are told -/
def tyR : D → Bool
  | .tup [x, y] => (tyN x).isSome && (tyN y).isSome
  | .lst [x, y] => (tyN x).isSome && (tyN y).isSome
  | d => (tyN d).isSome
def isR : D → Bool
  | .int _ => true
  | .tup [.int _, .int d] => decide (0 < d)
  | .lst [.int _, .int d] => decide (0 < d)
  | _ => false
def s_is_ratio : DF := fun ds μ Q _ => ∃ d, ds = [d] ∧ tyR d = true ∧ (∀ xs, d ≠ .ro xs) ∧ (∀ xs, d = .tup xs ∨ d = .lst xs → xs.length ≤ 1000) ∧ Q (.bl (isR d)) μ
theorem p_is_ratio (K : PySem.W.Frag) : ∀ ds μ Q F, s_is_ratio ds μ Q F → ds.length = 1 ∧ w_is_ratio K s_is_whole { nx := fun _ μ' => Q .non μ', rt := Q } F (dstart ["value"] ds) μ := by
  rintro _ μ Q F ⟨d, rfl, ht, nro, hl, q⟩
  refine ⟨rfl, ?_⟩
  simp only [w_is_ratio, w_is_ratio_0, w_is_ratio_1, w_is_ratio_2, s_is_whole, wRet, wRetN, wSeq, wNext, wIfS, wAsg, wName, wPar, wDrop, wDPut, wFor, wISeq, wIRng1, wIRng2, wVar, wC, wNil, wCons, wBin, wUn, wCB, wTst, wAnd, wOr, DL.wNot, wAndV, wOrV, wNotV, wIf, wTup, wLst, wLstM, wCall, wGTup, wGCons, wGNil, wBrk, wCnt, wRaise, gI, gU, gOne , DL.gSub, gMul, gMod, gDiv, gPow, gLt, gLe, gGt, gGe, gNeg, gAbs, gMax2, gMin2, gInt2, wChain, wPar3, dstart, List.map_cons, List.map_nil, List.length_cons, List.length_nil, List.replicate, List.cons_append, List.nil_append, List.append_nil, List.getElem?_cons_zero, List.getElem?_cons_succ, List.set_cons_zero, List.set_cons_succ, Option.some.injEq, exists_eq_left', exists_eq_left, D.int.injEq, D.bl.injEq, D.str.injEq, D.tup.injEq, D.lst.injEq, D.obj.injEq, List.cons.injEq, and_true, true_and, Nat.zero_add, Nat.reduceAdd, Nat.reduceSub, decide_eq_true_eq, Bool.not_eq_true', decide_eq_false_iff_not, exists_and_left, exists_and_right, and_assoc, Bool.true_eq_false, Bool.false_eq_true, if_true, if_false, ne_eq]
  have seq : ∀ xs : List D, xs.length ≤ 1000 → (d = .tup xs ∨ d = .lst xs) → (if xs.length = 2 then True else isR d = false) ∧ (∃ t, tyN d = some t) ∧ isW d = false ∧ isSq d = true := by
    rintro xs _ (rfl | rfl)
    · refine ⟨?_, ⟨_, rfl⟩, rfl, rfl⟩
      match xs with
      | [] => rfl
      | [x] => cases x <;> rfl
      | [x, y] => trivial
      | x :: y :: z :: r => cases x <;> first | rfl | (cases y <;> rfl)
    · refine ⟨?_, ⟨_, rfl⟩, rfl, rfl⟩
      match xs with
      | [] => rfl
      | [x] => cases x <;> rfl
      | [x, y] => trivial
      | x :: y :: z :: r => cases x <;> first | rfl | (cases y <;> rfl)
  have plain : ∀ t, tyN d = some t → isSq d = false → isR d = isW d → (∃ x, tyN d = some x) ∧ if isW d = true then Q (D.bl true) μ else 2 ≤ 1000000 ∧ gIsi K [d, D.tup [D.raw (V.ty "tuple"), D.raw (V.ty "list")]] μ fun d_1 μ1 => ∃ k, d_1 = D.bl k ∧ if k = false then Q (D.bl false) μ1 else
          gLen d μ1 fun x μ1 => gEq true x (D.int 2) μ1 fun d_2 μ1 => ∃ k, d_2 = D.bl k ∧ if k = true then Q (D.bl false) μ1 else
              gIx d (D.int 0) μ1 fun d_3 μ1 => (∃ x, tyN d_3 = some x) ∧ if isW d_3 = true then gIx d (D.int 1) μ1 fun d_4 μ1 => (∃ x, tyN d_4 = some x) ∧ if isW d_4 = true then gIx d (D.int 1) μ1 fun x μ1 => ∃ i, x = D.int i ∧ Q (D.bl (decide (0 < i))) μ1 else Q (D.bl false) μ1 else Q (D.bl false) μ1 := by
    intro t e1 e2 e3
    refine ⟨⟨t, e1⟩, ?_⟩
    rw [e3] at q
    by_cases h : isW d = true
    · rw [if_pos h]
      rw [h] at q
      exact q
    · rw [if_neg h]
      have h' : isW d = false := by simpa using h
      rw [h'] at q
      exact ⟨by decide, isi_tl e1 ⟨_, rfl, by rw [e2, if_pos rfl]; exact q⟩⟩
  cases d with
  | non => exact plain _ rfl rfl rfl
  | bl b => exact plain _ rfl rfl rfl
  | int i => exact plain _ rfl rfl rfl
  | str x => exact plain _ rfl rfl rfl
  | dct ks => exact plain _ rfl rfl rfl
  | ro xs => exact absurd rfl (nro xs)
  | obj a => cases ht
  | raw v => cases ht
  | exc _ _ _ => cases ht
  | lam _ _ => cases ht
  | ins _ _ => cases ht
  | tup xs =>
    obtain ⟨h1, h2, h3, h4⟩ := seq xs (hl xs (.inl rfl)) (.inl rfl)
    refine ⟨h2, ?_⟩
    rw [if_neg (by rw [h3]; decide)]
    obtain ⟨t, h2⟩ := h2
    refine ⟨by decide, isi_tl h2 ⟨_, rfl, ?_⟩⟩
    rw [h4, if_neg (by decide), gLen_tup, gEq_int]
    refine ⟨_, rfl, ?_⟩
    by_cases e : xs.length = 2
    · match xs, e with
      | [x, y], _ =>
        rw [if_neg (by simp), gIx_tup]
        have ht' : (tyN x).isSome = true ∧ (tyN y).isSome = true := by simpa [tyR] using ht
        refine ⟨x, rfl, Option.isSome_iff_exists.mp ht'.1, ?_⟩
        by_cases hx : isW x = true
        · rw [if_pos hx, gIx_tup]
          refine ⟨y, rfl, Option.isSome_iff_exists.mp ht'.2, ?_⟩
          by_cases hy : isW y = true
          · rw [if_pos hy, gIx_tup]
            cases y with
            | int j =>
              cases x with
              | int i => exact ⟨_, rfl, j, rfl, q⟩
              | _ => cases hx
            | _ => cases hy
          · rw [if_neg hy]
            have e2 : isR (.tup [x, y]) = false := by cases x <;> first | rfl | (cases y <;> first | rfl | exact absurd rfl hy)
            rw [e2] at q
            exact q
        · rw [if_neg hx]
          have e2 : isR (.tup [x, y]) = false := by cases x <;> first | rfl | exact absurd rfl hx
          rw [e2] at q
          exact q
    · rw [if_neg e] at h1
      have e2 : (!((xs.length : Int) == 2)) = true := by simp; omega
      rw [if_pos (by simpa using e2)]
      rw [h1] at q
      exact q
  | lst xs =>
    obtain ⟨h1, h2, h3, h4⟩ := seq xs (hl xs (.inr rfl)) (.inr rfl)
    refine ⟨h2, ?_⟩
    rw [if_neg (by rw [h3]; decide)]
    obtain ⟨t, h2⟩ := h2
    refine ⟨by decide, isi_tl h2 ⟨_, rfl, ?_⟩⟩
    rw [h4, if_neg (by decide), gLen_lst, gEq_int]
    refine ⟨_, rfl, ?_⟩
    by_cases e : xs.length = 2
    · match xs, e with
      | [x, y], _ =>
        rw [if_neg (by simp), gIx_lst]
        have ht' : (tyN x).isSome = true ∧ (tyN y).isSome = true := by simpa [tyR] using ht
        refine ⟨x, rfl, Option.isSome_iff_exists.mp ht'.1, ?_⟩
        by_cases hx : isW x = true
        · rw [if_pos hx, gIx_lst]
          refine ⟨y, rfl, Option.isSome_iff_exists.mp ht'.2, ?_⟩
          by_cases hy : isW y = true
          · rw [if_pos hy, gIx_lst]
            cases y with
            | int j =>
              cases x with
              | int i => exact ⟨_, rfl, j, rfl, q⟩
              | _ => cases hx
            | _ => cases hy
          · rw [if_neg hy]
            have e2 : isR (.lst [x, y]) = false := by cases x <;> first | rfl | (cases y <;> first | rfl | exact absurd rfl hy)
            rw [e2] at q
            exact q
        · rw [if_neg hx]
          have e2 : isR (.lst [x, y]) = false := by cases x <;> first | rfl | exact absurd rfl hx
          rw [e2] at q
          exact q
    · rw [if_neg e] at h1
      have e2 : (!((xs.length : Int) == 2)) = true := by simp; omega
      rw [if_pos (by simpa using e2)]
      rw [h1] at q
      exact q
/-- what is_ratio may be asked of -/
def okV (d : D) : Prop := tyR d = true ∧ (∀ xs, d ≠ .ro xs) ∧ ∀ xs, d = .tup xs ∨ d = .lst xs → xs.length ≤ 1000

/-! ### told -/
/-- the ratio that a value tells -/
def rN : D → Int
  | .int i => i
  | .tup [.int n, .int d] => qN n d
  | .lst [.int n, .int d] => qN n d
  | _ => 0
def rD : D → Int
  | .tup [.int n, .int d] => qD n d
  | .lst [.int n, .int d] => qD n d
  | _ => 1
/-- the bottom, as it is written, is below 10 ^ 500 -/
def szD : D → Prop
  | .tup [.int _, .int d] => d.natAbs < 10 ^ 500
  | .lst [.int _, .int d] => d.natAbs < 10 ^ 500
  | _ => True
def s_told (CB : Addr) : DF := fun ds μ Q F => ∃ d what, ds = [d, what] ∧ okV d ∧ szD d ∧ if isR d = true then Q (.tup [.int (rN d), .int (rD d)]) μ else F ⟨.ref CB, [("number", d), ("what", what)]⟩ μ
theorem p_told (K : PySem.W.Frag) (CB : Addr) : ∀ ds μ Q F, s_told CB ds μ Q F → ds.length = 2 ∧ w_told K CB s_is_ratio s_is_whole s_lowest { nx := fun _ μ' => Q .non μ', rt := Q } F (dstart ["value", "what"] ds) μ := by
  rintro _ μ Q F ⟨d, what, rfl, ⟨h1, h2, h3⟩, hz, q⟩
  refine ⟨rfl, ?_⟩
  simp only [w_told, w_told_0, w_told_1, s_is_ratio, s_is_whole, s_lowest, wRet, wRetN, wSeq, wNext, wIfS, wAsg, wName, wPar, wDrop, wDPut, wFor, wISeq, wIRng1, wIRng2, wVar, wC, wNil, wCons, wBin, wUn, wCB, wTst, wAnd, wOr, DL.wNot, wAndV, wOrV, wNotV, wIf, wTup, wLst, wLstM, wCall, wGTup, wGCons, wGNil, wBrk, wCnt, wRaise, gI, gU, gOne , DL.gSub, gMul, gMod, gDiv, gPow, gLt, gLe, gGt, gGe, gNeg, gAbs, gMax2, gMin2, gInt2, wChain, wPar3, dstart, List.map_cons, List.map_nil, List.length_cons, List.length_nil, List.replicate, List.cons_append, List.nil_append, List.append_nil, List.getElem?_cons_zero, List.getElem?_cons_succ, List.set_cons_zero, List.set_cons_succ, Option.some.injEq, exists_eq_left', exists_eq_left, D.int.injEq, D.bl.injEq, D.str.injEq, D.tup.injEq, D.lst.injEq, D.obj.injEq, List.cons.injEq, and_true, true_and, Nat.zero_add, Nat.reduceAdd, Nat.reduceSub, decide_eq_true_eq, Bool.not_eq_true', decide_eq_false_iff_not, exists_and_left, exists_and_right, and_assoc, Bool.true_eq_false, Bool.false_eq_true, if_true, if_false, ne_eq]
  refine ⟨h1, h2, h3, ?_⟩
  by_cases hr : isR d = true
  · rw [if_pos hr] at q
    rw [if_neg (by rw [hr]; decide)]
    match d, hr with
    | .int i, _ => exact ⟨⟨_, rfl⟩, by rw [if_pos (by rfl)]; exact ⟨by decide, q⟩⟩
    | .tup [.int n, .int dd], hr =>
      have hp : 0 < dd := by simpa [isR] using hr
      refine ⟨⟨_, rfl⟩, ?_⟩
      rw [if_neg (by simp [isW]), gIx_tup]
      refine ⟨_, rfl, ?_⟩
      rw [gIx_tup]
      exact ⟨_, rfl, n, rfl, dd, rfl, by omega, hz, q⟩
    | .lst [.int n, .int dd], hr =>
      have hp : 0 < dd := by simpa [isR] using hr
      refine ⟨⟨_, rfl⟩, ?_⟩
      rw [if_neg (by simp [isW]), gIx_lst]
      refine ⟨_, rfl, ?_⟩
      rw [gIx_lst]
      exact ⟨_, rfl, n, rfl, dd, rfl, by omega, hz, q⟩
  · rw [if_neg hr] at q
    have hr' : isR d = false := by simpa using hr
    rw [if_pos hr']
    exact q

/-! ### plus, minus, times, share, lower -/
/-- the numbers of a value are below 10 ^ 60 -/
def lowV (d : D) : Prop := (rN d).natAbs < 10 ^ 60 ∧ (rD d).natAbs < 10 ^ 60 ∧ 0 < rD d
def s_two (CB : Addr) (g : Int → Int → Int → Int → D) : DF := fun ds μ Q F => ∃ a b, ds = [a, b] ∧ okV a ∧ szD a ∧ okV b ∧ szD b ∧
  if isR a = true then (if isR b = true then lowV a ∧ lowV b ∧ Q (g (rN a) (rD a) (rN b) (rD b)) μ else F ⟨.ref CB, [("number", b), ("what", .str "ratio")]⟩ μ) else F ⟨.ref CB, [("number", a), ("what", .str "ratio")]⟩ μ
theorem low_mul {x y : Int} (hx : x.natAbs < 10 ^ 60) (hy : y.natAbs < 10 ^ 60) : CMulW x y ∧ (x * y).natAbs < 10 ^ 120 := by
  have l : ∀ {z : Int}, z.natAbs < 10 ^ 60 → z.natAbs.log2 < 400 := fun {z} h => by
    by_cases e : z.natAbs = 0
    · rw [e]; decide
    · exact (Nat.log2_lt e).mpr (Nat.lt_of_lt_of_le h (by decide +kernel))
  refine ⟨?_, ?_⟩
  · have h1 := l hx
    have h2 := l hy
    show x.natAbs.log2 + y.natAbs.log2 < 1000000
    omega
  · rw [Int.natAbs_mul]
    calc x.natAbs * y.natAbs ≤ x.natAbs * 10 ^ 60 := Nat.mul_le_mul_left _ (Nat.le_of_lt hy)
      _ < 10 ^ 60 * 10 ^ 60 := Nat.mul_lt_mul_of_pos_right hx (by decide +kernel)
      _ = 10 ^ 120 := by decide +kernel
theorem mul_low {a b : D} (la : lowV a) (lb : lowV b) : CMulW (rN a) (rD b) ∧ CMulW (rN b) (rD a) ∧ CMulW (rD a) (rD b) ∧ ¬ rD a * rD b = 0 ∧ (rD a * rD b).natAbs < 10 ^ 500 :=
  ⟨(low_mul la.1 lb.2.1).1, (low_mul lb.1 la.2.1).1, (low_mul la.2.1 lb.2.1).1, by have := Int.mul_pos la.2.2 lb.2.2; omega, Nat.lt_trans (low_mul la.2.1 lb.2.1).2 (by decide +kernel)⟩
theorem mul_lown {a b : D} (la : lowV a) (lb : lowV b) : CMulW (rN a) (rN b) := (low_mul la.1 lb.1).1
theorem two_ok {CB : Addr} {a b : D} {g : D} {μ : M} {Q : DK} {F : FK} {G : Prop} (oa : okV a) (za : szD a) (ob : okV b) (zb : szD b)
    (q : if isR a = true then (if isR b = true then lowV a ∧ lowV b ∧ Q g μ else F ⟨.ref CB, [("number", b), ("what", .str "ratio")]⟩ μ) else F ⟨.ref CB, [("number", a), ("what", .str "ratio")]⟩ μ) (k : lowV a → lowV b → Q g μ → G) :
    okV a ∧ szD a ∧ if isR a = true then okV b ∧ szD b ∧ if isR b = true then G else F ⟨.ref CB, [("number", b), ("what", .str "ratio")]⟩ μ else F ⟨.ref CB, [("number", a), ("what", .str "ratio")]⟩ μ := by
  refine ⟨oa, za, ?_⟩
  by_cases ha : isR a = true
  · rw [if_pos ha] at q ⊢
    refine ⟨ob, zb, ?_⟩
    by_cases hb : isR b = true
    · rw [if_pos hb] at q ⊢
      exact k q.1 q.2.1 q.2.2
    · rw [if_neg hb] at q ⊢
      exact q
  · rw [if_neg ha] at q ⊢
    exact q
def fPlus (n d m e : Int) : D := .tup [.int (qN (n * e + m * d) (d * e)), .int (qD (n * e + m * d) (d * e))]
theorem p_plus (K : PySem.W.Frag) (CB : Addr) : ∀ ds μ Q F, s_two CB fPlus ds μ Q F → ds.length = 2 ∧ w_plus K (s_told CB) s_lowest { nx := fun _ μ' => Q .non μ', rt := Q } F (dstart ["one", "other", "first", "second"] ds) μ := by
  rintro _ μ Q F ⟨a, b, rfl, oa, za, ob, zb, q⟩
  refine ⟨rfl, ?_⟩
  simp only [w_plus, w_plus_0, w_plus_1, s_told, s_lowest, wRet, wRetN, wSeq, wNext, wIfS, wAsg, wName, wPar, wDrop, wDPut, wFor, wISeq, wIRng1, wIRng2, wVar, wC, wNil, wCons, wBin, wUn, wCB, wTst, wAnd, wOr, DL.wNot, wAndV, wOrV, wNotV, wIf, wTup, wLst, wLstM, wCall, wGTup, wGCons, wGNil, wBrk, wCnt, wRaise, gI, gU, gOne , DL.gSub, gMul, gMod, gDiv, gPow, gLt, gLe, gGt, gGe, gNeg, gAbs, gMax2, gMin2, gInt2, wChain, wPar3, dstart, List.map_cons, List.map_nil, List.length_cons, List.length_nil, List.replicate, List.cons_append, List.nil_append, List.append_nil, List.getElem?_cons_zero, List.getElem?_cons_succ, List.set_cons_zero, List.set_cons_succ, Option.some.injEq, exists_eq_left', exists_eq_left, D.int.injEq, D.bl.injEq, D.str.injEq, D.tup.injEq, D.lst.injEq, D.obj.injEq, List.cons.injEq, and_true, true_and, Nat.zero_add, Nat.reduceAdd, Nat.reduceSub, decide_eq_true_eq, Bool.not_eq_true', decide_eq_false_iff_not, exists_and_left, exists_and_right, and_assoc, Bool.true_eq_false, Bool.false_eq_true, if_true, if_false, ne_eq, gIx_tup, atI_0, atI_1, gAdd_int]
  exact two_ok oa za ob zb q fun la lb q => ⟨(mul_low la lb).1, (mul_low la lb).2.1, (mul_low la lb).2.2.1, (mul_low la lb).2.2.2.1, (mul_low la lb).2.2.2.2, q⟩
def fMinus (n d m e : Int) : D := .tup [.int (qN (n * e - m * d) (d * e)), .int (qD (n * e - m * d) (d * e))]
theorem p_minus (K : PySem.W.Frag) (CB : Addr) : ∀ ds μ Q F, s_two CB fMinus ds μ Q F → ds.length = 2 ∧ w_minus K (s_told CB) s_lowest { nx := fun _ μ' => Q .non μ', rt := Q } F (dstart ["one", "other", "first", "second"] ds) μ := by
  rintro _ μ Q F ⟨a, b, rfl, oa, za, ob, zb, q⟩
  refine ⟨rfl, ?_⟩
  simp only [w_minus, w_minus_0, w_minus_1, s_told, s_lowest, wRet, wRetN, wSeq, wNext, wIfS, wAsg, wName, wPar, wDrop, wDPut, wFor, wISeq, wIRng1, wIRng2, wVar, wC, wNil, wCons, wBin, wUn, wCB, wTst, wAnd, wOr, DL.wNot, wAndV, wOrV, wNotV, wIf, wTup, wLst, wLstM, wCall, wGTup, wGCons, wGNil, wBrk, wCnt, wRaise, gI, gU, gOne , DL.gSub, gMul, gMod, gDiv, gPow, gLt, gLe, gGt, gGe, gNeg, gAbs, gMax2, gMin2, gInt2, wChain, wPar3, dstart, List.map_cons, List.map_nil, List.length_cons, List.length_nil, List.replicate, List.cons_append, List.nil_append, List.append_nil, List.getElem?_cons_zero, List.getElem?_cons_succ, List.set_cons_zero, List.set_cons_succ, Option.some.injEq, exists_eq_left', exists_eq_left, D.int.injEq, D.bl.injEq, D.str.injEq, D.tup.injEq, D.lst.injEq, D.obj.injEq, List.cons.injEq, and_true, true_and, Nat.zero_add, Nat.reduceAdd, Nat.reduceSub, decide_eq_true_eq, Bool.not_eq_true', decide_eq_false_iff_not, exists_and_left, exists_and_right, and_assoc, Bool.true_eq_false, Bool.false_eq_true, if_true, if_false, ne_eq, gIx_tup, atI_0, atI_1, gAdd_int]
  exact two_ok oa za ob zb q fun la lb q => ⟨(mul_low la lb).1, (mul_low la lb).2.1, (mul_low la lb).2.2.1, (mul_low la lb).2.2.2.1, (mul_low la lb).2.2.2.2, q⟩
def fTimes (n d m e : Int) : D := .tup [.int (qN (n * m) (d * e)), .int (qD (n * m) (d * e))]
theorem p_times (K : PySem.W.Frag) (CB : Addr) : ∀ ds μ Q F, s_two CB fTimes ds μ Q F → ds.length = 2 ∧ w_times K (s_told CB) s_lowest { nx := fun _ μ' => Q .non μ', rt := Q } F (dstart ["one", "other", "first", "second"] ds) μ := by
  rintro _ μ Q F ⟨a, b, rfl, oa, za, ob, zb, q⟩
  refine ⟨rfl, ?_⟩
  simp only [w_times, w_times_0, w_times_1, s_told, s_lowest, wRet, wRetN, wSeq, wNext, wIfS, wAsg, wName, wPar, wDrop, wDPut, wFor, wISeq, wIRng1, wIRng2, wVar, wC, wNil, wCons, wBin, wUn, wCB, wTst, wAnd, wOr, DL.wNot, wAndV, wOrV, wNotV, wIf, wTup, wLst, wLstM, wCall, wGTup, wGCons, wGNil, wBrk, wCnt, wRaise, gI, gU, gOne , DL.gSub, gMul, gMod, gDiv, gPow, gLt, gLe, gGt, gGe, gNeg, gAbs, gMax2, gMin2, gInt2, wChain, wPar3, dstart, List.map_cons, List.map_nil, List.length_cons, List.length_nil, List.replicate, List.cons_append, List.nil_append, List.append_nil, List.getElem?_cons_zero, List.getElem?_cons_succ, List.set_cons_zero, List.set_cons_succ, Option.some.injEq, exists_eq_left', exists_eq_left, D.int.injEq, D.bl.injEq, D.str.injEq, D.tup.injEq, D.lst.injEq, D.obj.injEq, List.cons.injEq, and_true, true_and, Nat.zero_add, Nat.reduceAdd, Nat.reduceSub, decide_eq_true_eq, Bool.not_eq_true', decide_eq_false_iff_not, exists_and_left, exists_and_right, and_assoc, Bool.true_eq_false, Bool.false_eq_true, if_true, if_false, ne_eq, gIx_tup, atI_0, atI_1, gAdd_int]
  exact two_ok oa za ob zb q fun la lb q => ⟨mul_lown la lb, (mul_low la lb).2.2.1, (mul_low la lb).2.2.2.1, (mul_low la lb).2.2.2.2, q⟩
def fLower (n d m e : Int) : D := .bl (decide (n * e < m * d))
theorem p_lower (K : PySem.W.Frag) (CB : Addr) : ∀ ds μ Q F, s_two CB fLower ds μ Q F → ds.length = 2 ∧ w_lower K (s_told CB) { nx := fun _ μ' => Q .non μ', rt := Q } F (dstart ["one", "other", "first", "second"] ds) μ := by
  rintro _ μ Q F ⟨a, b, rfl, oa, za, ob, zb, q⟩
  refine ⟨rfl, ?_⟩
  simp only [w_lower, w_lower_0, w_lower_1, s_told, s_lowest, wRet, wRetN, wSeq, wNext, wIfS, wAsg, wName, wPar, wDrop, wDPut, wFor, wISeq, wIRng1, wIRng2, wVar, wC, wNil, wCons, wBin, wUn, wCB, wTst, wAnd, wOr, DL.wNot, wAndV, wOrV, wNotV, wIf, wTup, wLst, wLstM, wCall, wGTup, wGCons, wGNil, wBrk, wCnt, wRaise, gI, gU, gOne , DL.gSub, gMul, gMod, gDiv, gPow, gLt, gLe, gGt, gGe, gNeg, gAbs, gMax2, gMin2, gInt2, wChain, wPar3, dstart, List.map_cons, List.map_nil, List.length_cons, List.length_nil, List.replicate, List.cons_append, List.nil_append, List.append_nil, List.getElem?_cons_zero, List.getElem?_cons_succ, List.set_cons_zero, List.set_cons_succ, Option.some.injEq, exists_eq_left', exists_eq_left, D.int.injEq, D.bl.injEq, D.str.injEq, D.tup.injEq, D.lst.injEq, D.obj.injEq, List.cons.injEq, and_true, true_and, Nat.zero_add, Nat.reduceAdd, Nat.reduceSub, decide_eq_true_eq, Bool.not_eq_true', decide_eq_false_iff_not, exists_and_left, exists_and_right, and_assoc, Bool.true_eq_false, Bool.false_eq_true, if_true, if_false, ne_eq, gIx_tup, atI_0, atI_1, gAdd_int]
  exact two_ok oa za ob zb q fun la lb q => ⟨(mul_low la lb).1, (mul_low la lb).2.1, q⟩
def s_share (CB : Addr) : DF := fun ds μ Q F => ∃ a b, ds = [a, b] ∧ okV a ∧ szD a ∧ okV b ∧ szD b ∧
  if isR a = true then (if isR b = true then lowV a ∧ lowV b ∧ (if rN b = 0 then F ⟨.ref CB, [("number", b), ("what", .str "divisor")]⟩ μ else Q (.tup [.int (qN (rN a * rD b) (rD a * rN b)), .int (qD (rN a * rD b) (rD a * rN b))]) μ)
    else F ⟨.ref CB, [("number", b), ("what", .str "ratio")]⟩ μ) else F ⟨.ref CB, [("number", a), ("what", .str "ratio")]⟩ μ
theorem p_share (K : PySem.W.Frag) (CB : Addr) : ∀ ds μ Q F, s_share CB ds μ Q F → ds.length = 2 ∧ w_share K CB (s_told CB) s_lowest { nx := fun _ μ' => Q .non μ', rt := Q } F (dstart ["one", "other", "first", "second"] ds) μ := by
  rintro _ μ Q F ⟨a, b, rfl, oa, za, ob, zb, q⟩
  refine ⟨rfl, ?_⟩
  simp only [w_share, w_share_0, w_share_1, w_share_2, s_told, s_lowest, wRet, wRetN, wSeq, wNext, wIfS, wAsg, wName, wPar, wDrop, wDPut, wFor, wISeq, wIRng1, wIRng2, wVar, wC, wNil, wCons, wBin, wUn, wCB, wTst, wAnd, wOr, DL.wNot, wAndV, wOrV, wNotV, wIf, wTup, wLst, wLstM, wCall, wGTup, wGCons, wGNil, wBrk, wCnt, wRaise, gI, gU, gOne , DL.gSub, gMul, gMod, gDiv, gPow, gLt, gLe, gGt, gGe, gNeg, gAbs, gMax2, gMin2, gInt2, wChain, wPar3, dstart, List.map_cons, List.map_nil, List.length_cons, List.length_nil, List.replicate, List.cons_append, List.nil_append, List.append_nil, List.getElem?_cons_zero, List.getElem?_cons_succ, List.set_cons_zero, List.set_cons_succ, Option.some.injEq, exists_eq_left', exists_eq_left, D.int.injEq, D.bl.injEq, D.str.injEq, D.tup.injEq, D.lst.injEq, D.obj.injEq, List.cons.injEq, and_true, true_and, Nat.zero_add, Nat.reduceAdd, Nat.reduceSub, decide_eq_true_eq, Bool.not_eq_true', decide_eq_false_iff_not, exists_and_left, exists_and_right, and_assoc, Bool.true_eq_false, Bool.false_eq_true, if_true, if_false, ne_eq, gIx_tup, atI_0, atI_1, gAdd_int, gEq_int]
  refine ⟨oa, za, ?_⟩
  by_cases ha : isR a = true
  · rw [if_pos ha] at q ⊢
    refine ⟨ob, zb, ?_⟩
    by_cases hb : isR b = true
    · rw [if_pos hb] at q ⊢
      obtain ⟨la, lb, q⟩ := q
      by_cases h0 : rN b = 0
      · rw [if_pos h0] at q
        rw [if_pos (by simpa using h0)]
        exact q
      · rw [if_neg h0] at q
        rw [if_neg (by simpa using h0)]
        exact ⟨(low_mul la.1 lb.2.1).1, (low_mul la.2.1 lb.1).1, by have := la.2.2; intro z; rcases Int.mul_eq_zero.mp z with z | z <;> omega, Nat.lt_trans (low_mul la.2.1 lb.1).2 (by decide +kernel), q⟩
    · rw [if_neg hb] at q ⊢
      exact q
  · rw [if_neg ha] at q ⊢
    exact q
end NC

set_option maxHeartbeats 2000000
namespace NC
open PySem PySem.Spec PyProof.Rows L2 DL
def w__law_pen_0 (K : PySem.W.Frag)  : DS := (wAsg (wC (.int 0)) (wName 1))
def w__law_pen_1_0 (K : PySem.W.Frag)  : DS := (wAsg (wBin gMod (wCB (gOne gInt) (wCons (wBin gAdd (wBin gMul (wVar 1) (wC (.int 47))) (wVar 2)) wNil)) (wC (.int 1000000007))) (wName 1))
def w__law_pen_1 (K : PySem.W.Frag)  : DS := (wFor (wISeq (wVar 0)) (wName 2) (w__law_pen_1_0 K))
def w__law_pen_2 (K : PySem.W.Frag)  : DS := (wRet (wDctM (((wC (.str "cells")), (wCB (gOne gList) (wCons (wVar 0) wNil))) :: (((wC (.str "at")), (wC (.int 0))) :: (((wC (.str "digits")), (wC (.int 0))) :: (((wC (.str "count")), (wC (.int 0))) :: (((wC (.str "fold")), (wVar 1)) :: [])))))))
def w__law_pen (K : PySem.W.Frag)  : DS := (wSeq (w__law_pen_0 K) (wSeq (w__law_pen_1 K) (w__law_pen_2 K)))
def w__law_draw_0 (K : PySem.W.Frag)  : DS := (wDPut (wVar 0) (wC (.str "count")) (wBin gAdd (wBin gDGet (wVar 0) (wC (.str "count"))) (wC (.int 1))))
def w__law_draw_1 (K : PySem.W.Frag)  : DS := (wIfS (wAnd (wTst (wBin (gEq false) (wBin gDGet (wVar 0) (wC (.str "digits"))) (wC (.int 0)))) (wTst (wBin gLt (wBin gDGet (wVar 0) (wC (.str "at"))) (wCB (gOne gLen) (wCons (wBin gDGet (wVar 0) (wC (.str "cells"))) wNil))))) (wSeq (wAsg (wBin gIx (wBin gDGet (wVar 0) (wC (.str "cells"))) (wBin gDGet (wVar 0) (wC (.str "at")))) (wName 2)) (wSeq (wDPut (wVar 0) (wC (.str "at")) (wBin gAdd (wBin gDGet (wVar 0) (wC (.str "at"))) (wC (.int 1)))) (wIfS (wTst (wBin gGe (wVar 2) (wBin gPow (wC (.int 10)) (wC (.int 18))))) (wDPut (wVar 0) (wC (.str "digits")) (wBin gSub (wVar 2) (wBin gPow (wC (.int 10)) (wC (.int 18))))) (wDPut (wVar 0) (wC (.str "fold")) (wBin gMod (wCB (gOne gInt) (wCons (wBin gAdd (wBin gMul (wBin gDGet (wVar 0) (wC (.str "fold"))) (wC (.int 69069))) (wVar 2)) wNil)) (wC (.int 2147483587))))))) wNext)
def w__law_draw_2 (K : PySem.W.Frag)  : DS := (wIfS (wTst (wBin gGt (wBin gDGet (wVar 0) (wC (.str "digits"))) (wC (.int 0)))) (wSeq (wAsg (wBin gMod (wCB (gOne gInt) (wCons (wBin gDGet (wVar 0) (wC (.str "digits"))) wNil)) (wVar 1)) (wName 3)) (wSeq (wDPut (wVar 0) (wC (.str "digits")) (wBin gDiv (wBin gDGet (wVar 0) (wC (.str "digits"))) (wVar 1))) (wRet (wVar 3)))) wNext)
def w__law_draw_3 (K : PySem.W.Frag)  : DS := (wAsg (wBin gAdd (wBin gAdd (wBin gDGet (wVar 0) (wC (.str "fold"))) (wBin gMul (wBin gDGet (wVar 0) (wC (.str "count"))) (wC (.int 7907)))) (wC (.int 43))) (wName 4))
def w__law_draw_4 (K : PySem.W.Frag)  : DS := (wRet (wBin gMod (wBin gDiv (wCB (gOne gInt) (wCons (wBin gMod (wBin gPow (wVar 4) (wC (.int 17))) (wC (.int 2305843009213693951))) wNil)) (wC (.int 128))) (wVar 1)))
def w__law_draw (K : PySem.W.Frag)  : DS := (wSeq (w__law_draw_0 K) (wSeq (w__law_draw_1 K) (wSeq (w__law_draw_2 K) (wSeq (w__law_draw_3 K) (w__law_draw_4 K)))))
def w__law_pick_0 (K : PySem.W.Frag) (s__law_draw : DF) : DS := (wRet (wBin gIx (wVar 1) (wCall s__law_draw (wCons (wVar 0) (wCons (wCB (gOne gLen) (wCons (wVar 1) wNil)) wNil)))))
def w__law_pick (K : PySem.W.Frag) (s__law_draw : DF) : DS := (w__law_pick_0 K s__law_draw)
def w__law_far_0 (K : PySem.W.Frag) (s__law_pick s__law_draw : DF) : DS := (wAsg (wC (.int 0)) (wName 1))
def w__law_far_1_0 (K : PySem.W.Frag) (s__law_pick s__law_draw : DF) : DS := (wAsg (wBin gAdd (wBin gMul (wVar 1) (wC (.int 1000))) (wCall s__law_draw (wCons (wVar 0) (wCons (wC (.int 1000)) wNil)))) (wName 1))
def w__law_far_1 (K : PySem.W.Frag) (s__law_pick s__law_draw : DF) : DS := (wFor (wIRng1 (wCons (wCall s__law_pick (wCons (wVar 0) (wCons (wLst (wCons (wC (.int 0)) (wCons (wC (.int 1)) (wCons (wC (.int 1)) (wCons (wC (.int 2)) (wCons (wC (.int 6)) wNil)))))) wNil))) wNil)) (wName 2) (w__law_far_1_0 K s__law_pick s__law_draw))
def w__law_far_2 (K : PySem.W.Frag) (s__law_pick s__law_draw : DF) : DS := (wRet (wIf (wTst (wBin gGt (wCall s__law_draw (wCons (wVar 0) (wCons (wC (.int 3)) wNil))) (wC (.int 0)))) (wVar 1) (wUn gNeg (wVar 1))))
def w__law_far (K : PySem.W.Frag) (s__law_pick s__law_draw : DF) : DS := (wSeq (w__law_far_0 K s__law_pick s__law_draw) (wSeq (w__law_far_1 K s__law_pick s__law_draw) (w__law_far_2 K s__law_pick s__law_draw)))
theorem mput_self {μ : M} {p : Addr} {m : MO} (h : μ p = some m) : mput μ p m = μ := by
  funext b
  by_cases e : b = p
  · rw [e, mput_same, h]
  · rw [mput_ne e]
theorem gDGet_put {μ : M} {p : Addr} {ks : List (Key × D)} {z : Str} {Q : DK} : gDGet (.obj p) (.str z) (mput μ p (.dct ks)) Q ↔ ∃ d, valD ks (.inr z) = some d ∧ Q d (mput μ p (.dct ks)) := gDGet_obj mput_same
theorem pen_len {cs : List Int} {a d n f : Int} : (penD cs a d n f).length ≤ 1000000 := by show 5 ≤ 1000000; decide
theorem mul_small {i j : Int} (h1 : i.natAbs < 2 ^ 400) (h2 : j.natAbs < 2 ^ 400) : CMulW i j := wide_mul h1 h2 (by decide) (by decide) (by decide)

/-! ### _law_pen -/
def s__law_pen : DF := fun ds μ Q _ => ∃ ns : List Int, ds = [.ro (ns.map .int)] ∧ ns.length ≤ 63 ∧ ∀ p μ', μ p = none → Only p μ μ' → Pen p μ' 0 → Q (.obj p) μ'
theorem p__law_pen (K : PySem.W.Frag) : ∀ ds μ Q F, s__law_pen ds μ Q F → ds.length = 1 ∧ w__law_pen K { nx := fun _ μ' => Q .non μ', rt := Q } F (dstart ["_law_script", "_law_fold", "_law_cell"] ds) μ := by
  rintro _ μ Q F ⟨ns, rfl, hl, q⟩
  refine ⟨rfl, ?_⟩
  simp only [w__law_pen, w__law_pen_0, w__law_pen_1_0, w__law_pen_1, w__law_pen_2, wRet, wRetN, wSeq, wNext, wIfS, wAsg, wName, wPar, wDrop, wDPut, wFor, wISeq, wIRng1, wIRng2, wVar, wC, wNil, wCons, wBin, wUn, wCB, wTst, wAnd, wOr, DL.wNot, wAndV, wOrV, wNotV, wIf, wTup, wLst, wLstM, wCall, wGTup, wGCons, wGNil, wBrk, wCnt, wRaise, gI, gU, gOne , DL.gSub, gMul, gMod, gDiv, gPow, gLt, gLe, gGt, gGe, gNeg, gAbs, gMax2, gMin2, gInt2, wChain, wPar3, dstart, List.map_cons, List.map_nil, List.length_cons, List.length_nil, List.replicate, List.cons_append, List.nil_append, List.append_nil, List.getElem?_cons_zero, List.getElem?_cons_succ, List.set_cons_zero, List.set_cons_succ, Option.some.injEq, exists_eq_left', exists_eq_left, D.int.injEq, D.bl.injEq, D.str.injEq, D.tup.injEq, D.lst.injEq, D.obj.injEq, List.cons.injEq, and_true, true_and, Nat.zero_add, Nat.reduceAdd, Nat.reduceSub, decide_eq_true_eq, Bool.not_eq_true', decide_eq_false_iff_not, exists_and_left, exists_and_right, and_assoc, Bool.true_eq_false, Bool.false_eq_true, if_true, if_false, ne_eq]
  refine Or.inl ⟨ns.map .int, .inr (.inl rfl), ?_⟩
  have key : ∀ (cs : List Int) (f : Int) (c : Option D), 0 ≤ f → f < 1000000007 → wLoop Any (wName 2) (wAsg (wBin (gI (fun x j => ¬j = 0) fun i j => D.int (i.fmod j)) (wCB (gOne gInt) (wCons (wBin gAdd (wBin (gI CMulW fun i j => D.int (i * j)) (wVar 1) (wC (D.int 47))) (wVar 2)) wNil)) (wC (D.int 1000000007))) (wName 1)) (cs.map .int)
      { nx := fun δ' μ' => wDctM [(wC (D.str (Str.ofString "cells")), wCB (gOne gList) (wCons (wVar 0) wNil)), (wC (D.str (Str.ofString "at")), wC (D.int 0)), (wC (D.str (Str.ofString "digits")), wC (D.int 0)), (wC (D.str (Str.ofString "count")), wC (D.int 0)), (wC (D.str (Str.ofString "fold")), wVar 1)] δ' μ' Q F, rt := Q } F [some (.ro (ns.map .int)), some (D.int f), c] μ := by
    intro cs
    induction cs with
    | nil =>
      intro f c h1 h2
      refine ⟨trivial, fun p hp => ?_⟩
      simp only [wPairs, wRet, wRetN, wSeq, wNext, wIfS, wAsg, wName, wPar, wDrop, wDPut, wFor, wISeq, wIRng1, wIRng2, wVar, wC, wNil, wCons, wBin, wUn, wCB, wTst, wAnd, wOr, DL.wNot, wAndV, wOrV, wNotV, wIf, wTup, wLst, wLstM, wCall, wGTup, wGCons, wGNil, wBrk, wCnt, wRaise, gI, gU, gOne , DL.gSub, gMul, gMod, gDiv, gPow, gLt, gLe, gGt, gGe, gNeg, gAbs, gMax2, gMin2, gInt2, wChain, wPar3, dstart, List.map_cons, List.map_nil, List.length_cons, List.length_nil, List.replicate, List.cons_append, List.nil_append, List.append_nil, List.getElem?_cons_zero, List.getElem?_cons_succ, List.set_cons_zero, List.set_cons_succ, Option.some.injEq, exists_eq_left', exists_eq_left, D.int.injEq, D.bl.injEq, D.str.injEq, D.tup.injEq, D.lst.injEq, D.obj.injEq, List.cons.injEq, and_true, true_and, Nat.zero_add, Nat.reduceAdd, Nat.reduceSub, decide_eq_true_eq, Bool.not_eq_true', decide_eq_false_iff_not, exists_and_left, exists_and_right, and_assoc, Bool.true_eq_false, Bool.false_eq_true, if_true, if_false, ne_eq, gList, seqOf]
      refine ⟨mput_same, by decide, _, rfl, ?_⟩
      rw [mput_mput]
      exact q p _ hp Only.put ⟨ns, 0, 0, 0, f, mput_same, by decide, by omega, by omega, by decide, by decide, by decide, h1, by omega⟩
    | cons c cs ih =>
      intro f c0 h1 h2
      refine ⟨trivial, ?_⟩
      simp only [wRet, wRetN, wSeq, wNext, wIfS, wAsg, wName, wPar, wDrop, wDPut, wFor, wISeq, wIRng1, wIRng2, wVar, wC, wNil, wCons, wBin, wUn, wCB, wTst, wAnd, wOr, DL.wNot, wAndV, wOrV, wNotV, wIf, wTup, wLst, wLstM, wCall, wGTup, wGCons, wGNil, wBrk, wCnt, wRaise, gI, gU, gOne , DL.gSub, gMul, gMod, gDiv, gPow, gLt, gLe, gGt, gGe, gNeg, gAbs, gMax2, gMin2, gInt2, wChain, wPar3, dstart, List.map_cons, List.map_nil, List.length_cons, List.length_nil, List.replicate, List.cons_append, List.nil_append, List.append_nil, List.getElem?_cons_zero, List.getElem?_cons_succ, List.set_cons_zero, List.set_cons_succ, Option.some.injEq, exists_eq_left', exists_eq_left, D.int.injEq, D.bl.injEq, D.str.injEq, D.tup.injEq, D.lst.injEq, D.obj.injEq, List.cons.injEq, and_true, true_and, Nat.zero_add, Nat.reduceAdd, Nat.reduceSub, decide_eq_true_eq, Bool.not_eq_true', decide_eq_false_iff_not, exists_and_left, exists_and_right, and_assoc, Bool.true_eq_false, Bool.false_eq_true, if_true, if_false, ne_eq, gAdd_int, gInt_int]
      refine ⟨mul_small (by omega) (by decide), by decide, ih _ _ ?_ ?_⟩
      · exact Int.fmod_nonneg_of_pos _ (by decide)
      · exact Int.fmod_lt_of_pos _ (by decide)
  exact key ns 0 none (by decide) (by decide)

/-! ### _law_draw -/
def s__law_draw : DF := fun ds μ Q _ => ∃ p many m, ds = [.obj p, .int many] ∧ 0 < many ∧ many < 2 ^ 60 ∧ Pen p μ m ∧ m ≤ 1000000 ∧ ∀ v μ', 0 ≤ v → v < many → Only p μ μ' → Pen p μ' (m + 1) → Q (.int v) μ'
theorem draw_tail (K : PySem.W.Frag) {p : Addr} {many : Int} {m : Nat} {μ : M} {Q : DK} {F : FK} {R : DSt → M → Prop} (h1 : 0 < many) (h2 : many < 2 ^ 60) (hm : m ≤ 1000000) (q : ∀ v μ', 0 ≤ v → v < many → Only p μ μ' → Pen p μ' (m + 1) → Q (.int v) μ')
    {cs : List Int} {a d n f : Int} {c : Option D} (p1 : 0 ≤ a) (p2 : a ≤ cs.length) (p3 : cs.length ≤ 1000000) (p4 : 0 ≤ d) (p5 : 0 ≤ n) (p6 : n ≤ (m + 1 : Nat)) (p7 : 0 ≤ f) (p8 : f < 2147483648) :
    wSeq (w__law_draw_2 K) (wSeq (w__law_draw_3 K) (w__law_draw_4 K)) { nx := R, rt := Q } F [some (.obj p), some (.int many), c, none, none] (mput μ p (.dct (penD cs a d n f))) := by
  simp only [w__law_draw_2, w__law_draw_3, w__law_draw_4, wRet, wRetN, wSeq, wNext, wIfS, wAsg, wName, wPar, wDrop, wDPut, wFor, wISeq, wIRng1, wIRng2, wVar, wC, wNil, wCons, wBin, wUn, wCB, wTst, wAnd, wOr, DL.wNot, wAndV, wOrV, wNotV, wIf, wTup, wLst, wLstM, wCall, wGTup, wGCons, wGNil, wBrk, wCnt, wRaise, gI, gU, gOne , DL.gSub, gMul, gMod, gDiv, gPow, gLt, gLe, gGt, gGe, gNeg, gAbs, gMax2, gMin2, gInt2, wChain, wPar3, dstart, List.map_cons, List.map_nil, List.length_cons, List.length_nil, List.replicate, List.cons_append, List.nil_append, List.append_nil, List.getElem?_cons_zero, List.getElem?_cons_succ, List.set_cons_zero, List.set_cons_succ, Option.some.injEq, exists_eq_left', exists_eq_left, D.int.injEq, D.bl.injEq, D.str.injEq, D.tup.injEq, D.lst.injEq, D.obj.injEq, List.cons.injEq, and_true, true_and, Nat.zero_add, Nat.reduceAdd, Nat.reduceSub, decide_eq_true_eq, Bool.not_eq_true', decide_eq_false_iff_not, exists_and_left, exists_and_right, and_assoc, Bool.true_eq_false, Bool.false_eq_true, if_true, if_false, ne_eq, gDGet_put, pen_cells, pen_at, pen_digits, pen_count, pen_fold, put_at, put_digits, put_count, put_fold, mput_same, mput_mput, MO.dct.injEq, keyOf, gAdd_int, gEq_int, pen_len, gLen_lst, gInt_int]
  have cm : ∀ x : Int, CDivG x many := fun x => ⟨by omega, Nat.lt_of_lt_of_le (Nat.log2_lt (by omega) |>.mpr (show many.natAbs < 2 ^ 60 by omega)) (by decide)⟩
  by_cases hd : 0 < d
  · rw [if_pos hd]
    refine ⟨by omega, cm d, q _ _ (Int.fmod_nonneg_of_pos _ h1) (Int.fmod_lt_of_pos _ h1) Only.put ⟨cs, a, _, n, f, mput_same, p1, p2, p3, ?_, p5, p6, p7, p8⟩⟩
    rw [Int.fdiv_eq_ediv_of_nonneg _ (by omega)]
    exact Int.ediv_nonneg p4 (by omega)
  · rw [if_neg hd]
    refine ⟨mul_small (by omega) (by decide), ⟨by decide, by decide, by omega⟩, by decide, ⟨by decide, by decide⟩, by omega, q _ _ (Int.fmod_nonneg_of_pos _ h1) (Int.fmod_lt_of_pos _ h1) Only.put ⟨cs, a, d, n, f, mput_same, p1, p2, p3, p4, p5, p6, p7, p8⟩⟩
theorem p__law_draw (K : PySem.W.Frag) : ∀ ds μ Q F, s__law_draw ds μ Q F → ds.length = 2 ∧ w__law_draw K { nx := fun _ μ' => Q .non μ', rt := Q } F (dstart ["_law_pen_here", "_law_many", "_law_cell", "_law_digit", "_law_mixed"] ds) μ := by
  rintro _ μ Q F ⟨p, many, m, rfl, h1, h2, pen, hm, q⟩
  refine ⟨rfl, ?_⟩
  obtain ⟨cs, a, d, n, f, h0, p1, p2, p3, p4, p5, p6, p7, p8⟩ := pen
  have e0 := mput_self h0
  rw [← e0]
  have tail : ∀ (cs : List Int) (a d n f : Int) (c : Option D), 0 ≤ a → a ≤ cs.length → cs.length ≤ 1000000 → 0 ≤ d → 0 ≤ n → n ≤ (m + 1 : Nat) → 0 ≤ f → f < 2147483648 → _ := fun cs a d n f c => @draw_tail K p many m μ Q F (fun _ μ' => Q .non μ') h1 h2 hm q cs a d n f c
  show w__law_draw_0 K { nx := fun δ μ => w__law_draw_1 K { nx := fun δ μ => wSeq (w__law_draw_2 K) (wSeq (w__law_draw_3 K) (w__law_draw_4 K)) { nx := fun _ μ' => Q .non μ', rt := Q } F δ μ, rt := Q } F δ μ, rt := Q } F _ _
  generalize wSeq (w__law_draw_2 K) (wSeq (w__law_draw_3 K) (w__law_draw_4 K)) = tl at tail ⊢
  simp only [w__law_draw_0, w__law_draw_1, wRet, wRetN, wSeq, wNext, wIfS, wAsg, wName, wPar, wDrop, wDPut, wFor, wISeq, wIRng1, wIRng2, wVar, wC, wNil, wCons, wBin, wUn, wCB, wTst, wAnd, wOr, DL.wNot, wAndV, wOrV, wNotV, wIf, wTup, wLst, wLstM, wCall, wGTup, wGCons, wGNil, wBrk, wCnt, wRaise, gI, gU, gOne , DL.gSub, gMul, gMod, gDiv, gPow, gLt, gLe, gGt, gGe, gNeg, gAbs, gMax2, gMin2, gInt2, wChain, wPar3, dstart, List.map_cons, List.map_nil, List.length_cons, List.length_nil, List.replicate, List.cons_append, List.nil_append, List.append_nil, List.getElem?_cons_zero, List.getElem?_cons_succ, List.set_cons_zero, List.set_cons_succ, Option.some.injEq, exists_eq_left', exists_eq_left, D.int.injEq, D.bl.injEq, D.str.injEq, D.tup.injEq, D.lst.injEq, D.obj.injEq, List.cons.injEq, and_true, true_and, Nat.zero_add, Nat.reduceAdd, Nat.reduceSub, decide_eq_true_eq, Bool.not_eq_true', decide_eq_false_iff_not, exists_and_left, exists_and_right, and_assoc, Bool.true_eq_false, Bool.false_eq_true, if_true, if_false, ne_eq, gDGet_put, pen_cells, pen_at, pen_digits, pen_count, pen_fold, put_at, put_digits, put_count, put_fold, mput_same, mput_mput, MO.dct.injEq, keyOf, gAdd_int, gEq_int, pen_len, gLen_lst, gInt_int]
  by_cases hd : (d == 0) = true
  · rw [if_pos hd]
    by_cases ha : a < (List.map D.int cs).length
    · rw [if_pos ha]
      have ha' : a < cs.length := by simpa using ha
      have hx : a.toNat < cs.length := by omega
      rw [gIx_lst]
      refine ⟨.int cs[a.toNat], ?_, ?_⟩
      · unfold atI ixN
        simp only [List.length_map]
        rw [if_pos p1, if_pos ha']
        simp [hx]
      simp only [gDGet_put, pen_cells, pen_at, pen_digits, pen_count, pen_fold, put_at, put_digits, put_count, put_fold, mput_same, mput_mput, MO.dct.injEq, keyOf, gAdd_int, gEq_int, pen_len, gLen_lst, gInt_int, dstart, List.map_cons, List.map_nil, List.length_cons, List.length_nil, List.replicate, List.cons_append, List.nil_append, List.append_nil, List.getElem?_cons_zero, List.getElem?_cons_succ, List.set_cons_zero, List.set_cons_succ, Option.some.injEq, exists_eq_left', exists_eq_left, D.int.injEq, D.bl.injEq, D.str.injEq, D.tup.injEq, D.lst.injEq, D.obj.injEq, List.cons.injEq, and_true, true_and, Nat.zero_add, Nat.reduceAdd, Nat.reduceSub, decide_eq_true_eq, Bool.not_eq_true', decide_eq_false_iff_not, exists_and_left, exists_and_right, and_assoc, Bool.true_eq_false, Bool.false_eq_true, if_true, if_false, ne_eq]
      refine ⟨⟨by decide, by decide, by decide⟩, ?_⟩
      by_cases hc : 10 ^ Int.toNat 18 ≤ cs[a.toNat]
      · rw [if_pos hc]
        exact ⟨⟨by decide, by decide, by decide⟩, tail _ _ _ _ _ _ (by omega) (by omega) p3 (by omega) (by omega) (by omega) p7 p8⟩
      · rw [if_neg hc]
        refine ⟨mul_small (by omega) (by decide), by decide, tail _ _ _ _ _ _ (by omega) (by omega) p3 p4 (by omega) (by omega) (Int.fmod_nonneg_of_pos _ (by decide)) (Int.lt_trans (Int.fmod_lt_of_pos _ (by decide)) (by decide))⟩
    · rw [if_neg ha]
      exact tail _ _ _ _ _ _ p1 p2 p3 p4 (by omega) (by omega) p7 p8
  · rw [if_neg hd]
    exact tail _ _ _ _ _ _ p1 p2 p3 p4 (by omega) (by omega) p7 p8

/-! ### _law_pick, _law_far -/
def s__law_pick : DF := fun ds μ Q _ => ∃ p xs m, (ds = [.obj p, .lst xs] ∨ ds = [.obj p, .tup xs]) ∧ 0 < xs.length ∧ xs.length ≤ 1000000 ∧ Pen p μ m ∧ m ≤ 1000000 ∧ ∀ v ∈ xs, ∀ μ', Only p μ μ' → Pen p μ' (m + 1) → Q v μ'
theorem at_nn {α : Type} {xs : List α} {i : Int} (h1 : 0 ≤ i) (h2 : i < xs.length) : ∃ h : i.toNat < xs.length, atI xs i = some xs[i.toNat] := by
  have h : i.toNat < xs.length := by omega
  refine ⟨h, ?_⟩
  unfold atI ixN
  rw [if_pos h1, if_pos h2]
  simp [h]
theorem p__law_pick (K : PySem.W.Frag) : ∀ ds μ Q F, s__law_pick ds μ Q F → ds.length = 2 ∧ w__law_pick K s__law_draw { nx := fun _ μ' => Q .non μ', rt := Q } F (dstart ["_law_pen_here", "_law_some"] ds) μ := by
  rintro _ μ Q F ⟨p, xs, m, e, h1, h2, pen, hm, q⟩
  have fin : ∀ x1 : D, (x1 = .lst xs ∨ x1 = .tup xs) → gLen x1 μ fun d μ1 => s__law_draw [.obj p, d] μ1 (fun y μ2 => gIx x1 y μ2 Q) F := by
    rintro x1 (rfl | rfl)
    · rw [gLen_lst]
      refine ⟨p, _, m, rfl, by omega, by omega, pen, hm, fun v μ' v1 v2 o pn => ?_⟩
      refine gIx_lst.mpr ?_
      obtain ⟨h, e⟩ := at_nn v1 v2
      exact ⟨_, e, q _ (List.getElem_mem h) μ' o pn⟩
    · rw [gLen_tup]
      refine ⟨p, _, m, rfl, by omega, by omega, pen, hm, fun v μ' v1 v2 o pn => ?_⟩
      refine gIx_tup.mpr ?_
      obtain ⟨h, e⟩ := at_nn v1 v2
      exact ⟨_, e, q _ (List.getElem_mem h) μ' o pn⟩
  rcases e with rfl | rfl
  · refine ⟨rfl, ?_⟩
    simp only [w__law_pick, w__law_pick_0, wRet, wRetN, wSeq, wNext, wIfS, wAsg, wName, wPar, wDrop, wDPut, wFor, wISeq, wIRng1, wIRng2, wVar, wC, wNil, wCons, wBin, wUn, wCB, wTst, wAnd, wOr, DL.wNot, wAndV, wOrV, wNotV, wIf, wTup, wLst, wLstM, wCall, wGTup, wGCons, wGNil, wBrk, wCnt, wRaise, gI, gU, gOne , DL.gSub, gMul, gMod, gDiv, gPow, gLt, gLe, gGt, gGe, gNeg, gAbs, gMax2, gMin2, gInt2, wChain, wPar3, dstart, List.map_cons, List.map_nil, List.length_cons, List.length_nil, List.replicate, List.cons_append, List.nil_append, List.append_nil, List.getElem?_cons_zero, List.getElem?_cons_succ, List.set_cons_zero, List.set_cons_succ, Option.some.injEq, exists_eq_left', exists_eq_left, D.int.injEq, D.bl.injEq, D.str.injEq, D.tup.injEq, D.lst.injEq, D.obj.injEq, List.cons.injEq, and_true, true_and, Nat.zero_add, Nat.reduceAdd, Nat.reduceSub, decide_eq_true_eq, Bool.not_eq_true', decide_eq_false_iff_not, exists_and_left, exists_and_right, and_assoc, Bool.true_eq_false, Bool.false_eq_true, if_true, if_false, ne_eq]
    exact fin _ (.inl rfl)
  · refine ⟨rfl, ?_⟩
    simp only [w__law_pick, w__law_pick_0, wRet, wRetN, wSeq, wNext, wIfS, wAsg, wName, wPar, wDrop, wDPut, wFor, wISeq, wIRng1, wIRng2, wVar, wC, wNil, wCons, wBin, wUn, wCB, wTst, wAnd, wOr, DL.wNot, wAndV, wOrV, wNotV, wIf, wTup, wLst, wLstM, wCall, wGTup, wGCons, wGNil, wBrk, wCnt, wRaise, gI, gU, gOne , DL.gSub, gMul, gMod, gDiv, gPow, gLt, gLe, gGt, gGe, gNeg, gAbs, gMax2, gMin2, gInt2, wChain, wPar3, dstart, List.map_cons, List.map_nil, List.length_cons, List.length_nil, List.replicate, List.cons_append, List.nil_append, List.append_nil, List.getElem?_cons_zero, List.getElem?_cons_succ, List.set_cons_zero, List.set_cons_succ, Option.some.injEq, exists_eq_left', exists_eq_left, D.int.injEq, D.bl.injEq, D.str.injEq, D.tup.injEq, D.lst.injEq, D.obj.injEq, List.cons.injEq, and_true, true_and, Nat.zero_add, Nat.reduceAdd, Nat.reduceSub, decide_eq_true_eq, Bool.not_eq_true', decide_eq_false_iff_not, exists_and_left, exists_and_right, and_assoc, Bool.true_eq_false, Bool.false_eq_true, if_true, if_false, ne_eq]
    exact fin _ (.inr rfl)
def s__law_far : DF := fun ds μ Q _ => ∃ p m, ds = [.obj p] ∧ Pen p μ m ∧ m + 10 ≤ 1000000 ∧ ∀ v μ', v.natAbs < 10 ^ 18 → Only p μ μ' → Pen p μ' (m + 10) → Q (.int v) μ'
theorem p__law_far (K : PySem.W.Frag) : ∀ ds μ Q F, s__law_far ds μ Q F → ds.length = 1 ∧ w__law_far K s__law_pick s__law_draw { nx := fun _ μ' => Q .non μ', rt := Q } F (dstart ["_law_pen_here", "_law_found", "_law_k"] ds) μ := by
  rintro _ μ Q F ⟨p, m, rfl, pen, hm, q⟩
  refine ⟨rfl, ?_⟩
  simp only [w__law_far, w__law_far_0, w__law_far_1_0, w__law_far_1, w__law_far_2, wRet, wRetN, wSeq, wNext, wIfS, wAsg, wName, wPar, wDrop, wDPut, wFor, wISeq, wIRng1, wIRng2, wVar, wC, wNil, wCons, wBin, wUn, wCB, wTst, wAnd, wOr, DL.wNot, wAndV, wOrV, wNotV, wIf, wTup, wLst, wLstM, wCall, wGTup, wGCons, wGNil, wBrk, wCnt, wRaise, gI, gU, gOne , DL.gSub, gMul, gMod, gDiv, gPow, gLt, gLe, gGt, gGe, gNeg, gAbs, gMax2, gMin2, gInt2, wChain, wPar3, dstart, List.map_cons, List.map_nil, List.length_cons, List.length_nil, List.replicate, List.cons_append, List.nil_append, List.append_nil, List.getElem?_cons_zero, List.getElem?_cons_succ, List.set_cons_zero, List.set_cons_succ, Option.some.injEq, exists_eq_left', exists_eq_left, D.int.injEq, D.bl.injEq, D.str.injEq, D.tup.injEq, D.lst.injEq, D.obj.injEq, List.cons.injEq, and_true, true_and, Nat.zero_add, Nat.reduceAdd, Nat.reduceSub, decide_eq_true_eq, Bool.not_eq_true', decide_eq_false_iff_not, exists_and_left, exists_and_right, and_assoc, Bool.true_eq_false, Bool.false_eq_true, if_true, if_false, ne_eq]
  refine ⟨by decide, p, _, m, .inl rfl, by decide, by decide, pen, by omega, fun v hv μ1 o1 pen1 => ?_⟩
  obtain ⟨j, rfl, j0, j6⟩ : ∃ j : Nat, v = .int j ∧ 0 ≤ j ∧ j ≤ 6 := by
    simp only [List.mem_cons, List.not_mem_nil, or_false] at hv
    rcases hv with rfl | rfl | rfl | rfl | rfl
    · exact ⟨0, rfl, by decide, by decide⟩
    · exact ⟨1, rfl, by decide, by decide⟩
    · exact ⟨1, rfl, by decide, by decide⟩
    · exact ⟨2, rfl, by decide, by decide⟩
    · exact ⟨6, rfl, by decide, by decide⟩
  refine ⟨j, rfl, by omega, by omega, ?_⟩
  have key : ∀ (js : List D) (g : Int) (n : Nat) (c : Option D) (μ2 : M), js.length + n = j → 0 ≤ g → g < 1000 ^ n → Only p μ μ2 → Pen p μ2 (m + 1 + n) → wLoop Any (wName 2)
                  (wAsg
                    (wBin gAdd (wBin (gI CMulW fun i j => D.int (i * j)) (wVar 1) (wC (D.int 1000)))
                      (wCall s__law_draw (wCons (wVar 0) (wCons (wC (D.int 1000)) wNil))))
                    (wName 1)) js
                  {
                    nx := fun δ' μ' =>
                      ∃ d,
                        δ'[0]? = some (some d) ∧
                          s__law_draw [d, D.int 3] μ'
                            (fun x μ1 =>
                              ∃ i,
                                x = D.int i ∧
                                  if 0 < i then ∃ d, δ'[1]? = some (some d) ∧ Q d μ1
                                  else ∃ d, δ'[1]? = some (some d) ∧ ∃ i, d = D.int i ∧ Q (D.int (-i)) μ1)
                            F,
                    rt := Q }
                  F [some (.obj p), some (D.int g), c] μ2 := by
    intro js
    induction js with
    | nil =>
      intro g n c μ2 e g0 g1 o2 pen2
      have hn : n = j := by simpa using e
      subst hn
      have g18 : g < 10 ^ 18 := Int.lt_of_lt_of_le g1 (by
        rcases (by omega : n = 0 ∨ n = 1 ∨ n = 2 ∨ n = 3 ∨ n = 4 ∨ n = 5 ∨ n = 6) with h | h | h | h | h | h | h <;> subst h <;> decide)
      refine ⟨trivial, .obj p, rfl, p, 3, m + 1 + n, rfl, by decide, by decide, pen2, by omega, fun v μ3 v1 v2 o3 pen3 => ⟨v, rfl, ?_⟩⟩
      have o : Only p μ μ3 := o2.trans o3
      have pn : Pen p μ3 (m + 10) := pen3.mono (by omega)
      split
      · exact ⟨_, rfl, q _ _ (by omega) o pn⟩
      · exact ⟨_, rfl, _, rfl, q _ _ (by omega) o pn⟩
    | cons x js ih =>
      intro g n c μ2 e g0 g1 o2 pen2
      have hlen : js.length + (n + 1) = j := by simp only [List.length_cons] at e; omega
      refine ⟨trivial, ?_⟩
      have g18 : g < 10 ^ 18 := Int.lt_of_lt_of_le g1 (by
        rcases (by omega : n = 0 ∨ n = 1 ∨ n = 2 ∨ n = 3 ∨ n = 4 ∨ n = 5 ∨ n = 6) with h | h | h | h | h | h | h <;> subst h <;> decide)
      simp only [wRet, wRetN, wSeq, wNext, wIfS, wAsg, wName, wPar, wDrop, wDPut, wFor, wISeq, wIRng1, wIRng2, wVar, wC, wNil, wCons, wBin, wUn, wCB, wTst, wAnd, wOr, DL.wNot, wAndV, wOrV, wNotV, wIf, wTup, wLst, wLstM, wCall, wGTup, wGCons, wGNil, wBrk, wCnt, wRaise, gI, gU, gOne , DL.gSub, gMul, gMod, gDiv, gPow, gLt, gLe, gGt, gGe, gNeg, gAbs, gMax2, gMin2, gInt2, wChain, wPar3, dstart, List.map_cons, List.map_nil, List.length_cons, List.length_nil, List.replicate, List.cons_append, List.nil_append, List.append_nil, List.getElem?_cons_zero, List.getElem?_cons_succ, List.set_cons_zero, List.set_cons_succ, Option.some.injEq, exists_eq_left', exists_eq_left, D.int.injEq, D.bl.injEq, D.str.injEq, D.tup.injEq, D.lst.injEq, D.obj.injEq, List.cons.injEq, and_true, true_and, Nat.zero_add, Nat.reduceAdd, Nat.reduceSub, decide_eq_true_eq, Bool.not_eq_true', decide_eq_false_iff_not, exists_and_left, exists_and_right, and_assoc, Bool.true_eq_false, Bool.false_eq_true, if_true, if_false, ne_eq, gAdd_int]
      refine ⟨mul_small (by omega) (by decide), p, 1000, m + 1 + n, rfl, by decide, by decide, pen2, by omega, fun v μ3 v1 v2 o3 pen3 => ?_⟩
      simp only [wRet, wRetN, wSeq, wNext, wIfS, wAsg, wName, wPar, wDrop, wDPut, wFor, wISeq, wIRng1, wIRng2, wVar, wC, wNil, wCons, wBin, wUn, wCB, wTst, wAnd, wOr, DL.wNot, wAndV, wOrV, wNotV, wIf, wTup, wLst, wLstM, wCall, wGTup, wGCons, wGNil, wBrk, wCnt, wRaise, gI, gU, gOne , DL.gSub, gMul, gMod, gDiv, gPow, gLt, gLe, gGt, gGe, gNeg, gAbs, gMax2, gMin2, gInt2, wChain, wPar3, dstart, List.map_cons, List.map_nil, List.length_cons, List.length_nil, List.replicate, List.cons_append, List.nil_append, List.append_nil, List.getElem?_cons_zero, List.getElem?_cons_succ, List.set_cons_zero, List.set_cons_succ, Option.some.injEq, exists_eq_left', exists_eq_left, D.int.injEq, D.bl.injEq, D.str.injEq, D.tup.injEq, D.lst.injEq, D.obj.injEq, List.cons.injEq, and_true, true_and, Nat.zero_add, Nat.reduceAdd, Nat.reduceSub, decide_eq_true_eq, Bool.not_eq_true', decide_eq_false_iff_not, exists_and_left, exists_and_right, and_assoc, Bool.true_eq_false, Bool.false_eq_true, if_true, if_false, ne_eq, gAdd_int]
      refine ih _ (n + 1) _ _ hlen (by omega) ?_ (o2.trans o3) pen3
      rw [Int.pow_succ]
      omega
  refine key _ 0 0 _ _ ?_ (by decide) (by decide) o1 pen1
  simp [intsD]
end NC

set_option maxHeartbeats 2000000
/-! Euclid's steps: their number -/
namespace PL
theorem log_half {a b : Int} (hb : 0 < b) (hab : b ≤ a) : 2 * (b * (a.fmod b)) < a * b := by
  have h1 := Int.fmod_lt_of_pos a hb
  have h0 := Int.fmod_nonneg_of_pos a hb
  have e := Int.mul_fdiv_add_fmod a b
  have hq : 1 ≤ a.fdiv b := by
    rcases Int.lt_or_le 0 (a.fdiv b) with h | h
    · omega
    · have : b * a.fdiv b ≤ 0 := Int.mul_nonpos_of_nonneg_of_nonpos (by omega) h
      omega
  have h2 : b * 1 ≤ b * a.fdiv b := Int.mul_le_mul_of_nonneg_left hq (by omega)
  have h3 : 2 * a.fmod b < a := by omega
  have h4 : (2 * a.fmod b) * b < a * b := Int.mul_lt_mul_of_pos_right h3 hb
  rw [Int.mul_comm b (a.fmod b), ← Int.mul_assoc]
  exact h4
end PL
namespace NC
open PySem PySem.Spec PyProof.Rows L2 DL PL
def w__law_gcd_0 (K : PySem.W.Frag)  : DS := (wPar 0 1 (wCons (wCB gAbs (wCons (wVar 0) wNil)) (wCons (wCB gAbs (wCons (wVar 1) wNil)) wNil)))
def w__law_gcd_1_0 (K : PySem.W.Frag)  : DS := (wIfS (wTst (wBin (gEq false) (wVar 1) (wC (.int 0)))) wBrk wNext)
def w__law_gcd_1_1 (K : PySem.W.Frag)  : DS := (wPar 0 1 (wCons (wVar 1) (wCons (wBin gMod (wCB (gOne gInt) (wCons (wVar 0) wNil)) (wVar 1)) wNil)))
def w__law_gcd_1 (K : PySem.W.Frag)  : DS := (wFor (wIRng1 (wCons (wC (.int 50000)) wNil)) (wName 2) (wSeq (w__law_gcd_1_0 K) (w__law_gcd_1_1 K)))
def w__law_gcd_2 (K : PySem.W.Frag)  : DS := (wRet (wVar 0))
def w__law_gcd (K : PySem.W.Frag)  : DS := (wSeq (w__law_gcd_0 K) (wSeq (w__law_gcd_1 K) (w__law_gcd_2 K)))
def w__law_q_0 (K : PySem.W.Frag) (s__law_gcd : DF) : DS := (wAsg (wCall s__law_gcd (wCons (wVar 0) (wCons (wVar 1) wNil))) (wName 2))
def w__law_q_1 (K : PySem.W.Frag) (s__law_gcd : DF) : DS := (wAsg (wIf (wTst (wBin gLt (wVar 1) (wC (.int 0)))) (wUn gNeg (wVar 2)) (wVar 2)) (wName 2))
def w__law_q_2 (K : PySem.W.Frag) (s__law_gcd : DF) : DS := (wRet (wTup (wCons (wBin gDiv (wVar 0) (wVar 2)) (wCons (wBin gDiv (wVar 1) (wVar 2)) wNil))))
def w__law_q (K : PySem.W.Frag) (s__law_gcd : DF) : DS := (wSeq (w__law_q_0 K s__law_gcd) (wSeq (w__law_q_1 K s__law_gcd) (w__law_q_2 K s__law_gcd)))
def w__law_plus_0 (K : PySem.W.Frag) (s__law_q : DF) : DS := (wRet (wCall s__law_q (wCons (wBin gAdd (wBin gMul (wBin gIx (wVar 0) (wC (.int 0))) (wBin gIx (wVar 1) (wC (.int 1)))) (wBin gMul (wBin gIx (wVar 1) (wC (.int 0))) (wBin gIx (wVar 0) (wC (.int 1))))) (wCons (wBin gMul (wBin gIx (wVar 0) (wC (.int 1))) (wBin gIx (wVar 1) (wC (.int 1)))) wNil))))
def w__law_plus (K : PySem.W.Frag) (s__law_q : DF) : DS := (w__law_plus_0 K s__law_q)
def w__law_minus_0 (K : PySem.W.Frag) (s__law_q : DF) : DS := (wRet (wCall s__law_q (wCons (wBin gSub (wBin gMul (wBin gIx (wVar 0) (wC (.int 0))) (wBin gIx (wVar 1) (wC (.int 1)))) (wBin gMul (wBin gIx (wVar 1) (wC (.int 0))) (wBin gIx (wVar 0) (wC (.int 1))))) (wCons (wBin gMul (wBin gIx (wVar 0) (wC (.int 1))) (wBin gIx (wVar 1) (wC (.int 1)))) wNil))))
def w__law_minus (K : PySem.W.Frag) (s__law_q : DF) : DS := (w__law_minus_0 K s__law_q)
def w__law_times_0 (K : PySem.W.Frag) (s__law_q : DF) : DS := (wRet (wCall s__law_q (wCons (wBin gMul (wBin gIx (wVar 0) (wC (.int 0))) (wBin gIx (wVar 1) (wC (.int 0)))) (wCons (wBin gMul (wBin gIx (wVar 0) (wC (.int 1))) (wBin gIx (wVar 1) (wC (.int 1)))) wNil))))
def w__law_times (K : PySem.W.Frag) (s__law_q : DF) : DS := (w__law_times_0 K s__law_q)
def w__law_share_0 (K : PySem.W.Frag) (s__law_q : DF) : DS := (wRet (wCall s__law_q (wCons (wBin gMul (wBin gIx (wVar 0) (wC (.int 0))) (wBin gIx (wVar 1) (wC (.int 1)))) (wCons (wBin gMul (wBin gIx (wVar 0) (wC (.int 1))) (wBin gIx (wVar 1) (wC (.int 0)))) wNil))))
def w__law_share (K : PySem.W.Frag) (s__law_q : DF) : DS := (w__law_share_0 K s__law_q)
def w__law_less_0 (K : PySem.W.Frag)  : DS := (wRet (wBin gLt (wBin gMul (wBin gIx (wVar 0) (wC (.int 0))) (wBin gIx (wVar 1) (wC (.int 1)))) (wBin gMul (wBin gIx (wVar 1) (wC (.int 0))) (wBin gIx (wVar 0) (wC (.int 1))))))
def w__law_less (K : PySem.W.Frag)  : DS := (w__law_less_0 K)
def w__law_passed_0 (K : PySem.W.Frag) (s__law_draw s__law_pick : DF) : DS := (wIfS (wAnd (wTst (wBin (gEq false) (wBin gIx (wVar 1) (wC (.int 1))) (wC (.int 1)))) (wTst (wBin (gEq false) (wCall s__law_draw (wCons (wVar 0) (wCons (wC (.int 2)) wNil))) (wC (.int 0))))) (wRet (wBin gIx (wVar 1) (wC (.int 0)))) wNext)
def w__law_passed_1 (K : PySem.W.Frag) (s__law_draw s__law_pick : DF) : DS := (wAsg (wCall s__law_pick (wCons (wVar 0) (wCons (wLst (wCons (wC (.int 1)) (wCons (wC (.int 1)) (wCons (wC (.int 2)) (wCons (wC (.int 3)) wNil))))) wNil))) (wName 2))
def w__law_passed_2 (K : PySem.W.Frag) (s__law_draw s__law_pick : DF) : DS := (wRet (wCall s__law_pick (wCons (wVar 0) (wCons (wLst (wCons (wTup (wCons (wBin gMul (wBin gIx (wVar 1) (wC (.int 0))) (wVar 2)) (wCons (wBin gMul (wBin gIx (wVar 1) (wC (.int 1))) (wVar 2)) wNil))) (wCons (wLst (wCons (wBin gMul (wBin gIx (wVar 1) (wC (.int 0))) (wVar 2)) (wCons (wBin gMul (wBin gIx (wVar 1) (wC (.int 1))) (wVar 2)) wNil))) wNil))) wNil))))
def w__law_passed (K : PySem.W.Frag) (s__law_draw s__law_pick : DF) : DS := (wSeq (w__law_passed_0 K s__law_draw s__law_pick) (wSeq (w__law_passed_1 K s__law_draw s__law_pick) (w__law_passed_2 K s__law_draw s__law_pick)))
def w__law_is_0 (K : PySem.W.Frag)  : DS := (wRet (wIf (wTst (wVar 1)) (wBin gIsB (wVar 0) (wC (.bl true))) (wBin gIsB (wVar 0) (wC (.bl false)))))
def w__law_is (K : PySem.W.Frag)  : DS := (w__law_is_0 K)
/-! ### _law_gcd -/
def s__law_gcd : DF := fun ds μ Q _ => ∃ a b, ds = [.int a, .int b] ∧ a.natAbs < 10 ^ 500 ∧ b.natAbs < 10 ^ 500 ∧ Q (.int (Int.gcd a b)) μ
theorem p__law_gcd (K : PySem.W.Frag) : ∀ ds μ Q F, s__law_gcd ds μ Q F → ds.length = 2 ∧ w__law_gcd K { nx := fun _ μ' => Q .non μ', rt := Q } F (dstart ["_law_one", "_law_two", "_law_lap"] ds) μ := by
  rintro _ μ Q F ⟨a, b, rfl, ha, hb, q⟩
  refine ⟨rfl, ?_⟩
  simp only [w__law_gcd, w__law_gcd_0, w__law_gcd_1_0, w__law_gcd_1_1, w__law_gcd_1, w__law_gcd_2, wRet, wRetN, wSeq, wNext, wIfS, wAsg, wName, wPar, wDrop, wDPut, wFor, wISeq, wIRng1, wIRng2, wVar, wC, wNil, wCons, wBin, wUn, wCB, wTst, wAnd, wOr, DL.wNot, wAndV, wOrV, wNotV, wIf, wTup, wLst, wLstM, wCall, wGTup, wGCons, wGNil, wBrk, wCnt, wRaise, gI, gU, gOne , DL.gSub, gMul, gMod, gDiv, gPow, gLt, gLe, gGt, gGe, gNeg, gAbs, gMax2, gMin2, gInt2, wChain, wPar3, dstart, List.map_cons, List.map_nil, List.length_cons, List.length_nil, List.replicate, List.cons_append, List.nil_append, List.append_nil, List.getElem?_cons_zero, List.getElem?_cons_succ, List.set_cons_zero, List.set_cons_succ, Option.some.injEq, exists_eq_left', exists_eq_left, D.int.injEq, D.bl.injEq, D.str.injEq, D.tup.injEq, D.lst.injEq, D.obj.injEq, List.cons.injEq, and_true, true_and, Nat.zero_add, Nat.reduceAdd, Nat.reduceSub, decide_eq_true_eq, Bool.not_eq_true', decide_eq_false_iff_not, exists_and_left, exists_and_right, and_assoc, Bool.true_eq_false, Bool.false_eq_true, if_true, if_false, ne_eq]
  refine ⟨by decide, by decide, ?_⟩
  rw [show (if a < 0 then -a else a) = (a.natAbs : Int) by split <;> omega, show (if b < 0 then -b else b) = (b.natAbs : Int) by split <;> omega]
  have e0 : (Int.gcd a b : Int) = Int.gcd (a.natAbs : Int) (b.natAbs : Int) := by simp [Int.gcd]
  rw [e0] at q
  have key : ∀ (js : List D) (n : Nat) (x y : Int) (c : Option D), n + 1 ≤ js.length → 0 ≤ y → y ≤ x → x * y < 2 ^ n → Q (.int (Int.gcd x y)) μ → wLoop Any (wName 2)
                (wSeq (wIfS (wTst (wBin (gEq false) (wVar 1) (wC (D.int 0)))) wBrk wNext)
                  (wPar 0 1
                    (wCons (wVar 1)
                      (wCons
                        (wBin (gI (fun x j => ¬j = 0) fun i j => D.int (i.fmod j))
                          (wCB (gOne gInt) (wCons (wVar 0) wNil)) (wVar 1))
                        wNil)))) js { nx := fun δ' μ' => ∃ d, δ'[0]? = some (some d) ∧ Q d μ', rt := Q } F
                [some (D.int x), some (D.int y), c] μ := by
    intro js
    induction js with
    | nil => intro n x y c h; simp at h
    | cons j js ih =>
      intro n x y c h y0 yx xy q
      refine ⟨trivial, ?_⟩
      simp only [wRet, wRetN, wSeq, wNext, wIfS, wAsg, wName, wPar, wDrop, wDPut, wFor, wISeq, wIRng1, wIRng2, wVar, wC, wNil, wCons, wBin, wUn, wCB, wTst, wAnd, wOr, DL.wNot, wAndV, wOrV, wNotV, wIf, wTup, wLst, wLstM, wCall, wGTup, wGCons, wGNil, wBrk, wCnt, wRaise, gI, gU, gOne , DL.gSub, gMul, gMod, gDiv, gPow, gLt, gLe, gGt, gGe, gNeg, gAbs, gMax2, gMin2, gInt2, wChain, wPar3, dstart, List.map_cons, List.map_nil, List.length_cons, List.length_nil, List.replicate, List.cons_append, List.nil_append, List.append_nil, List.getElem?_cons_zero, List.getElem?_cons_succ, List.set_cons_zero, List.set_cons_succ, Option.some.injEq, exists_eq_left', exists_eq_left, D.int.injEq, D.bl.injEq, D.str.injEq, D.tup.injEq, D.lst.injEq, D.obj.injEq, List.cons.injEq, and_true, true_and, Nat.zero_add, Nat.reduceAdd, Nat.reduceSub, decide_eq_true_eq, Bool.not_eq_true', decide_eq_false_iff_not, exists_and_left, exists_and_right, and_assoc, Bool.true_eq_false, Bool.false_eq_true, if_true, if_false, ne_eq, gEq_int, gInt_int]
      by_cases e : (y == 0) = true
      · rw [if_pos e]
        have e' : y = 0 := by simpa using e
        subst e'
        rw [Int.gcd_zero_right] at q
        rw [show ((x.natAbs : Nat) : Int) = x by omega] at q
        exact q
      · rw [if_neg e]
        have e' : y ≠ 0 := by simpa using e
        have yp : 0 < y := by omega
        refine ⟨e', ?_⟩
        have hh := log_half yp yx
        match n, xy with
        | 0, xy =>
          have : 1 * 1 ≤ x * y := Int.mul_le_mul (by omega) (by omega) (by omega) (by omega)
          omega
        | n + 1, xy =>
          refine ih n y _ _ (by simp only [List.length_cons] at h; omega) (Int.fmod_nonneg_of_pos _ yp) (Int.le_of_lt (Int.fmod_lt_of_pos _ yp)) ?_ ?_
          · rw [Int.pow_succ] at xy
            omega
          · rw [gcd_fm]
            exact q
  have hl : (intsD 0 (Int.toNat 50000)).length = 50000 := by simp [intsD]
  have xy : (a.natAbs : Int) * (b.natAbs : Int) < 2 ^ 4000 := by
    have h := Nat.lt_of_lt_of_le (Nat.mul_lt_mul'' ha hb) (show 10 ^ 500 * 10 ^ 500 ≤ 2 ^ 4000 by decide +kernel)
    exact_mod_cast h
  by_cases hab : b.natAbs ≤ a.natAbs
  · exact key _ 4000 _ _ _ (by rw [hl]; decide) (by omega) (by omega) xy q
  · -- the first lap turns them
    generalize hjs : intsD 0 (Int.toNat 50000) = js at hl ⊢
    match js, hl with
    | j :: js, hl =>
      refine ⟨trivial, ?_⟩
      simp only [wRet, wRetN, wSeq, wNext, wIfS, wAsg, wName, wPar, wDrop, wDPut, wFor, wISeq, wIRng1, wIRng2, wVar, wC, wNil, wCons, wBin, wUn, wCB, wTst, wAnd, wOr, DL.wNot, wAndV, wOrV, wNotV, wIf, wTup, wLst, wLstM, wCall, wGTup, wGCons, wGNil, wBrk, wCnt, wRaise, gI, gU, gOne , DL.gSub, gMul, gMod, gDiv, gPow, gLt, gLe, gGt, gGe, gNeg, gAbs, gMax2, gMin2, gInt2, wChain, wPar3, dstart, List.map_cons, List.map_nil, List.length_cons, List.length_nil, List.replicate, List.cons_append, List.nil_append, List.append_nil, List.getElem?_cons_zero, List.getElem?_cons_succ, List.set_cons_zero, List.set_cons_succ, Option.some.injEq, exists_eq_left', exists_eq_left, D.int.injEq, D.bl.injEq, D.str.injEq, D.tup.injEq, D.lst.injEq, D.obj.injEq, List.cons.injEq, and_true, true_and, Nat.zero_add, Nat.reduceAdd, Nat.reduceSub, decide_eq_true_eq, Bool.not_eq_true', decide_eq_false_iff_not, exists_and_left, exists_and_right, and_assoc, Bool.true_eq_false, Bool.false_eq_true, if_true, if_false, ne_eq, gEq_int, gInt_int]
      rw [if_neg (by simp; omega)]
      have ef : (a.natAbs : Int).fmod (b.natAbs : Int) = (a.natAbs : Int) := by
        rw [Int.fmod_eq_emod_of_nonneg _ (by omega)]
        exact Int.emod_eq_of_lt (by omega) (by omega)
      refine ⟨by omega, ?_⟩
      rw [ef]
      exact key js 4000 _ _ _ (by simp only [List.length_cons] at hl; omega) (by omega) (by omega) (by rw [Int.mul_comm]; exact xy) (by rw [Int.gcd_comm]; exact q)

/-! ### _law_q -/
def s__law_q : DF := fun ds μ Q _ => ∃ t b, ds = [.int t, .int b] ∧ b ≠ 0 ∧ t.natAbs < 10 ^ 500 ∧ b.natAbs < 10 ^ 500 ∧ Q (.tup [.int (qN t b), .int (qD t b)]) μ
theorem p__law_q (K : PySem.W.Frag) : ∀ ds μ Q F, s__law_q ds μ Q F → ds.length = 2 ∧ w__law_q K s__law_gcd { nx := fun _ μ' => Q .non μ', rt := Q } F (dstart ["_law_top", "_law_bottom", "_law_by"] ds) μ := by
  rintro _ μ Q F ⟨t, b, rfl, hb, ht, hz, q⟩
  refine ⟨rfl, ?_⟩
  simp only [w__law_q, w__law_q_0, w__law_q_1, w__law_q_2, s__law_gcd, wRet, wRetN, wSeq, wNext, wIfS, wAsg, wName, wPar, wDrop, wDPut, wFor, wISeq, wIRng1, wIRng2, wVar, wC, wNil, wCons, wBin, wUn, wCB, wTst, wAnd, wOr, DL.wNot, wAndV, wOrV, wNotV, wIf, wTup, wLst, wLstM, wCall, wGTup, wGCons, wGNil, wBrk, wCnt, wRaise, gI, gU, gOne , DL.gSub, gMul, gMod, gDiv, gPow, gLt, gLe, gGt, gGe, gNeg, gAbs, gMax2, gMin2, gInt2, wChain, wPar3, dstart, List.map_cons, List.map_nil, List.length_cons, List.length_nil, List.replicate, List.cons_append, List.nil_append, List.append_nil, List.getElem?_cons_zero, List.getElem?_cons_succ, List.set_cons_zero, List.set_cons_succ, Option.some.injEq, exists_eq_left', exists_eq_left, D.int.injEq, D.bl.injEq, D.str.injEq, D.tup.injEq, D.lst.injEq, D.obj.injEq, List.cons.injEq, and_true, true_and, Nat.zero_add, Nat.reduceAdd, Nat.reduceSub, decide_eq_true_eq, Bool.not_eq_true', decide_eq_false_iff_not, exists_and_left, exists_and_right, and_assoc, Bool.true_eq_false, Bool.false_eq_true, if_true, if_false, ne_eq]
  refine ⟨ht, hz, ?_⟩
  have c := div_ok (t := t) hb hz
  have c2 : CDivG b (qB t b) := c
  by_cases h : b < 0
  · have e : qB t b = -(Int.gcd t b : Int) := if_neg (by omega)
    unfold qN qD at q
    rw [e] at c c2 q
    rw [if_pos h]
    exact ⟨c, c2, by decide, q⟩
  · have e : qB t b = (Int.gcd t b : Int) := if_pos (by omega)
    unfold qN qD at q
    rw [e] at c c2 q
    rw [if_neg h]
    exact ⟨c, c2, by decide, q⟩

/-! ### sums, products of the law's ratios -/
/-- a pair of ints, told sizes -/
def lowP (n d : Int) : Prop := n.natAbs < 10 ^ 60 ∧ d.natAbs < 10 ^ 60 ∧ 0 < d
theorem lowP.v {n d : Int} (h : lowP n d) : n.natAbs < 10 ^ 60 ∧ d.natAbs < 10 ^ 60 := ⟨h.1, h.2.1⟩
def s__law_two (g : Int → Int → Int → Int → D) : DF := fun ds μ Q _ => ∃ n d m e, ds = [.tup [.int n, .int d], .tup [.int m, .int e]] ∧ lowP n d ∧ lowP m e ∧ Q (g n d m e) μ
theorem m500 {x y : Int} (hx : x.natAbs < 10 ^ 60) (hy : y.natAbs < 10 ^ 60) : (x * y).natAbs < 10 ^ 500 := Nat.lt_trans (low_mul hx hy).2 (by decide +kernel)
theorem s500 {x y z u : Int} (hx : x.natAbs < 10 ^ 60) (hy : y.natAbs < 10 ^ 60) (hz : z.natAbs < 10 ^ 60) (hu : u.natAbs < 10 ^ 60) : (x * y + z * u).natAbs < 10 ^ 500 ∧ (x * y - z * u).natAbs < 10 ^ 500 := by
  have h1 := (low_mul hx hy).2
  have h2 := (low_mul hz hu).2
  have h3 : (10 : Nat) ^ 120 + 10 ^ 120 < 10 ^ 500 := by decide +kernel
  refine ⟨?_, ?_⟩
  · have := Int.natAbs_add_le (x * y) (z * u)
    omega
  · have := Int.natAbs_sub_le (x * y) (z * u)
    omega
theorem p__law_plus (K : PySem.W.Frag) : ∀ ds μ Q F, s__law_two fPlus ds μ Q F → ds.length = 2 ∧ w__law_plus K s__law_q { nx := fun _ μ' => Q .non μ', rt := Q } F (dstart ["_law_one", "_law_two"] ds) μ := by
  rintro _ μ Q F ⟨n, d, m, e, rfl, a, b, q⟩
  refine ⟨rfl, ?_⟩
  simp only [w__law_plus, w__law_plus_0, s__law_q, wRet, wRetN, wSeq, wNext, wIfS, wAsg, wName, wPar, wDrop, wDPut, wFor, wISeq, wIRng1, wIRng2, wVar, wC, wNil, wCons, wBin, wUn, wCB, wTst, wAnd, wOr, DL.wNot, wAndV, wOrV, wNotV, wIf, wTup, wLst, wLstM, wCall, wGTup, wGCons, wGNil, wBrk, wCnt, wRaise, gI, gU, gOne , DL.gSub, gMul, gMod, gDiv, gPow, gLt, gLe, gGt, gGe, gNeg, gAbs, gMax2, gMin2, gInt2, wChain, wPar3, dstart, List.map_cons, List.map_nil, List.length_cons, List.length_nil, List.replicate, List.cons_append, List.nil_append, List.append_nil, List.getElem?_cons_zero, List.getElem?_cons_succ, List.set_cons_zero, List.set_cons_succ, Option.some.injEq, exists_eq_left', exists_eq_left, D.int.injEq, D.bl.injEq, D.str.injEq, D.tup.injEq, D.lst.injEq, D.obj.injEq, List.cons.injEq, and_true, true_and, Nat.zero_add, Nat.reduceAdd, Nat.reduceSub, decide_eq_true_eq, Bool.not_eq_true', decide_eq_false_iff_not, exists_and_left, exists_and_right, and_assoc, Bool.true_eq_false, Bool.false_eq_true, if_true, if_false, ne_eq, gIx_tup, atI_0, atI_1, gAdd_int]
  exact ⟨(low_mul a.1 b.2.1).1, (low_mul b.1 a.2.1).1, (low_mul a.2.1 b.2.1).1, by have := Int.mul_pos a.2.2 b.2.2; omega, (s500 a.1 b.2.1 b.1 a.2.1).1, m500 a.2.1 b.2.1, q⟩
theorem p__law_minus (K : PySem.W.Frag) : ∀ ds μ Q F, s__law_two fMinus ds μ Q F → ds.length = 2 ∧ w__law_minus K s__law_q { nx := fun _ μ' => Q .non μ', rt := Q } F (dstart ["_law_one", "_law_two"] ds) μ := by
  rintro _ μ Q F ⟨n, d, m, e, rfl, a, b, q⟩
  refine ⟨rfl, ?_⟩
  simp only [w__law_minus, w__law_minus_0, s__law_q, wRet, wRetN, wSeq, wNext, wIfS, wAsg, wName, wPar, wDrop, wDPut, wFor, wISeq, wIRng1, wIRng2, wVar, wC, wNil, wCons, wBin, wUn, wCB, wTst, wAnd, wOr, DL.wNot, wAndV, wOrV, wNotV, wIf, wTup, wLst, wLstM, wCall, wGTup, wGCons, wGNil, wBrk, wCnt, wRaise, gI, gU, gOne , DL.gSub, gMul, gMod, gDiv, gPow, gLt, gLe, gGt, gGe, gNeg, gAbs, gMax2, gMin2, gInt2, wChain, wPar3, dstart, List.map_cons, List.map_nil, List.length_cons, List.length_nil, List.replicate, List.cons_append, List.nil_append, List.append_nil, List.getElem?_cons_zero, List.getElem?_cons_succ, List.set_cons_zero, List.set_cons_succ, Option.some.injEq, exists_eq_left', exists_eq_left, D.int.injEq, D.bl.injEq, D.str.injEq, D.tup.injEq, D.lst.injEq, D.obj.injEq, List.cons.injEq, and_true, true_and, Nat.zero_add, Nat.reduceAdd, Nat.reduceSub, decide_eq_true_eq, Bool.not_eq_true', decide_eq_false_iff_not, exists_and_left, exists_and_right, and_assoc, Bool.true_eq_false, Bool.false_eq_true, if_true, if_false, ne_eq, gIx_tup, atI_0, atI_1, gAdd_int]
  exact ⟨(low_mul a.1 b.2.1).1, (low_mul b.1 a.2.1).1, (low_mul a.2.1 b.2.1).1, by have := Int.mul_pos a.2.2 b.2.2; omega, (s500 a.1 b.2.1 b.1 a.2.1).2, m500 a.2.1 b.2.1, q⟩
theorem p__law_times (K : PySem.W.Frag) : ∀ ds μ Q F, s__law_two fTimes ds μ Q F → ds.length = 2 ∧ w__law_times K s__law_q { nx := fun _ μ' => Q .non μ', rt := Q } F (dstart ["_law_one", "_law_two"] ds) μ := by
  rintro _ μ Q F ⟨n, d, m, e, rfl, a, b, q⟩
  refine ⟨rfl, ?_⟩
  simp only [w__law_times, w__law_times_0, s__law_q, wRet, wRetN, wSeq, wNext, wIfS, wAsg, wName, wPar, wDrop, wDPut, wFor, wISeq, wIRng1, wIRng2, wVar, wC, wNil, wCons, wBin, wUn, wCB, wTst, wAnd, wOr, DL.wNot, wAndV, wOrV, wNotV, wIf, wTup, wLst, wLstM, wCall, wGTup, wGCons, wGNil, wBrk, wCnt, wRaise, gI, gU, gOne , DL.gSub, gMul, gMod, gDiv, gPow, gLt, gLe, gGt, gGe, gNeg, gAbs, gMax2, gMin2, gInt2, wChain, wPar3, dstart, List.map_cons, List.map_nil, List.length_cons, List.length_nil, List.replicate, List.cons_append, List.nil_append, List.append_nil, List.getElem?_cons_zero, List.getElem?_cons_succ, List.set_cons_zero, List.set_cons_succ, Option.some.injEq, exists_eq_left', exists_eq_left, D.int.injEq, D.bl.injEq, D.str.injEq, D.tup.injEq, D.lst.injEq, D.obj.injEq, List.cons.injEq, and_true, true_and, Nat.zero_add, Nat.reduceAdd, Nat.reduceSub, decide_eq_true_eq, Bool.not_eq_true', decide_eq_false_iff_not, exists_and_left, exists_and_right, and_assoc, Bool.true_eq_false, Bool.false_eq_true, if_true, if_false, ne_eq, gIx_tup, atI_0, atI_1, gAdd_int]
  exact ⟨(low_mul a.1 b.1).1, (low_mul a.2.1 b.2.1).1, by have := Int.mul_pos a.2.2 b.2.2; omega, m500 a.1 b.1, m500 a.2.1 b.2.1, q⟩
def fShare (n d m e : Int) : D := .tup [.int (qN (n * e) (d * m)), .int (qD (n * e) (d * m))]
def s__law_share : DF := fun ds μ Q _ => ∃ n d m e, ds = [.tup [.int n, .int d], .tup [.int m, .int e]] ∧ lowP n d ∧ lowP m e ∧ m ≠ 0 ∧ Q (fShare n d m e) μ
theorem p__law_share (K : PySem.W.Frag) : ∀ ds μ Q F, s__law_share ds μ Q F → ds.length = 2 ∧ w__law_share K s__law_q { nx := fun _ μ' => Q .non μ', rt := Q } F (dstart ["_law_one", "_law_two"] ds) μ := by
  rintro _ μ Q F ⟨n, d, m, e, rfl, a, b, h0, q⟩
  refine ⟨rfl, ?_⟩
  simp only [w__law_share, w__law_share_0, s__law_q, wRet, wRetN, wSeq, wNext, wIfS, wAsg, wName, wPar, wDrop, wDPut, wFor, wISeq, wIRng1, wIRng2, wVar, wC, wNil, wCons, wBin, wUn, wCB, wTst, wAnd, wOr, DL.wNot, wAndV, wOrV, wNotV, wIf, wTup, wLst, wLstM, wCall, wGTup, wGCons, wGNil, wBrk, wCnt, wRaise, gI, gU, gOne , DL.gSub, gMul, gMod, gDiv, gPow, gLt, gLe, gGt, gGe, gNeg, gAbs, gMax2, gMin2, gInt2, wChain, wPar3, dstart, List.map_cons, List.map_nil, List.length_cons, List.length_nil, List.replicate, List.cons_append, List.nil_append, List.append_nil, List.getElem?_cons_zero, List.getElem?_cons_succ, List.set_cons_zero, List.set_cons_succ, Option.some.injEq, exists_eq_left', exists_eq_left, D.int.injEq, D.bl.injEq, D.str.injEq, D.tup.injEq, D.lst.injEq, D.obj.injEq, List.cons.injEq, and_true, true_and, Nat.zero_add, Nat.reduceAdd, Nat.reduceSub, decide_eq_true_eq, Bool.not_eq_true', decide_eq_false_iff_not, exists_and_left, exists_and_right, and_assoc, Bool.true_eq_false, Bool.false_eq_true, if_true, if_false, ne_eq, gIx_tup, atI_0, atI_1, gAdd_int]
  exact ⟨(low_mul a.1 b.2.1).1, (low_mul a.2.1 b.1).1, by have := a.2.2; intro z; rcases Int.mul_eq_zero.mp z with z | z <;> omega, m500 a.1 b.2.1, m500 a.2.1 b.1, q⟩
theorem p__law_less (K : PySem.W.Frag) : ∀ ds μ Q F, s__law_two fLower ds μ Q F → ds.length = 2 ∧ w__law_less K { nx := fun _ μ' => Q .non μ', rt := Q } F (dstart ["_law_one", "_law_two"] ds) μ := by
  rintro _ μ Q F ⟨n, d, m, e, rfl, a, b, q⟩
  refine ⟨rfl, ?_⟩
  simp only [w__law_less, w__law_less_0, wRet, wRetN, wSeq, wNext, wIfS, wAsg, wName, wPar, wDrop, wDPut, wFor, wISeq, wIRng1, wIRng2, wVar, wC, wNil, wCons, wBin, wUn, wCB, wTst, wAnd, wOr, DL.wNot, wAndV, wOrV, wNotV, wIf, wTup, wLst, wLstM, wCall, wGTup, wGCons, wGNil, wBrk, wCnt, wRaise, gI, gU, gOne , DL.gSub, gMul, gMod, gDiv, gPow, gLt, gLe, gGt, gGe, gNeg, gAbs, gMax2, gMin2, gInt2, wChain, wPar3, dstart, List.map_cons, List.map_nil, List.length_cons, List.length_nil, List.replicate, List.cons_append, List.nil_append, List.append_nil, List.getElem?_cons_zero, List.getElem?_cons_succ, List.set_cons_zero, List.set_cons_succ, Option.some.injEq, exists_eq_left', exists_eq_left, D.int.injEq, D.bl.injEq, D.str.injEq, D.tup.injEq, D.lst.injEq, D.obj.injEq, List.cons.injEq, and_true, true_and, Nat.zero_add, Nat.reduceAdd, Nat.reduceSub, decide_eq_true_eq, Bool.not_eq_true', decide_eq_false_iff_not, exists_and_left, exists_and_right, and_assoc, Bool.true_eq_false, Bool.false_eq_true, if_true, if_false, ne_eq, gIx_tup, atI_0, atI_1, gAdd_int]
  exact ⟨(low_mul a.1 b.2.1).1, (low_mul b.1 a.2.1).1, q⟩
theorem gIsB_bl' {a b : Bool} {μ : M} {Q : DK} : gIsB (.bl a) (.bl b) μ Q ↔ Q (.bl (decide (a = b))) μ := gIsB_bl
def s__law_is : DF := fun ds μ Q _ => ∃ a b, ds = [.bl a, .bl b] ∧ Q (.bl (decide (a = b))) μ
theorem p__law_is (K : PySem.W.Frag) : ∀ ds μ Q F, s__law_is ds μ Q F → ds.length = 2 ∧ w__law_is K { nx := fun _ μ' => Q .non μ', rt := Q } F (dstart ["_law_value", "_law_due"] ds) μ := by
  rintro _ μ Q F ⟨a, b, rfl, q⟩
  refine ⟨rfl, ?_⟩
  simp only [w__law_is, w__law_is_0, wRet, wRetN, wSeq, wNext, wIfS, wAsg, wName, wPar, wDrop, wDPut, wFor, wISeq, wIRng1, wIRng2, wVar, wC, wNil, wCons, wBin, wUn, wCB, wTst, wAnd, wOr, DL.wNot, wAndV, wOrV, wNotV, wIf, wTup, wLst, wLstM, wCall, wGTup, wGCons, wGNil, wBrk, wCnt, wRaise, gI, gU, gOne , DL.gSub, gMul, gMod, gDiv, gPow, gLt, gLe, gGt, gGe, gNeg, gAbs, gMax2, gMin2, gInt2, wChain, wPar3, dstart, List.map_cons, List.map_nil, List.length_cons, List.length_nil, List.replicate, List.cons_append, List.nil_append, List.append_nil, List.getElem?_cons_zero, List.getElem?_cons_succ, List.set_cons_zero, List.set_cons_succ, Option.some.injEq, exists_eq_left', exists_eq_left, D.int.injEq, D.bl.injEq, D.str.injEq, D.tup.injEq, D.lst.injEq, D.obj.injEq, List.cons.injEq, and_true, true_and, Nat.zero_add, Nat.reduceAdd, Nat.reduceSub, decide_eq_true_eq, Bool.not_eq_true', decide_eq_false_iff_not, exists_and_left, exists_and_right, and_assoc, Bool.true_eq_false, Bool.false_eq_true, if_true, if_false, ne_eq, gIsB_bl]
  cases b <;> exact q

/-! ### _law_passed: a ratio as a caller may pass it -/
/-- v tells the ratio n / d -/
def pass (n d : Int) (v : D) : Prop := (v = .int n ∧ d = 1) ∨ ∃ k, 0 < k ∧ k ≤ 3 ∧ (v = .tup [.int (n * k), .int (d * k)] ∨ v = .lst [.int (n * k), .int (d * k)])
def s__law_passed : DF := fun ds μ Q _ => ∃ p n d m, ds = [.obj p, .tup [.int n, .int d]] ∧ lowP n d ∧ Pen p μ m ∧ m + 3 ≤ 1000000 ∧ ∀ v μ', pass n d v → Only p μ μ' → Pen p μ' (m + 3) → Q v μ'
theorem p__law_passed (K : PySem.W.Frag) : ∀ ds μ Q F, s__law_passed ds μ Q F → ds.length = 2 ∧ w__law_passed K s__law_draw s__law_pick { nx := fun _ μ' => Q .non μ', rt := Q } F (dstart ["_law_pen_here", "_law_ratio", "_law_by"] ds) μ := by
  rintro _ μ Q F ⟨p, n, d, m, rfl, ⟨h1, h2, h3⟩, pen, hm, q⟩
  refine ⟨rfl, ?_⟩
  have one : ∀ (k : Nat) (μ1 : M), k ≤ 1 → Only p μ μ1 → Pen p μ1 (m + k) → wSeq (w__law_passed_1 K s__law_draw s__law_pick) (w__law_passed_2 K s__law_draw s__law_pick) { nx := fun _ μ' => Q .non μ', rt := Q } F [some (.obj p), some (.tup [.int n, .int d]), none] μ1 := by
    intro k μ1 hk o1 pen1
    simp only [w__law_passed_1, w__law_passed_2, wRet, wRetN, wSeq, wNext, wIfS, wAsg, wName, wPar, wDrop, wDPut, wFor, wISeq, wIRng1, wIRng2, wVar, wC, wNil, wCons, wBin, wUn, wCB, wTst, wAnd, wOr, DL.wNot, wAndV, wOrV, wNotV, wIf, wTup, wLst, wLstM, wCall, wGTup, wGCons, wGNil, wBrk, wCnt, wRaise, gI, gU, gOne , DL.gSub, gMul, gMod, gDiv, gPow, gLt, gLe, gGt, gGe, gNeg, gAbs, gMax2, gMin2, gInt2, wChain, wPar3, dstart, List.map_cons, List.map_nil, List.length_cons, List.length_nil, List.replicate, List.cons_append, List.nil_append, List.append_nil, List.getElem?_cons_zero, List.getElem?_cons_succ, List.set_cons_zero, List.set_cons_succ, Option.some.injEq, exists_eq_left', exists_eq_left, D.int.injEq, D.bl.injEq, D.str.injEq, D.tup.injEq, D.lst.injEq, D.obj.injEq, List.cons.injEq, and_true, true_and, Nat.zero_add, Nat.reduceAdd, Nat.reduceSub, decide_eq_true_eq, Bool.not_eq_true', decide_eq_false_iff_not, exists_and_left, exists_and_right, and_assoc, Bool.true_eq_false, Bool.false_eq_true, if_true, if_false, ne_eq, gIx_tup, atI_0, atI_1]
    refine ⟨by decide, p, _, m + k, .inl rfl, by decide, by decide, pen1, by omega, fun v hv μ2 o2 pen2 => ?_⟩
    obtain ⟨j, rfl, j0, j3⟩ : ∃ j : Int, v = .int j ∧ 0 < j ∧ j ≤ 3 := by
      simp only [List.mem_cons, List.not_mem_nil, or_false] at hv
      rcases hv with rfl | rfl | rfl | rfl
      · exact ⟨1, rfl, by decide, by decide⟩
      · exact ⟨1, rfl, by decide, by decide⟩
      · exact ⟨2, rfl, by decide, by decide⟩
      · exact ⟨3, rfl, by decide, by decide⟩
    have jl : j.natAbs < 10 ^ 60 := by omega
    simp only [wRet, wRetN, wSeq, wNext, wIfS, wAsg, wName, wPar, wDrop, wDPut, wFor, wISeq, wIRng1, wIRng2, wVar, wC, wNil, wCons, wBin, wUn, wCB, wTst, wAnd, wOr, DL.wNot, wAndV, wOrV, wNotV, wIf, wTup, wLst, wLstM, wCall, wGTup, wGCons, wGNil, wBrk, wCnt, wRaise, gI, gU, gOne , DL.gSub, gMul, gMod, gDiv, gPow, gLt, gLe, gGt, gGe, gNeg, gAbs, gMax2, gMin2, gInt2, wChain, wPar3, dstart, List.map_cons, List.map_nil, List.length_cons, List.length_nil, List.replicate, List.cons_append, List.nil_append, List.append_nil, List.getElem?_cons_zero, List.getElem?_cons_succ, List.set_cons_zero, List.set_cons_succ, Option.some.injEq, exists_eq_left', exists_eq_left, D.int.injEq, D.bl.injEq, D.str.injEq, D.tup.injEq, D.lst.injEq, D.obj.injEq, List.cons.injEq, and_true, true_and, Nat.zero_add, Nat.reduceAdd, Nat.reduceSub, decide_eq_true_eq, Bool.not_eq_true', decide_eq_false_iff_not, exists_and_left, exists_and_right, and_assoc, Bool.true_eq_false, Bool.false_eq_true, if_true, if_false, ne_eq, gIx_tup, atI_0, atI_1]
    refine ⟨(low_mul h1 jl).1, (low_mul h2 jl).1, by decide, (low_mul h1 jl).1, (low_mul h2 jl).1, by decide, by decide, p, _, m + k + 1, .inl rfl, by simp, by simp, pen2, by omega, fun v hv μ3 o3 pen3 => q v μ3 ?_ ((o1.trans o2).trans o3) (pen3.mono (by omega))⟩
    simp only [List.mem_cons, List.not_mem_nil, or_false] at hv
    exact .inr ⟨j, j0, j3, hv⟩
  show w__law_passed_0 K s__law_draw s__law_pick { nx := wSeq (w__law_passed_1 K s__law_draw s__law_pick) (w__law_passed_2 K s__law_draw s__law_pick) { nx := fun _ μ' => Q .non μ', rt := Q } F, rt := Q } F _ _
  generalize wSeq (w__law_passed_1 K s__law_draw s__law_pick) (w__law_passed_2 K s__law_draw s__law_pick) = tl at one ⊢
  simp only [w__law_passed_0, wRet, wRetN, wSeq, wNext, wIfS, wAsg, wName, wPar, wDrop, wDPut, wFor, wISeq, wIRng1, wIRng2, wVar, wC, wNil, wCons, wBin, wUn, wCB, wTst, wAnd, wOr, DL.wNot, wAndV, wOrV, wNotV, wIf, wTup, wLst, wLstM, wCall, wGTup, wGCons, wGNil, wBrk, wCnt, wRaise, gI, gU, gOne , DL.gSub, gMul, gMod, gDiv, gPow, gLt, gLe, gGt, gGe, gNeg, gAbs, gMax2, gMin2, gInt2, wChain, wPar3, dstart, List.map_cons, List.map_nil, List.length_cons, List.length_nil, List.replicate, List.cons_append, List.nil_append, List.append_nil, List.getElem?_cons_zero, List.getElem?_cons_succ, List.set_cons_zero, List.set_cons_succ, Option.some.injEq, exists_eq_left', exists_eq_left, D.int.injEq, D.bl.injEq, D.str.injEq, D.tup.injEq, D.lst.injEq, D.obj.injEq, List.cons.injEq, and_true, true_and, Nat.zero_add, Nat.reduceAdd, Nat.reduceSub, decide_eq_true_eq, Bool.not_eq_true', decide_eq_false_iff_not, exists_and_left, exists_and_right, and_assoc, Bool.true_eq_false, Bool.false_eq_true, if_true, if_false, ne_eq, gIx_tup, atI_0, atI_1, gEq_int]
  by_cases hd : (d == 1) = true
  · rw [if_pos hd]
    refine ⟨p, 2, m, rfl, by decide, by decide, pen, by omega, fun v μ1 v0 v2 o1 pen1 => ?_⟩
    simp only [wRet, wRetN, wSeq, wNext, wIfS, wAsg, wName, wPar, wDrop, wDPut, wFor, wISeq, wIRng1, wIRng2, wVar, wC, wNil, wCons, wBin, wUn, wCB, wTst, wAnd, wOr, DL.wNot, wAndV, wOrV, wNotV, wIf, wTup, wLst, wLstM, wCall, wGTup, wGCons, wGNil, wBrk, wCnt, wRaise, gI, gU, gOne , DL.gSub, gMul, gMod, gDiv, gPow, gLt, gLe, gGt, gGe, gNeg, gAbs, gMax2, gMin2, gInt2, wChain, wPar3, dstart, List.map_cons, List.map_nil, List.length_cons, List.length_nil, List.replicate, List.cons_append, List.nil_append, List.append_nil, List.getElem?_cons_zero, List.getElem?_cons_succ, List.set_cons_zero, List.set_cons_succ, Option.some.injEq, exists_eq_left', exists_eq_left, D.int.injEq, D.bl.injEq, D.str.injEq, D.tup.injEq, D.lst.injEq, D.obj.injEq, List.cons.injEq, and_true, true_and, Nat.zero_add, Nat.reduceAdd, Nat.reduceSub, decide_eq_true_eq, Bool.not_eq_true', decide_eq_false_iff_not, exists_and_left, exists_and_right, and_assoc, Bool.true_eq_false, Bool.false_eq_true, if_true, if_false, ne_eq, gIx_tup, atI_0, atI_1, gEq_int]
    by_cases hv : (v == 0) = true
    · rw [if_pos hv]
      exact q _ _ (.inl ⟨rfl, by simpa using hd⟩) o1 (pen1.mono (by omega))
    · rw [if_neg hv]
      exact one 1 μ1 (by decide) o1 pen1
  · rw [if_neg hd]
    exact one 0 μ (by decide) Only.refl pen
end NC

set_option maxHeartbeats 2000000
namespace NC
open PySem PySem.Spec PyProof.Rows L2 DL PL
def w__law_why_0 (K : PySem.W.Frag) (a_BadNumber a_BadRow a_BadText a_Pole a_TooMany a_TooWide a_Unlike : Addr) (wl : DW) : DS := (wTryE K wl (⟨.ref a_BadText, 1, fun a cls d => (wRet (wTup (wCons (wC (.str "text")) (wCons (wXf a cls d a_BadText "column" (wVar 1)) wNil))))⟩ :: (⟨.ref a_BadNumber, 1, fun a cls d => (wRet (wTup (wCons (wC (.str "number")) (wCons (wXf a cls d a_BadNumber "what" (wVar 1)) (wCons (wCB (gOne gRepr) (wCons (wXf a cls d a_BadNumber "number" (wVar 1)) wNil)) wNil)))))⟩ :: (⟨.ref a_BadRow, 1, fun a cls d => (wRet (wTup (wCons (wC (.str "row")) (wCons (wCB (gOne gRepr) (wCons (wXf a cls d a_BadRow "row" (wVar 1)) wNil)) wNil))))⟩ :: (⟨.ref a_TooMany, 1, fun a cls d => (wRet (wTup (wCons (wC (.str "many")) (wCons (wXf a cls d a_TooMany "what" (wVar 1)) (wCons (wXf a cls d a_TooMany "limit" (wVar 1)) wNil)))))⟩ :: (⟨.ref a_Unlike, 1, fun a cls d => (wRet (wTup (wCons (wC (.str "unlike")) (wCons (wXf a cls d a_Unlike "what" (wVar 1)) wNil))))⟩ :: (⟨.ref a_TooWide, 1, fun a cls d => (wRet (wTup (wCons (wC (.str "wide")) wNil)))⟩ :: (⟨.ref a_Pole, 1, fun a cls d => (wRet (wTup (wCons (wC (.str "pole")) wNil)))⟩ :: []))))))))
def w__law_why_1 (K : PySem.W.Frag) (a_BadNumber a_BadRow a_BadText a_Pole a_TooMany a_TooWide a_Unlike : Addr) (wl : DW) : DS := (wRet (wC .non))
def w__law_why (K : PySem.W.Frag) (a_BadNumber a_BadRow a_BadText a_Pole a_TooMany a_TooWide a_Unlike : Addr) (wl : DW) : DS := (wSeq (w__law_why_0 K a_BadNumber a_BadRow a_BadText a_Pole a_TooMany a_TooWide a_Unlike wl) (w__law_why_1 K a_BadNumber a_BadRow a_BadText a_Pole a_TooMany a_TooWide a_Unlike wl))
def w__law_any_0 (K : PySem.W.Frag) (s__law_pick : DF) : DS := (wAsg (wLst (wCons (wC .non) (wCons (wC (.bl true)) (wCons (wC (.str "1")) (wCons (wTup (wCons (wC (.int 1)) (wCons (wC (.int 0)) wNil))) (wCons (wTup (wCons (wC (.int 1)) (wCons (wUn gNeg (wC (.int 2))) wNil))) (wCons (wTup (wCons (wC (.int 1)) (wCons (wC (.bl true)) wNil))) (wCons (wLst (wCons (wC (.int 1)) wNil)) (wCons (wTup (wCons (wC (.int 1)) (wCons (wC (.int 2)) (wCons (wC (.int 3)) wNil)))) (wCons (wDct (((wC (.str "a")), (wC (.int 1))) :: [])) (wCons (wTup (wCons (wC (.str "1")) (wCons (wC (.int 2)) wNil))) (wCons (wTup (wCons (wC .non) (wCons (wC (.int 1)) wNil))) (wCons (wTup (wCons (wC (.bl true)) (wCons (wC (.int 2)) wNil))) wNil))))))))))))) (wName 1))
def w__law_any_1 (K : PySem.W.Frag) (s__law_pick : DF) : DS := (wRet (wCall s__law_pick (wCons (wVar 0) (wCons (wBin gAdd (wVar 1) (wLst (wCons (wLst (wCons (wC (.int 2)) (wCons (wC (.bl false)) wNil))) (wCons (wTup (wCons (wTup (wCons (wC (.int 1)) (wCons (wC (.int 2)) wNil))) (wCons (wC (.int 3)) wNil))) (wCons (wTup wNil) wNil))))) wNil))))
def w__law_any (K : PySem.W.Frag) (s__law_pick : DF) : DS := (wSeq (w__law_any_0 K s__law_pick) (w__law_any_1 K s__law_pick))
def w__law_some_ratio_0 (K : PySem.W.Frag) (s__law_q s__law_far : DF) : DS := (wRet (wCall s__law_q (wCons (wCall s__law_far (wCons (wVar 0) wNil)) (wCons (wBin gAdd (wC (.int 1)) (wCB gAbs (wCons (wCall s__law_far (wCons (wVar 0) wNil)) wNil))) wNil))))
def w__law_some_ratio (K : PySem.W.Frag) (s__law_q s__law_far : DF) : DS := (w__law_some_ratio_0 K s__law_q s__law_far)
/-! ### _law_why -/
/-- a value that repr may be asked of -/
def showV (d : D) (p : PyData) : Prop := d.py = some p ∧ okP p = true ∧ small p = true ∧ p.depth ≤ 60 ∧ bnd p ≤ 1000000
theorem showV.repr {d : D} {p : PyData} {μ : M} {Q : DK} (h : showV d p) (hd : ∀ a, d ≠ .obj a) (q : Q (.str p.shown) μ) : gRepr d μ Q := by
  obtain ⟨h1, h2, h3, h4, h5⟩ := h
  refine repr_ok ?_ h2 h3 h4 h5 q
  cases d with
  | obj a => exact absurd rfl (hd a)
  | _ => exact h1
/-- the call ends in the error C(what, number) -/
def whyN (C : Addr) (Q : DK) : FK := fun er μ => ∃ what num p, er = ⟨.ref C, [("number", num), ("what", what)]⟩ ∧ showV num p ∧ (∀ a, num ≠ .obj a) ∧ Q (.tup [.str "number", what, .str p.shown]) μ
def t__law_why (C : Addr) : (M → DK → FK → Prop) → M → DK → Prop := fun wl μ Q => ∀ F : FK, (∀ er μ', whyN C Q er μ' → F er μ') → wl μ (fun _ μ' => Q .non μ') F
theorem p__law_why (K : PySem.W.Frag) (N R T P M' W U : Addr) (h1 : PySem.W.exmOne K (.ref N) (.ref T) = some false) (h2 : PySem.W.exmOne K (.ref N) (.ref N) = some true) : ∀ (wl : M → DK → FK → Prop) (μ : M) (Q : DK), t__law_why N wl μ Q → ∀ (f : Addr) (G0 : Hp), w__law_why K N R T P M' W U (wLam f G0 wl) { nx := fun _ μ' => Q .non μ', rt := Q } (fun _ _ => False) (dstart ["_law_call", "e"] [.lam f G0]) μ := by
  intro wl μ Q h f G0
  simp only [w__law_why, w__law_why_0, w__law_why_1, wRet, wRetN, wSeq, wNext, wIfS, wAsg, wName, wPar, wDrop, wDPut, wFor, wISeq, wIRng1, wIRng2, wVar, wC, wNil, wCons, wBin, wUn, wCB, wTst, wAnd, wOr, DL.wNot, wAndV, wOrV, wNotV, wIf, wTup, wLst, wLstM, wCall, wGTup, wGCons, wGNil, wBrk, wCnt, wRaise, gI, gU, gOne , DL.gSub, gMul, gMod, gDiv, gPow, gLt, gLe, gGt, gGe, gNeg, gAbs, gMax2, gMin2, gInt2, wChain, wPar3, dstart, List.map_cons, List.map_nil, List.length_cons, List.length_nil, List.replicate, List.cons_append, List.nil_append, List.append_nil, List.getElem?_cons_zero, List.getElem?_cons_succ, List.set_cons_zero, List.set_cons_succ, Option.some.injEq, exists_eq_left', exists_eq_left, D.int.injEq, D.bl.injEq, D.str.injEq, D.tup.injEq, D.lst.injEq, D.obj.injEq, List.cons.injEq, and_true, true_and, Nat.zero_add, Nat.reduceAdd, Nat.reduceSub, decide_eq_true_eq, Bool.not_eq_true', decide_eq_false_iff_not, exists_and_left, exists_and_right, and_assoc, Bool.true_eq_false, Bool.false_eq_true, if_true, if_false, ne_eq, wTryE, wLam, wClD]
  refine h _ fun er μ1 hw => ?_
  obtain ⟨what, num, p, rfl, sv, no, q⟩ := hw
  refine ⟨false, h1, ?_⟩
  rw [if_neg (by decide)]
  refine ⟨true, h2, ?_⟩
  rw [if_pos rfl]
  intro a dd _
  simp only [wXf, wRet, wRetN, wSeq, wNext, wIfS, wAsg, wName, wPar, wDrop, wDPut, wFor, wISeq, wIRng1, wIRng2, wVar, wC, wNil, wCons, wBin, wUn, wCB, wTst, wAnd, wOr, DL.wNot, wAndV, wOrV, wNotV, wIf, wTup, wLst, wLstM, wCall, wGTup, wGCons, wGNil, wBrk, wCnt, wRaise, gI, gU, gOne , DL.gSub, gMul, gMod, gDiv, gPow, gLt, gLe, gGt, gGe, gNeg, gAbs, gMax2, gMin2, gInt2, wChain, wPar3, dstart, List.map_cons, List.map_nil, List.length_cons, List.length_nil, List.replicate, List.cons_append, List.nil_append, List.append_nil, List.getElem?_cons_zero, List.getElem?_cons_succ, List.set_cons_zero, List.set_cons_succ, Option.some.injEq, exists_eq_left', exists_eq_left, D.int.injEq, D.bl.injEq, D.str.injEq, D.tup.injEq, D.lst.injEq, D.obj.injEq, List.cons.injEq, and_true, true_and, Nat.zero_add, Nat.reduceAdd, Nat.reduceSub, decide_eq_true_eq, Bool.not_eq_true', decide_eq_false_iff_not, exists_and_left, exists_and_right, and_assoc, Bool.true_eq_false, Bool.false_eq_true, if_true, if_false, ne_eq]
  exact ⟨_, rfl, what, rfl, _, rfl, num, rfl, sv.repr no ⟨by decide, q⟩⟩

theorem mdel_mput {μ : M} {b : Addr} {m : MO} (h : μ b = none) : mdel (mput μ b m) b = μ := by
  funext c
  by_cases e : c = b
  · rw [e, mdel_same, h]
  · rw [mdel_ne e, mput_ne e]
/-! ### _law_any -/
def oddL : List D := [.non, .bl true, .str "1", .tup [.int 1, .int 0], .tup [.int 1, .int (-2)], .tup [.int 1, .bl true], .lst [.int 1], .tup [.int 1, .int 2, .int 3], .dct [(.inr "a", .int 1)], .tup [.str "1", .int 2], .tup [.non, .int 1], .tup [.bl true, .int 2],
  .lst [.int 2, .bl false], .tup [.tup [.int 1, .int 2], .int 3], .tup []]
def s__law_any : DF := fun ds μ Q _ => ∃ p m, ds = [.obj p] ∧ Pen p μ m ∧ m ≤ 1000000 ∧ ∀ v ∈ oddL, ∀ μ', Only p μ μ' → Pen p μ' (m + 1) → Q v μ'
theorem p__law_any (K : PySem.W.Frag) : ∀ ds μ Q F, s__law_any ds μ Q F → ds.length = 1 ∧ w__law_any K s__law_pick { nx := fun _ μ' => Q .non μ', rt := Q } F (dstart ["_law_pen_here", "_law_some"] ds) μ := by
  rintro _ μ Q F ⟨p, m, rfl, pen, hm, q⟩
  refine ⟨rfl, ?_⟩
  simp only [w__law_any, w__law_any_0, w__law_any_1, wRet, wRetN, wSeq, wNext, wIfS, wAsg, wName, wPar, wDrop, wDPut, wFor, wISeq, wIRng1, wIRng2, wVar, wC, wNil, wCons, wBin, wUn, wCB, wTst, wAnd, wOr, DL.wNot, wAndV, wOrV, wNotV, wIf, wTup, wLst, wLstM, wCall, wGTup, wGCons, wGNil, wBrk, wCnt, wRaise, gI, gU, gOne , DL.gSub, gMul, gMod, gDiv, gPow, gLt, gLe, gGt, gGe, gNeg, gAbs, gMax2, gMin2, gInt2, wChain, wPar3, dstart, List.map_cons, List.map_nil, List.length_cons, List.length_nil, List.replicate, List.cons_append, List.nil_append, List.append_nil, List.getElem?_cons_zero, List.getElem?_cons_succ, List.set_cons_zero, List.set_cons_succ, Option.some.injEq, exists_eq_left', exists_eq_left, D.int.injEq, D.bl.injEq, D.str.injEq, D.tup.injEq, D.lst.injEq, D.obj.injEq, List.cons.injEq, and_true, true_and, Nat.zero_add, Nat.reduceAdd, Nat.reduceSub, decide_eq_true_eq, Bool.not_eq_true', decide_eq_false_iff_not, exists_and_left, exists_and_right, and_assoc, Bool.true_eq_false, Bool.false_eq_true, if_true, if_false, ne_eq, wDct, wPairs, gAdd_lst]
  refine ⟨by decide, by decide, by decide, by decide, by decide, fun b hb => ⟨mput_same, by decide, _, rfl, by decide, by decide, by decide, by decide, by decide, by decide, by decide, by decide, by decide, by decide, ?_⟩⟩
  rw [mdel_mput hb]
  exact ⟨p, oddL, m, .inl rfl, by decide, by decide, pen, hm, q⟩

/-! ### _law_some_ratio -/
def s__law_some_ratio : DF := fun ds μ Q _ => ∃ p m, ds = [.obj p] ∧ Pen p μ m ∧ m + 20 ≤ 1000000 ∧ ∀ n d μ', red n d → n.natAbs < 10 ^ 18 → d.natAbs ≤ 10 ^ 18 → Only p μ μ' → Pen p μ' (m + 20) → Q (.tup [.int n, .int d]) μ'
theorem p__law_some_ratio (K : PySem.W.Frag) : ∀ ds μ Q F, s__law_some_ratio ds μ Q F → ds.length = 1 ∧ w__law_some_ratio K s__law_q s__law_far { nx := fun _ μ' => Q .non μ', rt := Q } F (dstart ["_law_pen_here"] ds) μ := by
  rintro _ μ Q F ⟨p, m, rfl, pen, hm, q⟩
  refine ⟨rfl, ?_⟩
  simp only [w__law_some_ratio, w__law_some_ratio_0, wRet, wRetN, wSeq, wNext, wIfS, wAsg, wName, wPar, wDrop, wDPut, wFor, wISeq, wIRng1, wIRng2, wVar, wC, wNil, wCons, wBin, wUn, wCB, wTst, wAnd, wOr, DL.wNot, wAndV, wOrV, wNotV, wIf, wTup, wLst, wLstM, wCall, wGTup, wGCons, wGNil, wBrk, wCnt, wRaise, gI, gU, gOne , DL.gSub, gMul, gMod, gDiv, gPow, gLt, gLe, gGt, gGe, gNeg, gAbs, gMax2, gMin2, gInt2, wChain, wPar3, dstart, List.map_cons, List.map_nil, List.length_cons, List.length_nil, List.replicate, List.cons_append, List.nil_append, List.append_nil, List.getElem?_cons_zero, List.getElem?_cons_succ, List.set_cons_zero, List.set_cons_succ, Option.some.injEq, exists_eq_left', exists_eq_left, D.int.injEq, D.bl.injEq, D.str.injEq, D.tup.injEq, D.lst.injEq, D.obj.injEq, List.cons.injEq, and_true, true_and, Nat.zero_add, Nat.reduceAdd, Nat.reduceSub, decide_eq_true_eq, Bool.not_eq_true', decide_eq_false_iff_not, exists_and_left, exists_and_right, and_assoc, Bool.true_eq_false, Bool.false_eq_true, if_true, if_false, ne_eq]
  refine ⟨p, m, rfl, pen, by omega, fun a μ1 ha o1 pen1 => ⟨p, _, rfl, pen1, by omega, fun b μ2 hb o2 pen2 => ⟨b, rfl, ?_⟩⟩⟩
  rw [gAdd_int]
  have e : (if b < 0 then -b else b) = (b.natAbs : Int) := by split <;> omega
  rw [e]
  have hb0 : (1 + (b.natAbs : Int)) ≠ 0 := by omega
  have t1 : a.natAbs < 10 ^ 500 := Nat.lt_trans ha (by decide +kernel)
  have t2 : (1 + (b.natAbs : Int)).natAbs < 10 ^ 500 := Nat.lt_of_le_of_lt (show _ ≤ 10 ^ 18 by omega) (by decide +kernel)
  refine ⟨a, _, rfl, hb0, t1, t2, q _ _ μ2 (q_red hb0) ?_ ?_ (o1.trans o2) (pen2.mono (by omega))⟩
  · exact Nat.lt_of_le_of_lt (qN_le hb0) ha
  · have := qD_le (t := a) hb0
    omega

/-! ### what may be shown -/
/-- may be shown: of n signs at most, k deep -/
structure nice (d : D) (p : PyData) (n k : Nat) : Prop where
  py : d.py = some p
  no : p.hasDict = false
  sm : small p = true
  dp : p.depth ≤ k
  bd : bnd p ≤ n
theorem nice.mono {d : D} {p : PyData} {n k n' k' : Nat} (h : nice d p n k) (h1 : n ≤ n') (h2 : k ≤ k') : nice d p n' k' := ⟨h.py, h.no, h.sm, Nat.le_trans h.dp h2, Nat.le_trans h.bd h1⟩
theorem nice_int {i : Int} (h : i.natAbs < 10 ^ 500) : nice (.int i) (.int i) 600 1 := ⟨rfl, rfl, by simpa only [small, decide_eq_true_eq] using h, by simp [PyData.depth], Nat.le_refl _⟩
theorem nice_tup2 {a b : D} {p q : PyData} {n k : Nat} (ha : nice a p n k) (hb : nice b q n k) : nice (.tup [a, b]) (.tuple [p, q]) (2 * n + 7) (k + 1) := by
  refine ⟨by simp [D.py, D.pyA, ha.py, hb.py], by simp [PyData.hasDict, PyData.hasDictAll, ha.no, hb.no], by simp [small, smallA, ha.sm, hb.sm], ?_, ?_⟩
  · have := ha.dp
    have := hb.dp
    simp only [PyData.depth, PyData.depthAll]
    omega
  · have := ha.bd
    have := hb.bd
    simp only [bnd, bndA]
    omega
theorem nice_lst2 {a b : D} {p q : PyData} {n k : Nat} (ha : nice a p n k) (hb : nice b q n k) : nice (.lst [a, b]) (.list [p, q]) (2 * n + 7) (k + 1) := by
  refine ⟨by simp [D.py, D.pyA, ha.py, hb.py], by simp [PyData.hasDict, PyData.hasDictAll, ha.no, hb.no], by simp [small, smallA, ha.sm, hb.sm], ?_, ?_⟩
  · have := ha.dp
    have := hb.dp
    simp only [PyData.depth, PyData.depthAll]
    omega
  · have := ha.bd
    have := hb.bd
    simp only [bnd, bndA]
    omega
theorem okP_of {p : PyData} (h : p.hasDict = false) : okP p = true := by
  cases p with
  | dict ps => simp [PyData.hasDict] at h
  | _ => simpa [okP] using h
theorem nice.show {d : D} {p : PyData} {n k : Nat} (h : nice d p n k) (h1 : n ≤ 1000000) (h2 : k ≤ 60) : showV d p := ⟨h.py, okP_of h.no, h.sm, Nat.le_trans h.dp h2, Nat.le_trans h.bd h1⟩
theorem nice.obj {d : D} {p : PyData} {n k : Nat} (h : nice d p n k) : ∀ a, d ≠ .obj a := fun a e => by
  have := h.py
  rw [e] at this
  cases this
theorem nice.repr {d : D} {p : PyData} {n k : Nat} {μ : M} {Q : DK} (h : nice d p n k) (q : Q (.str p.shown) μ) (h1 : n ≤ 1000000 := by decide) (h2 : k ≤ 60 := by decide) : gRepr d μ Q := (h.show h1 h2).repr h.obj q
theorem nice.okT {d : D} {p : PyData} {n k : Nat} (h : nice d p n k) : okT p.shown := (shown_small h.sm).2.2
/-- a shown text is the same text -/
theorem ne_self {x : Str} {μ : M} {Q : DK} (h : okT x) (q : Q (.bl false) μ) : gEq true (.str x) (.str x) μ Q := eq_txt h h (by simpa using q)

theorem pass_ok {n d : Int} {v : D} (h : pass n d v) (r : red n d) (hn : n.natAbs < 10 ^ 18) (hd : d.natAbs ≤ 10 ^ 18) : okV v ∧ szD v ∧ isR v = true ∧ rN v = n ∧ rD v = d ∧ lowV v ∧ ∃ p, nice v p 1207 2 := by
  have l : ∀ k : Int, 0 < k → k ≤ 3 → (n * k).natAbs < 10 ^ 60 ∧ (d * k).natAbs < 10 ^ 60 ∧ 0 < d * k := fun k k0 k3 => by
    refine ⟨?_, ?_, Int.mul_pos r.1 k0⟩
    · rw [Int.natAbs_mul]
      have : n.natAbs * k.natAbs ≤ 10 ^ 18 * 3 := Nat.mul_le_mul (by omega) (by omega)
      omega
    · rw [Int.natAbs_mul]
      have : d.natAbs * k.natAbs ≤ 10 ^ 18 * 3 := Nat.mul_le_mul (by omega) (by omega)
      omega
  have big : ∀ x : Int, x.natAbs < 10 ^ 60 → x.natAbs < 10 ^ 500 := fun x hx => Nat.lt_trans hx (by decide +kernel)
  rcases h with ⟨rfl, rfl⟩ | ⟨k, k0, k3, rfl | rfl⟩
  · exact ⟨⟨rfl, nofun, nofun⟩, trivial, rfl, rfl, rfl, ⟨by show n.natAbs < _; omega, by show (1 : Nat) < _; decide, by show (0 : Int) < 1; decide⟩, _, (nice_int (big n (by omega))).mono (by decide) (by decide)⟩
  · obtain ⟨a, b, c⟩ := l k k0 k3
    obtain ⟨e1, e2⟩ := q_mul r k0
    exact ⟨⟨rfl, nofun, fun xs e => by rcases e with e | e <;> cases e; simp⟩, big _ b, by simpa [isR] using c, e1, e2, ⟨by show (qN _ _).natAbs < _; rw [e1]; omega, by show (qD _ _).natAbs < _; rw [e2]; omega, by show 0 < qD _ _; rw [e2]; exact r.1⟩, _, (nice_tup2 (nice_int (big _ a)) (nice_int (big _ b)))⟩
  · obtain ⟨a, b, c⟩ := l k k0 k3
    obtain ⟨e1, e2⟩ := q_mul r k0
    exact ⟨⟨rfl, nofun, fun xs e => by rcases e with e | e <;> cases e; simp⟩, big _ b, by simpa [isR] using c, e1, e2, ⟨by show (qN _ _).natAbs < _; rw [e1]; omega, by show (qD _ _).natAbs < _; rw [e2]; omega, by show 0 < qD _ _; rw [e2]; exact r.1⟩, _, (nice_lst2 (nice_int (big _ a)) (nice_int (big _ b)))⟩
theorem odd_ok {v : D} (h : v ∈ oddL) : okV v ∧ szD v ∧ isR v = false ∧ (∃ p, showV v p) ∧ ∀ a, v ≠ .obj a := by
  have s : ∀ {d : D} {p : PyData}, d.py = some p → okP p = true → small p = true → p.depth ≤ 60 → bnd p ≤ 1000000 → ∃ p, showV d p := fun a b c d e => ⟨_, a, b, c, d, e⟩
  simp only [oddL, List.mem_cons, List.not_mem_nil, or_false] at h
  rcases h with rfl | rfl | rfl | rfl | rfl | rfl | rfl | rfl | rfl | rfl | rfl | rfl | rfl | rfl | rfl
  all_goals exact ⟨⟨rfl, nofun, fun xs e => by rcases e with e | e <;> cases e <;> simp⟩, by first | trivial | (show (_ : Nat) < _; decide +kernel), rfl, s rfl (by decide +kernel) (by decide +kernel) (by decide +kernel) (by decide +kernel), nofun⟩
/-- the row that _law_why tells is the row that is due -/
theorem why_eq {w2 : Str} {x : D} {px : PyData} {μ : M} {Q : DK} (sx : showV x px) (hx : ∀ a, x ≠ .obj a) (o2 : okT w2) (q : Q (.bl false) μ) :
    gRepr x μ fun d μ1 => 3 ≤ 1000000 ∧ gEq true (.tup [.str "number", .str w2, .str px.shown]) (.tup [.str "number", .str w2, d]) μ1 Q := by
  refine sx.repr hx ⟨by decide, eq_self (p := .tuple [.str "number", .str w2, .str px.shown]) rfl rfl ?_ q⟩
  have o3 := (shown_small sx.2.2.1).2.2
  have h1 := okT_strOk o2
  have h3 := okT_strOk o3
  have h0 : PyData.strOk "number" = true := by decide +kernel
  simp [SeqAt.shaped, PyData.canLay0, PyData.canLayAll0, PyData.depth, PyData.depthAll, h1, h3, h0]
/-- behind a draw -/
structure Go (T : List (Addr × Str)) (p : Addr) (μ : M) (m : Nat) : Prop where
  pen : Pen p μ m
  tab : TabM T μ
theorem Go.go {T : List (Addr × Str)} {p : Addr} {μ μ' : M} {m m' : Nat} (h : Go T p μ m) (o : Only p μ μ') (pn : Pen p μ' m') : Go T p μ' m' := ⟨pn, Pen.tab h.tab o h.pen pn⟩
theorem go_start {T : List (Addr × Str)} {p : Addr} {μ μ1 : M} {m : Nat} (tT : TabM T μ) (hp : μ p = none) (u1 : Only p μ μ1) (pen1 : Pen p μ1 m) : Go T p μ1 m := by
  refine ⟨pen1, ?_⟩
  obtain ⟨cs, a, d, n, f, h0, _⟩ := pen1
  intro x y
  by_cases e : x = p
  · subst e
    rw [h0]
    refine ⟨(by intro z; cases z), fun z => ?_⟩
    have := (tT x y).mpr z
    rw [hp] at this
    cases this
  · rw [u1 x e]
    exact tT x y
/-- the law's promise -/
def s_law (T : List (Addr × Str)) : DF := fun ds μ Q _ => ∃ ns : List Int, ds = [.ro (ns.map .int)] ∧ ns.length ≤ 63 ∧ TabM T μ ∧ ∀ μ', Q (.bl true) μ'
theorem law_due {T : List (Addr × Str)} (μ : M) (ns : List Int) (h : ns.length ≤ 63) (_ : ∀ z ∈ ns, Builtin.Int.intBits z ≤ 1048576) (t : TabM T μ) : s_law T [.ro (ns.map D.int)] μ (fun d _ => d = .bl true) fun _ _ => False := ⟨ns, rfl, h, t, fun _ => rfl⟩
end NC

set_option maxHeartbeats 2000000
namespace NC
open PySem PySem.Spec PyProof.Rows L2 DL PL
def w_floor_of_0 (K : PySem.W.Frag) (s_told : DF) : DS := (wAsg (wCall s_told (wCons (wVar 0) (wCons (wC (.str "ratio")) wNil))) (wGTup 2 (wGCons (wName 1) (wGCons (wName 2) wGNil))))
def w_floor_of_1 (K : PySem.W.Frag) (s_told : DF) : DS := (wRet (wBin gDiv (wVar 1) (wVar 2)))
def w_floor_of (K : PySem.W.Frag) (s_told : DF) : DS := (wSeq (w_floor_of_0 K s_told) (w_floor_of_1 K s_told))
def w_nearest_whole_0 (K : PySem.W.Frag) (s_told : DF) : DS := (wAsg (wCall s_told (wCons (wVar 0) (wCons (wC (.str "ratio")) wNil))) (wGTup 2 (wGCons (wName 1) (wGCons (wName 2) wGNil))))
def w_nearest_whole_1 (K : PySem.W.Frag) (s_told : DF) : DS := (wRet (wBin gDiv (wBin gAdd (wBin gMul (wC (.int 2)) (wVar 1)) (wVar 2)) (wBin gMul (wC (.int 2)) (wVar 2))))
def w_nearest_whole (K : PySem.W.Frag) (s_told : DF) : DS := (wSeq (w_nearest_whole_0 K s_told) (w_nearest_whole_1 K s_told))
def w_ratio_text_0 (K : PySem.W.Frag) (s_told : DF) : DS := (wAsg (wCall s_told (wCons (wVar 0) (wCons (wC (.str "ratio")) wNil))) (wGTup 2 (wGCons (wName 1) (wGCons (wName 2) wGNil))))
def w_ratio_text_1 (K : PySem.W.Frag) (s_told : DF) : DS := (wRet (wIf (wTst (wBin (gEq false) (wVar 2) (wC (.int 1)))) (wCB (gOne gStr) (wCons (wVar 1) wNil)) (wBin gAdd (wBin gAdd (wCB (gOne gStr) (wCons (wVar 1) wNil)) (wC (.str "/"))) (wCB (gOne gStr) (wCons (wVar 2) wNil)))))
def w_ratio_text (K : PySem.W.Frag) (s_told : DF) : DS := (wSeq (w_ratio_text_0 K s_told) (w_ratio_text_1 K s_told))
def w__law_is_whole_0 (K : PySem.W.Frag)  : DS := (wRet (wAndV (wCB (gIsi K) (wCons (wVar 0) (wCons (wC (.raw (.ty "int"))) wNil))) (wNotV (wCB (gIsi K) (wCons (wVar 0) (wCons (wC (.raw (.ty "bool"))) wNil))))))
def w__law_is_whole (K : PySem.W.Frag)  : DS := (w__law_is_whole_0 K)
def w__law_ratio_0 (K : PySem.W.Frag) (s__law_pick s__law_draw s__law_q : DF) : DS := (wAsg (wCall s__law_pick (wCons (wVar 0) (wCons (wLst (wCons (wC (.int 1)) (wCons (wC (.int 1)) (wCons (wC (.int 2)) (wCons (wC (.int 3)) (wCons (wC (.int 7)) (wCons (wC (.int 10)) (wCons (wBin gAdd (wC (.int 1)) (wCall s__law_draw (wCons (wVar 0) (wCons (wC (.int 99)) wNil)))) wNil)))))))) wNil))) (wName 2))
def w__law_ratio_1 (K : PySem.W.Frag) (s__law_pick s__law_draw s__law_q : DF) : DS := (wRet (wCall s__law_q (wCons (wBin gSub (wCall s__law_draw (wCons (wVar 0) (wCons (wBin gAdd (wBin gMul (wBin gMul (wC (.int 2)) (wVar 1)) (wVar 2)) (wC (.int 1))) wNil))) (wBin gMul (wVar 1) (wVar 2))) (wCons (wVar 2) wNil))))
def w__law_ratio (K : PySem.W.Frag) (s__law_pick s__law_draw s__law_q : DF) : DS := (wSeq (w__law_ratio_0 K s__law_pick s__law_draw s__law_q) (w__law_ratio_1 K s__law_pick s__law_draw s__law_q))
def w_law_0 (K : PySem.W.Frag) (a_floor_of a_nearest_whole a_ratio_text : Addr) (s__law_pen s__law_pick s__law_ratio s__law_far s__law_q s__law_some_ratio s__law_passed s_nearest_whole s_floor_of s__law_is_whole s_ratio_text s__law_any : DF) (T : List (Addr × Str)) (t__law_why : (M → DK → FK → Prop) → M → DK → Prop) : DS := (wAsg (wCall s__law_pen (wCons (wVar 0) wNil)) (wName 1))
def w_law_1_0 (K : PySem.W.Frag) (a_floor_of a_nearest_whole a_ratio_text : Addr) (s__law_pen s__law_pick s__law_ratio s__law_far s__law_q s__law_some_ratio s__law_passed s_nearest_whole s_floor_of s__law_is_whole s_ratio_text s__law_any : DF) (T : List (Addr × Str)) (t__law_why : (M → DK → FK → Prop) → M → DK → Prop) : DS := (wAsg (wCall s__law_pick (wCons (wVar 1) (wCons (wLst (wCons (wCall s__law_some_ratio (wCons (wVar 1) wNil)) (wCons (wCall s__law_q (wCons (wCall s__law_far (wCons (wVar 1) wNil)) (wCons (wC (.int 2)) wNil))) (wCons (wTup (wCons (wCall s__law_far (wCons (wVar 1) wNil)) (wCons (wC (.int 1)) wNil))) (wCons (wCall s__law_ratio (wCons (wVar 1) (wCons (wC (.int 9)) wNil))) wNil))))) wNil))) (wName 3))
def w_law_1_1 (K : PySem.W.Frag) (a_floor_of a_nearest_whole a_ratio_text : Addr) (s__law_pen s__law_pick s__law_ratio s__law_far s__law_q s__law_some_ratio s__law_passed s_nearest_whole s_floor_of s__law_is_whole s_ratio_text s__law_any : DF) (T : List (Addr × Str)) (t__law_why : (M → DK → FK → Prop) → M → DK → Prop) : DS := (wPar3 4 5 6 (wCons (wCall s__law_passed (wCons (wVar 1) (wCons (wVar 3) wNil))) (wCons (wBin gIx (wVar 3) (wC (.int 0))) (wCons (wBin gIx (wVar 3) (wC (.int 1))) wNil))))
def w_law_1_2 (K : PySem.W.Frag) (a_floor_of a_nearest_whole a_ratio_text : Addr) (s__law_pen s__law_pick s__law_ratio s__law_far s__law_q s__law_some_ratio s__law_passed s_nearest_whole s_floor_of s__law_is_whole s_ratio_text s__law_any : DF) (T : List (Addr × Str)) (t__law_why : (M → DK → FK → Prop) → M → DK → Prop) : DS := (wPar 7 8 (wCons (wCall s_floor_of (wCons (wVar 4) wNil)) (wCons (wCall s_nearest_whole (wCons (wVar 4) wNil)) wNil)))
def w_law_1_3 (K : PySem.W.Frag) (a_floor_of a_nearest_whole a_ratio_text : Addr) (s__law_pen s__law_pick s__law_ratio s__law_far s__law_q s__law_some_ratio s__law_passed s_nearest_whole s_floor_of s__law_is_whole s_ratio_text s__law_any : DF) (T : List (Addr × Str)) (t__law_why : (M → DK → FK → Prop) → M → DK → Prop) : DS := (wIfS (wOr (wNot (wTst (wCall s__law_is_whole (wCons (wVar 7) wNil)))) (wNot (wTst (wCall s__law_is_whole (wCons (wVar 8) wNil))))) (wRet (wC (.bl false))) wNext)
def w_law_1_4 (K : PySem.W.Frag) (a_floor_of a_nearest_whole a_ratio_text : Addr) (s__law_pen s__law_pick s__law_ratio s__law_far s__law_q s__law_some_ratio s__law_passed s_nearest_whole s_floor_of s__law_is_whole s_ratio_text s__law_any : DF) (T : List (Addr × Str)) (t__law_why : (M → DK → FK → Prop) → M → DK → Prop) : DS := (wIfS (wNot (wTst (wChain gLe gLt (wBin gMul (wVar 7) (wVar 6)) (wVar 5) (wBin gMul (wBin gAdd (wVar 7) (wC (.int 1))) (wVar 6))))) (wRet (wC (.bl false))) wNext)
def w_law_1_5 (K : PySem.W.Frag) (a_floor_of a_nearest_whole a_ratio_text : Addr) (s__law_pen s__law_pick s__law_ratio s__law_far s__law_q s__law_some_ratio s__law_passed s_nearest_whole s_floor_of s__law_is_whole s_ratio_text s__law_any : DF) (T : List (Addr × Str)) (t__law_why : (M → DK → FK → Prop) → M → DK → Prop) : DS := (wIfS (wNot (wTst (wChain gLe gLt (wUn gNeg (wVar 6)) (wBin gMul (wC (.int 2)) (wBin gSub (wVar 5) (wBin gMul (wVar 8) (wVar 6)))) (wVar 6)))) (wRet (wC (.bl false))) wNext)
def w_law_1_6 (K : PySem.W.Frag) (a_floor_of a_nearest_whole a_ratio_text : Addr) (s__law_pen s__law_pick s__law_ratio s__law_far s__law_q s__law_some_ratio s__law_passed s_nearest_whole s_floor_of s__law_is_whole s_ratio_text s__law_any : DF) (T : List (Addr × Str)) (t__law_why : (M → DK → FK → Prop) → M → DK → Prop) : DS := (wIfS (wTst (wBin (gEq true) (wCall s_ratio_text (wCons (wVar 4) wNil)) (wBin gAdd (wCB (gOne gStr) (wCons (wVar 5) wNil)) (wIf (wTst (wBin (gEq false) (wVar 6) (wC (.int 1)))) (wC (.str "")) (wBin gAdd (wC (.str "/")) (wCB (gOne gStr) (wCons (wVar 6) wNil))))))) (wRet (wC (.bl false))) wNext)
def w_law_1_7 (K : PySem.W.Frag) (a_floor_of a_nearest_whole a_ratio_text : Addr) (s__law_pen s__law_pick s__law_ratio s__law_far s__law_q s__law_some_ratio s__law_passed s_nearest_whole s_floor_of s__law_is_whole s_ratio_text s__law_any : DF) (T : List (Addr × Str)) (t__law_why : (M → DK → FK → Prop) → M → DK → Prop) : DS := (wAsg (wCall s__law_any (wCons (wVar 1) wNil)) (wName 9))
def w_law_1_8_0 (K : PySem.W.Frag) (a_floor_of a_nearest_whole a_ratio_text : Addr) (s__law_pen s__law_pick s__law_ratio s__law_far s__law_q s__law_some_ratio s__law_passed s_nearest_whole s_floor_of s__law_is_whole s_ratio_text s__law_any : DF) (T : List (Addr × Str)) (t__law_why : (M → DK → FK → Prop) → M → DK → Prop) : DS := (wIfS (wTst (wBin (gEq true) (wLamC T t__law_why (wCallV 10 [(a_floor_of, s_floor_of), (a_nearest_whole, s_nearest_whole), (a_ratio_text, s_ratio_text)] (wCons (wVar 9) wNil))) (wTup (wCons (wC (.str "number")) (wCons (wC (.str "ratio")) (wCons (wCB (gOne gRepr) (wCons (wVar 9) wNil)) wNil)))))) (wRet (wC (.bl false))) wNext)
def w_law_1_8 (K : PySem.W.Frag) (a_floor_of a_nearest_whole a_ratio_text : Addr) (s__law_pen s__law_pick s__law_ratio s__law_far s__law_q s__law_some_ratio s__law_passed s_nearest_whole s_floor_of s__law_is_whole s_ratio_text s__law_any : DF) (T : List (Addr × Str)) (t__law_why : (M → DK → FK → Prop) → M → DK → Prop) : DS := (wFor (wISeq (wLst (wCons (wC (.raw (.ref a_floor_of))) (wCons (wC (.raw (.ref a_nearest_whole))) (wCons (wC (.raw (.ref a_ratio_text))) wNil))))) (wName 10) (w_law_1_8_0 K a_floor_of a_nearest_whole a_ratio_text s__law_pen s__law_pick s__law_ratio s__law_far s__law_q s__law_some_ratio s__law_passed s_nearest_whole s_floor_of s__law_is_whole s_ratio_text s__law_any T t__law_why))
def w_law_1 (K : PySem.W.Frag) (a_floor_of a_nearest_whole a_ratio_text : Addr) (s__law_pen s__law_pick s__law_ratio s__law_far s__law_q s__law_some_ratio s__law_passed s_nearest_whole s_floor_of s__law_is_whole s_ratio_text s__law_any : DF) (T : List (Addr × Str)) (t__law_why : (M → DK → FK → Prop) → M → DK → Prop) : DS := (wFor (wIRng1 (wCons (wC (.int 8)) wNil)) (wName 2) (wSeq (w_law_1_0 K a_floor_of a_nearest_whole a_ratio_text s__law_pen s__law_pick s__law_ratio s__law_far s__law_q s__law_some_ratio s__law_passed s_nearest_whole s_floor_of s__law_is_whole s_ratio_text s__law_any T t__law_why) (wSeq (w_law_1_1 K a_floor_of a_nearest_whole a_ratio_text s__law_pen s__law_pick s__law_ratio s__law_far s__law_q s__law_some_ratio s__law_passed s_nearest_whole s_floor_of s__law_is_whole s_ratio_text s__law_any T t__law_why) (wSeq (w_law_1_2 K a_floor_of a_nearest_whole a_ratio_text s__law_pen s__law_pick s__law_ratio s__law_far s__law_q s__law_some_ratio s__law_passed s_nearest_whole s_floor_of s__law_is_whole s_ratio_text s__law_any T t__law_why) (wSeq (w_law_1_3 K a_floor_of a_nearest_whole a_ratio_text s__law_pen s__law_pick s__law_ratio s__law_far s__law_q s__law_some_ratio s__law_passed s_nearest_whole s_floor_of s__law_is_whole s_ratio_text s__law_any T t__law_why) (wSeq (w_law_1_4 K a_floor_of a_nearest_whole a_ratio_text s__law_pen s__law_pick s__law_ratio s__law_far s__law_q s__law_some_ratio s__law_passed s_nearest_whole s_floor_of s__law_is_whole s_ratio_text s__law_any T t__law_why) (wSeq (w_law_1_5 K a_floor_of a_nearest_whole a_ratio_text s__law_pen s__law_pick s__law_ratio s__law_far s__law_q s__law_some_ratio s__law_passed s_nearest_whole s_floor_of s__law_is_whole s_ratio_text s__law_any T t__law_why) (wSeq (w_law_1_6 K a_floor_of a_nearest_whole a_ratio_text s__law_pen s__law_pick s__law_ratio s__law_far s__law_q s__law_some_ratio s__law_passed s_nearest_whole s_floor_of s__law_is_whole s_ratio_text s__law_any T t__law_why) (wSeq (w_law_1_7 K a_floor_of a_nearest_whole a_ratio_text s__law_pen s__law_pick s__law_ratio s__law_far s__law_q s__law_some_ratio s__law_passed s_nearest_whole s_floor_of s__law_is_whole s_ratio_text s__law_any T t__law_why) (w_law_1_8 K a_floor_of a_nearest_whole a_ratio_text s__law_pen s__law_pick s__law_ratio s__law_far s__law_q s__law_some_ratio s__law_passed s_nearest_whole s_floor_of s__law_is_whole s_ratio_text s__law_any T t__law_why))))))))))
def w_law_2 (K : PySem.W.Frag) (a_floor_of a_nearest_whole a_ratio_text : Addr) (s__law_pen s__law_pick s__law_ratio s__law_far s__law_q s__law_some_ratio s__law_passed s_nearest_whole s_floor_of s__law_is_whole s_ratio_text s__law_any : DF) (T : List (Addr × Str)) (t__law_why : (M → DK → FK → Prop) → M → DK → Prop) : DS := (wRet (wC (.bl true)))
def w_law (K : PySem.W.Frag) (a_floor_of a_nearest_whole a_ratio_text : Addr) (s__law_pen s__law_pick s__law_ratio s__law_far s__law_q s__law_some_ratio s__law_passed s_nearest_whole s_floor_of s__law_is_whole s_ratio_text s__law_any : DF) (T : List (Addr × Str)) (t__law_why : (M → DK → FK → Prop) → M → DK → Prop) : DS := (wSeq (w_law_0 K a_floor_of a_nearest_whole a_ratio_text s__law_pen s__law_pick s__law_ratio s__law_far s__law_q s__law_some_ratio s__law_passed s_nearest_whole s_floor_of s__law_is_whole s_ratio_text s__law_any T t__law_why) (wSeq (w_law_1 K a_floor_of a_nearest_whole a_ratio_text s__law_pen s__law_pick s__law_ratio s__law_far s__law_q s__law_some_ratio s__law_passed s_nearest_whole s_floor_of s__law_is_whole s_ratio_text s__law_any T t__law_why) (w_law_2 K a_floor_of a_nearest_whole a_ratio_text s__law_pen s__law_pick s__law_ratio s__law_far s__law_q s__law_some_ratio s__law_passed s_nearest_whole s_floor_of s__law_is_whole s_ratio_text s__law_any T t__law_why)))
/-! ### floor_of, nearest_whole, ratio_text -/
def s_one (CB : Addr) (g : Int → Int → D) : DF := fun ds μ Q F => ∃ a, ds = [a] ∧ okV a ∧ szD a ∧ if isR a = true then lowV a ∧ Q (g (rN a) (rD a)) μ else F ⟨.ref CB, [("number", a), ("what", .str "ratio")]⟩ μ
def fFloor (n d : Int) : D := .int (n.fdiv d)
def fNear (n d : Int) : D := .int ((2 * n + d).fdiv (2 * d))
def txt (i : Int) : Str := Str.ofString (toString i)
def fText (n d : Int) : D := .str (if d = 1 then txt n else txt n ++ "/" ++ txt d)
theorem one_ok {CB : Addr} {a : D} {g : D} {μ : M} {Q : DK} {F : FK} {G : Prop} (oa : okV a) (za : szD a) (q : if isR a = true then lowV a ∧ Q g μ else F ⟨.ref CB, [("number", a), ("what", .str "ratio")]⟩ μ) (k : lowV a → Q g μ → G) :
    okV a ∧ szD a ∧ if isR a = true then G else F ⟨.ref CB, [("number", a), ("what", .str "ratio")]⟩ μ := by
  refine ⟨oa, za, ?_⟩
  by_cases ha : isR a = true
  · rw [if_pos ha] at q ⊢
    exact k q.1 q.2
  · rw [if_neg ha] at q ⊢
    exact q
theorem low_div {x d : Int} (h : 0 < d) (hd : d.natAbs < 10 ^ 61) : CDivG x d := ⟨by omega, Nat.lt_trans (log2_small (i := d) (Nat.lt_trans hd (by decide +kernel))) (by decide)⟩
theorem txt_ok {i : Int} (h : i.natAbs < 10 ^ 500) : okT (txt i) := (shown_small (p := .int i) (by simpa only [small, decide_eq_true_eq] using h)).2.2
theorem txt_len {i : Int} (h : i.natAbs < 10 ^ 500) : (txt i).length ≤ 600 := len_small h
theorem gStr_int {i : Int} {μ : M} {Q : DK} (h : i.natAbs < 10 ^ 500) (q : Q (.str (txt i)) μ) : gStr (.int i) μ Q := .inl ⟨i, rfl, log2_small h, q⟩
theorem gAdd_str {x y : Str} {μ : M} {Q : DK} (h : x.length + y.length ≤ 1000000) (q : Q (.str (x ++ y)) μ) : gAdd (.str x) (.str y) μ Q := .inr (.inl ⟨x, y, rfl, rfl, h, q⟩)
theorem p_floor_of (K : PySem.W.Frag) (CB : Addr) : ∀ ds μ Q F, s_one CB fFloor ds μ Q F → ds.length = 1 ∧ w_floor_of K (s_told CB) { nx := fun _ μ' => Q .non μ', rt := Q } F (dstart ["value", "top", "bottom"] ds) μ := by
  rintro _ μ Q F ⟨a, rfl, oa, za, q⟩
  refine ⟨rfl, ?_⟩
  simp only [w_floor_of, w_floor_of_0, w_floor_of_1, s_told, wRet, wRetN, wSeq, wNext, wIfS, wAsg, wName, wPar, wDrop, wDPut, wFor, wISeq, wIRng1, wIRng2, wVar, wC, wNil, wCons, wBin, wUn, wCB, wTst, wAnd, wOr, DL.wNot, wAndV, wOrV, wNotV, wIf, wTup, wLst, wLstM, wCall, wGTup, wGCons, wGNil, wBrk, wCnt, wRaise, gI, gU, gOne , DL.gSub, gMul, gMod, gDiv, gPow, gLt, gLe, gGt, gGe, gNeg, gAbs, gMax2, gMin2, gInt2, wChain, wPar3, dstart, List.map_cons, List.map_nil, List.length_cons, List.length_nil, List.replicate, List.cons_append, List.nil_append, List.append_nil, List.getElem?_cons_zero, List.getElem?_cons_succ, List.set_cons_zero, List.set_cons_succ, Option.some.injEq, exists_eq_left', exists_eq_left, D.int.injEq, D.bl.injEq, D.str.injEq, D.tup.injEq, D.lst.injEq, D.obj.injEq, List.cons.injEq, and_true, true_and, Nat.zero_add, Nat.reduceAdd, Nat.reduceSub, decide_eq_true_eq, Bool.not_eq_true', decide_eq_false_iff_not, exists_and_left, exists_and_right, and_assoc, Bool.true_eq_false, Bool.false_eq_true, if_true, if_false, ne_eq]
  exact one_ok oa za q fun la q => ⟨low_div la.2.2 (Nat.lt_trans la.2.1 (by decide +kernel)), q⟩
theorem p_nearest_whole (K : PySem.W.Frag) (CB : Addr) : ∀ ds μ Q F, s_one CB fNear ds μ Q F → ds.length = 1 ∧ w_nearest_whole K (s_told CB) { nx := fun _ μ' => Q .non μ', rt := Q } F (dstart ["value", "top", "bottom"] ds) μ := by
  rintro _ μ Q F ⟨a, rfl, oa, za, q⟩
  refine ⟨rfl, ?_⟩
  simp only [w_nearest_whole, w_nearest_whole_0, w_nearest_whole_1, s_told, wRet, wRetN, wSeq, wNext, wIfS, wAsg, wName, wPar, wDrop, wDPut, wFor, wISeq, wIRng1, wIRng2, wVar, wC, wNil, wCons, wBin, wUn, wCB, wTst, wAnd, wOr, DL.wNot, wAndV, wOrV, wNotV, wIf, wTup, wLst, wLstM, wCall, wGTup, wGCons, wGNil, wBrk, wCnt, wRaise, gI, gU, gOne , DL.gSub, gMul, gMod, gDiv, gPow, gLt, gLe, gGt, gGe, gNeg, gAbs, gMax2, gMin2, gInt2, wChain, wPar3, dstart, List.map_cons, List.map_nil, List.length_cons, List.length_nil, List.replicate, List.cons_append, List.nil_append, List.append_nil, List.getElem?_cons_zero, List.getElem?_cons_succ, List.set_cons_zero, List.set_cons_succ, Option.some.injEq, exists_eq_left', exists_eq_left, D.int.injEq, D.bl.injEq, D.str.injEq, D.tup.injEq, D.lst.injEq, D.obj.injEq, List.cons.injEq, and_true, true_and, Nat.zero_add, Nat.reduceAdd, Nat.reduceSub, decide_eq_true_eq, Bool.not_eq_true', decide_eq_false_iff_not, exists_and_left, exists_and_right, and_assoc, Bool.true_eq_false, Bool.false_eq_true, if_true, if_false, ne_eq]
  exact one_ok oa za q fun la q => ⟨(low_mul (by decide) la.1).1, gAdd_int.mpr ⟨(low_mul (by decide) la.2.1).1, _, rfl, low_div (by have := la.2.2; omega) (by have := la.2.1; omega), q⟩⟩
theorem p_ratio_text (K : PySem.W.Frag) (CB : Addr) : ∀ ds μ Q F, s_one CB fText ds μ Q F → ds.length = 1 ∧ w_ratio_text K (s_told CB) { nx := fun _ μ' => Q .non μ', rt := Q } F (dstart ["value", "top", "bottom"] ds) μ := by
  rintro _ μ Q F ⟨a, rfl, oa, za, q⟩
  refine ⟨rfl, ?_⟩
  simp only [w_ratio_text, w_ratio_text_0, w_ratio_text_1, s_told, wRet, wRetN, wSeq, wNext, wIfS, wAsg, wName, wPar, wDrop, wDPut, wFor, wISeq, wIRng1, wIRng2, wVar, wC, wNil, wCons, wBin, wUn, wCB, wTst, wAnd, wOr, DL.wNot, wAndV, wOrV, wNotV, wIf, wTup, wLst, wLstM, wCall, wGTup, wGCons, wGNil, wBrk, wCnt, wRaise, gI, gU, gOne , DL.gSub, gMul, gMod, gDiv, gPow, gLt, gLe, gGt, gGe, gNeg, gAbs, gMax2, gMin2, gInt2, wChain, wPar3, dstart, List.map_cons, List.map_nil, List.length_cons, List.length_nil, List.replicate, List.cons_append, List.nil_append, List.append_nil, List.getElem?_cons_zero, List.getElem?_cons_succ, List.set_cons_zero, List.set_cons_succ, Option.some.injEq, exists_eq_left', exists_eq_left, D.int.injEq, D.bl.injEq, D.str.injEq, D.tup.injEq, D.lst.injEq, D.obj.injEq, List.cons.injEq, and_true, true_and, Nat.zero_add, Nat.reduceAdd, Nat.reduceSub, decide_eq_true_eq, Bool.not_eq_true', decide_eq_false_iff_not, exists_and_left, exists_and_right, and_assoc, Bool.true_eq_false, Bool.false_eq_true, if_true, if_false, ne_eq]
  refine one_ok oa za q fun la q => gEq_int.mpr ⟨_, rfl, ?_⟩
  have l1 : (rN a).natAbs < 10 ^ 500 := Nat.lt_trans la.1 (by decide +kernel)
  have l2 : (rD a).natAbs < 10 ^ 500 := Nat.lt_trans la.2.1 (by decide +kernel)
  by_cases h : rD a = 1
  · rw [if_pos (by simpa using h)]
    refine gStr_int l1 ?_
    unfold fText at q
    rw [if_pos h] at q
    exact q
  · rw [if_neg (by simpa using h)]
    unfold fText at q
    rw [if_neg h] at q
    have t1 := txt_len l1
    have t2 := txt_len l2
    have e : (txt (rN a) ++ Str.ofString "/").length = (txt (rN a)).length + 1 := by rw [strLen_append]; rfl
    refine gStr_int l1 (gAdd_str ?_ (gStr_int l2 (gAdd_str ?_ q)))
    · show (txt (rN a)).length + 1 ≤ _
      omega
    · show (txt (rN a) ++ Str.ofString "/").length + _ ≤ _
      omega
def s__law_is_whole : DF := s_is_whole
theorem p__law_is_whole (K : PySem.W.Frag) : ∀ ds μ Q F, s__law_is_whole ds μ Q F → ds.length = 1 ∧ w__law_is_whole K { nx := fun _ μ' => Q .non μ', rt := Q } F (dstart ["_law_thing"] ds) μ := p_is_whole K
/-! ### _law_ratio -/
def s__law_ratio : DF := fun ds μ Q _ => ∃ p most m, ds = [.obj p, .int most] ∧ 0 ≤ most ∧ most ≤ 10 ^ 12 ∧ Pen p μ m ∧ m + 3 ≤ 1000000 ∧ ∀ n d μ', red n d → n.natAbs ≤ most.natAbs * 100 → d.natAbs ≤ 100 → Only p μ μ' → Pen p μ' (m + 3) → Q (.tup [.int n, .int d]) μ'
theorem p__law_ratio (K : PySem.W.Frag) : ∀ ds μ Q F, s__law_ratio ds μ Q F → ds.length = 2 ∧ w__law_ratio K s__law_pick s__law_draw s__law_q { nx := fun _ μ' => Q .non μ', rt := Q } F (dstart ["_law_pen_here", "_law_most", "_law_bottom"] ds) μ := by
  rintro _ μ Q F ⟨p, most, m, rfl, h0, h1, pen, hm, q⟩
  refine ⟨rfl, ?_⟩
  simp only [w__law_ratio, w__law_ratio_0, w__law_ratio_1, wRet, wRetN, wSeq, wNext, wIfS, wAsg, wName, wPar, wDrop, wDPut, wFor, wISeq, wIRng1, wIRng2, wVar, wC, wNil, wCons, wBin, wUn, wCB, wTst, wAnd, wOr, DL.wNot, wAndV, wOrV, wNotV, wIf, wTup, wLst, wLstM, wCall, wGTup, wGCons, wGNil, wBrk, wCnt, wRaise, gI, gU, gOne , DL.gSub, gMul, gMod, gDiv, gPow, gLt, gLe, gGt, gGe, gNeg, gAbs, gMax2, gMin2, gInt2, wChain, wPar3, dstart, List.map_cons, List.map_nil, List.length_cons, List.length_nil, List.replicate, List.cons_append, List.nil_append, List.append_nil, List.getElem?_cons_zero, List.getElem?_cons_succ, List.set_cons_zero, List.set_cons_succ, Option.some.injEq, exists_eq_left', exists_eq_left, D.int.injEq, D.bl.injEq, D.str.injEq, D.tup.injEq, D.lst.injEq, D.obj.injEq, List.cons.injEq, and_true, true_and, Nat.zero_add, Nat.reduceAdd, Nat.reduceSub, decide_eq_true_eq, Bool.not_eq_true', decide_eq_false_iff_not, exists_and_left, exists_and_right, and_assoc, Bool.true_eq_false, Bool.false_eq_true, if_true, if_false, ne_eq, gAdd_int]
  refine ⟨p, 99, m, rfl, by decide, by decide, pen, by omega, fun v μ1 v0 v1 u1 pen1 => ?_⟩
  simp only [dstart, List.map_cons, List.map_nil, List.length_cons, List.length_nil, List.replicate, List.cons_append, List.nil_append, List.append_nil, List.getElem?_cons_zero, List.getElem?_cons_succ, List.set_cons_zero, List.set_cons_succ, Option.some.injEq, exists_eq_left', exists_eq_left, D.int.injEq, D.bl.injEq, D.str.injEq, D.tup.injEq, D.lst.injEq, D.obj.injEq, List.cons.injEq, and_true, true_and, Nat.zero_add, Nat.reduceAdd, Nat.reduceSub, decide_eq_true_eq, Bool.not_eq_true', decide_eq_false_iff_not, exists_and_left, exists_and_right, and_assoc, Bool.true_eq_false, Bool.false_eq_true, if_true, if_false, ne_eq, gAdd_int]
  refine ⟨by decide, p, _, _, .inl rfl, by simp, by simp, pen1, by omega, fun b hb μ2 u2 pen2 => ?_⟩
  obtain ⟨j, rfl, j0, j1⟩ : ∃ j : Int, b = .int j ∧ 0 < j ∧ j ≤ 100 := by
    simp only [List.mem_cons, List.not_mem_nil, or_false] at hb
    rcases hb with rfl | rfl | rfl | rfl | rfl | rfl | rfl
    · exact ⟨1, rfl, by decide, by decide⟩
    · exact ⟨1, rfl, by decide, by decide⟩
    · exact ⟨2, rfl, by decide, by decide⟩
    · exact ⟨3, rfl, by decide, by decide⟩
    · exact ⟨7, rfl, by decide, by decide⟩
    · exact ⟨10, rfl, by decide, by decide⟩
    · exact ⟨_, rfl, by omega, by omega⟩
  have mj : 0 ≤ most * j := Int.mul_nonneg h0 (by omega)
  have mj2 : most * j ≤ most * 100 := Int.mul_le_mul_of_nonneg_left j1 h0
  have e2 : 2 * most * j = 2 * (most * j) := Int.mul_assoc 2 most j
  simp only [dstart, List.map_cons, List.map_nil, List.length_cons, List.length_nil, List.replicate, List.cons_append, List.nil_append, List.append_nil, List.getElem?_cons_zero, List.getElem?_cons_succ, List.set_cons_zero, List.set_cons_succ, Option.some.injEq, exists_eq_left', exists_eq_left, D.int.injEq, D.bl.injEq, D.str.injEq, D.tup.injEq, D.lst.injEq, D.obj.injEq, List.cons.injEq, and_true, true_and, Nat.zero_add, Nat.reduceAdd, Nat.reduceSub, decide_eq_true_eq, Bool.not_eq_true', decide_eq_false_iff_not, exists_and_left, exists_and_right, and_assoc, Bool.true_eq_false, Bool.false_eq_true, if_true, if_false, ne_eq, gAdd_int, wRet, wRetN, wSeq, wNext, wIfS, wAsg, wName, wPar, wDrop, wDPut, wFor, wISeq, wIRng1, wIRng2, wVar, wC, wNil, wCons, wBin, wUn, wCB, wTst, wAnd, wOr, DL.wNot, wAndV, wOrV, wNotV, wIf, wTup, wLst, wLstM, wCall, wGTup, wGCons, wGNil, wBrk, wCnt, wRaise, gI, gU, gOne , DL.gSub, gMul, gMod, gDiv, gPow, gLt, gLe, gGt, gGe, gNeg, gAbs, gMax2, gMin2, gInt2, wChain, wPar3]
  refine ⟨mul_small (by omega) (by omega), mul_small (by omega) (by omega), p, _, _, rfl, by omega, by omega, pen2, by omega, fun v μ3 v0 v1 u3 pen3 => ?_⟩
  have hj : j ≠ 0 := by omega
  have t1 : (v - most * j).natAbs ≤ most.natAbs * 100 := by omega
  refine ⟨mul_small (by omega) (by omega), v, rfl, v - most * j, j, rfl, hj, ?_, ?_, q _ _ μ3 (q_red hj) (Nat.le_trans (qN_le hj) t1) (Nat.le_trans (qD_le hj) (by omega)) ((u1.trans u2).trans u3) (pen3.mono (by omega))⟩
  · exact Nat.lt_of_le_of_lt (show (v - most * j).natAbs ≤ 10 ^ 15 by omega) (by decide +kernel)
  · exact Nat.lt_of_le_of_lt (show j.natAbs ≤ 10 ^ 15 by omega) (by decide +kernel)
/-! ### the law -/
section
variable (K : PySem.W.Frag) {af an at' CB : Addr} {T : List (Addr × Str)} {p : Addr} {Q : DK} {F : FK} {B C : DSt → M → Prop}
theorem fits {n d : Int} {v : D} (h : pass n d v) (r : red n d) (hn : n.natAbs < 10 ^ 18) (hd : d.natAbs ≤ 10 ^ 18) {g : Int → Int → D} {μ : M} {Q : DK} {F : FK} (q : Q (g n d) μ) : s_one CB g [v] μ Q F := by
  obtain ⟨a1, a2, a3, a4, a5, a6, _⟩ := pass_ok h r hn hd
  refine ⟨v, rfl, a1, a2, ?_⟩
  rw [if_pos a3, a4, a5]
  exact ⟨a6, q⟩
theorem part3 {x0 l o1 o3 o5 o6 o9 o10 : Option D} {v : D} {i j : Int} {μ : M} {R : DSt → M → Prop} (q : R [x0, o1, l, o3, some v, o5, o6, some (.int i), some (.int j), o9, o10] μ) :
    w_law_1_3 K af an at' s__law_pen s__law_pick s__law_ratio s__law_far s__law_q s__law_some_ratio s__law_passed (s_one CB fNear) (s_one CB fFloor) s__law_is_whole (s_one CB fText) s__law_any T (t__law_why CB) { nx := R, rt := Q, bk := B, ct := C } F [x0, o1, l, o3, some v, o5, o6, some (.int i), some (.int j), o9, o10] μ := by
  simp only [w_law_1_3, wRet, wRetN, wSeq, wNext, wIfS, wAsg, wName, wPar, wDrop, wDPut, wFor, wISeq, wIRng1, wIRng2, wVar, wC, wNil, wCons, wBin, wUn, wCB, wTst, wAnd, wOr, DL.wNot, wAndV, wOrV, wNotV, wIf, wTup, wLst, wLstM, wCall, wGTup, wGCons, wGNil, wBrk, wCnt, wRaise, gI, gU, gOne , DL.gSub, gMul, gMod, gDiv, gPow, gLt, gLe, gGt, gGe, gNeg, gAbs, gMax2, gMin2, gInt2, wChain, wPar3, dstart, List.map_cons, List.map_nil, List.length_cons, List.length_nil, List.replicate, List.cons_append, List.nil_append, List.append_nil, List.getElem?_cons_zero, List.getElem?_cons_succ, List.set_cons_zero, List.set_cons_succ, Option.some.injEq, exists_eq_left', exists_eq_left, D.int.injEq, D.bl.injEq, D.str.injEq, D.tup.injEq, D.lst.injEq, D.obj.injEq, List.cons.injEq, and_true, true_and, Nat.zero_add, Nat.reduceAdd, Nat.reduceSub, decide_eq_true_eq, Bool.not_eq_true', decide_eq_false_iff_not, exists_and_left, exists_and_right, and_assoc, Bool.true_eq_false, Bool.false_eq_true, if_true, if_false, ne_eq]
  refine ⟨_, _, rfl, rfl, _, rfl, ?_⟩
  rw [if_neg (by simp [isW])]
  refine ⟨_, _, rfl, rfl, _, rfl, ?_⟩
  rw [if_neg (by simp [isW])]
  exact q
theorem str_nil (x : Str) : x = x ++ Str.ofString "" := by
  obtain ⟨a⟩ := x
  show (⟨a⟩ : Str) = ⟨a ++ #[]⟩
  simp
theorem fl {n d : Int} (h : 0 < d) : n.fdiv d * d ≤ n ∧ n < (n.fdiv d + 1) * d := by
  have e := Int.mul_fdiv_add_fmod n d
  have h1 := Int.fmod_nonneg_of_pos n h
  have h2 := Int.fmod_lt_of_pos n h
  have e2 : d * n.fdiv d = n.fdiv d * d := Int.mul_comm ..
  rw [Int.add_mul, Int.one_mul]
  constructor <;> omega
theorem nr {n d : Int} (h : 0 < d) : -d ≤ 2 * (n - (2 * n + d).fdiv (2 * d) * d) ∧ 2 * (n - (2 * n + d).fdiv (2 * d) * d) < d := by
  have e := Int.mul_fdiv_add_fmod (2 * n + d) (2 * d)
  have h1 := Int.fmod_nonneg_of_pos (2 * n + d) (b := 2 * d) (by omega)
  have h2 := Int.fmod_lt_of_pos (2 * n + d) (b := 2 * d) (by omega)
  have e2 : 2 * d * (2 * n + d).fdiv (2 * d) = 2 * ((2 * n + d).fdiv (2 * d) * d) := by rw [Int.mul_assoc, Int.mul_comm d]
  constructor <;> omega
theorem lap {x0 l o3 o4 o5 o6 o7 o8 o9 o10 : Option D} {μ : M} {m : Nat} {R : DSt → M → Prop} (g : Go T p μ m) (hm : m + 100 ≤ 1000000)
    (next : ∀ d3 d4 d5 d6 d7 d8 d9 d10 μ', Go T p μ' (m + 100) → R [x0, some (.obj p), l, d3, d4, d5, d6, d7, d8, d9, d10] μ') :
    wSeq (w_law_1_0 K af an at' s__law_pen s__law_pick s__law_ratio s__law_far s__law_q s__law_some_ratio s__law_passed (s_one CB fNear) (s_one CB fFloor) s__law_is_whole (s_one CB fText) s__law_any T (t__law_why CB)) (wSeq (w_law_1_1 K af an at' s__law_pen s__law_pick s__law_ratio s__law_far s__law_q s__law_some_ratio s__law_passed (s_one CB fNear) (s_one CB fFloor) s__law_is_whole (s_one CB fText) s__law_any T (t__law_why CB)) (wSeq (w_law_1_2 K af an at' s__law_pen s__law_pick s__law_ratio s__law_far s__law_q s__law_some_ratio s__law_passed (s_one CB fNear) (s_one CB fFloor) s__law_is_whole (s_one CB fText) s__law_any T (t__law_why CB)) (wSeq (w_law_1_3 K af an at' s__law_pen s__law_pick s__law_ratio s__law_far s__law_q s__law_some_ratio s__law_passed (s_one CB fNear) (s_one CB fFloor) s__law_is_whole (s_one CB fText) s__law_any T (t__law_why CB)) (wSeq (w_law_1_4 K af an at' s__law_pen s__law_pick s__law_ratio s__law_far s__law_q s__law_some_ratio s__law_passed (s_one CB fNear) (s_one CB fFloor) s__law_is_whole (s_one CB fText) s__law_any T (t__law_why CB)) (wSeq (w_law_1_5 K af an at' s__law_pen s__law_pick s__law_ratio s__law_far s__law_q s__law_some_ratio s__law_passed (s_one CB fNear) (s_one CB fFloor) s__law_is_whole (s_one CB fText) s__law_any T (t__law_why CB)) (wSeq (w_law_1_6 K af an at' s__law_pen s__law_pick s__law_ratio s__law_far s__law_q s__law_some_ratio s__law_passed (s_one CB fNear) (s_one CB fFloor) s__law_is_whole (s_one CB fText) s__law_any T (t__law_why CB)) (wSeq (w_law_1_7 K af an at' s__law_pen s__law_pick s__law_ratio s__law_far s__law_q s__law_some_ratio s__law_passed (s_one CB fNear) (s_one CB fFloor) s__law_is_whole (s_one CB fText) s__law_any T (t__law_why CB)) (w_law_1_8 K af an at' s__law_pen s__law_pick s__law_ratio s__law_far s__law_q s__law_some_ratio s__law_passed (s_one CB fNear) (s_one CB fFloor) s__law_is_whole (s_one CB fText) s__law_any T (t__law_why CB)))))))))
      { nx := R, rt := Q, bk := B, ct := C } F [x0, some (.obj p), l, o3, o4, o5, o6, o7, o8, o9, o10] μ := by
  unfold wSeq
  simp only [w_law_1_0, wRet, wRetN, wSeq, wNext, wIfS, wAsg, wName, wPar, wDrop, wDPut, wFor, wISeq, wIRng1, wIRng2, wVar, wC, wNil, wCons, wBin, wUn, wCB, wTst, wAnd, wOr, DL.wNot, wAndV, wOrV, wNotV, wIf, wTup, wLst, wLstM, wCall, wGTup, wGCons, wGNil, wBrk, wCnt, wRaise, gI, gU, gOne , DL.gSub, gMul, gMod, gDiv, gPow, gLt, gLe, gGt, gGe, gNeg, gAbs, gMax2, gMin2, gInt2, wChain, wPar3, dstart, List.map_cons, List.map_nil, List.length_cons, List.length_nil, List.replicate, List.cons_append, List.nil_append, List.append_nil, List.getElem?_cons_zero, List.getElem?_cons_succ, List.set_cons_zero, List.set_cons_succ, Option.some.injEq, exists_eq_left', exists_eq_left, D.int.injEq, D.bl.injEq, D.str.injEq, D.tup.injEq, D.lst.injEq, D.obj.injEq, List.cons.injEq, and_true, true_and, Nat.zero_add, Nat.reduceAdd, Nat.reduceSub, decide_eq_true_eq, Bool.not_eq_true', decide_eq_false_iff_not, exists_and_left, exists_and_right, and_assoc, Bool.true_eq_false, Bool.false_eq_true, if_true, if_false, ne_eq]
  refine ⟨p, m, rfl, g.pen, by omega, fun n0 d0 μ1 r1 n1 d1 u1 pen1 => ⟨p, _, rfl, pen1, by omega, fun f μ2 hf u2 pen2 => ?_⟩⟩
  refine ⟨f, 2, rfl, by decide, Nat.lt_trans hf (by decide +kernel), by decide +kernel, p, _, rfl, pen2, by omega, fun f2 μ3 hf2 u3 pen3 => ⟨by decide, p, 9, _, rfl, by decide, by decide, pen3, by omega, fun n4 d4 μ4 r4 hn4 hd4 u4 pen4 => ⟨by decide, p, _, _, .inl rfl, by simp, by simp, pen4, by omega, fun v hv μ5 u5 pen5 => ?_⟩⟩⟩
  have two : red (qN f 2) (qD f 2) := q_red (by decide)
  obtain ⟨n, d, rfl, r, hn, hd⟩ : ∃ n d, v = .tup [.int n, .int d] ∧ red n d ∧ n.natAbs < 10 ^ 18 ∧ d.natAbs ≤ 10 ^ 18 := by
    simp only [List.mem_cons, List.not_mem_nil, or_false] at hv
    rcases hv with rfl | rfl | rfl | rfl
    · exact ⟨_, _, rfl, r1, n1, d1⟩
    · exact ⟨_, _, rfl, two, Nat.lt_of_le_of_lt (qN_le (by decide)) hf, Nat.le_trans (qD_le (by decide)) (by decide)⟩
    · exact ⟨_, _, rfl, ⟨by decide, by simp⟩, hf2, by decide⟩
    · exact ⟨_, _, rfl, r4, by have : (9 : Int).natAbs = 9 := rfl; omega, by omega⟩
  have g5 := ((((g.go u1 pen1).go u2 pen2).go u3 pen3).go u4 pen4).go u5 pen5
  have l1 : lowP n d := ⟨by omega, by omega, r.1⟩
  simp only [w_law_1_1, wRet, wRetN, wSeq, wNext, wIfS, wAsg, wName, wPar, wDrop, wDPut, wFor, wISeq, wIRng1, wIRng2, wVar, wC, wNil, wCons, wBin, wUn, wCB, wTst, wAnd, wOr, DL.wNot, wAndV, wOrV, wNotV, wIf, wTup, wLst, wLstM, wCall, wGTup, wGCons, wGNil, wBrk, wCnt, wRaise, gI, gU, gOne , DL.gSub, gMul, gMod, gDiv, gPow, gLt, gLe, gGt, gGe, gNeg, gAbs, gMax2, gMin2, gInt2, wChain, wPar3, dstart, List.map_cons, List.map_nil, List.length_cons, List.length_nil, List.replicate, List.cons_append, List.nil_append, List.append_nil, List.getElem?_cons_zero, List.getElem?_cons_succ, List.set_cons_zero, List.set_cons_succ, Option.some.injEq, exists_eq_left', exists_eq_left, D.int.injEq, D.bl.injEq, D.str.injEq, D.tup.injEq, D.lst.injEq, D.obj.injEq, List.cons.injEq, and_true, true_and, Nat.zero_add, Nat.reduceAdd, Nat.reduceSub, decide_eq_true_eq, Bool.not_eq_true', decide_eq_false_iff_not, exists_and_left, exists_and_right, and_assoc, Bool.true_eq_false, Bool.false_eq_true, if_true, if_false, ne_eq, gIx_tup, atI_0, atI_1]
  refine ⟨p, n, d, _, rfl, l1, pen5, by omega, fun a μ6 pa u6 pen6 => ?_⟩
  have g6 := g5.go u6 pen6
  simp only [w_law_1_2, wRet, wRetN, wSeq, wNext, wIfS, wAsg, wName, wPar, wDrop, wDPut, wFor, wISeq, wIRng1, wIRng2, wVar, wC, wNil, wCons, wBin, wUn, wCB, wTst, wAnd, wOr, DL.wNot, wAndV, wOrV, wNotV, wIf, wTup, wLst, wLstM, wCall, wGTup, wGCons, wGNil, wBrk, wCnt, wRaise, gI, gU, gOne , DL.gSub, gMul, gMod, gDiv, gPow, gLt, gLe, gGt, gGe, gNeg, gAbs, gMax2, gMin2, gInt2, wChain, wPar3, dstart, List.map_cons, List.map_nil, List.length_cons, List.length_nil, List.replicate, List.cons_append, List.nil_append, List.append_nil, List.getElem?_cons_zero, List.getElem?_cons_succ, List.set_cons_zero, List.set_cons_succ, Option.some.injEq, exists_eq_left', exists_eq_left, D.int.injEq, D.bl.injEq, D.str.injEq, D.tup.injEq, D.lst.injEq, D.obj.injEq, List.cons.injEq, and_true, true_and, Nat.zero_add, Nat.reduceAdd, Nat.reduceSub, decide_eq_true_eq, Bool.not_eq_true', decide_eq_false_iff_not, exists_and_left, exists_and_right, and_assoc, Bool.true_eq_false, Bool.false_eq_true, if_true, if_false, ne_eq]
  refine fits pa r hn hd (fits pa r hn hd ?_)
  refine part3 K ?_
  have dp : 0 < d := r.1
  have f1 := fl (n := n) dp
  have f2' := nr (n := n) dp
  have fa : (n.fdiv d).natAbs < 10 ^ 50 := by
    have e1 : n.fdiv d * d < 10 ^ 19 := by omega
    have e2 : -(10 ^ 19) < (n.fdiv d + 1) * d := by omega
    have : (n.fdiv d) < 10 ^ 19 := by
      rcases Int.lt_or_le (n.fdiv d) (10 ^ 19) with h | h
      · exact h
      · have : 10 ^ 19 * 1 ≤ n.fdiv d * d := Int.mul_le_mul h (by omega) (by omega) (by omega)
        omega
    have : -(10 ^ 19) - 1 < (n.fdiv d) := by
      rcases Int.lt_or_le (-(10 ^ 19) - 1) (n.fdiv d) with h | h
      · exact h
      · have h' : n.fdiv d + 1 ≤ -(10 ^ 19) := by omega
        have : (n.fdiv d + 1) * d ≤ -(10 ^ 19) * 1 := by
          have a1 : (n.fdiv d + 1) * d ≤ -(10 ^ 19) * d := Int.mul_le_mul_of_nonneg_right h' (by omega)
          omega
        omega
    omega
  have low : ∀ {x y : Int}, x.natAbs < 10 ^ 60 → y.natAbs < 10 ^ 60 → CMulW x y := fun h1 h2 => (low_mul h1 h2).1
  have dl : d.natAbs < 10 ^ 60 := by omega
  simp only [w_law_1_4, wRet, wRetN, wSeq, wNext, wIfS, wAsg, wName, wPar, wDrop, wDPut, wFor, wISeq, wIRng1, wIRng2, wVar, wC, wNil, wCons, wBin, wUn, wCB, wTst, wAnd, wOr, DL.wNot, wAndV, wOrV, wNotV, wIf, wTup, wLst, wLstM, wCall, wGTup, wGCons, wGNil, wBrk, wCnt, wRaise, gI, gU, gOne , DL.gSub, gMul, gMod, gDiv, gPow, gLt, gLe, gGt, gGe, gNeg, gAbs, gMax2, gMin2, gInt2, wChain, wPar3, dstart, List.map_cons, List.map_nil, List.length_cons, List.length_nil, List.replicate, List.cons_append, List.nil_append, List.append_nil, List.getElem?_cons_zero, List.getElem?_cons_succ, List.set_cons_zero, List.set_cons_succ, Option.some.injEq, exists_eq_left', exists_eq_left, D.int.injEq, D.bl.injEq, D.str.injEq, D.tup.injEq, D.lst.injEq, D.obj.injEq, List.cons.injEq, and_true, true_and, Nat.zero_add, Nat.reduceAdd, Nat.reduceSub, decide_eq_true_eq, Bool.not_eq_true', decide_eq_false_iff_not, exists_and_left, exists_and_right, and_assoc, Bool.true_eq_false, Bool.false_eq_true, if_true, if_false, ne_eq, gAdd_int, fFloor, fNear]
  refine ⟨low (by omega) dl, ?_⟩
  rw [if_pos f1.1]
  refine ⟨low (by omega) dl, ?_⟩
  rw [if_neg (Decidable.not_not.mpr f1.2)]
  have na : ((2 * n + d).fdiv (2 * d)).natAbs < 10 ^ 60 := by
    generalize (2 * n + d).fdiv (2 * d) = x at f2'
    have e1 : -(10 ^ 20) < x * d ∧ x * d < 10 ^ 20 := by omega
    have h1 : x < 10 ^ 20 := by
      rcases Int.lt_or_le x (10 ^ 20) with h | h
      · exact h
      · have : 10 ^ 20 * 1 ≤ x * d := Int.mul_le_mul h (by omega) (by omega) (by omega)
        omega
    have h2 : -(10 ^ 20) < x := by
      rcases Int.lt_or_le (-(10 ^ 20)) x with h | h
      · exact h
      · have a1 : x * d ≤ -(10 ^ 20) * d := Int.mul_le_mul_of_nonneg_right h (by omega)
        omega
    omega
  simp only [w_law_1_5, wRet, wRetN, wSeq, wNext, wIfS, wAsg, wName, wPar, wDrop, wDPut, wFor, wISeq, wIRng1, wIRng2, wVar, wC, wNil, wCons, wBin, wUn, wCB, wTst, wAnd, wOr, DL.wNot, wAndV, wOrV, wNotV, wIf, wTup, wLst, wLstM, wCall, wGTup, wGCons, wGNil, wBrk, wCnt, wRaise, gI, gU, gOne , DL.gSub, gMul, gMod, gDiv, gPow, gLt, gLe, gGt, gGe, gNeg, gAbs, gMax2, gMin2, gInt2, wChain, wPar3, dstart, List.map_cons, List.map_nil, List.length_cons, List.length_nil, List.replicate, List.cons_append, List.nil_append, List.append_nil, List.getElem?_cons_zero, List.getElem?_cons_succ, List.set_cons_zero, List.set_cons_succ, Option.some.injEq, exists_eq_left', exists_eq_left, D.int.injEq, D.bl.injEq, D.str.injEq, D.tup.injEq, D.lst.injEq, D.obj.injEq, List.cons.injEq, and_true, true_and, Nat.zero_add, Nat.reduceAdd, Nat.reduceSub, decide_eq_true_eq, Bool.not_eq_true', decide_eq_false_iff_not, exists_and_left, exists_and_right, and_assoc, Bool.true_eq_false, Bool.false_eq_true, if_true, if_false, ne_eq, gAdd_int]
  refine ⟨low na dl, low (by decide) (by omega), ?_⟩
  rw [if_pos f2'.1, if_neg (Decidable.not_not.mpr f2'.2)]
  simp only [w_law_1_6, wRet, wRetN, wSeq, wNext, wIfS, wAsg, wName, wPar, wDrop, wDPut, wFor, wISeq, wIRng1, wIRng2, wVar, wC, wNil, wCons, wBin, wUn, wCB, wTst, wAnd, wOr, DL.wNot, wAndV, wOrV, wNotV, wIf, wTup, wLst, wLstM, wCall, wGTup, wGCons, wGNil, wBrk, wCnt, wRaise, gI, gU, gOne , DL.gSub, gMul, gMod, gDiv, gPow, gLt, gLe, gGt, gGe, gNeg, gAbs, gMax2, gMin2, gInt2, wChain, wPar3, dstart, List.map_cons, List.map_nil, List.length_cons, List.length_nil, List.replicate, List.cons_append, List.nil_append, List.append_nil, List.getElem?_cons_zero, List.getElem?_cons_succ, List.set_cons_zero, List.set_cons_succ, Option.some.injEq, exists_eq_left', exists_eq_left, D.int.injEq, D.bl.injEq, D.str.injEq, D.tup.injEq, D.lst.injEq, D.obj.injEq, List.cons.injEq, and_true, true_and, Nat.zero_add, Nat.reduceAdd, Nat.reduceSub, decide_eq_true_eq, Bool.not_eq_true', decide_eq_false_iff_not, exists_and_left, exists_and_right, and_assoc, Bool.true_eq_false, Bool.false_eq_true, if_true, if_false, ne_eq]
  refine fits pa r hn hd ?_
  have l500 : n.natAbs < 10 ^ 500 := Nat.lt_trans hn (by decide +kernel)
  have l501 : d.natAbs < 10 ^ 500 := Nat.lt_of_le_of_lt hd (by decide +kernel)
  have tn := txt_len l500
  have td := txt_len l501
  have ok : okT (if d = 1 then txt n else txt n ++ "/" ++ txt d) := by
    by_cases h : d = 1
    · rw [if_pos h]
      exact txt_ok l500
    · rw [if_neg h]
      exact okT_app (okT_app (txt_ok l500) (okT_of (by decide +kernel))) (txt_ok l501)
  have same : (if d = 1 then txt n else txt n ++ "/" ++ txt d) = txt n ++ (if d = 1 then Str.ofString "" else Str.ofString "/" ++ txt d) := by
    by_cases h : d = 1
    · rw [if_pos h, if_pos h]
      exact str_nil _
    · rw [if_neg h, if_neg h]
      exact Str.append_assoc _ _ _
  have ne : (txt n ++ Str.ofString "/").length = (txt n).length + 1 := by rw [strLen_append]; rfl
  have ne2 : (Str.ofString "/" ++ txt d).length = 1 + (txt d).length := by rw [strLen_append]; rfl
  have fin : gEq true (.str (if d = 1 then txt n else txt n ++ "/" ++ txt d)) (.str (txt n ++ (if d = 1 then Str.ofString "" else Str.ofString "/" ++ txt d))) μ6 fun d_1 μ1 => ∃ k, d_1 = D.bl k ∧ if k = true then Q (.bl false) μ1 else
      w_law_1_7 K af an at' s__law_pen s__law_pick s__law_ratio s__law_far s__law_q s__law_some_ratio s__law_passed (s_one CB fNear) (s_one CB fFloor) s__law_is_whole (s_one CB fText) s__law_any T (t__law_why CB) { nx := fun δ' μ' => w_law_1_8 K af an at' s__law_pen s__law_pick s__law_ratio s__law_far s__law_q s__law_some_ratio s__law_passed (s_one CB fNear) (s_one CB fFloor) s__law_is_whole (s_one CB fText) s__law_any T (t__law_why CB) { nx := R, rt := Q, bk := B, ct := C } F δ' μ', rt := Q, bk := B, ct := C } F [x0, some (.obj p), l, some (.tup [.int n, .int d]), some a, some (.int n), some (.int d), some (.int (n.fdiv d)), some (.int ((2 * n + d).fdiv (2 * d))), o9, o10] μ1 := by
    rw [← same]
    refine ne_self ok ⟨_, rfl, ?_⟩
    rw [if_neg (by decide)]
    simp only [w_law_1_7, wRet, wRetN, wSeq, wNext, wIfS, wAsg, wName, wPar, wDrop, wDPut, wFor, wISeq, wIRng1, wIRng2, wVar, wC, wNil, wCons, wBin, wUn, wCB, wTst, wAnd, wOr, DL.wNot, wAndV, wOrV, wNotV, wIf, wTup, wLst, wLstM, wCall, wGTup, wGCons, wGNil, wBrk, wCnt, wRaise, gI, gU, gOne , DL.gSub, gMul, gMod, gDiv, gPow, gLt, gLe, gGt, gGe, gNeg, gAbs, gMax2, gMin2, gInt2, wChain, wPar3, dstart, List.map_cons, List.map_nil, List.length_cons, List.length_nil, List.replicate, List.cons_append, List.nil_append, List.append_nil, List.getElem?_cons_zero, List.getElem?_cons_succ, List.set_cons_zero, List.set_cons_succ, Option.some.injEq, exists_eq_left', exists_eq_left, D.int.injEq, D.bl.injEq, D.str.injEq, D.tup.injEq, D.lst.injEq, D.obj.injEq, List.cons.injEq, and_true, true_and, Nat.zero_add, Nat.reduceAdd, Nat.reduceSub, decide_eq_true_eq, Bool.not_eq_true', decide_eq_false_iff_not, exists_and_left, exists_and_right, and_assoc, Bool.true_eq_false, Bool.false_eq_true, if_true, if_false, ne_eq]
    refine ⟨p, _, rfl, g6.pen, by omega, fun x hx μ7 u7 pen7 => ?_⟩
    have g7 := g6.go u7 pen7
    simp only [w_law_1_8, wRet, wRetN, wSeq, wNext, wIfS, wAsg, wName, wPar, wDrop, wDPut, wFor, wISeq, wIRng1, wIRng2, wVar, wC, wNil, wCons, wBin, wUn, wCB, wTst, wAnd, wOr, DL.wNot, wAndV, wOrV, wNotV, wIf, wTup, wLst, wLstM, wCall, wGTup, wGCons, wGNil, wBrk, wCnt, wRaise, gI, gU, gOne , DL.gSub, gMul, gMod, gDiv, gPow, gLt, gLe, gGt, gGe, gNeg, gAbs, gMax2, gMin2, gInt2, wChain, wPar3, dstart, List.map_cons, List.map_nil, List.length_cons, List.length_nil, List.replicate, List.cons_append, List.nil_append, List.append_nil, List.getElem?_cons_zero, List.getElem?_cons_succ, List.set_cons_zero, List.set_cons_succ, Option.some.injEq, exists_eq_left', exists_eq_left, D.int.injEq, D.bl.injEq, D.str.injEq, D.tup.injEq, D.lst.injEq, D.obj.injEq, List.cons.injEq, and_true, true_and, Nat.zero_add, Nat.reduceAdd, Nat.reduceSub, decide_eq_true_eq, Bool.not_eq_true', decide_eq_false_iff_not, exists_and_left, exists_and_right, and_assoc, Bool.true_eq_false, Bool.false_eq_true, if_true, if_false, ne_eq]
    refine ⟨by decide, .inl ⟨_, .inl rfl, ?_⟩⟩
    obtain ⟨h1, h2, h3, ⟨px, sx⟩, h5⟩ := odd_ok hx
    have one : ∀ (v : D) (o : Option D) (R' : DSt → M → Prop), (v = .raw (.ref af) ∨ v = .raw (.ref an) ∨ v = .raw (.ref at')) → R' [x0, some (.obj p), l, some (.tup [.int n, .int d]), some a, some (.int n), some (.int d), some (.int (n.fdiv d)), some (.int ((2 * n + d).fdiv (2 * d))), some x, some v] μ7 →
        w_law_1_8_0 K af an at' s__law_pen s__law_pick s__law_ratio s__law_far s__law_q s__law_some_ratio s__law_passed (s_one CB fNear) (s_one CB fFloor) s__law_is_whole (s_one CB fText) s__law_any T (t__law_why CB) { nx := R', rt := Q, bk := R, ct := R' } F [x0, some (.obj p), l, some (.tup [.int n, .int d]), some a, some (.int n), some (.int d), some (.int (n.fdiv d)), some (.int ((2 * n + d).fdiv (2 * d))), some x, some v] μ7 := by
      intro v o R' hv q'
      simp only [w_law_1_8_0, wRet, wRetN, wSeq, wNext, wIfS, wAsg, wName, wPar, wDrop, wDPut, wFor, wISeq, wIRng1, wIRng2, wVar, wC, wNil, wCons, wBin, wUn, wCB, wTst, wAnd, wOr, DL.wNot, wAndV, wOrV, wNotV, wIf, wTup, wLst, wLstM, wCall, wGTup, wGCons, wGNil, wBrk, wCnt, wRaise, gI, gU, gOne , DL.gSub, gMul, gMod, gDiv, gPow, gLt, gLe, gGt, gGe, gNeg, gAbs, gMax2, gMin2, gInt2, wChain, wPar3, dstart, List.map_cons, List.map_nil, List.length_cons, List.length_nil, List.replicate, List.cons_append, List.nil_append, List.append_nil, List.getElem?_cons_zero, List.getElem?_cons_succ, List.set_cons_zero, List.set_cons_succ, Option.some.injEq, exists_eq_left', exists_eq_left, D.int.injEq, D.bl.injEq, D.str.injEq, D.tup.injEq, D.lst.injEq, D.obj.injEq, List.cons.injEq, and_true, true_and, Nat.zero_add, Nat.reduceAdd, Nat.reduceSub, decide_eq_true_eq, Bool.not_eq_true', decide_eq_false_iff_not, exists_and_left, exists_and_right, and_assoc, Bool.true_eq_false, Bool.false_eq_true, if_true, if_false, ne_eq, wLamC]
      refine ⟨g7.tab, fun F' hF => ?_⟩
      have fin : ∀ g (Q' : DK), s_one CB g [x] μ7 Q' F' := fun g Q' => ⟨x, rfl, h1, h2, by
        rw [if_neg (by rw [h3]; decide)]
        refine hF _ _ ⟨_, x, px, rfl, sx, h5, ?_⟩
        exact why_eq sx h5 (okT_of (by decide +kernel)) ⟨_, rfl, by rw [if_neg (by decide)]; exact q'⟩⟩
      simp only [wCallV, wRet, wRetN, wSeq, wNext, wIfS, wAsg, wName, wPar, wDrop, wDPut, wFor, wISeq, wIRng1, wIRng2, wVar, wC, wNil, wCons, wBin, wUn, wCB, wTst, wAnd, wOr, DL.wNot, wAndV, wOrV, wNotV, wIf, wTup, wLst, wLstM, wCall, wGTup, wGCons, wGNil, wBrk, wCnt, wRaise, gI, gU, gOne , DL.gSub, gMul, gMod, gDiv, gPow, gLt, gLe, gGt, gGe, gNeg, gAbs, gMax2, gMin2, gInt2, wChain, wPar3, dstart, List.map_cons, List.map_nil, List.length_cons, List.length_nil, List.replicate, List.cons_append, List.nil_append, List.append_nil, List.getElem?_cons_zero, List.getElem?_cons_succ, List.set_cons_zero, List.set_cons_succ, Option.some.injEq, exists_eq_left', exists_eq_left, D.int.injEq, D.bl.injEq, D.str.injEq, D.tup.injEq, D.lst.injEq, D.obj.injEq, List.cons.injEq, and_true, true_and, Nat.zero_add, Nat.reduceAdd, Nat.reduceSub, decide_eq_true_eq, Bool.not_eq_true', decide_eq_false_iff_not, exists_and_left, exists_and_right, and_assoc, Bool.true_eq_false, Bool.false_eq_true, if_true, if_false, ne_eq]
      rcases hv with rfl | rfl | rfl
      · refine ⟨(af, s_one CB fFloor), by simp, rfl, ?_⟩
        dsimp only
        exact fin fFloor _
      · refine ⟨(an, s_one CB fNear), by simp, rfl, ?_⟩
        dsimp only
        exact fin fNear _
      · refine ⟨(at', s_one CB fText), by simp, rfl, ?_⟩
        dsimp only
        exact fin fText _
    generalize w_law_1_8_0 K af an at' s__law_pen s__law_pick s__law_ratio s__law_far s__law_q s__law_some_ratio s__law_passed (s_one CB fNear) (s_one CB fFloor) s__law_is_whole (s_one CB fText) s__law_any T (t__law_why CB) = bd at one ⊢
    simp only [wLoop, wRet, wRetN, wSeq, wNext, wIfS, wAsg, wName, wPar, wDrop, wDPut, wFor, wISeq, wIRng1, wIRng2, wVar, wC, wNil, wCons, wBin, wUn, wCB, wTst, wAnd, wOr, DL.wNot, wAndV, wOrV, wNotV, wIf, wTup, wLst, wLstM, wCall, wGTup, wGCons, wGNil, wBrk, wCnt, wRaise, gI, gU, gOne , DL.gSub, gMul, gMod, gDiv, gPow, gLt, gLe, gGt, gGe, gNeg, gAbs, gMax2, gMin2, gInt2, wChain, wPar3, dstart, List.map_cons, List.map_nil, List.length_cons, List.length_nil, List.replicate, List.cons_append, List.nil_append, List.append_nil, List.getElem?_cons_zero, List.getElem?_cons_succ, List.set_cons_zero, List.set_cons_succ, Option.some.injEq, exists_eq_left', exists_eq_left, D.int.injEq, D.bl.injEq, D.str.injEq, D.tup.injEq, D.lst.injEq, D.obj.injEq, List.cons.injEq, and_true, true_and, Nat.zero_add, Nat.reduceAdd, Nat.reduceSub, decide_eq_true_eq, Bool.not_eq_true', decide_eq_false_iff_not, exists_and_left, exists_and_right, and_assoc, Bool.true_eq_false, Bool.false_eq_true, if_true, if_false, ne_eq]
    exact one _ none _ (by simp) (one _ none _ (by simp) (one _ none _ (by simp) (next _ _ _ _ _ _ _ _ _ ⟨g7.pen.mono (by omega), g7.tab⟩)))
  refine gStr_int l500 (gEq_int.mpr ⟨_, rfl, ?_⟩)
  by_cases h : d = 1
  · rw [if_pos (by simpa using h)]
    rw [if_pos h, if_pos h] at fin
    refine gAdd_str (by show _ + 0 ≤ _; omega) ?_
    unfold fText
    rw [if_pos h]
    exact fin
  · rw [if_neg (by simpa using h)]
    rw [if_neg h, if_neg h] at fin
    refine gStr_int l501 (gAdd_str (by show 1 + _ ≤ _; omega) (gAdd_str (by omega) ?_))
    unfold fText
    rw [if_neg h]
    exact fin
theorem p_law : ∀ ds μ Q F, s_law T ds μ Q F → ds.length = 1 ∧ w_law K af an at' s__law_pen s__law_pick s__law_ratio s__law_far s__law_q s__law_some_ratio s__law_passed (s_one CB fNear) (s_one CB fFloor) s__law_is_whole (s_one CB fText) s__law_any T (t__law_why CB) { nx := fun _ μ' => Q .non μ', rt := Q } F (dstart ["_law_script", "_law_pen_here", "_law_lap", "_law_ratio_here", "_law_given", "_law_top", "_law_bottom", "_law_whole", "_law_near", "_law_odd", "_law_call"] ds) μ := by
  rintro _ μ Q F ⟨ns, rfl, hl, tT, q⟩
  refine ⟨rfl, ?_⟩
  unfold w_law
  simp only [w_law_0, w_law_1, w_law_2, wRet, wRetN, wSeq, wNext, wIfS, wAsg, wName, wPar, wDrop, wDPut, wFor, wISeq, wIRng1, wIRng2, wVar, wC, wNil, wCons, wBin, wUn, wCB, wTst, wAnd, wOr, DL.wNot, wAndV, wOrV, wNotV, wIf, wTup, wLst, wLstM, wCall, wGTup, wGCons, wGNil, wBrk, wCnt, wRaise, gI, gU, gOne , DL.gSub, gMul, gMod, gDiv, gPow, gLt, gLe, gGt, gGe, gNeg, gAbs, gMax2, gMin2, gInt2, wChain, wPar3, dstart, List.map_cons, List.map_nil, List.length_cons, List.length_nil, List.replicate, List.cons_append, List.nil_append, List.append_nil, List.getElem?_cons_zero, List.getElem?_cons_succ, List.set_cons_zero, List.set_cons_succ, Option.some.injEq, exists_eq_left', exists_eq_left, D.int.injEq, D.bl.injEq, D.str.injEq, D.tup.injEq, D.lst.injEq, D.obj.injEq, List.cons.injEq, and_true, true_and, Nat.zero_add, Nat.reduceAdd, Nat.reduceSub, decide_eq_true_eq, Bool.not_eq_true', decide_eq_false_iff_not, exists_and_left, exists_and_right, and_assoc, Bool.true_eq_false, Bool.false_eq_true, if_true, if_false, ne_eq]
  refine ⟨ns, rfl, hl, fun p μ1 hp u1 pen1 => ⟨by decide, by decide, ?_⟩⟩
  refine laps_inv _ (fun i δ μ => ∃ l d3 d4 d5 d6 d7 d8 d9 d10, δ = [some (.ro (ns.map .int)), some (.obj p), l, d3, d4, d5, d6, d7, d8, d9, d10] ∧ Go T p μ (100 * i)) ⟨_, _, _, _, _, _, _, _, _, rfl, go_start tT hp u1 pen1⟩ (fun _ _ _ _ => trivial) ?_ (fun _ _ _ => q _)
  rintro i d hi δ μ2 ⟨l, d3, d4, d5, d6, d7, d8, d9, d10, rfl, g⟩ R next
  have hi6 : i < 8 := by simpa [intsD] using hi
  refine lap K g (by omega) fun d3 d4 d5 d6 d7 d8 d9 d10 μ3 g3 => next _ _ ⟨_, _, _, _, _, _, _, _, _, rfl, ?_⟩
  rw [Nat.mul_add]
  exact g3
end
end NC

set_option maxHeartbeats 2000000
namespace NC
open PySem PySem.Spec PyProof.Rows L2 DL
def top (i : Nat) : Stmt := PySem.Challenge.pw_nearcurves_k02_whole_floors_and_texts_of.main.body.getD i (.Pass ⟨0, 0, 0, 0⟩)
def mth (i j : Nat) : Stmt := match top i with
  | .ClassDef _ _ _ b _ _ _ _ _ _ _ => b.getD j (.Pass ⟨0, 0, 0, 0⟩)
  | _ => .Pass ⟨0, 0, 0, 0⟩
theorem bt_abs : bootBuiltins "abs" = some (.builtin "abs") := by decide +kernel
theorem bt_bool : bootBuiltins "bool" = some (.type "bool") := by decide +kernel
theorem bt_int : bootBuiltins "int" = some (.type "int") := by decide +kernel
theorem bt_isinstance : bootBuiltins "isinstance" = some (.builtin "isinstance") := by decide +kernel
theorem bt_len : bootBuiltins "len" = some (.builtin "len") := by decide +kernel
theorem bt_list : bootBuiltins "list" = some (.type "list") := by decide +kernel
theorem bt_range : bootBuiltins "range" = some (.type "range") := by decide +kernel
theorem bt_repr : bootBuiltins "repr" = some (.builtin "repr") := by decide +kernel
theorem bt_str : bootBuiltins "str" = some (.type "str") := by decide +kernel
theorem bt_tuple : bootBuiltins "tuple" = some (.type "tuple") := by decide +kernel
section
variable {P : Program} {w : World} {K : PySem.W.Frag} {mg : Str → Option Value} {base : Heap}
/-! #### is_whole -/
theorem sc_is_whole : FnScope ["value"] ["value"] (defScope (top 10)) := ⟨rfl, rfl, rfl, by decide +kernel, rfl, by decide +kernel, by decide +kernel⟩
theorem g_is_whole {wp : DF} (D : DefD K mg "is_whole" (top 10)) (B : ∀ x ∈ (["int", "isinstance", "bool"] : List Str), mg x = none) (h : ∀ ds μ Q F, wp ds μ Q F → ds.length = 1 ∧ w_is_whole K { nx := fun _ μ' => Q .non μ', rt := Q } F (dstart ["value"] ds) μ) : CalD P w K mg base 1 "is_whole" wp := by
  refine cal_of (wb := w_is_whole K) D sc_is_whole (fun _ _ _ _ _ _ us hl => match us, hl with | [_], _ => rfl) (fun f cdv A outer s H E c => ?_) h
  exact ⟨_, (pdb_one (pds_ret (pd_and (pd_callB (c_isi K rfl) (B "isinstance" (by decide)) bt_isinstance (pda_cons (pdv 0) (pda_cons (pd_ty (B "int" (by decide)) bt_int) pda_nil))) (pd_one (pd_not (pd_callB (c_isi K rfl) (B "isinstance" (by decide)) bt_isinstance (pda_cons (pdv 0) (pda_cons (pd_ty (B "bool" (by decide)) bt_bool) pda_nil))))))))⟩
/-! #### is_ratio -/
theorem sc_is_ratio : FnScope ["value"] ["value"] (defScope (top 11)) := ⟨rfl, rfl, rfl, by decide +kernel, rfl, by decide +kernel, by decide +kernel⟩
theorem g_is_ratio {wp : DF} {s_is_whole : DF} (D : DefD K mg "is_ratio" (top 11)) (B : ∀ x ∈ (["list", "tuple", "isinstance", "len"] : List Str), mg x = none) (C_is_whole : CalD P w K mg base 1 "is_whole" s_is_whole) (h : ∀ ds μ Q F, wp ds μ Q F → ds.length = 1 ∧ w_is_ratio K s_is_whole { nx := fun _ μ' => Q .non μ', rt := Q } F (dstart ["value"] ds) μ) : CalD P w K mg base 2 "is_ratio" wp := by
  refine cal_of (wb := w_is_ratio K s_is_whole) D sc_is_ratio (fun _ _ _ _ _ _ us hl => match us, hl with | [_], _ => rfl) (fun f cdv A outer s H E c => ?_) h
  exact ⟨_, (pdb_cons (pds_if (pdt_val (pd_call K rfl c C_is_whole (pda_cons (pdv 0) pda_nil))) (pdb_one (pds_ret pd_bl)) pdb_nil) (pdb_cons (pds_if (pdw_or (pdt_not (pdt_val (pd_callB (c_isi K rfl) (B "isinstance" (by decide)) bt_isinstance (pda_cons (pdv 0) (pda_cons (pd_tup (pda_cons (pd_ty (B "tuple" (by decide)) bt_tuple) (pda_cons (pd_ty (B "list" (by decide)) bt_list) pda_nil))) pda_nil))))) (pdw_or1 (pdt_cmp (o_ne c.hu) (pd_callB c_len (B "len" (by decide)) bt_len (pda_cons (pdv 0) pda_nil)) pd_int))).pdt (pdb_one (pds_ret pd_bl)) pdb_nil) (pdb_one (pds_ret (pd_and (pd_call K rfl c C_is_whole (pda_cons (pd_ix (pdv 0) pd_int) pda_nil)) (pd_and (pd_call K rfl c C_is_whole (pda_cons (pd_ix (pdv 0) pd_int) pda_nil)) (pd_one (pd_cmp o_gt (pd_ix (pdv 0) pd_int) pd_int))))))))⟩
/-! #### divisor -/
theorem sc_divisor : FnScope ["one", "other"] ["one", "other"] (defScope (top 12)) := ⟨rfl, rfl, rfl, by decide +kernel, rfl, by decide +kernel, by decide +kernel⟩
theorem g_divisor {wp : DF} (D : DefD K mg "divisor" (top 12)) (B : ∀ x ∈ (["abs"] : List Str), mg x = none) (h : ∀ ds μ Q F, wp ds μ Q F → ds.length = 2 ∧ w_divisor K { nx := fun _ μ' => Q .non μ', rt := Q } F (dstart ["one", "other"] ds) μ) : CalD P w K mg base 1 "divisor" wp := by
  refine cal_of (wb := w_divisor K) D sc_divisor (fun _ _ _ _ _ _ us hl => match us, hl with | [_, _], _ => rfl) (fun f cdv A outer s H E c => ?_) h
  exact ⟨_, (pdb_cons (pds_while (passes_of rfl) (pdt_cmp (o_ne c.hu) (pdv 1) pd_int) (pdb_one (pds_par 0 1 c.calm sc_divisor.nd (pda_cons (pdv 1) (pda_cons (pd_bin o_mod (pdv 0) (pdv 1)) pda_nil))))) (pdb_one (pds_ret (pd_callB c_abs (B "abs" (by decide)) bt_abs (pda_cons (pdv 0) pda_nil)))))⟩
/-! #### lowest -/
theorem sc_lowest : FnScope ["top", "bottom", "by"] ["top", "bottom"] (defScope (top 13)) := ⟨rfl, rfl, rfl, by decide +kernel, rfl, by decide +kernel, by decide +kernel⟩
theorem g_lowest {wp : DF} {s_divisor : DF} (D : DefD K mg "lowest" (top 13)) (C_divisor : CalD P w K mg base 1 "divisor" s_divisor) (h : ∀ ds μ Q F, wp ds μ Q F → ds.length = 2 ∧ w_lowest K s_divisor { nx := fun _ μ' => Q .non μ', rt := Q } F (dstart ["top", "bottom", "by"] ds) μ) : CalD P w K mg base 2 "lowest" wp := by
  refine cal_of (wb := w_lowest K s_divisor) D sc_lowest (fun _ _ _ _ _ _ us hl => match us, hl with | [_, _], _ => rfl) (fun f cdv A outer s H E c => ?_) h
  exact ⟨_, (pdb_cons (pds_set 2 sc_lowest.nd (pd_if (pdt_cmp o_gt (pdv 1) pd_int) (pd_call K rfl c C_divisor (pda_cons (pdv 0) (pda_cons (pdv 1) pda_nil))) (pd_un o_neg (pd_call K rfl c C_divisor (pda_cons (pdv 0) (pda_cons (pdv 1) pda_nil)))))) (pdb_one (pds_ret (pd_tup (pda_cons (pd_bin o_div (pdv 0) (pdv 2)) (pda_cons (pd_bin o_div (pdv 1) (pdv 2)) pda_nil))))))⟩
/-! #### told -/
theorem sc_told : FnScope ["value", "what"] ["value", "what"] (defScope (top 14)) := ⟨rfl, rfl, rfl, by decide +kernel, rfl, by decide +kernel, by decide +kernel⟩
theorem g_told {wp : DF} {a_BadNumber : Addr} {s_is_ratio s_is_whole s_lowest : DF} (D : DefD K mg "told" (top 14)) (C_is_ratio : CalD P w K mg base 2 "is_ratio" s_is_ratio) (C_is_whole : CalD P w K mg base 1 "is_whole" s_is_whole) (C_lowest : CalD P w K mg base 2 "lowest" s_lowest) (e_BadNumber : ExcD P w K mg base 1 "BadNumber" a_BadNumber ["what", "number"]) (h : ∀ ds μ Q F, wp ds μ Q F → ds.length = 2 ∧ w_told K a_BadNumber s_is_ratio s_is_whole s_lowest { nx := fun _ μ' => Q .non μ', rt := Q } F (dstart ["value", "what"] ds) μ) : CalD P w K mg base 3 "told" wp := by
  refine cal_of (wb := w_told K a_BadNumber s_is_ratio s_is_whole s_lowest) D sc_told (fun _ _ _ _ _ _ us hl => match us, hl with | [_, _], _ => rfl) (fun f cdv A outer s H E c => ?_) h
  exact ⟨_, (pdb_cons (pds_if (pdt_not (pdt_val (pd_call K rfl c C_is_ratio (pda_cons (pdv 0) pda_nil)))) (pdb_one (pds_raise c e_BadNumber (pda_cons (pdv 1) (pda_cons (pdv 0) pda_nil)))) pdb_nil) (pdb_one (pds_ret (pd_if (pdt_val (pd_call K rfl c C_is_whole (pda_cons (pdv 0) pda_nil))) (pd_tup (pda_cons (pdv 0) (pda_cons pd_int pda_nil))) (pd_call K rfl c C_lowest (pda_cons (pd_ix (pdv 0) pd_int) (pda_cons (pd_ix (pdv 0) pd_int) pda_nil)))))))⟩
/-! #### floor_of -/
theorem sc_floor_of : FnScope ["value", "top", "bottom"] ["value"] (defScope (top 15)) := ⟨rfl, rfl, rfl, by decide +kernel, rfl, by decide +kernel, by decide +kernel⟩
theorem g_floor_of {wp : DF} {s_told : DF} (D : DefD K mg "floor_of" (top 15)) (C_told : CalD P w K mg base 3 "told" s_told) (h : ∀ ds μ Q F, wp ds μ Q F → ds.length = 1 ∧ w_floor_of K s_told { nx := fun _ μ' => Q .non μ', rt := Q } F (dstart ["value", "top", "bottom"] ds) μ) : CalD P w K mg base 4 "floor_of" wp := by
  refine cal_of (wb := w_floor_of K s_told) D sc_floor_of (fun _ _ _ _ _ _ us hl => match us, hl with | [_], _ => rfl) (fun f cdv A outer s H E c => ?_) h
  exact ⟨_, (pdb_cons (pds_asg (pd_call K rfl c C_told (pda_cons (pdv 0) (pda_cons pd_str pda_nil))) (pdg_tup c.calm (pdgs_cons (pdg_name 1 sc_floor_of.nd) (pdgs_cons (pdg_name 2 sc_floor_of.nd) pdgs_nil)))) (pdb_one (pds_ret (pd_bin o_div (pdv 1) (pdv 2)))))⟩
/-! #### nearest_whole -/
theorem sc_nearest_whole : FnScope ["value", "top", "bottom"] ["value"] (defScope (top 16)) := ⟨rfl, rfl, rfl, by decide +kernel, rfl, by decide +kernel, by decide +kernel⟩
theorem g_nearest_whole {wp : DF} {s_told : DF} (D : DefD K mg "nearest_whole" (top 16)) (C_told : CalD P w K mg base 3 "told" s_told) (h : ∀ ds μ Q F, wp ds μ Q F → ds.length = 1 ∧ w_nearest_whole K s_told { nx := fun _ μ' => Q .non μ', rt := Q } F (dstart ["value", "top", "bottom"] ds) μ) : CalD P w K mg base 4 "nearest_whole" wp := by
  refine cal_of (wb := w_nearest_whole K s_told) D sc_nearest_whole (fun _ _ _ _ _ _ us hl => match us, hl with | [_], _ => rfl) (fun f cdv A outer s H E c => ?_) h
  exact ⟨_, (pdb_cons (pds_asg (pd_call K rfl c C_told (pda_cons (pdv 0) (pda_cons pd_str pda_nil))) (pdg_tup c.calm (pdgs_cons (pdg_name 1 sc_nearest_whole.nd) (pdgs_cons (pdg_name 2 sc_nearest_whole.nd) pdgs_nil)))) (pdb_one (pds_ret (pd_bin o_div (pd_bin o_add (pd_bin o_mul pd_int (pdv 1)) (pdv 2)) (pd_bin o_mul pd_int (pdv 2))))))⟩
/-! #### ratio_text -/
theorem sc_ratio_text : FnScope ["value", "top", "bottom"] ["value"] (defScope (top 17)) := ⟨rfl, rfl, rfl, by decide +kernel, rfl, by decide +kernel, by decide +kernel⟩
theorem g_ratio_text {wp : DF} {s_told : DF} (D : DefD K mg "ratio_text" (top 17)) (B : ∀ x ∈ (["str"] : List Str), mg x = none) (C_told : CalD P w K mg base 3 "told" s_told) (h : ∀ ds μ Q F, wp ds μ Q F → ds.length = 1 ∧ w_ratio_text K s_told { nx := fun _ μ' => Q .non μ', rt := Q } F (dstart ["value", "top", "bottom"] ds) μ) : CalD P w K mg base 4 "ratio_text" wp := by
  refine cal_of (wb := w_ratio_text K s_told) D sc_ratio_text (fun _ _ _ _ _ _ us hl => match us, hl with | [_], _ => rfl) (fun f cdv A outer s H E c => ?_) h
  exact ⟨_, (pdb_cons (pds_asg (pd_call K rfl c C_told (pda_cons (pdv 0) (pda_cons pd_str pda_nil))) (pdg_tup c.calm (pdgs_cons (pdg_name 1 sc_ratio_text.nd) (pdgs_cons (pdg_name 2 sc_ratio_text.nd) pdgs_nil)))) (pdb_one (pds_ret (pd_if (pdt_cmp (o_eq c.hu) (pdv 2) pd_int) (pd_callT c_str (B "str" (by decide)) bt_str (pda_cons (pdv 1) pda_nil)) (pd_bin o_add (pd_bin o_add (pd_callT c_str (B "str" (by decide)) bt_str (pda_cons (pdv 1) pda_nil)) pd_str) (pd_callT c_str (B "str" (by decide)) bt_str (pda_cons (pdv 2) pda_nil)))))))⟩
/-! #### _law_pen -/
theorem sc__law_pen : FnScope ["_law_script", "_law_fold", "_law_cell"] ["_law_script"] (defScope (top 19)) := ⟨rfl, rfl, rfl, by decide +kernel, rfl, by decide +kernel, by decide +kernel⟩
theorem g__law_pen {wp : DF} (D : DefD K mg "_law_pen" (top 19)) (B : ∀ x ∈ (["int", "list"] : List Str), mg x = none) (h : ∀ ds μ Q F, wp ds μ Q F → ds.length = 1 ∧ w__law_pen K { nx := fun _ μ' => Q .non μ', rt := Q } F (dstart ["_law_script", "_law_fold", "_law_cell"] ds) μ) : CalD P w K mg base 1 "_law_pen" wp := by
  refine cal_of (wb := w__law_pen K) D sc__law_pen (fun _ _ _ _ _ _ us hl => match us, hl with | [_], _ => rfl) (fun f cdv A outer s H E c => ?_) h
  exact ⟨_, (pdb_cons (pds_set 1 sc__law_pen.nd pd_int) (pdb_cons (pds_for (passes_of rfl) c.calm (pdi_seq (pdv 0)) (pdg_name 2 sc__law_pen.nd) (pdb_one (pds_set 1 sc__law_pen.nd (pd_bin o_mod (pd_callT c_int (B "int" (by decide)) bt_int (pda_cons (pd_bin o_add (pd_bin o_mul (pdv 1) pd_int) (pdv 2)) pda_nil)) pd_int)))) (pdb_one (pds_ret (pd_dctM (PPD.cons pd_str (pd_callT c_list (B "list" (by decide)) bt_list (pda_cons (pdv 0) pda_nil)) (PPD.cons pd_str pd_int (PPD.cons pd_str pd_int (PPD.cons pd_str pd_int (PPD.cons pd_str (pdv 1) PPD.nil))))))))))⟩
/-! #### _law_draw -/
theorem sc__law_draw : FnScope ["_law_pen_here", "_law_many", "_law_cell", "_law_digit", "_law_mixed"] ["_law_pen_here", "_law_many"] (defScope (top 20)) := ⟨rfl, rfl, rfl, by decide +kernel, rfl, by decide +kernel, by decide +kernel⟩
theorem g__law_draw {wp : DF} (D : DefD K mg "_law_draw" (top 20)) (B : ∀ x ∈ (["len", "int"] : List Str), mg x = none) (h : ∀ ds μ Q F, wp ds μ Q F → ds.length = 2 ∧ w__law_draw K { nx := fun _ μ' => Q .non μ', rt := Q } F (dstart ["_law_pen_here", "_law_many", "_law_cell", "_law_digit", "_law_mixed"] ds) μ) : CalD P w K mg base 1 "_law_draw" wp := by
  refine cal_of (wb := w__law_draw K) D sc__law_draw (fun _ _ _ _ _ _ us hl => match us, hl with | [_, _], _ => rfl) (fun f cdv A outer s H E c => ?_) h
  exact ⟨_, (pdb_cons (pds_dput c.hu1 (pdv 0) pd_str (pd_bin o_add (pd_dget c.hu1 (pdv 0) pd_str) pd_int)) (pdb_cons (pds_if (pdw_and (pdt_cmp (o_eq c.hu) (pd_dget c.hu1 (pdv 0) pd_str) pd_int) (pdw_and1 (pdt_cmp o_lt (pd_dget c.hu1 (pdv 0) pd_str) (pd_callB c_len (B "len" (by decide)) bt_len (pda_cons (pd_dget c.hu1 (pdv 0) pd_str) pda_nil))))).pdt (pdb_cons (pds_set 2 sc__law_draw.nd (pd_ix (pd_dget c.hu1 (pdv 0) pd_str) (pd_dget c.hu1 (pdv 0) pd_str))) (pdb_cons (pds_dput c.hu1 (pdv 0) pd_str (pd_bin o_add (pd_dget c.hu1 (pdv 0) pd_str) pd_int)) (pdb_one (pds_if (pdt_cmp o_ge (pdv 2) (pd_bin o_pow pd_int pd_int)) (pdb_one (pds_dput c.hu1 (pdv 0) pd_str (pd_bin o_sub (pdv 2) (pd_bin o_pow pd_int pd_int)))) (pdb_one (pds_dput c.hu1 (pdv 0) pd_str (pd_bin o_mod (pd_callT c_int (B "int" (by decide)) bt_int (pda_cons (pd_bin o_add (pd_bin o_mul (pd_dget c.hu1 (pdv 0) pd_str) pd_int) (pdv 2)) pda_nil)) pd_int))))))) pdb_nil) (pdb_cons (pds_if (pdt_cmp o_gt (pd_dget c.hu1 (pdv 0) pd_str) pd_int) (pdb_cons (pds_set 3 sc__law_draw.nd (pd_bin o_mod (pd_callT c_int (B "int" (by decide)) bt_int (pda_cons (pd_dget c.hu1 (pdv 0) pd_str) pda_nil)) (pdv 1))) (pdb_cons (pds_dput c.hu1 (pdv 0) pd_str (pd_bin o_div (pd_dget c.hu1 (pdv 0) pd_str) (pdv 1))) (pdb_one (pds_ret (pdv 3))))) pdb_nil) (pdb_cons (pds_set 4 sc__law_draw.nd (pd_bin o_add (pd_bin o_add (pd_dget c.hu1 (pdv 0) pd_str) (pd_bin o_mul (pd_dget c.hu1 (pdv 0) pd_str) pd_int)) pd_int)) (pdb_one (pds_ret (pd_bin o_mod (pd_bin o_div (pd_callT c_int (B "int" (by decide)) bt_int (pda_cons (pd_bin o_mod (pd_bin o_pow (pdv 4) pd_int) pd_int) pda_nil)) pd_int) (pdv 1))))))))⟩
/-! #### _law_pick -/
theorem sc__law_pick : FnScope ["_law_pen_here", "_law_some"] ["_law_pen_here", "_law_some"] (defScope (top 21)) := ⟨rfl, rfl, rfl, by decide +kernel, rfl, by decide +kernel, by decide +kernel⟩
theorem g__law_pick {wp : DF} {s__law_draw : DF} (D : DefD K mg "_law_pick" (top 21)) (B : ∀ x ∈ (["len"] : List Str), mg x = none) (C__law_draw : CalD P w K mg base 1 "_law_draw" s__law_draw) (h : ∀ ds μ Q F, wp ds μ Q F → ds.length = 2 ∧ w__law_pick K s__law_draw { nx := fun _ μ' => Q .non μ', rt := Q } F (dstart ["_law_pen_here", "_law_some"] ds) μ) : CalD P w K mg base 2 "_law_pick" wp := by
  refine cal_of (wb := w__law_pick K s__law_draw) D sc__law_pick (fun _ _ _ _ _ _ us hl => match us, hl with | [_, _], _ => rfl) (fun f cdv A outer s H E c => ?_) h
  exact ⟨_, (pdb_one (pds_ret (pd_ix (pdv 1) (pd_call K rfl c C__law_draw (pda_cons (pdv 0) (pda_cons (pd_callB c_len (B "len" (by decide)) bt_len (pda_cons (pdv 1) pda_nil)) pda_nil))))))⟩
/-! #### _law_is_whole -/
theorem sc__law_is_whole : FnScope ["_law_thing"] ["_law_thing"] (defScope (top 22)) := ⟨rfl, rfl, rfl, by decide +kernel, rfl, by decide +kernel, by decide +kernel⟩
theorem g__law_is_whole {wp : DF} (D : DefD K mg "_law_is_whole" (top 22)) (B : ∀ x ∈ (["int", "isinstance", "bool"] : List Str), mg x = none) (h : ∀ ds μ Q F, wp ds μ Q F → ds.length = 1 ∧ w__law_is_whole K { nx := fun _ μ' => Q .non μ', rt := Q } F (dstart ["_law_thing"] ds) μ) : CalD P w K mg base 1 "_law_is_whole" wp := by
  refine cal_of (wb := w__law_is_whole K) D sc__law_is_whole (fun _ _ _ _ _ _ us hl => match us, hl with | [_], _ => rfl) (fun f cdv A outer s H E c => ?_) h
  exact ⟨_, (pdb_one (pds_ret (pd_and (pd_callB (c_isi K rfl) (B "isinstance" (by decide)) bt_isinstance (pda_cons (pdv 0) (pda_cons (pd_ty (B "int" (by decide)) bt_int) pda_nil))) (pd_one (pd_not (pd_callB (c_isi K rfl) (B "isinstance" (by decide)) bt_isinstance (pda_cons (pdv 0) (pda_cons (pd_ty (B "bool" (by decide)) bt_bool) pda_nil))))))))⟩
/-! #### _law_gcd -/
theorem sc__law_gcd : FnScope ["_law_one", "_law_two", "_law_lap"] ["_law_one", "_law_two"] (defScope (top 23)) := ⟨rfl, rfl, rfl, by decide +kernel, rfl, by decide +kernel, by decide +kernel⟩
theorem g__law_gcd {wp : DF} (D : DefD K mg "_law_gcd" (top 23)) (B : ∀ x ∈ (["abs", "range", "int"] : List Str), mg x = none) (h : ∀ ds μ Q F, wp ds μ Q F → ds.length = 2 ∧ w__law_gcd K { nx := fun _ μ' => Q .non μ', rt := Q } F (dstart ["_law_one", "_law_two", "_law_lap"] ds) μ) : CalD P w K mg base 1 "_law_gcd" wp := by
  refine cal_of (wb := w__law_gcd K) D sc__law_gcd (fun _ _ _ _ _ _ us hl => match us, hl with | [_, _], _ => rfl) (fun f cdv A outer s H E c => ?_) h
  exact ⟨_, (pdb_cons (pds_par 0 1 c.calm sc__law_gcd.nd (pda_cons (pd_callB c_abs (B "abs" (by decide)) bt_abs (pda_cons (pdv 0) pda_nil)) (pda_cons (pd_callB c_abs (B "abs" (by decide)) bt_abs (pda_cons (pdv 1) pda_nil)) pda_nil))) (pdb_cons (pds_for (passes_of rfl) c.calm (pdi_range1 (B "range" (by decide)) (pda_cons pd_int pda_nil)) (pdg_name 2 sc__law_gcd.nd) (pdb_cons (pds_if (pdt_cmp (o_eq c.hu) (pdv 1) pd_int) (pdb_one pds_brk) pdb_nil) (pdb_one (pds_par 0 1 c.calm sc__law_gcd.nd (pda_cons (pdv 1) (pda_cons (pd_bin o_mod (pd_callT c_int (B "int" (by decide)) bt_int (pda_cons (pdv 0) pda_nil)) (pdv 1)) pda_nil)))))) (pdb_one (pds_ret (pdv 0)))))⟩
/-! #### _law_q -/
theorem sc__law_q : FnScope ["_law_top", "_law_bottom", "_law_by"] ["_law_top", "_law_bottom"] (defScope (top 24)) := ⟨rfl, rfl, rfl, by decide +kernel, rfl, by decide +kernel, by decide +kernel⟩
theorem g__law_q {wp : DF} {s__law_gcd : DF} (D : DefD K mg "_law_q" (top 24)) (C__law_gcd : CalD P w K mg base 1 "_law_gcd" s__law_gcd) (h : ∀ ds μ Q F, wp ds μ Q F → ds.length = 2 ∧ w__law_q K s__law_gcd { nx := fun _ μ' => Q .non μ', rt := Q } F (dstart ["_law_top", "_law_bottom", "_law_by"] ds) μ) : CalD P w K mg base 2 "_law_q" wp := by
  refine cal_of (wb := w__law_q K s__law_gcd) D sc__law_q (fun _ _ _ _ _ _ us hl => match us, hl with | [_, _], _ => rfl) (fun f cdv A outer s H E c => ?_) h
  exact ⟨_, (pdb_cons (pds_set 2 sc__law_q.nd (pd_call K rfl c C__law_gcd (pda_cons (pdv 0) (pda_cons (pdv 1) pda_nil)))) (pdb_cons (pds_set 2 sc__law_q.nd (pd_if (pdt_cmp o_lt (pdv 1) pd_int) (pd_un o_neg (pdv 2)) (pdv 2))) (pdb_one (pds_ret (pd_tup (pda_cons (pd_bin o_div (pdv 0) (pdv 2)) (pda_cons (pd_bin o_div (pdv 1) (pdv 2)) pda_nil)))))))⟩
/-! #### _law_passed -/
theorem sc__law_passed : FnScope ["_law_pen_here", "_law_ratio_here", "_law_by"] ["_law_pen_here", "_law_ratio_here"] (defScope (top 25)) := ⟨rfl, rfl, rfl, by decide +kernel, rfl, by decide +kernel, by decide +kernel⟩
theorem g__law_passed {wp : DF} {s__law_draw s__law_pick : DF} (D : DefD K mg "_law_passed" (top 25)) (C__law_draw : CalD P w K mg base 1 "_law_draw" s__law_draw) (C__law_pick : CalD P w K mg base 2 "_law_pick" s__law_pick) (h : ∀ ds μ Q F, wp ds μ Q F → ds.length = 2 ∧ w__law_passed K s__law_draw s__law_pick { nx := fun _ μ' => Q .non μ', rt := Q } F (dstart ["_law_pen_here", "_law_ratio_here", "_law_by"] ds) μ) : CalD P w K mg base 3 "_law_passed" wp := by
  refine cal_of (wb := w__law_passed K s__law_draw s__law_pick) D sc__law_passed (fun _ _ _ _ _ _ us hl => match us, hl with | [_, _], _ => rfl) (fun f cdv A outer s H E c => ?_) h
  exact ⟨_, (pdb_cons (pds_if (pdw_and (pdt_cmp (o_eq c.hu) (pd_ix (pdv 1) pd_int) pd_int) (pdw_and1 (pdt_cmp (o_eq c.hu) (pd_call K rfl c C__law_draw (pda_cons (pdv 0) (pda_cons pd_int pda_nil))) pd_int))).pdt (pdb_one (pds_ret (pd_ix (pdv 1) pd_int))) pdb_nil) (pdb_cons (pds_set 2 sc__law_passed.nd (pd_call K rfl c C__law_pick (pda_cons (pdv 0) (pda_cons (pd_lst (pda_cons pd_int (pda_cons pd_int (pda_cons pd_int (pda_cons pd_int pda_nil))))) pda_nil)))) (pdb_one (pds_ret (pd_call K rfl c C__law_pick (pda_cons (pdv 0) (pda_cons (pd_lst (pda_cons (pd_tup (pda_cons (pd_bin o_mul (pd_ix (pdv 1) pd_int) (pdv 2)) (pda_cons (pd_bin o_mul (pd_ix (pdv 1) pd_int) (pdv 2)) pda_nil))) (pda_cons (pd_lst (pda_cons (pd_bin o_mul (pd_ix (pdv 1) pd_int) (pdv 2)) (pda_cons (pd_bin o_mul (pd_ix (pdv 1) pd_int) (pdv 2)) pda_nil))) pda_nil))) pda_nil)))))))⟩
/-! #### _law_ratio -/
theorem sc__law_ratio : FnScope ["_law_pen_here", "_law_most", "_law_bottom"] ["_law_pen_here", "_law_most"] (defScope (top 26)) := ⟨rfl, rfl, rfl, by decide +kernel, rfl, by decide +kernel, by decide +kernel⟩
theorem g__law_ratio {wp : DF} {s__law_pick s__law_draw s__law_q : DF} (D : DefD K mg "_law_ratio" (top 26)) (C__law_pick : CalD P w K mg base 2 "_law_pick" s__law_pick) (C__law_draw : CalD P w K mg base 1 "_law_draw" s__law_draw) (C__law_q : CalD P w K mg base 2 "_law_q" s__law_q) (h : ∀ ds μ Q F, wp ds μ Q F → ds.length = 2 ∧ w__law_ratio K s__law_pick s__law_draw s__law_q { nx := fun _ μ' => Q .non μ', rt := Q } F (dstart ["_law_pen_here", "_law_most", "_law_bottom"] ds) μ) : CalD P w K mg base 3 "_law_ratio" wp := by
  refine cal_of (wb := w__law_ratio K s__law_pick s__law_draw s__law_q) D sc__law_ratio (fun _ _ _ _ _ _ us hl => match us, hl with | [_, _], _ => rfl) (fun f cdv A outer s H E c => ?_) h
  exact ⟨_, (pdb_cons (pds_set 2 sc__law_ratio.nd (pd_call K rfl c C__law_pick (pda_cons (pdv 0) (pda_cons (pd_lst (pda_cons pd_int (pda_cons pd_int (pda_cons pd_int (pda_cons pd_int (pda_cons pd_int (pda_cons pd_int (pda_cons (pd_bin o_add pd_int (pd_call K rfl c C__law_draw (pda_cons (pdv 0) (pda_cons pd_int pda_nil)))) pda_nil)))))))) pda_nil)))) (pdb_one (pds_ret (pd_call K rfl c C__law_q (pda_cons (pd_bin o_sub (pd_call K rfl c C__law_draw (pda_cons (pdv 0) (pda_cons (pd_bin o_add (pd_bin o_mul (pd_bin o_mul pd_int (pdv 1)) (pdv 2)) pd_int) pda_nil))) (pd_bin o_mul (pdv 1) (pdv 2))) (pda_cons (pdv 2) pda_nil))))))⟩
/-! #### _law_why -/
theorem sc__law_why : FnScope ["_law_call", "e"] ["_law_call"] (defScope (top 27)) := ⟨rfl, rfl, rfl, by decide +kernel, rfl, by decide +kernel, by decide +kernel⟩
theorem g__law_why {wT : (M → DK → FK → Prop) → M → DK → Prop} {a_BadNumber a_BadRow a_BadText a_Pole a_TooMany a_TooWide a_Unlike : Addr} (D : DefD K mg "_law_why" (top 27)) (B : ∀ x ∈ (["repr"] : List Str), mg x = none) (x_Pole : ExF K mg "Pole" a_Pole []) (x_TooWide : ExF K mg "TooWide" a_TooWide []) (x_Unlike : ExF K mg "Unlike" a_Unlike ["what"]) (x_TooMany : ExF K mg "TooMany" a_TooMany ["limit", "what"]) (x_BadRow : ExF K mg "BadRow" a_BadRow ["row"]) (x_BadNumber : ExF K mg "BadNumber" a_BadNumber ["number", "what"]) (x_BadText : ExF K mg "BadText" a_BadText ["column"]) (h : ∀ (wl : M → DK → FK → Prop) (μ : M) (Q : DK), wT wl μ Q → ∀ (f : Addr) (G0 : Hp), w__law_why K a_BadNumber a_BadRow a_BadText a_Pole a_TooMany a_TooWide a_Unlike (wLam f G0 wl) { nx := fun _ μ' => Q .non μ', rt := Q } (fun _ _ => False) (dstart ["_law_call", "e"] [.lam f G0]) μ) : LamD P w K mg base 0 "_law_why" wT := by
  refine lam_of (w__law_why K a_BadNumber a_BadRow a_BadText a_Pole a_TooMany a_TooWide a_Unlike) D sc__law_why rfl (Or.inl rfl) (by decide) (by decide) (fun _ _ _ _ _ _ us hl => match us, hl with | [_], _ => rfl) (fun g cdv A outer s H wl c te act => ?_) h
  exact ⟨_, (pdb_cons (pds_tryE c sc__law_why.nd (fun W' pn xe c => (act W' pn xe _ _ c.tk)) (ClD.cons (c := .ref a_BadText) ⟨rfl, by decide, Or.inl x_BadText.gC⟩ (i := 1) rfl rfl (fun a oe cls d pn cs z hf => (pdb_one (pds_ret (pd_tup (pda_cons pd_str (pda_cons (pd_xf x_BadText.xf (x_BadText.no "column" (by decide)) z hf (pdv 1)) pda_nil)))))) (ClD.cons (c := .ref a_BadNumber) ⟨rfl, by decide, Or.inl x_BadNumber.gC⟩ (i := 1) rfl rfl (fun a oe cls d pn cs z hf => (pdb_one (pds_ret (pd_tup (pda_cons pd_str (pda_cons (pd_xf x_BadNumber.xf (x_BadNumber.no "what" (by decide)) z hf (pdv 1)) (pda_cons (pd_callB (c_repr K rfl cs.gd cs.hu) (B "repr" (by decide)) bt_repr (pda_cons (pd_xf x_BadNumber.xf (x_BadNumber.no "number" (by decide)) z hf (pdv 1)) pda_nil)) pda_nil))))))) (ClD.cons (c := .ref a_BadRow) ⟨rfl, by decide, Or.inl x_BadRow.gC⟩ (i := 1) rfl rfl (fun a oe cls d pn cs z hf => (pdb_one (pds_ret (pd_tup (pda_cons pd_str (pda_cons (pd_callB (c_repr K rfl cs.gd cs.hu) (B "repr" (by decide)) bt_repr (pda_cons (pd_xf x_BadRow.xf (x_BadRow.no "row" (by decide)) z hf (pdv 1)) pda_nil)) pda_nil)))))) (ClD.cons (c := .ref a_TooMany) ⟨rfl, by decide, Or.inl x_TooMany.gC⟩ (i := 1) rfl rfl (fun a oe cls d pn cs z hf => (pdb_one (pds_ret (pd_tup (pda_cons pd_str (pda_cons (pd_xf x_TooMany.xf (x_TooMany.no "what" (by decide)) z hf (pdv 1)) (pda_cons (pd_xf x_TooMany.xf (x_TooMany.no "limit" (by decide)) z hf (pdv 1)) pda_nil))))))) (ClD.cons (c := .ref a_Unlike) ⟨rfl, by decide, Or.inl x_Unlike.gC⟩ (i := 1) rfl rfl (fun a oe cls d pn cs z hf => (pdb_one (pds_ret (pd_tup (pda_cons pd_str (pda_cons (pd_xf x_Unlike.xf (x_Unlike.no "what" (by decide)) z hf (pdv 1)) pda_nil)))))) (ClD.cons (c := .ref a_TooWide) ⟨rfl, by decide, Or.inl x_TooWide.gC⟩ (i := 1) rfl rfl (fun a oe cls d pn cs z hf => (pdb_one (pds_ret (pd_tup (pda_cons pd_str pda_nil))))) (ClD.cons (c := .ref a_Pole) ⟨rfl, by decide, Or.inl x_Pole.gC⟩ (i := 1) rfl rfl (fun a oe cls d pn cs z hf => (pdb_one (pds_ret (pd_tup (pda_cons pd_str pda_nil))))) ClD.nil)))))))) (pdb_one (pds_ret pd_non)))⟩
/-! #### _law_any -/
theorem sc__law_any : FnScope ["_law_pen_here", "_law_some"] ["_law_pen_here"] (defScope (top 28)) := ⟨rfl, rfl, rfl, by decide +kernel, rfl, by decide +kernel, by decide +kernel⟩
theorem g__law_any {wp : DF} {s__law_pick : DF} (D : DefD K mg "_law_any" (top 28)) (C__law_pick : CalD P w K mg base 2 "_law_pick" s__law_pick) (h : ∀ ds μ Q F, wp ds μ Q F → ds.length = 1 ∧ w__law_any K s__law_pick { nx := fun _ μ' => Q .non μ', rt := Q } F (dstart ["_law_pen_here", "_law_some"] ds) μ) : CalD P w K mg base 3 "_law_any" wp := by
  refine cal_of (wb := w__law_any K s__law_pick) D sc__law_any (fun _ _ _ _ _ _ us hl => match us, hl with | [_], _ => rfl) (fun f cdv A outer s H E c => ?_) h
  exact ⟨_, (pdb_cons (pds_set 1 sc__law_any.nd (pd_lst (pda_cons pd_non (pda_cons pd_bl (pda_cons pd_str (pda_cons (pd_tup (pda_cons pd_int (pda_cons pd_int pda_nil))) (pda_cons (pd_tup (pda_cons pd_int (pda_cons (pd_un o_neg pd_int) pda_nil))) (pda_cons (pd_tup (pda_cons pd_int (pda_cons pd_bl pda_nil))) (pda_cons (pd_lst (pda_cons pd_int pda_nil)) (pda_cons (pd_tup (pda_cons pd_int (pda_cons pd_int (pda_cons pd_int pda_nil)))) (pda_cons (pd_dct (PPD.cons pd_str pd_int PPD.nil)) (pda_cons (pd_tup (pda_cons pd_str (pda_cons pd_int pda_nil))) (pda_cons (pd_tup (pda_cons pd_non (pda_cons pd_int pda_nil))) (pda_cons (pd_tup (pda_cons pd_bl (pda_cons pd_int pda_nil))) pda_nil)))))))))))))) (pdb_one (pds_ret (pd_call K rfl c C__law_pick (pda_cons (pdv 0) (pda_cons (pd_bin o_add (pdv 1) (pd_lst (pda_cons (pd_lst (pda_cons pd_int (pda_cons pd_bl pda_nil))) (pda_cons (pd_tup (pda_cons (pd_tup (pda_cons pd_int (pda_cons pd_int pda_nil))) (pda_cons pd_int pda_nil))) (pda_cons (pd_tup pda_nil) pda_nil))))) pda_nil))))))⟩
/-! #### _law_far -/
theorem sc__law_far : FnScope ["_law_pen_here", "_law_found", "_law_k"] ["_law_pen_here"] (defScope (top 29)) := ⟨rfl, rfl, rfl, by decide +kernel, rfl, by decide +kernel, by decide +kernel⟩
theorem g__law_far {wp : DF} {s__law_pick s__law_draw : DF} (D : DefD K mg "_law_far" (top 29)) (B : ∀ x ∈ (["range"] : List Str), mg x = none) (C__law_pick : CalD P w K mg base 2 "_law_pick" s__law_pick) (C__law_draw : CalD P w K mg base 1 "_law_draw" s__law_draw) (h : ∀ ds μ Q F, wp ds μ Q F → ds.length = 1 ∧ w__law_far K s__law_pick s__law_draw { nx := fun _ μ' => Q .non μ', rt := Q } F (dstart ["_law_pen_here", "_law_found", "_law_k"] ds) μ) : CalD P w K mg base 3 "_law_far" wp := by
  refine cal_of (wb := w__law_far K s__law_pick s__law_draw) D sc__law_far (fun _ _ _ _ _ _ us hl => match us, hl with | [_], _ => rfl) (fun f cdv A outer s H E c => ?_) h
  exact ⟨_, (pdb_cons (pds_set 1 sc__law_far.nd pd_int) (pdb_cons (pds_for (passes_of rfl) c.calm (pdi_range1 (B "range" (by decide)) (pda_cons (pd_call K rfl c C__law_pick (pda_cons (pdv 0) (pda_cons (pd_lst (pda_cons pd_int (pda_cons pd_int (pda_cons pd_int (pda_cons pd_int (pda_cons pd_int pda_nil)))))) pda_nil))) pda_nil)) (pdg_name 2 sc__law_far.nd) (pdb_one (pds_set 1 sc__law_far.nd (pd_bin o_add (pd_bin o_mul (pdv 1) pd_int) (pd_call K rfl c C__law_draw (pda_cons (pdv 0) (pda_cons pd_int pda_nil))))))) (pdb_one (pds_ret (pd_if (pdt_cmp o_gt (pd_call K rfl c C__law_draw (pda_cons (pdv 0) (pda_cons pd_int pda_nil))) pd_int) (pdv 1) (pd_un o_neg (pdv 1)))))))⟩
/-! #### _law_some_ratio -/
theorem sc__law_some_ratio : FnScope ["_law_pen_here"] ["_law_pen_here"] (defScope (top 30)) := ⟨rfl, rfl, rfl, by decide +kernel, rfl, by decide +kernel, by decide +kernel⟩
theorem g__law_some_ratio {wp : DF} {s__law_q s__law_far : DF} (D : DefD K mg "_law_some_ratio" (top 30)) (B : ∀ x ∈ (["abs"] : List Str), mg x = none) (C__law_q : CalD P w K mg base 2 "_law_q" s__law_q) (C__law_far : CalD P w K mg base 3 "_law_far" s__law_far) (h : ∀ ds μ Q F, wp ds μ Q F → ds.length = 1 ∧ w__law_some_ratio K s__law_q s__law_far { nx := fun _ μ' => Q .non μ', rt := Q } F (dstart ["_law_pen_here"] ds) μ) : CalD P w K mg base 4 "_law_some_ratio" wp := by
  refine cal_of (wb := w__law_some_ratio K s__law_q s__law_far) D sc__law_some_ratio (fun _ _ _ _ _ _ us hl => match us, hl with | [_], _ => rfl) (fun f cdv A outer s H E c => ?_) h
  exact ⟨_, (pdb_one (pds_ret (pd_call K rfl c C__law_q (pda_cons (pd_call K rfl c C__law_far (pda_cons (pdv 0) pda_nil)) (pda_cons (pd_bin o_add pd_int (pd_callB c_abs (B "abs" (by decide)) bt_abs (pda_cons (pd_call K rfl c C__law_far (pda_cons (pdv 0) pda_nil)) pda_nil))) pda_nil)))))⟩
/-! #### law -/
theorem sc_law : FnScope ["_law_script", "_law_pen_here", "_law_lap", "_law_ratio_here", "_law_given", "_law_top", "_law_bottom", "_law_whole", "_law_near", "_law_odd", "_law_call"] ["_law_script"] (defScope (top 31)) := ⟨rfl, rfl, rfl, by decide +kernel, rfl, by decide +kernel, by decide +kernel⟩
theorem g_law {wp : DF} {a_floor_of a_nearest_whole a_ratio_text : Addr} {s__law_pen s__law_pick s__law_ratio s__law_far s__law_q s__law_some_ratio s__law_passed s_nearest_whole s_floor_of s__law_is_whole s_ratio_text s__law_any : DF} {T : List (Addr × Str)} {t__law_why : (M → DK → FK → Prop) → M → DK → Prop} {cc P0 : Addr} (TB : LamX.TabB base mg cc P0) (hmT : (P0, ("law.<locals>.<lambda>" : Str)) ∈ T) (D : DefT K mg "law" (top 31) cc) (B : ∀ x ∈ (["range", "str", "repr"] : List Str), mg x = none) (m_ratio_text : mg "ratio_text" = some (.ref a_ratio_text)) (m_nearest_whole : mg "nearest_whole" = some (.ref a_nearest_whole)) (m_floor_of : mg "floor_of" = some (.ref a_floor_of)) (C__law_pen : CalD P w K mg base 1 "_law_pen" s__law_pen) (C__law_pick : CalD P w K mg base 2 "_law_pick" s__law_pick) (C__law_ratio : CalD P w K mg base 3 "_law_ratio" s__law_ratio) (C__law_far : CalD P w K mg base 3 "_law_far" s__law_far) (C__law_q : CalD P w K mg base 2 "_law_q" s__law_q) (C__law_some_ratio : CalD P w K mg base 4 "_law_some_ratio" s__law_some_ratio) (C__law_passed : CalD P w K mg base 3 "_law_passed" s__law_passed) (C_nearest_whole : CalD P w K mg base 4 "nearest_whole" s_nearest_whole) (C_floor_of : CalD P w K mg base 4 "floor_of" s_floor_of) (C__law_is_whole : CalD P w K mg base 1 "_law_is_whole" s__law_is_whole) (C_ratio_text : CalD P w K mg base 4 "ratio_text" s_ratio_text) (C__law_any : CalD P w K mg base 3 "_law_any" s__law_any) (v__law_call : ∀ p ∈ ([(a_floor_of, s_floor_of), (a_nearest_whole, s_nearest_whole), (a_ratio_text, s_ratio_text)] : List (Addr × DF)), PySem.W.keepIn K (.ref p.1) = true ∧ FnD P w K mg base 4 p.1 p.2) (L__law_why : LamD P w K mg base 0 "_law_why" t__law_why) (h : ∀ ds μ Q F, wp ds μ Q F → ds.length = 1 ∧ w_law K a_floor_of a_nearest_whole a_ratio_text s__law_pen s__law_pick s__law_ratio s__law_far s__law_q s__law_some_ratio s__law_passed s_nearest_whole s_floor_of s__law_is_whole s_ratio_text s__law_any T t__law_why { nx := fun _ μ' => Q .non μ', rt := Q } F (dstart ["_law_script", "_law_pen_here", "_law_lap", "_law_ratio_here", "_law_given", "_law_top", "_law_bottom", "_law_whole", "_law_near", "_law_odd", "_law_call"] ds) μ) : CalD P w K mg base 7 "law" wp := by
  refine cal_ofT (wb := w_law K a_floor_of a_nearest_whole a_ratio_text s__law_pen s__law_pick s__law_ratio s__law_far s__law_q s__law_some_ratio s__law_passed s_nearest_whole s_floor_of s__law_is_whole s_ratio_text s__law_any T t__law_why) D sc_law (fun _ _ _ _ _ _ us hl => match us, hl with | [_], _ => rfl) (fun f A outer s H E c => ?_) h
  exact ⟨_, (pdb_cons (pds_set 1 sc_law.nd (pd_call K rfl c C__law_pen (pda_cons (pdv 0) pda_nil))) (pdb_cons (pds_for (passes_of rfl) c.calm (pdi_range1 (B "range" (by decide)) (pda_cons pd_int pda_nil)) (pdg_name 2 sc_law.nd) (pdb_cons (pds_set 3 sc_law.nd (pd_call K rfl c C__law_pick (pda_cons (pdv 1) (pda_cons (pd_lst (pda_cons (pd_call K rfl c C__law_some_ratio (pda_cons (pdv 1) pda_nil)) (pda_cons (pd_call K rfl c C__law_q (pda_cons (pd_call K rfl c C__law_far (pda_cons (pdv 1) pda_nil)) (pda_cons pd_int pda_nil))) (pda_cons (pd_tup (pda_cons (pd_call K rfl c C__law_far (pda_cons (pdv 1) pda_nil)) (pda_cons pd_int pda_nil))) (pda_cons (pd_call K rfl c C__law_ratio (pda_cons (pdv 1) (pda_cons pd_int pda_nil))) pda_nil))))) pda_nil)))) (pdb_cons (pds_par3 4 5 6 c.calm sc_law.nd (pda_cons (pd_call K rfl c C__law_passed (pda_cons (pdv 1) (pda_cons (pdv 3) pda_nil))) (pda_cons (pd_ix (pdv 3) pd_int) (pda_cons (pd_ix (pdv 3) pd_int) pda_nil)))) (pdb_cons (pds_par 7 8 c.calm sc_law.nd (pda_cons (pd_call K rfl c C_floor_of (pda_cons (pdv 4) pda_nil)) (pda_cons (pd_call K rfl c C_nearest_whole (pda_cons (pdv 4) pda_nil)) pda_nil))) (pdb_cons (pds_if (pdw_or (pdt_not (pdt_val (pd_call K rfl c C__law_is_whole (pda_cons (pdv 7) pda_nil)))) (pdw_or1 (pdt_not (pdt_val (pd_call K rfl c C__law_is_whole (pda_cons (pdv 8) pda_nil)))))).pdt (pdb_one (pds_ret pd_bl)) pdb_nil) (pdb_cons (pds_if (pdt_not (pdt_chain o_le o_lt (pd_bin o_mul (pdv 7) (pdv 6)) (pdv 5) (pd_bin o_mul (pd_bin o_add (pdv 7) pd_int) (pdv 6)))) (pdb_one (pds_ret pd_bl)) pdb_nil) (pdb_cons (pds_if (pdt_not (pdt_chain o_le o_lt (pd_un o_neg (pdv 6)) (pd_bin o_mul pd_int (pd_bin o_sub (pdv 5) (pd_bin o_mul (pdv 8) (pdv 6)))) (pdv 6))) (pdb_one (pds_ret pd_bl)) pdb_nil) (pdb_cons (pds_if (pdt_cmp (o_ne c.hu) (pd_call K rfl c C_ratio_text (pda_cons (pdv 4) pda_nil)) (pd_bin o_add (pd_callT c_str (B "str" (by decide)) bt_str (pda_cons (pdv 5) pda_nil)) (pd_if (pdt_cmp (o_eq c.hu) (pdv 6) pd_int) pd_str (pd_bin o_add pd_str (pd_callT c_str (B "str" (by decide)) bt_str (pda_cons (pdv 6) pda_nil)))))) (pdb_one (pds_ret pd_bl)) pdb_nil) (pdb_cons (pds_set 9 sc_law.nd (pd_call K rfl c C__law_any (pda_cons (pdv 1) pda_nil))) (pdb_one (pds_for (passes_of rfl) c.calm (pdi_seq (pd_lst (pda_cons (pd_raw m_floor_of) (pda_cons (pd_raw m_nearest_whole) (pda_cons (pd_raw m_ratio_text) pda_nil))))) (pdg_name 10 sc_law.nd) (pdb_one (pds_if (pdt_cmp (o_ne c.hu) (pd_lamcall (kb := 4) c L__law_why TB rfl hmT (LamX.lamS_by (sc := defScope (top 31)) (by decide +kernel)) rfl (fun _ _ _ _ _ => rfl) (fun A outer s H E f c2 c => (pd_callV (k := 4) K rfl c 10 [(a_floor_of, s_floor_of), (a_nearest_whole, s_nearest_whole), (a_ratio_text, s_ratio_text)] v__law_call (pda_cons (pdv 9) pda_nil)))) (pd_tup (pda_cons pd_str (pda_cons pd_str (pda_cons (pd_callB (c_repr K rfl c.gd c.hu) (B "repr" (by decide)) bt_repr (pda_cons (pdv 9) pda_nil)) pda_nil))))) (pdb_one (pds_ret pd_bl)) pdb_nil))))))))))))) (pdb_one (pds_ret pd_bl))))⟩
end
end NC

set_option maxHeartbeats 0
namespace NC
open PySem PySem.Spec PyProof.Rows L2 DL
open He
def hfn : List He.DefD := [dIni "BadNumber" "BadNumber.__init__" (mth 3 0),
  dTop "is_whole" (top 10),
  dTop "is_ratio" (top 11),
  dTop "divisor" (top 12),
  dTop "lowest" (top 13),
  dTop "told" (top 14),
  dTop "floor_of" (top 15),
  dTop "nearest_whole" (top 16),
  dTop "ratio_text" (top 17),
  dTop "_law_pen" (top 19),
  dTop "_law_draw" (top 20),
  dTop "_law_pick" (top 21),
  dTop "_law_is_whole" (top 22),
  dTop "_law_gcd" (top 23),
  dTop "_law_q" (top 24),
  dTop "_law_passed" (top 25),
  dTop "_law_ratio" (top 26),
  dTop "_law_why" (top 27),
  dTop "_law_any" (top 28),
  dTop "_law_far" (top 29),
  dTop "_law_some_ratio" (top 30),
  dTop "law" (top 31)]
def hfb : List Fb := [.a (.glo "CurveError"),
  .cin "CurveError",
  .a (.glo "BadNumber"),
  .oex "BadNumber",
  .ini "BadNumber",
  .a (.noat "BadNumber" "what"),
  .a (.noat "BadNumber" "number"),
  .a (.glo "Pole"),
  .xf "Pole",
  .a (.glo "TooWide"),
  .xf "TooWide",
  .a (.glo "Unlike"),
  .xf "Unlike",
  .a (.noat "Unlike" "what"),
  .a (.glo "TooMany"),
  .xf "TooMany",
  .a (.noat "TooMany" "limit"),
  .a (.noat "TooMany" "what"),
  .a (.glo "BadRow"),
  .xf "BadRow",
  .a (.noat "BadRow" "row"),
  .xf "BadNumber",
  .a (.glo "BadText"),
  .xf "BadText",
  .a (.noat "BadText" "column"),
  .a (.glo "ratio_text"),
  .a (.glo "nearest_whole"),
  .a (.glo "floor_of"),
  .a (.free "int"),
  .a (.free "isinstance"),
  .a (.free "bool"),
  .a (.free "list"),
  .a (.free "tuple"),
  .a (.free "len"),
  .a (.free "abs"),
  .a (.free "str"),
  .a (.free "range"),
  .a (.free "repr"),
  .a (.exm "BadNumber" "BadText" false),
  .a (.exm "BadNumber" "BadNumber" true),
  .a (.glo "is_whole"),
  .a (.glo "is_ratio"),
  .a (.glo "divisor"),
  .a (.glo "lowest"),
  .a (.glo "told"),
  .a (.glo "_law_pen"),
  .a (.glo "_law_draw"),
  .a (.glo "_law_pick"),
  .a (.glo "_law_is_whole"),
  .a (.glo "_law_gcd"),
  .a (.glo "_law_q"),
  .a (.glo "_law_passed"),
  .a (.glo "_law_ratio"),
  .a (.glo "_law_why"),
  .a (.glo "_law_any"),
  .a (.glo "_law_far"),
  .a (.glo "_law_some_ratio"),
  .a (.glo "law"),
  .apart (([("law", "law.<locals>.<lambda>")] : List (Str × Str)).map fun p => (p.1, none))]
def htf : List (Str × Str) := [("law", "law.<locals>.<lambda>")]
theorem all_of {P : Program} {w : World} {K : PySem.W.Frag} {h : Heap} {mg : Str → Option Value} (X : K.In h) (G : h.Ns mainGlobals mg) (c : SaysL hfn hfb (htf.map fun p => (p.1, none)) h K) :
    ∃ wp : DF, (∀ (μ : M) (ns : List Int), ns.length ≤ 63 → (∀ z ∈ ns, Builtin.Int.intBits z ≤ 1048576) → TabM (htf.map fun p => ((cT K (p.1, none)).2, p.2)) μ → wp [.ro (ns.map D.int)] μ (fun d _ => d = .bl true) fun _ _ => False) ∧
      ∀ base : Heap, K.In base → base.Ns mainGlobals mg → (∀ p ∈ htf, LamX.TabB base mg (cT K (p.1, none)).1 (cT K (p.1, none)).2) → CalD P w K mg base 7 "law" wp := by
  have e_BadNumber : ∀ base : Heap, ExcD P w K mg base 1 "BadNumber" (ga K "BadNumber") ["what", "number"] := fun base => by
    obtain ⟨fd, F⟩ := c.iniF 0 (x := "BadNumber") (q := "BadNumber.__init__") (st := mth 3 0)
    have iC := c.ini 4 (x := "BadNumber")
    have mB := c.glo X G 0 (x := "CurveError")
    have cB := cinB_ok (B := ga K "CurveError") (c.f 1 (f := .cin "CurveError"))
    refine excd2 (z := "A number that is not allowed.") F (oexB_ok (c.f 3 (f := .oex "BadNumber"))) iC.1 iC.2 (c.glo X G 2) (c.noat 5) (c.noat 6) ⟨rfl, rfl, rfl, by decide +kernel, rfl, by decide +kernel, by decide +kernel⟩ (F.binds (ps := ["self", "what", "number"]) (fun _ _ _ _ _ _ us hl => match us, hl with | [_, _, _], _ => rfl)) (fun cdv A outer s H E => ?_)
    exact pss_cons (ps_expr (pe_ceinit (pl := _) mB cB.1 cB.2 (pa_cons (pv 0) (pa_cons pe_str pa_nil)))) (pss_cons (ps_ost (pv 0) (pv 1)) (pss_one (ps_ost (pv 0) (pv 2))))
  have x_Pole : ExF K mg "Pole" (ga K "Pole") [] := c.exf X G 7 8 (by rintro f hf; cases hf)
  have x_TooWide : ExF K mg "TooWide" (ga K "TooWide") [] := c.exf X G 9 10 (by rintro f hf; cases hf)
  have x_Unlike : ExF K mg "Unlike" (ga K "Unlike") ["what"] := c.exf X G 11 12 (by rintro f hf; simp only [List.mem_cons, List.not_mem_nil, or_false] at hf; rcases hf with rfl <;> first | exact c.noat 13)
  have x_TooMany : ExF K mg "TooMany" (ga K "TooMany") ["limit", "what"] := c.exf X G 14 15 (by rintro f hf; simp only [List.mem_cons, List.not_mem_nil, or_false] at hf; rcases hf with rfl | rfl <;> first | exact c.noat 16 | exact c.noat 17)
  have x_BadRow : ExF K mg "BadRow" (ga K "BadRow") ["row"] := c.exf X G 18 19 (by rintro f hf; simp only [List.mem_cons, List.not_mem_nil, or_false] at hf; rcases hf with rfl <;> first | exact c.noat 20)
  have x_BadNumber : ExF K mg "BadNumber" (ga K "BadNumber") ["number", "what"] := c.exf X G 2 21 (by rintro f hf; simp only [List.mem_cons, List.not_mem_nil, or_false] at hf; rcases hf with rfl | rfl <;> first | exact c.noat 6 | exact c.noat 5)
  have x_BadText : ExF K mg "BadText" (ga K "BadText") ["column"] := c.exf X G 22 23 (by rintro f hf; simp only [List.mem_cons, List.not_mem_nil, or_false] at hf; rcases hf with rfl <;> first | exact c.noat 24)
  have m_ratio_text := c.glo X G 25 (x := "ratio_text")
  have m_nearest_whole := c.glo X G 26 (x := "nearest_whole")
  have m_floor_of := c.glo X G 27 (x := "floor_of")
  have hNT := c.exm 38 (x := "BadNumber") (y := "BadText") (b := false)
  have hNN := c.exm 39 (x := "BadNumber") (y := "BadNumber") (b := true)
  have D_is_whole := c.def_ X G 1 40 (x := "is_whole") (st := top 10)
  have D_is_ratio := c.def_ X G 2 41 (x := "is_ratio") (st := top 11)
  have D_divisor := c.def_ X G 3 42 (x := "divisor") (st := top 12)
  have D_lowest := c.def_ X G 4 43 (x := "lowest") (st := top 13)
  have D_told := c.def_ X G 5 44 (x := "told") (st := top 14)
  have D_floor_of := c.def_ X G 6 27 (x := "floor_of") (st := top 15)
  have D_nearest_whole := c.def_ X G 7 26 (x := "nearest_whole") (st := top 16)
  have D_ratio_text := c.def_ X G 8 25 (x := "ratio_text") (st := top 17)
  have D__law_pen := c.def_ X G 9 45 (x := "_law_pen") (st := top 19)
  have D__law_draw := c.def_ X G 10 46 (x := "_law_draw") (st := top 20)
  have D__law_pick := c.def_ X G 11 47 (x := "_law_pick") (st := top 21)
  have D__law_is_whole := c.def_ X G 12 48 (x := "_law_is_whole") (st := top 22)
  have D__law_gcd := c.def_ X G 13 49 (x := "_law_gcd") (st := top 23)
  have D__law_q := c.def_ X G 14 50 (x := "_law_q") (st := top 24)
  have D__law_passed := c.def_ X G 15 51 (x := "_law_passed") (st := top 25)
  have D__law_ratio := c.def_ X G 16 52 (x := "_law_ratio") (st := top 26)
  have D__law_why := c.def_ X G 17 53 (x := "_law_why") (st := top 27)
  have D__law_any := c.def_ X G 18 54 (x := "_law_any") (st := top 28)
  have D__law_far := c.def_ X G 19 55 (x := "_law_far") (st := top 29)
  have D__law_some_ratio := c.def_ X G 20 56 (x := "_law_some_ratio") (st := top 30)
  have D_law := c.defT_ X G 21 57 (x := "law") (st := top 31)
  refine ⟨(s_law (htf.map fun p => ((cT K (p.1, none)).2, p.2))), law_due, fun base KB hB hTB => ?_⟩
  have TB_law : LamX.TabB base mg (cT K ("law", none)).1 (cT K ("law", none)).2 := hTB ("law", "law.<locals>.<lambda>") (by unfold htf; simp)
  have hTm_law : ((cT K ("law", none)).2, ("law.<locals>.<lambda>" : Str)) ∈ (htf.map fun p => ((cT K (p.1, none)).2, p.2)) := by unfold htf; simp
  generalize (htf.map fun p => ((cT K (p.1, none)).2, p.2)) = T at hTm_law ⊢
  have C_is_whole : CalD P w K mg base 1 "is_whole" s_is_whole := g_is_whole (D := D_is_whole) (B := by rintro x hx; simp only [List.mem_cons, List.not_mem_nil, or_false] at hx; rcases hx with rfl | rfl | rfl <;> first | exact c.free X G 28 | exact c.free X G 29 | exact c.free X G 30) (h := p_is_whole K)
  have C_is_ratio : CalD P w K mg base 2 "is_ratio" s_is_ratio := g_is_ratio (D := D_is_ratio) (B := by rintro x hx; simp only [List.mem_cons, List.not_mem_nil, or_false] at hx; rcases hx with rfl | rfl | rfl | rfl <;> first | exact c.free X G 31 | exact c.free X G 32 | exact c.free X G 29 | exact c.free X G 33) (C_is_whole := C_is_whole) (h := p_is_ratio K)
  have C_divisor : CalD P w K mg base 1 "divisor" s_divisor := g_divisor (D := D_divisor) (B := by rintro x hx; simp only [List.mem_cons, List.not_mem_nil, or_false] at hx; rcases hx with rfl <;> first | exact c.free X G 34) (h := p_divisor K)
  have C_lowest : CalD P w K mg base 2 "lowest" s_lowest := g_lowest (D := D_lowest) (C_divisor := C_divisor) (h := p_lowest K)
  have C_told : CalD P w K mg base 3 "told" (s_told (ga K "BadNumber")) := g_told (D := D_told) (C_is_ratio := C_is_ratio) (C_is_whole := C_is_whole) (C_lowest := C_lowest) (e_BadNumber := e_BadNumber base) (h := p_told K (ga K "BadNumber"))
  have C_floor_of : CalD P w K mg base 4 "floor_of" (s_one (ga K "BadNumber") fFloor) := g_floor_of (D := D_floor_of) (C_told := C_told) (h := p_floor_of K (ga K "BadNumber"))
  have C_nearest_whole : CalD P w K mg base 4 "nearest_whole" (s_one (ga K "BadNumber") fNear) := g_nearest_whole (D := D_nearest_whole) (C_told := C_told) (h := p_nearest_whole K (ga K "BadNumber"))
  have C_ratio_text : CalD P w K mg base 4 "ratio_text" (s_one (ga K "BadNumber") fText) := g_ratio_text (D := D_ratio_text) (B := by rintro x hx; simp only [List.mem_cons, List.not_mem_nil, or_false] at hx; rcases hx with rfl <;> first | exact c.free X G 35) (C_told := C_told) (h := p_ratio_text K (ga K "BadNumber"))
  have C__law_pen : CalD P w K mg base 1 "_law_pen" s__law_pen := g__law_pen (D := D__law_pen) (B := by rintro x hx; simp only [List.mem_cons, List.not_mem_nil, or_false] at hx; rcases hx with rfl | rfl <;> first | exact c.free X G 28 | exact c.free X G 31) (h := p__law_pen K)
  have C__law_draw : CalD P w K mg base 1 "_law_draw" s__law_draw := g__law_draw (D := D__law_draw) (B := by rintro x hx; simp only [List.mem_cons, List.not_mem_nil, or_false] at hx; rcases hx with rfl | rfl <;> first | exact c.free X G 33 | exact c.free X G 28) (h := p__law_draw K)
  have C__law_pick : CalD P w K mg base 2 "_law_pick" s__law_pick := g__law_pick (D := D__law_pick) (B := by rintro x hx; simp only [List.mem_cons, List.not_mem_nil, or_false] at hx; rcases hx with rfl <;> first | exact c.free X G 33) (C__law_draw := C__law_draw) (h := p__law_pick K)
  have C__law_is_whole : CalD P w K mg base 1 "_law_is_whole" s__law_is_whole := g__law_is_whole (D := D__law_is_whole) (B := by rintro x hx; simp only [List.mem_cons, List.not_mem_nil, or_false] at hx; rcases hx with rfl | rfl | rfl <;> first | exact c.free X G 28 | exact c.free X G 29 | exact c.free X G 30) (h := p__law_is_whole K)
  have C__law_gcd : CalD P w K mg base 1 "_law_gcd" s__law_gcd := g__law_gcd (D := D__law_gcd) (B := by rintro x hx; simp only [List.mem_cons, List.not_mem_nil, or_false] at hx; rcases hx with rfl | rfl | rfl <;> first | exact c.free X G 34 | exact c.free X G 36 | exact c.free X G 28) (h := p__law_gcd K)
  have C__law_q : CalD P w K mg base 2 "_law_q" s__law_q := g__law_q (D := D__law_q) (C__law_gcd := C__law_gcd) (h := p__law_q K)
  have C__law_passed : CalD P w K mg base 3 "_law_passed" s__law_passed := g__law_passed (D := D__law_passed) (C__law_draw := C__law_draw) (C__law_pick := C__law_pick) (h := p__law_passed K)
  have C__law_ratio : CalD P w K mg base 3 "_law_ratio" s__law_ratio := g__law_ratio (D := D__law_ratio) (C__law_pick := C__law_pick) (C__law_draw := C__law_draw) (C__law_q := C__law_q) (h := p__law_ratio K)
  have L__law_why : LamD P w K mg base 0 "_law_why" (t__law_why (ga K "BadNumber")) := g__law_why (D := D__law_why) (B := by rintro x hx; simp only [List.mem_cons, List.not_mem_nil, or_false] at hx; rcases hx with rfl <;> first | exact c.free X G 37) (x_Pole := x_Pole) (x_TooWide := x_TooWide) (x_Unlike := x_Unlike) (x_TooMany := x_TooMany) (x_BadRow := x_BadRow) (x_BadNumber := x_BadNumber) (x_BadText := x_BadText) (h := p__law_why K _ _ _ _ _ _ _ hNT hNN)
  have C__law_any : CalD P w K mg base 3 "_law_any" s__law_any := g__law_any (D := D__law_any) (C__law_pick := C__law_pick) (h := p__law_any K)
  have C__law_far : CalD P w K mg base 3 "_law_far" s__law_far := g__law_far (D := D__law_far) (B := by rintro x hx; simp only [List.mem_cons, List.not_mem_nil, or_false] at hx; rcases hx with rfl <;> first | exact c.free X G 36) (C__law_pick := C__law_pick) (C__law_draw := C__law_draw) (h := p__law_far K)
  have C__law_some_ratio : CalD P w K mg base 4 "_law_some_ratio" s__law_some_ratio := g__law_some_ratio (D := D__law_some_ratio) (B := by rintro x hx; simp only [List.mem_cons, List.not_mem_nil, or_false] at hx; rcases hx with rfl <;> first | exact c.free X G 34) (C__law_q := C__law_q) (C__law_far := C__law_far) (h := p__law_some_ratio K)
  have v_law__law_call : ∀ p ∈ ([(ga K "floor_of", (s_one (ga K "BadNumber") fFloor)), (ga K "nearest_whole", (s_one (ga K "BadNumber") fNear)), (ga K "ratio_text", (s_one (ga K "BadNumber") fText))] : List (Addr × DF)), PySem.W.keepIn K (.ref p.1) = true ∧ FnD P w K mg base 4 p.1 p.2 := by
    rintro p hp; simp only [List.mem_cons, List.not_mem_nil, or_false] at hp
    rcases hp with rfl | rfl | rfl
    · exact fn_of_cal (C_floor_of.mono (by decide)) m_floor_of
    · exact fn_of_cal (C_nearest_whole.mono (by decide)) m_nearest_whole
    · exact fn_of_cal (C_ratio_text.mono (by decide)) m_ratio_text
  have C_law : CalD P w K mg base 7 "law" (s_law T) := g_law (D := D_law) (TB := TB_law) (T := T) (hmT := hTm_law) (B := by rintro x hx; simp only [List.mem_cons, List.not_mem_nil, or_false] at hx; rcases hx with rfl | rfl | rfl <;> first | exact c.free X G 36 | exact c.free X G 35 | exact c.free X G 37) (m_ratio_text := m_ratio_text) (m_nearest_whole := m_nearest_whole) (m_floor_of := m_floor_of) (C__law_pen := C__law_pen) (C__law_pick := C__law_pick) (C__law_ratio := C__law_ratio) (C__law_far := C__law_far) (C__law_q := C__law_q) (C__law_some_ratio := C__law_some_ratio) (C__law_passed := C__law_passed) (C_nearest_whole := C_nearest_whole) (C_floor_of := C_floor_of) (C__law_is_whole := C__law_is_whole) (C_ratio_text := C_ratio_text) (C__law_any := C__law_any) (v__law_call := v_law__law_call) (L__law_why := L__law_why) (h := p_law K)
  exact C_law
/-! ### the head -/
abbrev HR : PySem.W.OpenRow := PySem.W.OpenLaw.row PySem.Challenge.rw_nearcurves_k02_whole_floors_and_texts_of
abbrev hk : PySem.W.Hook := hookL 5 hfn hfb (htf.map fun p => (p.1, none))
def hob (s : PySem.W.SharedT) : List FnW × Bool := obsL 5 hfn hfb (htf.map fun p => (p.1, none)) (HandSHeadRun.getT s)
theorem hob_eq (s : PySem.W.SharedT) : hob s = hk.obs s.abs := obsL_eq (HandSHeadRun.getT_eq s)
def pw_names0 : List PySem.Str := ["__name__", "CurveError", "BadText", "BadNumber", "BadRow", "Unlike", "TooMany", "TooWide", "Pole", "is_whole", "is_ratio", "divisor", "lowest", "told", "floor_of", "nearest_whole", "ratio_text", "_law_pen", "_law_draw", "_law_pick", "_law_is_whole", "_law_gcd", "_law_q", "_law_passed", "_law_ratio", "_law_why", "_law_any", "_law_far", "_law_some_ratio", "law"]
def pw_names : List PySem.Str := pw_names0
def loose : List PySem.Str := pw_names.filter fun x => x != "law"
theorem hrun (w : World) : HandSHeadRun.RunEq HR (PySem.W.view HR.prog [31]) hk hob 20000 loose w := by
  intro os
  kernel_rfl
end NC
open PySem PySem.W PySem.Calls PyProof.Rows
theorem PySem.Challenge.cw_nearcurves_k02_whole_floors_and_texts_of_holds : PySem.Challenge.rw_nearcurves_k02_whole_floors_and_texts_of.Holds := by
  w_on; o_law
  refine HandSHeadRun.head_any (r := OpenLaw.row PySem.Challenge.rw_nearcurves_k02_whole_floors_and_texts_of) (q := view (OpenLaw.row PySem.Challenge.rw_nearcurves_k02_whole_floors_and_texts_of).prog [31]) (H := NC.hk) (ob := NC.hob) (M := 20000) (loose := NC.loose) (d := HandSHeadRun.topDef (OpenLaw.row PySem.Challenge.rw_nearcurves_k02_whole_floors_and_texts_of).prog 31) (kwd := []) NC.hob_eq
    (by kernel_rfl) (fun s => by kernel_rfl) NC.hrun (by kernel_rfl) (by kernel_rfl) (by kernel_rfl) (by rfl) (by first | assumption | decide +kernel) (by decide +kernel) ⟨rfl, rfl, rfl, rfl, rfl, by decide +kernel⟩ ?hw ?hc
  case hw => w_witness2
  case hc =>
    refine DL.walk_l (l := PySem.Challenge.rw_nearcurves_k02_whole_floors_and_texts_of) (n := 63) (k := 7) (ja := 58) rfl (by decide) (by kernel_rfl) ⟨rfl, by decide, by decide⟩ rfl ?F
    intro w mg K h KX G c
    have e : (HandSHeadRun.topDef (OpenLaw.row PySem.Challenge.rw_nearcurves_k02_whole_floors_and_texts_of).prog 31).name = ("law" : PySem.Str) := by kernel_rfl
    rw [e]
    exact NC.all_of KX G c
