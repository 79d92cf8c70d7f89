import PyProof.Rows.All
import Wide.All
import OpenK.AllK
import Wide.FinOn
import HandS.ForMost
import HandS.ForExc
import HandS.Wide
import HandS.Walk
import HandS.IsInst
import HandS.ExcInit
import HandS.ExcField
import HandS.TryMany
import HandS.Lambda
import HandS.Flow
import HandS.Style
import HandS.TupAny
import HandS.Conv
import HandS.RaiseMore
import HandS.ClsMeth
import HandS.Comp
import HandS.EndTab
import HandS.EndOwn
import HandS.Head0
import HandS.Head1
import HandS.Head2
import HandS.HeadHook1
import HandS.HeadHook2
import HandS.HeadHook4
import HandS.HeadWalk
import HandS.Zip
import HandS.TupMul
import KE.GoesMore
import KE.KOpsOwn
import HandS.More
import PyProof.ZipIter
import HandS.Zip0
import PySem.Challenge.RW_nearcurves_k03_polynomials_made
set_option Elab.async false
set_option linter.all false
set_option maxRecDepth 100000
set_option maxHeartbeats 2000000
/-! A layer over HandS: Python values as data (D), weakest preconditions over data. -/
namespace DL
open PySem PySem.Spec PyProof.Rows L2

abbrev St := L2.St
/-! ### data -/
/-- a value told by what it holds. obj: a handle on a thing that may change; ro: a list that is only read; raw: a def, a class, a type -/
inductive D where
  | non | bl (b : Bool) | int (i : Int) | str (x : Str)
  | lst (xs : List D) | tup (xs : List D) | dct (kvs : List (Key × D))
  | ro (xs : List D) | obj (a : Addr) | raw (v : V) | exc (a : Addr) (dd : Option Addr) (fs : List (Str × D)) | lam (a : Addr) (G : Hp) | ins (C : Addr) (fs : List (Str × D))
/-- what a handle stands for -/
inductive MO where
  | lst (xs : List D) | dct (kvs : List (Key × D)) | ins (C : Addr) (fs : List (Str × D)) | tbl (q : Str)
abbrev M := Addr → Option MO
def mput (μ : M) (a : Addr) (m : MO) : M := fun b => if b = a then some m else μ b
theorem mput_same {μ : M} {a : Addr} {m : MO} : mput μ a m a = some m := if_pos rfl
theorem mput_ne {μ : M} {a b : Addr} {m : MO} (h : b ≠ a) : mput μ a m b = μ b := if_neg h

mutual
inductive R (K : PySem.W.Frag) (G : Hp) : V → D → Prop
  | non : R K G .non .non
  | bl (b : Bool) : R K G (.bl b) (.bl b)
  | int (i : Int) : R K G (.int i) (.int i)
  | str (x : Str) : R K G (.str x) (.str x)
  | lst {a : Addr} {vs : List V} {ds : List D} : G a = some (.lst vs) → RA K G vs ds → R K G (.ref a) (.lst ds)
  | tup {a : Addr} {vs : List V} {ds : List D} : SqT K G a vs → RA K G vs ds → R K G (.ref a) (.tup ds)
  | dct {a : Addr} {kvs : List (Key × V)} {ks : List (Key × D)} : G a = some (.dK kvs) → RK K G kvs ks → R K G (.ref a) (.dct ks)
  | ro {a : Addr} {vs : List V} {ds : List D} : SqL K G a vs → RA K G vs ds → R K G (.ref a) (.ro ds)
  | obj (a : Addr) : R K G (.ref a) (.obj a)
  | raw (v : V) : R K G v (.raw v)
  | exc0 (a : Addr) (dd : Option Addr) : R K G (.ref a) (.exc a dd [])
  | lam (a : Addr) {G0 : Hp} : Same G0 G → R K G (.ref a) (.lam a G0)
  | ins {a C dx : Addr} {fvs : List (Str × V)} {fs : List (Str × D)} : G a = some (.ins C dx fvs) → RF K G fvs fs → R K G (.ref a) (.ins C fs)
  | exc1 {a d : Addr} {fvs : List (Str × V)} {fs : List (Str × D)} : G d = some (.xd fvs) → RF K G fvs fs → R K G (.ref a) (.exc a (some d) fs)
inductive RA (K : PySem.W.Frag) (G : Hp) : List V → List D → Prop
  | nil : RA K G [] []
  | cons {v : V} {d : D} {vs : List V} {ds : List D} : R K G v d → RA K G vs ds → RA K G (v :: vs) (d :: ds)
inductive RK (K : PySem.W.Frag) (G : Hp) : List (Key × V) → List (Key × D) → Prop
  | nil : RK K G [] []
  | cons {k : Key} {v : V} {d : D} {vs : List (Key × V)} {ds : List (Key × D)} : R K G v d → RK K G vs ds → RK K G ((k, v) :: vs) ((k, d) :: ds)
inductive RF (K : PySem.W.Frag) (G : Hp) : List (Str × V) → List (Str × D) → Prop
  | nil : RF K G [] []
  | cons {k : Str} {v : V} {d : D} {vs : List (Str × V)} {ds : List (Str × D)} : R K G v d → RF K G vs ds → RF K G ((k, v) :: vs) ((k, d) :: ds)
end

section
variable {K : PySem.W.Frag} {G G' : Hp}
theorem same_t {a : Addr} {xs : List V} (e : Same G G') (h : SqT K G a xs) : SqT K G' a xs := by
  rcases h with (h | ⟨o, h⟩) | h
  · exact .inl (.inl (e _ _ h))
  · exact .inl (.inr ⟨o, e _ _ h⟩)
  · exact .inr h
mutual
theorem R.mono (e : Same G G') : ∀ {v : V} {d : D}, R K G v d → R K G' v d
  | _, _, .non => .non
  | _, _, .bl b => .bl b
  | _, _, .int i => .int i
  | _, _, .str x => .str x
  | _, _, .lst h r => .lst (e _ _ h) (RA.mono e r)
  | _, _, .tup h r => .tup (same_t e h) (RA.mono e r)
  | _, _, .dct h r => .dct (e _ _ h) (RK.mono e r)
  | _, _, .ro h r => .ro (e.seq h) (RA.mono e r)
  | _, _, .obj a => .obj a
  | _, _, .raw v => .raw v
  | _, _, .exc0 a dd => .exc0 a dd
  | _, _, .lam a h => .lam a (h.trans e)
  | _, _, .exc1 h r => .exc1 (e _ _ h) (RF.mono e r)
  | _, _, .ins h r => .ins (e _ _ h) (RF.mono e r)
theorem RA.mono (e : Same G G') : ∀ {v : List V} {d : List D}, RA K G v d → RA K G' v d
  | _, _, .nil => .nil
  | _, _, .cons h r => .cons (R.mono e h) (RA.mono e r)
theorem RK.mono (e : Same G G') : ∀ {v : List (Key × V)} {d : List (Key × D)}, RK K G v d → RK K G' v d
  | _, _, .nil => .nil
  | _, _, .cons h r => .cons (R.mono e h) (RK.mono e r)
theorem RF.mono (e : Same G G') : ∀ {v : List (Str × V)} {d : List (Str × D)}, RF K G v d → RF K G' v d
  | _, _, .nil => .nil
  | _, _, .cons h r => .cons (R.mono e h) (RF.mono e r)
end
theorem RF.val {k : Str} {d : D} : ∀ {fvs : List (Str × V)} {fs : List (Str × D)}, RF K G fvs fs → fs.lookup k = some d → ∃ v, fvs.lookup k = some v ∧ R K G v d
  | _, _, .nil, h => by cases h
  | _, _, .cons (k := k1) (vs := vs) (ds := ds) q r, h => by
    rw [List.lookup_cons] at h ⊢
    cases e : (k == k1) with
    | true =>
      rw [e] at h
      cases h
      exact ⟨_, rfl, q⟩
    | false =>
      rw [e] at h
      exact RF.val r h
theorem RA.length : ∀ {vs : List V} {ds : List D}, RA K G vs ds → vs.length = ds.length
  | _, _, .nil => rfl
  | _, _, .cons _ r => congrArg (· + 1) r.length
theorem RK.length : ∀ {vs : List (Key × V)} {ds : List (Key × D)}, RK K G vs ds → vs.length = ds.length
  | _, _, .nil => rfl
  | _, _, .cons _ r => congrArg (· + 1) r.length
theorem RA.get : ∀ {vs : List V} {ds : List D} {i : Nat} {d : D}, RA K G vs ds → ds[i]? = some d → ∃ v, vs[i]? = some v ∧ R K G v d
  | _, _, _, _, .nil, h => by simp at h
  | _, _, 0, _, .cons h _, e => by
    simp at e
    subst e
    exact ⟨_, rfl, h⟩
  | _, _, i + 1, _, .cons _ r, e => by
    obtain ⟨v, h1, h2⟩ := RA.get (i := i) r e
    exact ⟨v, h1, h2⟩
theorem RA.get' {vs : List V} {ds : List D} {i : Nat} {v : V} (r : RA K G vs ds) (h : vs[i]? = some v) : ∃ d, ds[i]? = some d ∧ R K G v d := by
  obtain ⟨hi, _⟩ := List.getElem?_eq_some_iff.mp h
  have hd : i < ds.length := by rw [← r.length]; exact hi
  obtain ⟨w, h1, h2⟩ := r.get (i := i) (d := ds[i]) (List.getElem?_eq_getElem hd)
  rw [h] at h1
  cases h1
  exact ⟨_, List.getElem?_eq_getElem hd, h2⟩
theorem RA.append : ∀ {vs ws : List V} {ds es : List D}, RA K G vs ds → RA K G ws es → RA K G (vs ++ ws) (ds ++ es)
  | _, _, _, _, .nil, s => s
  | _, _, _, _, .cons h r, s => .cons h (r.append s)
theorem RA.take : ∀ {vs : List V} {ds : List D} (n : Nat), RA K G vs ds → RA K G (vs.take n) (ds.take n)
  | _, _, 0, _ => .nil
  | _, _, _ + 1, .nil => .nil
  | _, _, n + 1, .cons h r => .cons h (r.take n)
theorem RA.drop : ∀ {vs : List V} {ds : List D} (n : Nat), RA K G vs ds → RA K G (vs.drop n) (ds.drop n)
  | _, _, 0, r => r
  | _, _, _ + 1, .nil => .nil
  | _, _, n + 1, .cons _ r => r.drop n
theorem RA.rev {vs : List V} {ds : List D} (r : RA K G vs ds) : RA K G vs.reverse ds.reverse := by
  induction r using RA.rec (motive_1 := fun _ _ _ => True) (motive_3 := fun _ _ _ => True) (motive_4 := fun _ _ _ => True) with
  | nil => exact .nil
  | cons h r _ ih =>
    rw [List.reverse_cons, List.reverse_cons]
    exact ih.append (.cons h .nil)
  | _ => trivial
theorem RA.set {v : V} {d : D} (h : R K G v d) : ∀ {vs : List V} {ds : List D} (n : Nat), RA K G vs ds → RA K G (vs.set n v) (ds.set n d)
  | _, _, _, .nil => .nil
  | _, _, 0, .cons _ r => .cons h r
  | _, _, n + 1, .cons q r => .cons q (r.set h n)
theorem RA.ints : ∀ ns : List Int, RA K G (ns.map V.int) (ns.map D.int)
  | [] => .nil
  | n :: ns => .cons (.int n) (RA.ints ns)
theorem R.int_inv {v : V} {i : Int} (r : R K G v (.int i)) : v = .int i := by cases r; rfl
theorem R.bl_inv {v : V} {b : Bool} (r : R K G v (.bl b)) : v = .bl b := by cases r; rfl
theorem R.str_inv {v : V} {x : Str} (r : R K G v (.str x)) : v = .str x := by cases r; rfl
theorem R.non_inv {v : V} (r : R K G v .non) : v = .non := by cases r; rfl
theorem R.raw_inv {v w : V} (r : R K G v (.raw w)) : v = w := by cases r; rfl
theorem R.obj_inv {v : V} {a : Addr} (r : R K G v (.obj a)) : v = .ref a := by cases r; rfl
theorem RK.val {k : Key} {d : D} : ∀ {kvs : List (Key × V)} {ks : List (Key × D)}, RK K G kvs ks → (ks.find? fun p => decide (p.1 = k)).map (·.2) = some d → ∃ v, valV kvs k = some v ∧ R K G v d
  | _, _, .nil, h => by simp at h
  | _, _, .cons (k := k1) (vs := vs) (ds := ds) q r, h => by
    by_cases e : k1 = k
    · rw [List.find?_cons_of_pos (by simpa using e)] at h
      cases h
      refine ⟨_, ?_, q⟩
      unfold valV
      rw [List.find?_cons_of_pos (by simpa using e)] <;> rfl
    · rw [List.find?_cons_of_neg (by simpa using e)] at h
      obtain ⟨v, h1, h2⟩ := RK.val r h
      refine ⟨v, ?_, h2⟩
      unfold valV at h1 ⊢
      rw [List.find?_cons_of_neg (by simpa using e)]
      exact h1
end

/-! ### the heap without what the handles stand for -/
def notTbl : HO → Bool
  | .tbl _ => false
  | _ => true
def hid (H : Hp) (μ : M) : Hp := fun b => match μ b with
  | some _ => none
  | none => (H b).filter notTbl
theorem hid_some {H : Hp} {μ : M} {b : Addr} {o : HO} : hid H μ b = some o ↔ (μ b = none ∧ notTbl o = true) ∧ H b = some o := by
  unfold hid
  cases μ b with
  | some _ => simp
  | none =>
    simp only [Option.filter_eq_some_iff, true_and]
    exact and_comm
theorem hid_sub {H : Hp} {μ : M} : Same (hid H μ) H := fun _ _ h => (hid_some.mp h).2
def MOk (K : PySem.W.Frag) (H : Hp) (μ : M) (a : Addr) : MO → Prop
  | .lst ds => ∃ vs, H a = some (.lst vs) ∧ RA K (hid H μ) vs ds
  | .dct ks => ∃ kvs, H a = some (.dK kvs) ∧ RK K (hid H μ) kvs ks
  | .ins C fs => ∃ dx fvs, H a = some (.ins C dx fvs) ∧ RF K (hid H μ) fvs fs
  | .tbl q => ∃ ps : Array Value, H a = some (.tbl ps) ∧ TriplesOk ps.toList ∧ ∀ (pos : Pos) (cv : Value), codeAmong pos ps.toList = some cv → ∃ c, cv = .ref c ∧ hid H μ c = some (LamX.CodeO c q)
def MR (K : PySem.W.Frag) (H : Hp) (μ : M) : Prop := ∀ a m, μ a = some m → MOk K H μ a m
theorem MR.some {K : PySem.W.Frag} {H : Hp} {μ : M} (h : MR K H μ) {a : Addr} {m : MO} (e : μ a = some m) : ∃ o, H a = some o := by
  have q := h a m e
  cases m with
  | lst ds => obtain ⟨vs, q, _⟩ := q; exact ⟨_, q⟩
  | dct ds => obtain ⟨vs, q, _⟩ := q; exact ⟨_, q⟩
  | ins C fs => obtain ⟨dx, vs, q, _⟩ := q; exact ⟨_, q⟩
  | tbl _ => obtain ⟨vs, q, _⟩ := q; exact ⟨_, q⟩
/-- a new address is no handle -/
theorem MR.fresh {K : PySem.W.Frag} {H : Hp} {μ : M} (h : MR K H μ) {p : Addr} (e : H p = none) : μ p = none := by
  cases q : μ p with
  | none => rfl
  | some m =>
    obtain ⟨o, z⟩ := h.some q
    rw [e] at z
    cases z
/-- from one state to a later one: the data stays -/
structure Mv (K : PySem.W.Frag) (H : Hp) (μ : M) (H' : Hp) (μ' : M) : Prop where
  sm : Same (hid H μ) (hid H' μ')
  mr : MR K H' μ'
theorem Mv.trans {K : PySem.W.Frag} {H H1 H2 : Hp} {μ μ1 μ2 : M} (a : Mv K H μ H1 μ1) (b : Mv K H1 μ1 H2 μ2) : Mv K H μ H2 μ2 := ⟨a.sm.trans b.sm, b.mr⟩
theorem Mv.refl {K : PySem.W.Frag} {H : Hp} {μ : M} (h : MR K H μ) : Mv K H μ H μ := ⟨Same.refl _, h⟩
theorem hid_upd {H : Hp} {μ : M} {p : Addr} {o : HO} (e : H p = none) : Same (hid H μ) (hid (upd H p o) μ) := fun b u h => by
  obtain ⟨h1, h2⟩ := hid_some.mp h
  exact hid_some.mpr ⟨h1, by rw [upd_ne (ne_of_none h2 e)]; exact h2⟩
theorem MOk.mono {K : PySem.W.Frag} {H H' : Hp} {μ μ' : M} {a : Addr} {m : MO} (h : MOk K H μ a m) (e : Same (hid H μ) (hid H' μ')) (ha : H' a = H a) : MOk K H' μ' a m := by
  cases m with
  | lst ds => obtain ⟨vs, q, r⟩ := h; exact ⟨vs, ha.trans q, r.mono e⟩
  | dct ds => obtain ⟨vs, q, r⟩ := h; exact ⟨vs, ha.trans q, r.mono e⟩
  | ins C fs => obtain ⟨dx, vs, q, r⟩ := h; exact ⟨dx, vs, ha.trans q, r.mono e⟩
  | tbl _ => obtain ⟨vs, q, t, r⟩ := h; exact ⟨vs, ha.trans q, t, fun pos cv z => let ⟨c, h1, h2⟩ := r pos cv z; ⟨c, h1, e _ _ h2⟩⟩
/-- a new object, as data -/
theorem Mv.new {K : PySem.W.Frag} {H : Hp} {μ : M} {p : Addr} {o : HO} (h : MR K H μ) (e : H p = none) : Mv K H μ (upd H p o) μ :=
  ⟨hid_upd e, fun a m q => (h a m q).mono (hid_upd e) (upd_ne fun z => by
    obtain ⟨u, w⟩ := h.some q
    rw [z, e] at w
    cases w)⟩
/-- a handle's object is written -/
theorem Mv.put {K : PySem.W.Frag} {H : Hp} {μ : M} {p : Addr} {o : HO} {m : MO} (h : MR K H μ) (e : H p = none ∨ ∃ m0, μ p = some m0) (new : ∀ {G : Hp}, Same (hid H μ) G → hid (upd H p o) (mput μ p m) = G → MOk K (upd H p o) (mput μ p m) p m) : Mv K H μ (upd H p o) (mput μ p m) := by
  have ne : ∀ b u, hid H μ b = some u → b ≠ p := fun b u q z => by
    obtain ⟨h1, h2⟩ := hid_some.mp q
    rcases e with e | ⟨m0, e⟩
    · rw [z, e] at h2; cases h2
    · have h1 := h1.1
      rw [z, e] at h1; cases h1
  have sm : Same (hid H μ) (hid (upd H p o) (mput μ p m)) := fun b u q => by
    obtain ⟨h1, h2⟩ := hid_some.mp q
    exact hid_some.mpr ⟨⟨by rw [mput_ne (ne b u q)]; exact h1.1, h1.2⟩, by rw [upd_ne (ne b u q)]; exact h2⟩
  refine ⟨sm, fun a m' q => ?_⟩
  by_cases z : a = p
  · subst z
    rw [mput_same] at q
    cases q
    exact new sm rfl
  · rw [mput_ne z] at q
    exact (h a m' q).mono sm (upd_ne z)

/-! ### slots -/
abbrev DSt := List (Option D)
structure SD (K : PySem.W.Frag) (σ : St) (δ : DSt) (H : Hp) (μ : M) : Prop where
  sl : ∀ (i : Nat) (d : D), δ[i]? = some (some d) → ∃ v, σ[i]? = some (some v) ∧ R K (hid H μ) v d
  mr : MR K H μ
  len : σ.length = δ.length
theorem SD.step {K : PySem.W.Frag} {σ : St} {δ : DSt} {H H' : Hp} {μ μ' : M} (s : SD K σ δ H μ) (m : Mv K H μ H' μ') : SD K σ δ H' μ' :=
  ⟨fun i d e => let ⟨v, h, r⟩ := s.sl i d e; ⟨v, h, r.mono m.sm⟩, m.mr, s.len⟩
theorem SD.set {K : PySem.W.Frag} {σ : St} {δ : DSt} {H : Hp} {μ : M} {v : V} {d : D} (s : SD K σ δ H μ) (i : Nat) (r : R K (hid H μ) v d) : SD K (σ.set i (some v)) (δ.set i (some d)) H μ := by
  refine ⟨fun j e h => ?_, s.mr, by rw [List.length_set, List.length_set]; exact s.len⟩
  by_cases z : i = j
  · subst z
    by_cases hi : i < δ.length
    · rw [List.getElem?_set_self hi] at h
      cases h
      exact ⟨v, List.getElem?_set_self (by rw [s.len]; exact hi), r⟩
    · rw [List.getElem?_eq_none (by rw [List.length_set]; omega)] at h
      cases h
  · rw [List.getElem?_set_ne z] at h
    obtain ⟨w, h1, h2⟩ := s.sl j e h
    exact ⟨w, by rw [List.getElem?_set_ne z]; exact h1, h2⟩

/-! ### exceptions -/
/-- an exception: its class, its fields (none: it has no dict of its own) -/
structure Er where
  cls : Value
  fs : List (Str × D)
def ErR (K : PySem.W.Frag) (G : Hp) (cls : Value) (dd : Option Addr) (er : Er) : Prop :=
  cls = er.cls ∧ ∀ a, R K G (.ref a) (.exc a dd er.fs)
theorem ErR.mono {K : PySem.W.Frag} {G G' : Hp} {cls : Value} {dd : Option Addr} {er : Er} (e : Same G G') (h : ErR K G cls dd er) : ErR K G' cls dd er :=
  ⟨h.1, fun a => (h.2 a).mono e⟩
abbrev FK := Er → M → Prop

/-! ### what is wanted, over data -/
abbrev DK := D → M → Prop
abbrev DW := DSt → M → DK → FK → Prop
abbrev DA := DSt → M → (List D → M → Prop) → FK → Prop
abbrev DT := DSt → M → (Bool → M → Prop) → FK → Prop
structure DE where
  nx : DSt → M → Prop
  rt : DK
  bk : DSt → M → Prop := fun _ _ => False
  ct : DSt → M → Prop := fun _ _ => False
abbrev DS := DE → FK → DSt → M → Prop
/-- an exception's way out -/
def Ex1 (K : PySem.W.Frag) (W : WX) (σ : St) (H : Hp) (μ : M) (F : FK) : Prop := ∀ cls dd er H' μ', Mv K H μ H' μ' → ErR K (hid H' μ') cls dd er → F er μ' → W cls dd σ H'
theorem Ex1.step {K : PySem.W.Frag} {W : WX} {σ : St} {H H1 : Hp} {μ μ1 : M} {F : FK} (h : Ex1 K W σ H μ F) (m : Mv K H μ H1 μ1) : Ex1 K W σ H1 μ1 F := fun cls dd er H' μ' m' => h cls dd er H' μ' (m.trans m')
def LE (K : PySem.W.Frag) (W : WX) (t : TE) (w : DW) : Prop := ∀ (σ : St) (δ : DSt) (H : Hp) (μ : M) (Q : VK) (Qd : DK) (F : FK), SD K σ δ H μ → w δ μ Qd F →
  (∀ v d H' μ', Mv K H μ H' μ' → R K (hid H' μ') v d → Qd d μ' → Q v H') → Ex1 K W σ H μ F → t σ H Q
def LA (K : PySem.W.Frag) (W : WX) (t : TA) (w : DA) : Prop := ∀ (σ : St) (δ : DSt) (H : Hp) (μ : M) (Q : List V → Hp → Prop) (Qd : List D → M → Prop) (F : FK), SD K σ δ H μ → w δ μ Qd F →
  (∀ vs ds H' μ', Mv K H μ H' μ' → RA K (hid H' μ') vs ds → Qd ds μ' → Q vs H') → Ex1 K W σ H μ F → t σ H Q
def LT (K : PySem.W.Frag) (W : WX) (t : TT) (w : DT) : Prop := ∀ (σ : St) (δ : DSt) (H : Hp) (μ : M) (Q : Bool → Hp → Prop) (Qd : Bool → M → Prop) (F : FK), SD K σ δ H μ → w δ μ Qd F →
  (∀ b H' μ', Mv K H μ H' μ' → Qd b μ' → Q b H') → Ex1 K W σ H μ F → t σ H Q
/-- a statement, told from the entry's data G0 -/
structure DEn (K : PySem.W.Frag) (W : WX) (G0 : Hp) (D : Ends) (Dd : DE) (F : FK) : Prop where
  nx : ∀ σ δ H μ, Same G0 (hid H μ) → SD K σ δ H μ → Dd.nx δ μ → D.nx σ H
  rt : ∀ v d H μ, Same G0 (hid H μ) → MR K H μ → R K (hid H μ) v d → Dd.rt d μ → D.rt v H
  bk : ∀ σ δ H μ, Same G0 (hid H μ) → SD K σ δ H μ → Dd.bk δ μ → D.bk σ H
  ct : ∀ σ δ H μ, Same G0 (hid H μ) → SD K σ δ H μ → Dd.ct δ μ → D.ct σ H
  er : ∀ cls dd er σ H μ, Same G0 (hid H μ) → MR K H μ → ErR K (hid H μ) cls dd er → F er μ → W cls dd σ H
def LS (K : PySem.W.Frag) (W : WX) (t : TS) (w : DS) : Prop := ∀ (G0 : Hp) (σ : St) (δ : DSt) (H : Hp) (μ : M) (D : Ends) (Dd : DE) (F : FK), Same G0 (hid H μ) → SD K σ δ H μ → w Dd F δ μ → DEn K W G0 D Dd F → t D σ H
theorem DEn.ex1 {K : PySem.W.Frag} {W : WX} {G0 : Hp} {D : Ends} {Dd : DE} {F : FK} (e : DEn K W G0 D Dd F) {σ : St} {H : Hp} {μ : M} (g : Same G0 (hid H μ)) : Ex1 K W σ H μ F :=
  fun cls dd er H' μ' m r f => e.er cls dd er σ H' μ' (g.trans m.sm) m.mr r f

structure PD (X : Cx) (W : WX) (e : Expr) (t : TE) (w : DW) : Prop where
  pe : PE X e t
  le : LE X.K W t w
structure PDA (X : Cx) (W : WX) (es : List Expr) (t : TA) (w : DA) : Prop where
  pa : PA X es t
  la : LA X.K W t w
structure PDT (X : Cx) (W : WX) (e : Expr) (t : TT) (w : DT) : Prop where
  pt : PT X e t
  lt : LT X.K W t w
structure PDS (X : Cx) (W : WX) (st : Stmt) (t : TS) (w : DS) : Prop where
  ps : PS X st t
  ls : LS X.K W t w
structure PDB (X : Cx) (W : WX) (sts : List Stmt) (t : TS) (w : DS) : Prop where
  pss : PSs X sts t
  ls : LS X.K W t w
end DL

set_option maxHeartbeats 2000000
namespace DL
open PySem PySem.Spec PyProof.Rows L2

/-! ### data as the library's data -/
def keyP : Key → PyData
  | .inl i => .int i
  | .inr x => .str x
mutual
def D.py : D → Option PyData
  | .non => some .none
  | .bl b => some (.bool b)
  | .int i => some (.int i)
  | .str x => some (.str x)
  | .lst xs => (D.pyA xs).map .list
  | .ro xs => (D.pyA xs).map .list
  | .tup xs => (D.pyA xs).map .tuple
  | .dct ks => (D.pyK ks).map .dict
  | .obj _ => none
  | .raw _ => none
  | .exc _ _ _ => none
  | .lam _ _ => none
  | .ins _ _ => none
def D.pyA : List D → Option (List PyData)
  | [] => some []
  | d :: ds => match d.py, D.pyA ds with
    | some p, some ps => some (p :: ps)
    | _, _ => none
def D.pyK : List (Key × D) → Option (List (PyData × PyData))
  | [] => some []
  | (k, d) :: ds => match d.py, D.pyK ds with
    | some p, some ps => some ((keyP k, p) :: ps)
    | _, _ => none
end
/-- a list: written, or behind a handle -/
def lstOf (μ : M) : D → Option (List D)
  | .lst xs => some xs
  | .obj a => match μ a with
    | some (.lst xs) => some xs
    | _ => none
  | _ => none
/-- what may be read as a list or a tuple -/
def seqOf (μ : M) : D → Option (List D)
  | .lst xs => some xs
  | .ro xs => some xs
  | .tup xs => some xs
  | .obj a => match μ a with
    | some (.lst xs) => some xs
    | _ => none
  | _ => none
def pyOf (μ : M) : D → Option PyData
  | .obj a => match μ a with
    | some (.lst xs) => (D.pyA xs).map .list
    | _ => none
  | d => d.py

section
variable {K : PySem.W.Frag} {H G : Hp} {μ : M}
theorem lst_of {v : V} {d : D} {ds : List D} (m : MR K H μ) (r : R K (hid H μ) v d) (h : lstOf μ d = some ds) : ∃ a vs, v = .ref a ∧ H a = some (.lst vs) ∧ RA K (hid H μ) vs ds := by
  cases r with
  | @lst a vs ds' e ra =>
    cases h
    exact ⟨a, vs, rfl, (hid_some.mp e).2, ra⟩
  | obj a =>
    unfold lstOf at h
    cases q : μ a with
    | none => simp only [q] at h; cases h
    | some mo =>
      cases mo with
      | lst xs =>
        simp only [q] at h
        cases h
        obtain ⟨vs, e, ra⟩ := m a _ q
        exact ⟨a, vs, rfl, e, ra⟩
      | _ => simp only [q] at h; cases h
  | _ => cases h
theorem seq_of {v : V} {d : D} {ds : List D} (m : MR K H μ) (r : R K (hid H μ) v d) (h : seqOf μ d = some ds) : ∃ a vs, v = .ref a ∧ (SqL K H a vs ∨ SqT K H a vs) ∧ RA K (hid H μ) vs ds := by
  cases r with
  | @lst a vs ds' e ra =>
    cases h
    exact ⟨a, vs, rfl, .inl (SqL.of (hid_some.mp e).2), ra⟩
  | @tup a vs ds' e ra =>
    cases h
    exact ⟨a, vs, rfl, .inr (same_t hid_sub e), ra⟩
  | @ro a vs ds' e ra =>
    cases h
    exact ⟨a, vs, rfl, .inl (hid_sub.seq e), ra⟩
  | obj a =>
    obtain ⟨b, vs, e1, e2, e3⟩ := lst_of (d := .obj a) m (.obj a) (ds := ds) (by
      unfold seqOf at h
      unfold lstOf
      exact h)
    exact ⟨b, vs, e1, .inl (SqL.of e2), e3⟩
  | _ => cases h
theorem keyP_R {k : Key} : Dp K H (kV k) (keyP k) := by
  cases k with
  | inl i => exact .int i
  | inr x => exact .str x
end

/-! ### Dp with dicts: for repr -/
mutual
inductive Dq (K : PySem.W.Frag) (H : Hp) : V → PyData → Prop
  | non : Dq K H .non .none
  | bl (b : Bool) : Dq K H (.bl b) (.bool b)
  | int (i : Int) : Dq K H (.int i) (.int i)
  | str (x : Str) : Dq K H (.str x) (.str x)
  | lst {a : Addr} {xs : List V} {ds : List PyData} : SqL K H a xs → DqA K H xs ds → Dq K H (.ref a) (.list ds)
  | tup {a : Addr} {xs : List V} {ds : List PyData} : SqT K H a xs → DqA K H xs ds → Dq K H (.ref a) (.tuple ds)
  | dct {a : Addr} {kvs : List (Key × V)} {ps : List (PyData × PyData)} : H a = some (.dK kvs) → DqK K H kvs ps → Dq K H (.ref a) (.dict ps)
inductive DqA (K : PySem.W.Frag) (H : Hp) : List V → List PyData → Prop
  | nil : DqA K H [] []
  | cons {v : V} {vs : List V} {d : PyData} {ds : List PyData} : Dq K H v d → DqA K H vs ds → DqA K H (v :: vs) (d :: ds)
inductive DqK (K : PySem.W.Frag) (H : Hp) : List (Key × V) → List (PyData × PyData) → Prop
  | nil : DqK K H [] []
  | cons {k : Key} {v : V} {vs : List (Key × V)} {d : PyData} {ds : List (PyData × PyData)} : Dq K H v d → DqK K H vs ds → DqK K H ((k, v) :: vs) ((keyP k, d) :: ds)
end
section
variable {K : PySem.W.Frag} {H : Hp} {μ : M}
mutual
theorem Dq.of_R : ∀ {v : V} {d : D} {p : PyData}, R K (hid H μ) v d → d.py = some p → Dq K H v p
  | _, _, _, .non, e => by cases e; exact .non
  | _, _, _, .bl b, e => by cases e; exact .bl b
  | _, _, _, .int i, e => by cases e; exact .int i
  | _, _, _, .str x, e => by cases e; exact .str x
  | _, _, _, .lst h r, e => by
    simp only [D.py, Option.map_eq_some_iff] at e
    obtain ⟨ps, e1, rfl⟩ := e
    exact .lst (SqL.of (hid_some.mp h).2) (DqA.of_R r e1)
  | _, _, _, .tup h r, e => by
    simp only [D.py, Option.map_eq_some_iff] at e
    obtain ⟨ps, e1, rfl⟩ := e
    exact .tup (same_t hid_sub h) (DqA.of_R r e1)
  | _, _, _, .dct h r, e => by
    simp only [D.py, Option.map_eq_some_iff] at e
    obtain ⟨ps, e1, rfl⟩ := e
    exact .dct (hid_some.mp h).2 (DqK.of_R r e1)
  | _, _, _, .ro h r, e => by
    simp only [D.py, Option.map_eq_some_iff] at e
    obtain ⟨ps, e1, rfl⟩ := e
    exact .lst (hid_sub.seq h) (DqA.of_R r e1)
  | _, _, _, .obj a, e => by cases e
  | _, _, _, .raw v, e => by cases e
  | _, _, _, .exc0 _ _, e => by cases e
  | _, _, _, .lam _ _, e => by cases e
  | _, _, _, .exc1 _ _, e => by cases e
  | _, _, _, .ins _ _, e => by cases e
theorem DqA.of_R : ∀ {v : List V} {d : List D} {p : List PyData}, RA K (hid H μ) v d → D.pyA d = some p → DqA K H v p
  | _, _, _, .nil, e => by cases e; exact .nil
  | _, d :: ds, _, .cons h r, e => by
    cases e1 : d.py with
    | none => simp only [D.pyA, e1] at e; cases e
    | some p1 =>
      cases e2 : D.pyA ds with
      | none => simp only [D.pyA, e1, e2] at e; cases e
      | some p2 =>
        simp only [D.pyA, e1, e2] at e
        cases e
        exact .cons (Dq.of_R h e1) (DqA.of_R r e2)
theorem DqK.of_R : ∀ {v : List (Key × V)} {d : List (Key × D)} {p : List (PyData × PyData)}, RK K (hid H μ) v d → D.pyK d = some p → DqK K H v p
  | _, _, _, .nil, e => by cases e; exact .nil
  | _, (k, d) :: ds, _, .cons h r, e => by
    cases e1 : d.py with
    | none => simp only [D.pyK, e1] at e; cases e
    | some p1 =>
      cases e2 : D.pyK ds with
      | none => simp only [D.pyK, e1, e2] at e; cases e
      | some p2 =>
        simp only [D.pyK, e1, e2] at e
        cases e
        exact .cons (Dq.of_R h e1) (DqK.of_R r e2)
end
mutual
theorem Dp.of_Dq : ∀ {v : V} {p : PyData}, Dq K H v p → p.canLay0 = true → Dp K H v p
  | _, _, .non, _ => .non
  | _, _, .bl b, _ => .bl b
  | _, _, .int i, _ => .int i
  | _, _, .str x, _ => .str x
  | _, _, .lst h r, e => .lst h (DpAll.of_Dq r (by simpa [PyData.canLay0] using e))
  | _, _, .tup h r, e => .tup h (DpAll.of_Dq r (by simpa [PyData.canLay0] using e))
  | _, _, .dct h r, e => by simp [PyData.canLay0] at e
theorem DpAll.of_Dq : ∀ {v : List V} {p : List PyData}, DqA K H v p → PyData.canLayAll0 p = true → DpAll K H v p
  | _, _, .nil, _ => .nil
  | _, _, .cons h r, e => by
    simp only [PyData.canLayAll0, Bool.and_eq_true] at e
    exact .cons (Dp.of_Dq h e.1) (DpAll.of_Dq r e.2)
end
theorem Dq.of_pyOf {v : V} {d : D} {p : PyData} (m : MR K H μ) (r : R K (hid H μ) v d) (e : pyOf μ d = some p) : Dq K H v p := by
  cases d with
  | obj a =>
    cases r
    unfold pyOf at e
    cases q : μ a with
    | none => simp only [q] at e; cases e
    | some mo =>
      cases mo with
      | lst xs =>
        simp only [q, Option.map_eq_some_iff] at e
        obtain ⟨ps, e1, rfl⟩ := e
        obtain ⟨vs, e2, ra⟩ := m a _ q
        exact .lst (SqL.of e2) (DqA.of_R ra e1)
      | _ => simp only [q] at e; cases e
  | _ => exact Dq.of_R r e
end

section
variable {X : Cx} {pins : List (Addr × Obj)} {σ : St} {H : Hp} {s : Shared}
theorem keyP_reads {h : Heap} : ∀ {k : Key} {u : Value}, keyIs k u = true → ∃ as, Reads h u (keyP k) as ∧ as = []
  | .inl i, u, e => by
    obtain ⟨t, rfl⟩ := Value.isInt_shape e
    exact ⟨_, .int i t, rfl⟩
  | .inr x, u, e => by
    obtain ⟨t, rfl⟩ := Value.isStrOf_shape e
    exact ⟨_, .str x t, rfl⟩
/-- a tracked address is no address of the top's -/
theorem trk_base (I : Inv X pins σ H s) {a : Addr} {o : HO} (h : H a = some o) : X.base.get? a = none := by
  cases q : X.base.get? a with
  | none => rfl
  | some ob =>
    have z := (I.bs a ob q).2
    rw [h] at z
    cases z
/-- a value that holds nothing -/
def scP : PyData → Bool
  | .none => true
  | .bool _ => true
  | .int _ => true
  | .str _ => true
  | _ => false
theorem Dq.reads0 {v : V} {u : Value} : ∀ {d : PyData}, Dq X.K H v d → RelV v u → scP d = true → Reads s.heap u d []
  | .none, h, r, _ => by
    cases h
    cases r
    exact .none
  | .bool b, h, r, _ => by
    cases h
    cases r
    exact .bool b
  | .int i, h, r, _ => by
    cases h
    obtain ⟨t, rfl⟩ := r
    exact .int i t
  | .str x, h, r, _ => by
    cases h
    obtain ⟨t, rfl⟩ := r
    exact .str x t
  | .list _, _, _, e => by cases e
  | .tuple _, _, _, e => by cases e
  | .dict _, _, _, e => by cases e
theorem Dq.keys0 {h : Heap} : ∀ {ps : List (PyData × PyData)} {kvs : List (Key × V)} {vs : List (Key × Value)} {es : List DictEntry}, DqK X.K H kvs ps → KV kvs vs → Pairs (mixKind X.prog X.w) es vs → ReadsAll h (es.map (·.key)) (ps.map (·.1)) []
  | [], _, _, _, a, b, c => by
    cases a
    cases b
    cases c
    exact .nil
  | p :: ps, _, _, _, a, b, c => by
    cases a with
    | cons a1 a2 =>
      cases b with
      | cons b1 b2 =>
        cases c with
        | cons c1 c2 c3 =>
          rename_i k _ _ _ kv _ _ _
          obtain ⟨as, h1, h2⟩ := keyP_reads (h := h) (k := k) (by rw [show k = kv.1 from b1.1]; exact c1)
          subst h2
          exact .cons h1 (Dq.keys0 a2 b2 c3)
theorem Dq.vals0 : ∀ {ps : List (PyData × PyData)} {kvs : List (Key × V)} {vs : List (Key × Value)} {es : List DictEntry}, DqK X.K H kvs ps → KV kvs vs → Pairs (mixKind X.prog X.w) es vs → (ps.all fun p => scP p.2) = true → ReadsAll s.heap (es.map (·.val)) (ps.map (·.2)) []
  | [], _, _, _, a, b, c, _ => by
    cases a
    cases b
    cases c
    exact .nil
  | p :: ps, _, _, _, a, b, c, z => by
    rw [List.all_cons, Bool.and_eq_true] at z
    cases a with
    | cons a1 a2 =>
      cases b with
      | cons b1 b2 =>
        cases c with
        | cons c1 c2 c3 =>
          refine .cons (as := []) ?_ (Dq.vals0 a2 b2 c3 z.2)
          show Reads s.heap _ _ _
          have c2' := c2
          dsimp only
          rw [c2']
          exact a1.reads0 b1.2 z.1
mutual
theorem Dq.reads (I : Inv X pins σ H s) : ∀ (d : PyData) (v : V) (u : Value), Dq X.K H v d → d.hasDict = false → RelV v u → ∃ as, Reads s.heap u d as
  | .none, _, _, h, _, r => ⟨_, h.reads0 r rfl⟩
  | .bool b, _, _, h, _, r => ⟨_, h.reads0 r rfl⟩
  | .int i, _, _, h, _, r => ⟨_, h.reads0 r rfl⟩
  | .str x, _, _, h, _, r => ⟨_, h.reads0 r rfl⟩
  | .list ds, _, _, h, n, r => by
    cases h with
    | lst hs ha =>
      cases r
      obtain ⟨its, rv, ⟨o, n', ho, hc, _, hd⟩, _⟩ := I.list hs
      obtain ⟨as, hr⟩ := Dq.readsAll I ds _ its ha (by simpa [PyData.hasDict] using n) rv
      exact ⟨_, .list ho hc hd hr⟩
  | .tuple ds, _, _, h, n, r => by
    cases h with
    | tup hs ha =>
      cases r
      obtain ⟨its, rv, ⟨o, ho, hc, n', hd⟩, _⟩ := I.tuple hs
      obtain ⟨as, hr⟩ := Dq.readsAll I ds _ its ha (by simpa [PyData.hasDict] using n) rv
      exact ⟨_, .tuple ho hc hd hr⟩
  | .dict ps, _, _, h, n, r => by simp [PyData.hasDict] at n
theorem Dq.readsAll (I : Inv X pins σ H s) : ∀ (ds : List PyData) (vs : List V) (us : List Value), DqA X.K H vs ds → PyData.hasDictAll ds = false → Vals vs us → ∃ as, ReadsAll s.heap us ds as
  | [], _, _, h, _, r => by
    cases h
    cases r
    exact ⟨_, .nil⟩
  | d :: ds, _, _, h, n, r => by
    simp only [PyData.hasDictAll, Bool.or_eq_false_iff] at n
    cases h with
    | cons h1 h2 =>
      cases r with
      | cons r1 r2 =>
        obtain ⟨as, q1⟩ := Dq.reads I d _ _ h1 n.1 r1
        obtain ⟨bs, q2⟩ := Dq.readsAll I ds _ _ h2 n.2 r2
        exact ⟨_, .cons q1 q2⟩
end
/-- what repr is told of: no dict within, or a dict of values that hold nothing -/
def okP : PyData → Bool
  | .dict ps => ps.all fun p => scP p.2
  | p => !p.hasDict
theorem Dq.readsP (I : Inv X pins σ H s) {d : PyData} {v : V} {u : Value} (h : Dq X.K H v d) (n : okP d = true) (r : RelV v u) : ∃ as, Reads s.heap u d as ∧ (d.hasDict = true → sysModules ∉ as) := by
  cases d with
  | dict ps =>
    cases h with
    | @dct a kvs _ hs ha =>
      cases r
      obtain ⟨_, hne, vs, kv, o, es, ep, ho, hx, hd, he, hp, _⟩ := (show ObjOk X.prog X.w H s.heap a (.dK kvs) from I.hok a _ hs)
      refine ⟨_, .dict ho hx.1 hd (Dq.keys0 (X := X) (H := H) ha kv hp) (Dq.vals0 (X := X) (H := H) ha kv hp n), fun _ hm => ?_⟩
      have e : sysModules = a := by simpa using hm
      rw [← e] at hne
      exact absurd hne (by decide)
  | _ =>
    have n' := n
    simp only [okP, Bool.not_eq_true'] at n'
    obtain ⟨as, q⟩ := Dq.reads I _ _ _ h n' r
    exact ⟨as, q, fun z => by
      rw [n'] at z
      cases z⟩
mutual
/-- what repr is told of: dicts of values that hold nothing, anywhere -/
def okN : PyData → Bool
  | .dict ps => ps.all fun p => scP p.2
  | .list ds => okNA ds
  | .tuple ds => okNA ds
  | _ => true
def okNA : List PyData → Bool
  | [] => true
  | d :: ds => okN d && okNA ds
end
mutual
theorem okN_of : ∀ {p : PyData}, p.hasDict = false → okN p = true
  | .none, _ => rfl
  | .bool _, _ => rfl
  | .int _, _ => rfl
  | .str _, _ => rfl
  | .list ds, h => by
    simp only [okN]
    exact okN_ofA (by simpa only [PyData.hasDict] using h)
  | .tuple ds, h => by
    simp only [okN]
    exact okN_ofA (by simpa only [PyData.hasDict] using h)
  | .dict ps, h => by simp [PyData.hasDict] at h
theorem okN_ofA : ∀ {ds : List PyData}, PyData.hasDictAll ds = false → okNA ds = true
  | [], _ => rfl
  | d :: ds, h => by
    simp only [PyData.hasDictAll, Bool.or_eq_false_iff] at h
    simp only [okNA, okN_of h.1, okN_ofA h.2, Bool.and_self]
end
theorem okN_ofP {p : PyData} (h : okP p = true) : okN p = true := by
  cases p with
  | dict ps => simpa only [okN, okP] using h
  | _ => exact okN_of (by simpa only [okP, Bool.not_eq_true'] using h)
/-- the table of the modules stands where it stands -/
def SysB (base : Heap) : Prop := ∃ m, base.Ns sysModules m
/-- .. and all that a division of great ints asks for -/
structure SysP (P : Program) (base : Heap) : Prop where
  s : base.NoSeer
  t : P.given.tree = none
theorem SysP.b {P : Program} {base : Heap} (h : SysP P base) : SysB base := h.s.mods.imp fun _ z => z.1
mutual
theorem Dq.readsS (I : Inv X pins σ H s) (hS : SysB X.base) : ∀ (d : PyData) (v : V) (u : Value), Dq X.K H v d → okN d = true → RelV v u → ∃ as, Reads s.heap u d as ∧ sysModules ∉ as
  | .none, _, _, h, _, r => ⟨_, h.reads0 r rfl, by simp⟩
  | .bool b, _, _, h, _, r => ⟨_, h.reads0 r rfl, by simp⟩
  | .int i, _, _, h, _, r => ⟨_, h.reads0 r rfl, by simp⟩
  | .str x, _, _, h, _, r => ⟨_, h.reads0 r rfl, by simp⟩
  | .list ds, _, _, h, n, r => by
    cases h with
    | lst hs ha =>
      cases r
      obtain ⟨its, rv, ⟨o, n', ho, hc, _, hd⟩, _⟩ := I.list hs
      obtain ⟨as, hr, hn⟩ := Dq.readsSA I hS ds _ its ha (by simpa only [okN] using n) rv
      refine ⟨_, .list ho hc hd hr, fun hm => ?_⟩
      rcases List.mem_cons.mp hm with e | hm
      · obtain ⟨m, o', es, ep, e1, e2, _⟩ := hS
        have := I.bk _ _ e1
        rw [e, ho] at this
        cases this
        rw [hd] at e2
        cases e2
      · exact hn hm
  | .tuple ds, _, _, h, n, r => by
    cases h with
    | tup hs ha =>
      cases r
      obtain ⟨its, rv, ⟨o, ho, hc, n', hd⟩, _⟩ := I.tuple hs
      obtain ⟨as, hr, hn⟩ := Dq.readsSA I hS ds _ its ha (by simpa only [okN] using n) rv
      exact ⟨_, .tuple ho hc hd hr, hn⟩
  | .dict ps, _, _, h, n, r => by
    obtain ⟨as, q1, q2⟩ := Dq.readsP I h (by simpa only [okN, okP] using n) r
    exact ⟨as, q1, q2 (by simp [PyData.hasDict])⟩
theorem Dq.readsSA (I : Inv X pins σ H s) (hS : SysB X.base) : ∀ (ds : List PyData) (vs : List V) (us : List Value), DqA X.K H vs ds → okNA ds = true → Vals vs us → ∃ as, ReadsAll s.heap us ds as ∧ sysModules ∉ as
  | [], _, _, h, _, r => by
    cases h
    cases r
    exact ⟨_, .nil, by simp⟩
  | d :: ds, _, _, h, n, r => by
    simp only [okNA, Bool.and_eq_true] at n
    cases h with
    | cons h1 h2 =>
      cases r with
      | cons r1 r2 =>
        obtain ⟨as, q1, q1'⟩ := Dq.readsS I hS d _ _ h1 n.1 r1
        obtain ⟨bs, q2, q2'⟩ := Dq.readsSA I hS ds _ _ h2 n.2 r2
        exact ⟨_, .cons q1 q2, fun hm => by
          rcases List.mem_append.mp hm with hm | hm
          · exact q1' hm
          · exact q2' hm⟩
end
end
end DL

set_option maxHeartbeats 2000000
namespace DL
open PySem PySem.Spec PyProof.Rows L2

/-! ### names, constants, argument lists -/
def wVar (i : Nat) : DW := fun δ μ Q _ => ∃ d, δ[i]? = some (some d) ∧ Q d μ
def wC (d : D) : DW := fun _ μ Q _ => Q d μ
def wNil : DA := fun _ μ Q _ => Q [] μ
def wCons (wa : DW) (wr : DA) : DA := fun δ μ Q F => wa δ μ (fun d μ1 => wr δ μ1 (fun ds μ2 => Q (d :: ds) μ2) F) F
section
variable {X : Cx} {W : WX} {x : Str} {pos : Pos} {a b c e : Expr} {es : List Expr} {ta tb tc te : TE} {wa wb wc we : DW} {tr : TA} {wr : DA} {tt tu : TT} {wt wu : DT}
theorem pdv (i : Nat) (hN : X.N[i]? = some x := by rfl) (hv : Vis X.env.scope x := by first | exact Or.inl rfl | exact Or.inr (Or.inl rfl) | exact Or.inr (Or.inr rfl)) (hd : (x == ("__debug__" : Str)) = false := by decide)
    (hcd : (x == ("__classdict__" : Str)) = false := by decide) : PD X W (.Name x pos) (tVar i) (wVar i) :=
  ⟨pe_var hN hv hd hcd, fun σ δ H μ Q Qd F S ⟨d, e, q⟩ kQ _ => let ⟨v, h, r⟩ := S.sl i d e; ⟨v, h, kQ v d H μ (.refl S.mr) r q⟩⟩
theorem le_c {K : PySem.W.Frag} {v : V} {d : D} (r : ∀ G, R K G v d) : LE K W (tC v) (wC d) := fun σ δ H μ Q Qd F S q kQ _ => kQ v d H μ (.refl S.mr) (r _) q
theorem pd_int {i : Int} {j} : PD X W (.Constant (.int i) j pos) (tC (.int i)) (wC (.int i)) := ⟨pe_int, le_c fun _ => .int i⟩
theorem pd_bl {i : Bool} {j} : PD X W (.Constant (.bool i) j pos) (tC (.bl i)) (wC (.bl i)) := ⟨pe_bl, le_c fun _ => .bl i⟩
theorem pd_non {j} : PD X W (.Constant .none j pos) (tC .non) (wC .non) := ⟨pe_non, le_c fun _ => .non⟩
theorem pd_str {z : Str} {j} : PD X W (.Constant (.str z) j pos) (tC (.str z)) (wC (.str z)) := ⟨pe_str, le_c fun _ => .str z⟩
/-- a def, a class of the module, as a value -/
theorem pd_raw {f : Addr} (hm : X.mg x = some (.ref f)) (hg : Gl X x := by rfl) (hd : (x == ("__debug__" : Str)) = false := by decide) : PD X W (.Name x pos) (tC (.ref f)) (wC (.raw (.ref f))) := ⟨pe_glob hg hm rfl hd, le_c fun _ => .raw _⟩
/-- a built-in type as a value -/
theorem pd_ty {T : String} (hm : X.mg x = none) (hv : bootBuiltins x = some (.type T)) (hg : Gl X x := by rfl) (hn : x ≠ "__name__" := by decide) (hd : (x == ("__debug__" : Str)) = false := by decide) : PD X W (.Name x pos) (tC (.ty T)) (wC (.raw (.ty T))) :=
  ⟨pe_bltn hg hm hv rfl hn hd, le_c fun _ => .raw _⟩
/-- a module's own text, int -/
theorem pd_gstr {z : Str} {t : Tok} (hm : X.mg x = some (.str z t)) (hg : Gl X x := by rfl) (hd : (x == ("__debug__" : Str)) = false := by decide) : PD X W (.Name x pos) (tC (.str z)) (wC (.str z)) := ⟨pe_glob hg hm ⟨t, rfl⟩ hd, le_c fun _ => .str _⟩
theorem pd_gint {z : Int} {t : Tok} (hm : X.mg x = some (.int z t)) (hg : Gl X x := by rfl) (hd : (x == ("__debug__" : Str)) = false := by decide) : PD X W (.Name x pos) (tC (.int z)) (wC (.int z)) := ⟨pe_glob hg hm ⟨t, rfl⟩ hd, le_c fun _ => .int _⟩
theorem pda_nil : PDA X W [] tNil wNil := ⟨pa_nil, fun σ δ H μ Q Qd F S q kQ _ => kQ [] [] H μ (.refl S.mr) .nil q⟩
theorem pda_cons (ha : PD X W e te we) (hr : PDA X W es tr wr) (hs : starEach (e :: es) X.env = (false, eval e X.env) :: starEach es X.env := by rfl) : PDA X W (e :: es) (tCons te tr) (wCons we wr) := by
  refine ⟨pa_cons ha.pe hr.pa hs, fun σ δ H μ Q Qd F S q kQ kF => ?_⟩
  refine ha.le σ δ H μ _ _ F S q (fun v d H1 μ1 m1 r1 q1 => ?_) kF
  refine hr.la σ δ H1 μ1 _ _ F (S.step m1) q1 (fun vs ds H2 μ2 m2 r2 q2 => ?_) (kF.step m1)
  exact kQ (v :: vs) (d :: ds) H2 μ2 (m1.trans m2) (.cons (r1.mono m2.sm) r2) q2
theorem PD.imp {w' : DW} (h : PD X W e te we) (k : ∀ δ μ Q F, w' δ μ Q F → we δ μ Q F) : PD X W e te w' := ⟨h.pe, fun σ δ H μ Q Qd F S q kQ kF => h.le σ δ H μ Q Qd F S (k _ _ _ _ q) kQ kF⟩

/-! ### operators -/
abbrev G1 := D → M → DK → Prop
abbrev G2 := D → D → M → DK → Prop
def OL (K : PySem.W.Frag) (r : R2) (g : G2) : Prop := ∀ (H : Hp) (μ : M) (x y : V) (dx dy : D) (Q : VK) (Qd : DK), MR K H μ → R K (hid H μ) x dx → R K (hid H μ) y dy → g dx dy μ Qd →
  (∀ v d H' μ', Mv K H μ H' μ' → R K (hid H' μ') v d → Qd d μ' → Q v H') → r x y H Q
def UL (K : PySem.W.Frag) (r : V → Hp → VK → Prop) (g : G1) : Prop := ∀ (H : Hp) (μ : M) (x : V) (dx : D) (Q : VK) (Qd : DK), MR K H μ → R K (hid H μ) x dx → g dx μ Qd →
  (∀ v d H' μ', Mv K H μ H' μ' → R K (hid H' μ') v d → Qd d μ' → Q v H') → r x H Q
def CL (K : PySem.W.Frag) (r : List V → Hp → VK → Prop) (g : List D → M → DK → Prop) : Prop := ∀ (H : Hp) (μ : M) (xs : List V) (ds : List D) (Q : VK) (Qd : DK), MR K H μ → RA K (hid H μ) xs ds → g ds μ Qd →
  (∀ v d H' μ', Mv K H μ H' μ' → R K (hid H' μ') v d → Qd d μ' → Q v H') → r xs H Q
def wBin (g : G2) (wa wb : DW) : DW := fun δ μ Q F => wa δ μ (fun x μ1 => wb δ μ1 (fun y μ2 => g x y μ2 Q) F) F
def wUn (g : G1) (wa : DW) : DW := fun δ μ Q F => wa δ μ (fun x μ1 => g x μ1 Q) F
def wCB (g : List D → M → DK → Prop) (wa : DA) : DW := fun δ μ Q F => wa δ μ (fun ds μ1 => g ds μ1 Q) F
theorem le_bin {K : PySem.W.Frag} {r : R2} {g : G2} (ha : LE K W ta wa) (hb : LE K W tb wb) (ho : OL K r g) : LE K W (tOp r ta tb) (wBin g wa wb) := fun σ δ H μ Q Qd F S q kQ kF => by
  refine ha σ δ H μ _ _ F S q (fun v d H1 μ1 m1 r1 q1 => ?_) kF
  refine hb σ δ H1 μ1 _ _ F (S.step m1) q1 (fun w e H2 μ2 m2 r2 q2 => ?_) (kF.step m1)
  exact ho H2 μ2 v w d e Q Qd m2.mr (r1.mono m2.sm) r2 q2 fun v3 d3 H3 μ3 m3 r3 q3 => kQ v3 d3 H3 μ3 (m1.trans (m2.trans m3)) r3 q3
theorem le_un {K : PySem.W.Frag} {r : V → Hp → VK → Prop} {g : G1} (ha : LE K W ta wa) (ho : UL K r g) : LE K W (tUn r ta) (wUn g wa) := fun σ δ H μ Q Qd F S q kQ kF => by
  refine ha σ δ H μ _ _ F S q (fun v d H1 μ1 m1 r1 q1 => ?_) kF
  exact ho H1 μ1 v d Q Qd m1.mr r1 q1 fun v3 d3 H3 μ3 m3 r3 q3 => kQ v3 d3 H3 μ3 (m1.trans m3) r3 q3
theorem le_cb {K : PySem.W.Frag} {r : List V → Hp → VK → Prop} {g : List D → M → DK → Prop} (ha : LA K W tr wr) (ho : CL K r g) : LE K W (tCB r tr) (wCB g wr) := fun σ δ H μ Q Qd F S q kQ kF => by
  refine ha σ δ H μ _ _ F S q (fun v d H1 μ1 m1 r1 q1 => ?_) kF
  exact ho H1 μ1 v d Q Qd m1.mr r1 q1 fun v3 d3 H3 μ3 m3 r3 q3 => kQ v3 d3 H3 μ3 (m1.trans m3) r3 q3
theorem pd_bin {op : Operator} {r : R2} {g : G2} (o : OpR X (binaryOp op) r ∧ OL X.K r g) (ha : PD X W a ta wa) (hb : PD X W b tb wb) : PD X W (.BinOp a op b pos) (tOp r ta tb) (wBin g wa wb) := ⟨pe_op o.1 ha.pe hb.pe, le_bin ha.le hb.le o.2⟩
theorem pd_un {op : UnaryOp} {r : V → Hp → VK → Prop} {g : G1} (o : UnR X (unaryOp op) r ∧ UL X.K r g) (ha : PD X W a ta wa) : PD X W (.UnaryOp op a pos) (tUn r ta) (wUn g wa) := ⟨pe_un o.1 ha.pe, le_un ha.le o.2⟩
theorem pd_cmp {op : CmpOp} {r : R2} {g : G2} (o : OpR X (compareOp op) r ∧ OL X.K r g) (ha : PD X W a ta wa) (hb : PD X W b tb wb) (hm : behindInMarks op b = false := by first | exact nomark _ | rfl) : PD X W (.Compare a [op] [b] pos) (tOp r ta tb) (wBin g wa wb) :=
  ⟨pe_cmpR o.1 ha.pe hb.pe hm, le_bin ha.le hb.le o.2⟩

/-! ### tests -/
def wTst (w : DW) : DT := fun δ μ Q F => w δ μ (fun d μ1 => ∃ k, d = .bl k ∧ Q k μ1) F
theorem lt_tst {K : PySem.W.Frag} (ha : LE K W ta wa) : LT K W (tTest ta) (wTst wa) := fun σ δ H μ Q Qd F S q kQ kF =>
  ha σ δ H μ _ _ F S q (fun v d H1 μ1 m1 r1 ⟨k, e, q1⟩ => by
    subst e
    exact ⟨k, r1.bl_inv, kQ k H1 μ1 m1 q1⟩) kF
theorem pdt_cmp {op : CmpOp} {r : R2} {g : G2} (o : OpR X (compareOp op) r ∧ OL X.K r g) (ha : PD X W a ta wa) (hb : PD X W b tb wb) (hm : behindInMarks op b = false := by first | exact nomark _ | rfl) : PDT X W (.Compare a [op] [b] pos) (tTest (tOp r ta tb)) (wTst (wBin g wa wb)) :=
  ⟨pt_cmpR o.1 ha.pe hb.pe hm, lt_tst (le_bin ha.le hb.le o.2)⟩
/-- an expression whose value is a bool -/
theorem pdt_val (ha : PD X W e te we) (he : ∀ whole, isTrue e X.env whole = (do let v ← whole; standAt e.pos; holding [v] (truthy v)) := by intro _; rfl) : PDT X W e (tB te) (wTst we) :=
  ⟨pt_val ha.pe he, lt_tst ha.le⟩
def wAnd (t u : DT) : DT := fun δ μ Q F => t δ μ (fun k μ1 => if k = true then u δ μ1 Q F else Q false μ1) F
def wOr (t u : DT) : DT := fun δ μ Q F => t δ μ (fun k μ1 => if k = true then Q true μ1 else u δ μ1 Q F) F
def wNot (t : DT) : DT := fun δ μ Q F => t δ μ (fun k μ1 => Q (!k) μ1) F
/-- a test whatever its 'whole' is -/
structure PDW (X : Cx) (W : WX) (e : Expr) (t : TT) (w : DT) : Prop where
  pw : PW X e t
  lt : LT X.K W t w
theorem PDW.pdt (h : PDW X W e tt wt) : PDT X W e tt wt := ⟨h.pw.pt, h.lt⟩
theorem pdw_and1 (ha : PDT X W a tt wt) : PDW X W (.BoolOp .And [a] pos) tt wt := ⟨pw_and1 ha.pt, ha.lt⟩
theorem pdw_or1 (ha : PDT X W a tt wt) : PDW X W (.BoolOp .Or [a] pos) tt wt := ⟨pw_or1 ha.pt, ha.lt⟩
theorem pdw_and (ha : PDT X W a tt wt) (hb : PDW X W (.BoolOp .And (b :: es) pos) tu wu) : PDW X W (.BoolOp .And (a :: b :: es) pos) (tAnd tt tu) (wAnd wt wu) := by
  refine ⟨pw_and ha.pt hb.pw, fun σ δ H μ Q Qd F S q kQ kF => ?_⟩
  refine ha.lt σ δ H μ _ _ F S q (fun k H1 μ1 m1 q1 => ?_) kF
  cases k with
  | true => exact hb.lt σ δ H1 μ1 _ _ F (S.step m1) q1 (fun k2 H2 μ2 m2 q2 => kQ k2 H2 μ2 (m1.trans m2) q2) (kF.step m1)
  | false => exact kQ false H1 μ1 m1 q1
theorem pdw_or (ha : PDT X W a tt wt) (hb : PDW X W (.BoolOp .Or (b :: es) pos) tu wu) : PDW X W (.BoolOp .Or (a :: b :: es) pos) (tOr tt tu) (wOr wt wu) := by
  refine ⟨pw_or ha.pt hb.pw, fun σ δ H μ Q Qd F S q kQ kF => ?_⟩
  refine ha.lt σ δ H μ _ _ F S q (fun k H1 μ1 m1 q1 => ?_) kF
  cases k with
  | false => exact hb.lt σ δ H1 μ1 _ _ F (S.step m1) q1 (fun k2 H2 μ2 m2 q2 => kQ k2 H2 μ2 (m1.trans m2) q2) (kF.step m1)
  | true => exact kQ true H1 μ1 m1 q1
theorem pdt_not (ha : PDT X W a tt wt) : PDT X W (.UnaryOp .Not a pos) (tNot tt) (wNot wt) :=
  ⟨pt_not ha.pt, fun σ δ H μ Q Qd F S q kQ kF => ha.lt σ δ H μ _ _ F S q (fun k H1 μ1 m1 q1 => kQ (!k) H1 μ1 m1 q1) kF⟩
/-! and, or, not of bools, as values -/
def wAndV (wa wb : DW) : DW := fun δ μ Q F => wa δ μ (fun d μ1 => ∃ k, d = .bl k ∧ if k = true then wb δ μ1 Q F else Q (.bl false) μ1) F
def wOrV (wa wb : DW) : DW := fun δ μ Q F => wa δ μ (fun d μ1 => ∃ k, d = .bl k ∧ if k = true then Q (.bl true) μ1 else wb δ μ1 Q F) F
def wNotV (wa : DW) : DW := fun δ μ Q F => wa δ μ (fun d μ1 => ∃ k, d = .bl k ∧ Q (.bl (!k)) μ1) F
theorem pd_one {op} (ha : PD X W a ta wa) : PD X W (.BoolOp op [a] pos) ta wa := ⟨pe_one ha.pe, ha.le⟩
theorem pd_and (ha : PD X W a ta wa) (hb : PD X W (.BoolOp .And (b :: es) pos) tb wb) : PD X W (.BoolOp .And (a :: b :: es) pos) (tAndV ta tb) (wAndV wa wb) := by
  refine ⟨pe_and ha.pe hb.pe, fun σ δ H μ Q Qd F S q kQ kF => ?_⟩
  refine ha.le σ δ H μ _ _ F S q (fun v d H1 μ1 m1 r1 q1 => ?_) kF
  obtain ⟨k, rfl, q1⟩ := q1
  refine ⟨k, r1.bl_inv, ?_⟩
  cases k with
  | true => exact hb.le σ δ H1 μ1 _ _ F (S.step m1) q1 (fun v2 d2 H2 μ2 m2 r2 q2 => kQ v2 d2 H2 μ2 (m1.trans m2) r2 q2) (kF.step m1)
  | false => exact kQ _ _ H1 μ1 m1 (.bl false) q1
theorem pd_or (ha : PD X W a ta wa) (hb : PD X W (.BoolOp .Or (b :: es) pos) tb wb) : PD X W (.BoolOp .Or (a :: b :: es) pos) (tOrV ta tb) (wOrV wa wb) := by
  refine ⟨pe_or ha.pe hb.pe, fun σ δ H μ Q Qd F S q kQ kF => ?_⟩
  refine ha.le σ δ H μ _ _ F S q (fun v d H1 μ1 m1 r1 q1 => ?_) kF
  obtain ⟨k, rfl, q1⟩ := q1
  refine ⟨k, r1.bl_inv, ?_⟩
  cases k with
  | false => exact hb.le σ δ H1 μ1 _ _ F (S.step m1) q1 (fun v2 d2 H2 μ2 m2 r2 q2 => kQ v2 d2 H2 μ2 (m1.trans m2) r2 q2) (kF.step m1)
  | true => exact kQ _ _ H1 μ1 m1 (.bl true) q1
theorem pd_not (ha : PD X W a ta wa) : PD X W (.UnaryOp .Not a pos) (tNotV ta) (wNotV wa) := by
  refine ⟨pe_not ha.pe, fun σ δ H μ Q Qd F S q kQ kF => ?_⟩
  refine ha.le σ δ H μ _ _ F S q (fun v d H1 μ1 m1 r1 q1 => ?_) kF
  obtain ⟨k, rfl, q1⟩ := q1
  exact ⟨k, r1.bl_inv, kQ _ _ H1 μ1 m1 (.bl _) q1⟩
/-- a if t else b -/
def wIf (t : DT) (wa wb : DW) : DW := fun δ μ Q F => t δ μ (fun k μ1 => if k = true then wa δ μ1 Q F else wb δ μ1 Q F) F
theorem pd_if (hc : PDT X W c tt wt) (ha : PD X W a ta wa) (hb : PD X W b tb wb) : PD X W (.IfExp c a b pos) (tIf tt ta tb) (wIf wt wa wb) := by
  refine ⟨pe_ifExp hc.pt ha.pe hb.pe, fun σ δ H μ Q Qd F S q kQ kF => ?_⟩
  refine hc.lt σ δ H μ _ _ F S q (fun k H1 μ1 m1 q1 => ?_) kF
  cases k with
  | true => exact ha.le σ δ H1 μ1 _ _ F (S.step m1) q1 (fun v2 d2 H2 μ2 m2 r2 q2 => kQ v2 d2 H2 μ2 (m1.trans m2) r2 q2) (kF.step m1)
  | false => exact hb.le σ δ H1 μ1 _ _ F (S.step m1) q1 (fun v2 d2 H2 μ2 m2 r2 q2 => kQ v2 d2 H2 μ2 (m1.trans m2) r2 q2) (kF.step m1)

/-! ### displays -/
def wTup (wa : DA) : DW := fun δ μ Q F => wa δ μ (fun ds μ1 => ds.length ≤ 1000000 ∧ Q (.tup ds) μ1) F
def wLst (wa : DA) : DW := fun δ μ Q F => wa δ μ (fun ds μ1 => ds.length ≤ 1000000 ∧ Q (.lst ds) μ1) F
/-- a list that will change: behind a handle -/
def wLstM (wa : DA) : DW := fun δ μ Q F => wa δ μ (fun ds μ1 => ds.length ≤ 1000000 ∧ ∀ p, μ1 p = none → Q (.obj p) (mput μ1 p (.lst ds))) F
theorem sz_ok {n : Nat} (h : n ≤ 1000000) : n ≤ sizeLine := Nat.le_trans h (by decide)
theorem hid_new {H : Hp} {μ : M} {p : Addr} {o : HO} (e : μ p = none) (n : notTbl o = true := by rfl) : hid (upd H p o) μ p = some o := hid_some.mpr ⟨⟨e, n⟩, upd_same⟩
theorem pd_tup {x1} (h : PDA X W es tr wr) : PD X W (.Tuple es x1 pos) (tTup tr) (wTup wr) := by
  refine ⟨pe_tup h.pa, fun σ δ H μ Q Qd F S q kQ kF => ?_⟩
  refine h.la σ δ H μ _ _ F S q (fun vs ds H1 μ1 m1 r1 ⟨z, q1⟩ => ⟨sz_ok (by rw [r1.length]; exact z), fun p hp => ?_⟩) kF
  have m2 := Mv.new (o := .tup vs) m1.mr hp
  exact kQ _ _ _ _ (m1.trans m2) (.tup (SqT.of (hid_new (m1.mr.fresh hp))) (r1.mono m2.sm)) q1
theorem pd_lst (h : PDA X W es tr wr) : PD X W (.List es pos) (tLst tr) (wLst wr) := by
  refine ⟨pe_lst h.pa, fun σ δ H μ Q Qd F S q kQ kF => ?_⟩
  refine h.la σ δ H μ _ _ F S q (fun vs ds H1 μ1 m1 r1 ⟨z, q1⟩ => ⟨sz_ok (by rw [r1.length]; exact z), fun p hp => ?_⟩) kF
  have m2 := Mv.new (o := .lst vs) m1.mr hp
  exact kQ _ _ _ _ (m1.trans m2) (.lst (hid_new (m1.mr.fresh hp)) (r1.mono m2.sm)) q1
theorem Mv.newL {K : PySem.W.Frag} {H : Hp} {μ : M} {p : Addr} {vs : List V} {ds : List D} (h : MR K H μ) (e : H p = none) (r : RA K (hid H μ) vs ds) : Mv K H μ (upd H p (.lst vs)) (mput μ p (.lst ds)) :=
  Mv.put h (.inl e) fun sm eq => ⟨vs, upd_same, by rw [eq]; exact r.mono sm⟩
theorem pd_lstM (h : PDA X W es tr wr) : PD X W (.List es pos) (tLst tr) (wLstM wr) := by
  refine ⟨pe_lst h.pa, fun σ δ H μ Q Qd F S q kQ kF => ?_⟩
  refine h.la σ δ H μ _ _ F S q (fun vs ds H1 μ1 m1 r1 ⟨z, q1⟩ => ⟨sz_ok (by rw [r1.length]; exact z), fun p hp => ?_⟩) kF
  exact kQ _ _ _ _ (m1.trans (Mv.newL m1.mr hp r1)) (.obj p) (q1 p (m1.mr.fresh hp))
end

/-! ### what the operators do -/
def gI (C : Int → Int → Prop) (g : Int → Int → D) : G2 := fun x y μ Q => ∃ i j, x = .int i ∧ y = .int j ∧ C i j ∧ Q (g i j) μ
def gU (g : Int → D) : G1 := fun x μ Q => ∃ i, x = .int i ∧ Q (g i) μ
theorem ol_int {K : PySem.W.Frag} {C C' : Int → Int → Prop} {g : Int → Int → Int} (h : ∀ i j, C' i j → C i j) : OL K (rI C fun i j => .int (g i j)) (gI C' fun i j => .int (g i j)) := fun H μ x y dx dy Q Qd m rx ry ⟨i, j, e1, e2, c, q⟩ k => by
  subst e1 e2
  exact ⟨i, j, rx.int_inv, ry.int_inv, h i j c, k _ _ H μ (.refl m) (.int _) q⟩
theorem ol_int0 {K : PySem.W.Frag} {g : Int → Int → Int} : OL K (rI0 fun i j => .int (g i j)) (gI (fun _ _ => True) fun i j => .int (g i j)) := fun H μ x y dx dy Q Qd m rx ry ⟨i, j, e1, e2, c, q⟩ k => by
  subst e1 e2
  exact ⟨i, j, rx.int_inv, ry.int_inv, k _ _ H μ (.refl m) (.int _) q⟩
theorem ol_bl0 {K : PySem.W.Frag} {g : Int → Int → Bool} : OL K (rI0 fun i j => .bl (g i j)) (gI (fun _ _ => True) fun i j => .bl (g i j)) := fun H μ x y dx dy Q Qd m rx ry ⟨i, j, e1, e2, c, q⟩ k => by
  subst e1 e2
  exact ⟨i, j, rx.int_inv, ry.int_inv, k _ _ H μ (.refl m) (.bl _) q⟩
/-- // by any divisor -/
def CDivG (_ j : Int) : Prop := j ≠ 0 ∧ j.natAbs.log2 < 1000000000
section
variable {X : Cx}
/-- + of ints, texts, lists, tuples -/
def gAdd : G2 := fun x y μ Q => (∃ i j, x = .int i ∧ y = .int j ∧ Q (.int (i + j)) μ) ∨ (∃ i j, x = .str i ∧ y = .str j ∧ i.length + j.length ≤ 1000000 ∧ Q (.str (i ++ j)) μ) ∨
  (∃ i j, lstOf μ x = some i ∧ lstOf μ y = some j ∧ i.length + j.length ≤ 1000000 ∧ Q (.lst (i ++ j)) μ) ∨ ∃ i j, x = .tup i ∧ y = .tup j ∧ i.length + j.length ≤ 1000000 ∧ Q (.tup (i ++ j)) μ
def rAddA (K : PySem.W.Frag) : R2 := fun x y H Q => (rI0 (fun i j => .int (i + j)) x y H Q ∨ (∃ i j, x = .str i ∧ y = .str j ∧ i.length + j.length ≤ sizeLine ∧ Q (.str (i ++ j)) H)) ∨ (rCat x y H Q ∨ rCatA K x y H Q)
theorem o_add : OpR X (binaryOp .Add) (rAddA X.K) ∧ OL X.K (rAddA X.K) gAdd := by
  refine ⟨OpR.or (OpR.or op_add op_add_str) (OpR.or op_cat op_catA), fun H μ x y dx dy Q Qd m rx ry h k => ?_⟩
  rcases h with ⟨i, j, rfl, rfl, q⟩ | ⟨i, j, rfl, rfl, z, q⟩ | ⟨i, j, e1, e2, z, q⟩ | ⟨i, j, rfl, rfl, z, q⟩
  · exact .inl (.inl ⟨i, j, rx.int_inv, ry.int_inv, k _ _ H μ (.refl m) (.int _) q⟩)
  · exact .inl (.inr ⟨i, j, rx.str_inv, ry.str_inv, sz_ok z, k _ _ H μ (.refl m) (.str _) q⟩)
  · obtain ⟨a, xs, rfl, h1, ra⟩ := lst_of m rx e1
    obtain ⟨b, ys, rfl, h2, rb⟩ := lst_of m ry e2
    refine .inr (.inl ⟨a, b, xs, ys, rfl, rfl, h1, h2, sz_ok (by rw [ra.length, rb.length]; exact z), fun p hp => ?_⟩)
    have m2 := Mv.new (o := .lst (xs ++ ys)) m hp
    exact k _ _ _ _ m2 (.lst (hid_new (m.fresh hp)) ((ra.append rb).mono m2.sm)) q
  · cases rx with
    | @tup a xs _ h1 ra =>
      cases ry with
      | @tup b ys _ h2 rb =>
        have t1 := same_t hid_sub h1
        have t2 := same_t hid_sub h2
        refine .inr (.inr ⟨a, b, xs, ys, rfl, rfl, t1, t2, sz_ok (by rw [ra.length, rb.length]; exact z), fun e => ?_, fun _ e => ?_, fun _ _ p hp => ?_⟩)
        · subst e
          cases ra
          exact k _ _ H μ (.refl m) (.tup h2 rb) q
        · subst e
          cases rb
          rw [List.append_nil] at q
          exact k _ _ H μ (.refl m) (.tup h1 ra) q
        · have m2 := Mv.new (o := .tup (xs ++ ys)) m hp
          exact k _ _ _ _ m2 (.tup (SqT.of (hid_new (m.fresh hp))) ((ra.append rb).mono m2.sm)) q
theorem o_sub : OpR X (binaryOp .Sub) (rI0 fun i j => .int (i - j)) ∧ OL X.K (rI0 fun i j => .int (i - j)) (gI (fun _ _ => True) fun i j => .int (i - j)) := ⟨op_sub, ol_int0⟩
/-- * of two factors of together less than 130 million bits -/
def CMulX (i j : Int) : Prop := i.natAbs.log2 + j.natAbs.log2 < 130000000
theorem CMulX.ok {i j : Int} (h : CMulX i j) : IntMulOk i j := by
  have b : ∀ x : Int, Builtin.Int.intBits x ≤ x.natAbs.log2 + 1 := fun x => by
    unfold Builtin.Int.intBits
    split <;> omega
  have h1 := b i
  have h2 := b j
  have h3 : i.natAbs.log2 + j.natAbs.log2 < 130000000 := h
  have e : bitsLine = 134217728 := by decide
  unfold IntMulOk
  intro z
  rw [Bool.and_eq_true] at z
  have z2 := z.2
  unfold Builtin.Int.intTooBig at z2
  have z3 := of_decide_eq_true z2
  rw [e] at z3
  omega
theorem op_mulX : OpR X (binaryOp .Mult) (rI CMulX fun i j => .int (i * j)) := opI fun _ _ _ _ _ _ _ hc q => mul_int q hc.ok
theorem o_mul : OpR X (binaryOp .Mult) (rI CMulX fun i j => .int (i * j)) ∧ OL X.K (rI CMulX fun i j => .int (i * j)) (gI CMulX fun i j => .int (i * j)) := ⟨op_mulX, ol_int fun _ _ h => h⟩
theorem o_mod : OpR X (binaryOp .Mod) (rI (fun _ j => j ≠ 0) fun i j => .int (i.fmod j)) ∧ OL X.K (rI (fun _ j => j ≠ 0) fun i j => .int (i.fmod j)) (gI (fun _ j => j ≠ 0) fun i j => .int (i.fmod j)) := ⟨op_modN, ol_int fun _ _ h => h⟩
theorem o_pow : OpR X (binaryOp .Pow) (rI CPow fun i j => .int (i ^ j.toNat)) ∧ OL X.K (rI CPow fun i j => .int (i ^ j.toNat)) (gI CPow fun i j => .int (i ^ j.toNat)) := ⟨op_pow, ol_int fun _ _ h => h⟩
theorem o_lt : OpR X (compareOp .Lt) (rI0 fun i j => .bl (decide (i < j))) ∧ OL X.K (rI0 fun i j => .bl (decide (i < j))) (gI (fun _ _ => True) fun i j => .bl (decide (i < j))) := ⟨op_lt, ol_bl0⟩
theorem o_le : OpR X (compareOp .LtE) (rI0 fun i j => .bl (decide (i ≤ j))) ∧ OL X.K (rI0 fun i j => .bl (decide (i ≤ j))) (gI (fun _ _ => True) fun i j => .bl (decide (i ≤ j))) := ⟨op_le, ol_bl0⟩
theorem o_gt : OpR X (compareOp .Gt) (rI0 fun i j => .bl (decide (j < i))) ∧ OL X.K (rI0 fun i j => .bl (decide (j < i))) (gI (fun _ _ => True) fun i j => .bl (decide (j < i))) := ⟨op_gt, ol_bl0⟩
theorem o_ge : OpR X (compareOp .GtE) (rI0 fun i j => .bl (decide (j ≤ i))) ∧ OL X.K (rI0 fun i j => .bl (decide (j ≤ i))) (gI (fun _ _ => True) fun i j => .bl (decide (j ≤ i))) := ⟨op_ge, ol_bl0⟩
theorem o_neg : UnR X (unaryOp .USub) (rU fun i => .int (-i)) ∧ UL X.K (rU fun i => .int (-i)) (gU fun i => .int (-i)) := ⟨un_neg, fun H μ x dx Q Qd m rx ⟨i, e, q⟩ k => by
  subst e
  exact ⟨i, rx.int_inv, k _ _ H μ (.refl m) (.int _) q⟩⟩
/-- ==, != of data -/
def gEq (neg : Bool) : G2 := fun x y μ Q => ∃ p q, pyOf μ x = some p ∧ pyOf μ y = some q ∧ SeqAt.shaped p = true ∧ SeqAt.shaped q = true ∧ Q (.bl (if neg = true then !PyData.eqv p q else PyData.eqv p q)) μ
theorem o_eq (hu : X.A.units + 64 < cLine) : OpR X (compareOp .Eq) (rEqD X.K) ∧ OL X.K (rEqD X.K) (gEq false) := by
  refine ⟨op_eqD hu, fun H μ x y dx dy Q Qd m rx ry ⟨p, q, e1, e2, s1, s2, h⟩ k => ?_⟩
  exact ⟨p, q, Dp.of_Dq (Dq.of_pyOf m rx e1) (SeqAt.canLay_of_shaped s1), Dp.of_Dq (Dq.of_pyOf m ry e2) (SeqAt.canLay_of_shaped s2), s1, s2, k _ _ H μ (.refl m) (.bl _) h⟩
theorem o_ne (hu : X.A.units + 64 < cLine) : OpR X (compareOp .NotEq) (rNeD X.K) ∧ OL X.K (rNeD X.K) (gEq true) := by
  refine ⟨op_neD hu, fun H μ x y dx dy Q Qd m rx ry ⟨p, q, e1, e2, s1, s2, h⟩ k => ?_⟩
  exact ⟨p, q, Dp.of_Dq (Dq.of_pyOf m rx e1) (SeqAt.canLay_of_shaped s1), Dp.of_Dq (Dq.of_pyOf m ry e2) (SeqAt.canLay_of_shaped s2), s1, s2, k _ _ H μ (.refl m) (.bl _) h⟩
/-- is None, is not None -/
def isNonD : D → Bool
  | .non => true
  | _ => false
def gIsN (neg : Bool) : G2 := fun x y μ Q => y = .non ∧ (∀ v, x ≠ .raw v) ∧ Q (.bl (if neg = true then !isNonD x else isNonD x)) μ
theorem isNon_R {K : PySem.W.Frag} {G : Hp} {v : V} {d : D} (r : R K G v d) (h : ∀ v, d ≠ .raw v) : decide (v = .non) = isNonD d := by
  cases r with
  | raw v => exact absurd rfl (h v)
  | non => rfl
  | _ => rfl
theorem o_is : OpR X (compareOp .Is) (fun x y H Q => y = .non ∧ Q (.bl (decide (x = .non))) H) ∧ OL X.K (fun x y H Q => y = .non ∧ Q (.bl (decide (x = .non))) H) (gIsN false) :=
  ⟨op_isN, fun H μ x y dx dy Q Qd m rx ry ⟨e, n, q⟩ k => by
    subst e
    exact ⟨ry.non_inv, k _ _ H μ (.refl m) (by rw [isNon_R rx n]; exact .bl _) q⟩⟩
theorem o_isnot : OpR X (compareOp .IsNot) (fun x y H Q => y = .non ∧ Q (.bl (!decide (x = .non))) H) ∧ OL X.K (fun x y H Q => y = .non ∧ Q (.bl (!decide (x = .non))) H) (gIsN true) :=
  ⟨op_notN, fun H μ x y dx dy Q Qd m rx ry ⟨e, n, q⟩ k => by
    subst e
    exact ⟨ry.non_inv, k _ _ H μ (.refl m) (by rw [isNon_R rx n]; exact .bl _) q⟩⟩
/-- is True, is False of bools -/
def gIsB : G2 := fun x y μ Q => ∃ a b, x = .bl a ∧ y = .bl b ∧ Q (.bl (decide (a = b))) μ
theorem o_isB : OpR X (compareOp .Is) rIsB ∧ OL X.K rIsB gIsB := ⟨op_isBl, fun H μ x y dx dy Q Qd m rx ry ⟨a, b, e1, e2, q⟩ k => by
  subst e1 e2
  exact ⟨a, b, rx.bl_inv, ry.bl_inv, k _ _ H μ (.refl m) (.bl _) q⟩⟩
end
end DL

set_option maxHeartbeats 2000000
namespace DL
open PySem PySem.Spec PyProof.Rows L2

/-! ### subscripts, slices -/
theorem at_of {K : PySem.W.Frag} {G : Hp} {vs : List V} {ds : List D} {i : Int} {d : D} (r : RA K G vs ds) (h : atI ds i = some d) : ∃ v, atI vs i = some v ∧ R K G v d := by
  unfold atI at h ⊢
  rw [r.length]
  cases e : ixN ds.length i with
  | none => rw [e] at h; cases h
  | some j =>
    rw [e] at h
    exact r.get h
def gIx : G2 := fun x y μ Q => (∃ ds i d, seqOf μ x = some ds ∧ y = .int i ∧ atI ds i = some d ∧ Q d μ) ∨ ∃ z i c, x = .str z ∧ y = .int i ∧ z.length ≤ 1000000 ∧ atI z.cps.toList i = some c ∧ Q (.str ⟨#[c]⟩) μ
/-- d[k], a dict behind a handle, or a written one -/
def dctOf (μ : M) : D → Option (List (Key × D))
  | .dct ks => some ks
  | .obj a => match μ a with
    | some (.dct ks) => some ks
    | _ => none
  | _ => none
def keyOf : D → Option Key
  | .int i => some (.inl i)
  | .str x => some (.inr x)
  | _ => none
def valD (ks : List (Key × D)) (k : Key) : Option D := (ks.find? fun p => decide (p.1 = k)).map (·.2)
def gDGet : G2 := fun x y μ Q => ∃ ks k d, dctOf μ x = some ks ∧ keyOf y = some k ∧ valD ks k = some d ∧ Q d μ
section
variable {K : PySem.W.Frag} {H : Hp} {μ : M}
theorem dct_of {v : V} {d : D} {ks : List (Key × D)} (m : MR K H μ) (r : R K (hid H μ) v d) (h : dctOf μ d = some ks) : ∃ a kvs, v = .ref a ∧ H a = some (.dK kvs) ∧ RK K (hid H μ) kvs ks := by
  cases r with
  | @dct a kvs ks' e ra =>
    cases h
    exact ⟨a, kvs, rfl, (hid_some.mp e).2, ra⟩
  | obj a =>
    unfold dctOf at h
    cases q : μ a with
    | none => simp only [q] at h; cases h
    | some mo =>
      cases mo with
      | dct xs =>
        simp only [q] at h
        cases h
        obtain ⟨vs, e, ra⟩ := m a _ q
        exact ⟨a, vs, rfl, e, ra⟩
      | _ => simp only [q] at h; cases h
  | _ => cases h
theorem key_of {v : V} {d : D} {k : Key} {G : Hp} (r : R K G v d) (h : keyOf d = some k) : v = kV k := by
  cases r with
  | int i => cases h; rfl
  | str x => cases h; rfl
  | _ => cases h
end
section
variable {X : Cx} {W : WX} {x : Str} {pos p2 : Pos} {a b c e : Expr} {es : List Expr} {ta tb tc te : TE} {wa wb wc we : DW} {tr : TA} {wr : DA}
theorem ol_ix : OL X.K (rIx X.K) gIx := fun H μ x y dx dy Q Qd m rx ry h k => by
  rcases h with ⟨ds, i, d, e1, e2, e3, q⟩ | ⟨z, i, c, e1, e2, hz, e3, q⟩
  · subst e2
    obtain ⟨p, vs, ev, hs, ra⟩ := seq_of m rx e1
    obtain ⟨v, h1, h2⟩ := at_of ra e3
    rcases hs with hs | hs
    · exact .inl ⟨p, vs, i, v, ev, ry.int_inv, hs, h1, k _ _ H μ (.refl m) h2 q⟩
    · exact .inr (.inl ⟨p, vs, i, v, ev, ry.int_inv, hs, h1, k _ _ H μ (.refl m) h2 q⟩)
  · subst e1 e2
    exact .inr (.inr ⟨z, i, c, rx.str_inv, ry.int_inv, sz_ok hz, e3, k _ _ H μ (.refl m) (.str _) q⟩)
theorem pd_ix (ha : PD X W a ta wa) (hb : PD X W b tb wb) (hs : PlainIx b := by exact fun _ _ => rfl) : PD X W (.Subscript a b pos) (tOp (rIx X.K) ta tb) (wBin gIx wa wb) := ⟨pe_ix ix_seq ha.pe hb.pe hs, le_bin ha.le hb.le ol_ix⟩
theorem pd_dget (hu : X.A.units + 1 < cLine) (ha : PD X W a ta wa) (hb : PD X W b tb wb) (hs : NoSl b := by exact fun _ _ => rfl) : PD X W (.Subscript a b pos) (tDGet ta tb) (wBin gDGet wa wb) := by
  refine ⟨pe_dget hu ha.pe hb.pe hs, fun σ δ H μ Q Qd F S q kQ kF => ?_⟩
  refine ha.le σ δ H μ _ _ F S q (fun v d H1 μ1 m1 r1 q1 => ?_) kF
  refine hb.le σ δ H1 μ1 _ _ F (S.step m1) q1 (fun w e H2 μ2 m2 r2 q2 => ?_) (kF.step m1)
  obtain ⟨ks, k, dd, e1, e2, e3, q3⟩ := q2
  obtain ⟨p, kvs, ev, hp, rk⟩ := dct_of m2.mr (r1.mono m2.sm) e1
  obtain ⟨vv, h1, h2⟩ := rk.val e3
  refine ⟨p, vv, ev, ?_, kQ _ _ H2 μ2 (m1.trans m2) h2 q3⟩
  rw [key_of r2 e2, ← h1]
  exact DGet.k hp
/-- a slice's parts -/
structure PDO (X : Cx) (W : WX) (e : Option Expr) (t : TO) (w : DSt → M → (Option Int → M → Prop) → FK → Prop) : Prop where
  po : PO X e t
  lo : ∀ (σ : St) (δ : DSt) (H : Hp) (μ : M) (Q : Option Int → Hp → Prop) (Qd : Option Int → M → Prop) (F : FK), SD X.K σ δ H μ → w δ μ Qd F → (∀ o H' μ', Mv X.K H μ H' μ' → Qd o μ' → Q o H') → Ex1 X.K W σ H μ F → t σ H Q
def wNoPart : DSt → M → (Option Int → M → Prop) → FK → Prop := fun _ μ Q _ => Q none μ
def wPart (wa : DW) : DSt → M → (Option Int → M → Prop) → FK → Prop := fun δ μ Q F => wa δ μ (fun d μ1 => ∃ i, d = .int i ∧ Q (some i) μ1) F
theorem pdo_none : PDO X W none tNoPart wNoPart := ⟨po_none, fun σ δ H μ Q Qd F S q kQ kF => kQ none H μ (.refl S.mr) q⟩
theorem pdo_some (ha : PD X W e te we) : PDO X W (some e) (tPart te) (wPart we) := ⟨po_some ha.pe, fun σ δ H μ Q Qd F S q kQ kF => ha.le σ δ H μ _ _ F S q (fun v d H1 μ1 m1 r1 ⟨i, e, q1⟩ => by
  subst e
  exact ⟨i, r1.int_inv, kQ _ H1 μ1 m1 q1⟩) kF⟩
theorem lro_of {K : PySem.W.Frag} {H : Hp} {μ : M} {v : V} {x : D} {ds : List D} (m : MR K H μ) (rx : R K (hid H μ) v x) (e : lstOf μ x = some ds ∨ x = .ro ds) : ∃ a vs, v = .ref a ∧ SqL K H a vs ∧ RA K (hid H μ) vs ds := by
  rcases e with e | e
  · obtain ⟨a, vs, ev, e1, ra⟩ := lst_of m rx e
    exact ⟨a, vs, ev, SqL.of e1, ra⟩
  · subst e
    cases rx with
    | ro e1 ra => exact ⟨_, _, rfl, hid_sub.seq e1, ra⟩
def cutD {α : Type} (xs : List α) (lo hi : Option Int) : List α := (xs.drop (HT.sIx xs.length 0 lo)).take (HT.sIx xs.length xs.length hi - HT.sIx xs.length 0 lo)
theorem cut_of {K : PySem.W.Frag} {G : Hp} {vs : List V} {ds : List D} (lo hi : Option Int) (r : RA K G vs ds) : RA K G (cutV vs lo hi) (cutD ds lo hi) := by
  unfold cutV cutD
  rw [r.length]
  exact (r.drop _).take _
def gSl (x : D) (lo hi : Option Int) (μ : M) (Q : DK) : Prop := (∃ ds, (lstOf μ x = some ds ∨ x = .ro ds) ∧ Q (.lst (cutD ds lo hi)) μ) ∨ (∃ ds, x = .tup ds ∧ Q (.tup (cutD ds lo hi)) μ) ∨ ∃ z, x = .str z ∧ z.length ≤ 1000000 ∧ Q (.str (Txt.slice z lo hi)) μ
def wSl (wa : DW) (wl wh : DSt → M → (Option Int → M → Prop) → FK → Prop) : DW := fun δ μ Q F => wa δ μ (fun x μ1 => wl δ μ1 (fun lo μ2 => wh δ μ2 (fun hi μ3 => gSl x lo hi μ3 Q) F) F) F
theorem cut_all {α : Type} {xs : List α} {lo hi : Option Int} (h : HT.sIx xs.length 0 lo = 0 ∧ HT.sIx xs.length xs.length hi = xs.length) : cutD xs lo hi = xs := by
  unfold cutD
  rw [h.1, h.2]
  simp
def rSlAny (K : PySem.W.Frag) : V → Option Int → Option Int → Hp → VK → Prop := fun x lo hi H Q => rSlL K x lo hi H Q ∨ (rSlA K x lo hi H Q ∨ C8.rSlX x lo hi H Q)
theorem sl_any : SlR X (rSlAny X.K) := SlR.or sl_list (SlR.or sl_tupA C8.sl_txt)
theorem sl_of {K : PySem.W.Frag} {H : Hp} {μ : M} {v : V} {x : D} {lo hi : Option Int} {Q : VK} {Qd : DK} (m : MR K H μ) (rx : R K (hid H μ) v x) (h : gSl x lo hi μ Qd) (k : ∀ v d H' μ', Mv K H μ H' μ' → R K (hid H' μ') v d → Qd d μ' → Q v H') : rSlAny K v lo hi H Q := by
  rcases h with ⟨ds, e, q⟩ | ⟨ds, e, q⟩ | ⟨z, e, hz, q⟩
  · obtain ⟨a, vs, ev, e1, ra⟩ := lro_of m rx e
    refine .inl ⟨a, vs, ev, e1, fun p hp => ?_⟩
    have m2 := Mv.new (o := .lst (cutV vs lo hi)) m hp
    exact k _ _ _ _ m2 (.lst (hid_new (m.fresh hp)) ((cut_of lo hi ra).mono m2.sm)) q
  · subst e
    cases rx with
    | @tup a vs _ e1 ra =>
      refine .inr (.inl ⟨a, vs, rfl, same_t hid_sub e1, fun hw => ?_, fun _ p hp => ?_⟩)
      · rw [ra.length] at hw
        rw [cut_all hw] at q
        exact k _ _ H μ (.refl m) (.tup e1 ra) q
      · have m2 := Mv.new (o := .tup (cutV vs lo hi)) m hp
        exact k _ _ _ _ m2 (.tup (SqT.of (hid_new (m.fresh hp))) ((cut_of lo hi ra).mono m2.sm)) q
  · subst e
    exact .inr (.inr ⟨z, rx.str_inv, sz_ok hz, k _ _ H μ (.refl m) (.str _) q⟩)
theorem pd_slice {lo hi : Option Expr} {tl th : TO} {wl wh : DSt → M → (Option Int → M → Prop) → FK → Prop} (he : PD X W e te we) (hl : PDO X W lo tl wl) (hh : PDO X W hi th wh) : PD X W (.Subscript e (.Slice lo hi none p2) pos) (tSl (rSlAny X.K) te tl th) (wSl we wl wh) := by
  refine ⟨pe_slice sl_any he.pe hl.po hh.po, fun σ δ H μ Q Qd F S q kQ kF => ?_⟩
  refine he.le σ δ H μ _ _ F S q (fun v d H1 μ1 m1 r1 q1 => ?_) kF
  refine hl.lo σ δ H1 μ1 _ _ F (S.step m1) q1 (fun o1 H2 μ2 m2 q2 => ?_) (kF.step m1)
  refine hh.lo σ δ H2 μ2 _ _ F (S.step (m1.trans m2)) q2 (fun o2 H3 μ3 m3 q3 => ?_) (kF.step (m1.trans m2))
  exact sl_of m3.mr (r1.mono (m2.trans m3).sm) q3 fun v d H' μ' m' r q' => kQ v d H' μ' ((m1.trans (m2.trans m3)).trans m') r q'

/-! ### built-in functions -/
theorem pd_callB {id : String} {r : List V → Hp → VK → Prop} {g : List D → M → DK → Prop} (o : CallR X (.builtin id) r ∧ CL X.K r g) (hm : X.mg x = none) (hv : bootBuiltins x = some (.builtin id)) (ha : PDA X W (e :: es) tr wr) (hg : Gl X x := by rfl) (hn : x ≠ "__name__" := by decide)
    (hdb : (x == ("__debug__" : Str)) = false := by decide) (he : starEach (e :: es) X.env = (false, eval e X.env) :: starEach es X.env := by rfl) (hpl : (backTo pos (starEach es X.env)).any (·.1) = false := by rfl) {p : Pos} :
    PD X W (.Call (.Name x p) (e :: es) [] pos) (tCB r tr) (wCB g wr) := ⟨pe_callB o.1 hg hm hv ha.pa hn hdb he hpl, le_cb ha.la o.2⟩
theorem pd_callT {T : String} {r : List V → Hp → VK → Prop} {g : List D → M → DK → Prop} (o : CallR X (.type T) r ∧ CL X.K r g) (hm : X.mg x = none) (hv : bootBuiltins x = some (.type T)) (ha : PDA X W (e :: es) tr wr) (hg : Gl X x := by rfl) (hn : x ≠ "__name__" := by decide)
    (hdb : (x == ("__debug__" : Str)) = false := by decide) (he : starEach (e :: es) X.env = (false, eval e X.env) :: starEach es X.env := by rfl) (hpl : (backTo pos (starEach es X.env)).any (·.1) = false := by rfl) {p : Pos} :
    PD X W (.Call (.Name x p) (e :: es) [] pos) (tCB r tr) (wCB g wr) := ⟨pe_callTy o.1 hg hm hv ha.pa hn hdb he hpl, le_cb ha.la o.2⟩
/-- one argument -/
def gOne (g : G1) : List D → M → DK → Prop := fun ds μ Q => ∃ d, ds = [d] ∧ g d μ Q
theorem ra1 {K : PySem.W.Frag} {G : Hp} {xs : List V} {d : D} (r : RA K G xs [d]) : ∃ v, xs = [v] ∧ R K G v d := by
  cases r with
  | cons h r => cases r; exact ⟨_, rfl, h⟩
theorem ra2 {K : PySem.W.Frag} {G : Hp} {xs : List V} {d e : D} (r : RA K G xs [d, e]) : ∃ v w, xs = [v, w] ∧ R K G v d ∧ R K G w e := by
  cases r with
  | cons h r =>
    obtain ⟨w, rfl, h2⟩ := ra1 r
    exact ⟨_, _, rfl, h, h2⟩
def gLen : G1 := fun x μ Q => (∃ ds, seqOf μ x = some ds ∧ Q (.int ds.length) μ) ∨ (∃ z, x = .str z ∧ z.length ≤ 1000000 ∧ Q (.int z.length) μ) ∨ ∃ ks, dctOf μ x = some ks ∧ Q (.int ks.length) μ
theorem c_len : CallR X (.builtin "len") (fun xs H Q => (∃ x n, xs = [x] ∧ LenV X.K x H n ∧ Q (.int n) H) ∨ ∃ a kvs, xs = [V.ref a] ∧ H a = some (.dK kvs) ∧ Q (.int kvs.length) H) ∧
    CL X.K (fun xs H Q => (∃ x n, xs = [x] ∧ LenV X.K x H n ∧ Q (.int n) H) ∨ ∃ a kvs, xs = [V.ref a] ∧ H a = some (.dK kvs) ∧ Q (.int kvs.length) H) (gOne gLen) := by
  refine ⟨CallR.or call_len call_lenD, fun H μ xs ds Q Qd m rx ⟨d, e, h⟩ k => ?_⟩
  subst e
  obtain ⟨v, rfl, rv⟩ := ra1 rx
  rcases h with ⟨ds, e, q⟩ | ⟨z, e, hz, q⟩ | ⟨ks, e, q⟩
  · obtain ⟨a, vs, rfl, hs, ra⟩ := seq_of m rv e
    refine .inl ⟨_, vs.length, rfl, ?_, k _ _ H μ (.refl m) (by rw [ra.length]; exact .int _) q⟩
    rcases hs with hs | hs
    · exact .inl ⟨vs, hs, rfl⟩
    · exact .inr ⟨vs, hs, rfl⟩
  · subst e
    rw [rv.str_inv]
    exact .inl ⟨_, z.length, rfl, ⟨sz_ok hz, rfl⟩, k _ _ H μ (.refl m) (.int _) q⟩
  · obtain ⟨a, kvs, rfl, hs, ra⟩ := dct_of m rv e
    exact .inr ⟨a, kvs, rfl, hs, k _ _ H μ (.refl m) (by rw [ra.length]; exact .int _) q⟩
def gInt : G1 := fun x μ Q => (∃ i, x = .int i ∧ Q (.int i) μ) ∨ ∃ b, x = .bl b ∧ Q (.int (if b then 1 else 0)) μ
theorem c_int : CallR X (.type "int") (fun xs H Q => (∃ i, xs = [.int i] ∧ Q (.int i) H) ∨ ∃ k, xs = [.bl k] ∧ Q (.int (if k then 1 else 0)) H) ∧
    CL X.K (fun xs H Q => (∃ i, xs = [.int i] ∧ Q (.int i) H) ∨ ∃ k, xs = [.bl k] ∧ Q (.int (if k then 1 else 0)) H) (gOne gInt) := by
  refine ⟨call_int1, fun H μ xs ds Q Qd m rx ⟨d, e, h⟩ k => ?_⟩
  subst e
  obtain ⟨v, rfl, rv⟩ := ra1 rx
  rcases h with ⟨i, rfl, q⟩ | ⟨i, rfl, q⟩
  · exact .inl ⟨i, by rw [rv.int_inv], k _ _ H μ (.refl m) (.int _) q⟩
  · exact .inr ⟨i, by rw [rv.bl_inv], k _ _ H μ (.refl m) (.int _) q⟩
theorem c_abs : CallR X (.builtin "abs") (fun xs H Q => ∃ i, xs = [.int i] ∧ Q (.int (if i < 0 then -i else i)) H) ∧
    CL X.K (fun xs H Q => ∃ i, xs = [.int i] ∧ Q (.int (if i < 0 then -i else i)) H) (gOne (gU fun i => .int (if i < 0 then -i else i))) := by
  refine ⟨call_abs, fun H μ xs ds Q Qd m rx ⟨d, e, i, e2, q⟩ k => ?_⟩
  subst e e2
  obtain ⟨v, rfl, rv⟩ := ra1 rx
  exact ⟨i, by rw [rv.int_inv], k _ _ H μ (.refl m) (.int _) q⟩
/-- list(x), as data; tuple(x) -/
def gList : G1 := fun x μ Q => ∃ ds, seqOf μ x = some ds ∧ Q (.lst ds) μ
theorem c_list : CallR X (.type "list") (fun xs H Q => ∃ p ys, xs = [.ref p] ∧ (SqL X.K H p ys ∨ SqT X.K H p ys) ∧ ∀ l, H l = none → Q (.ref l) (upd H l (.lst ys))) ∧
    CL X.K (fun xs H Q => ∃ p ys, xs = [.ref p] ∧ (SqL X.K H p ys ∨ SqT X.K H p ys) ∧ ∀ l, H l = none → Q (.ref l) (upd H l (.lst ys))) (gOne gList) := by
  refine ⟨call_list_of, fun H μ xs ds Q Qd m rx ⟨d, e, ds', e2, q⟩ k => ?_⟩
  subst e
  obtain ⟨v, rfl, rv⟩ := ra1 rx
  obtain ⟨a, vs, rfl, hs, ra⟩ := seq_of m rv e2
  refine ⟨a, vs, rfl, hs, fun p hp => ?_⟩
  have m2 := Mv.new (o := .lst vs) m hp
  exact k _ _ _ _ m2 (.lst (hid_new (m.fresh hp)) (ra.mono m2.sm)) q
/-- list(x), behind a handle -/
def gListM : G1 := fun x μ Q => ∃ ds, seqOf μ x = some ds ∧ ∀ p, μ p = none → Q (.obj p) (mput μ p (.lst ds))
theorem c_listM : CallR X (.type "list") (fun xs H Q => ∃ p ys, xs = [.ref p] ∧ (SqL X.K H p ys ∨ SqT X.K H p ys) ∧ ∀ l, H l = none → Q (.ref l) (upd H l (.lst ys))) ∧
    CL X.K (fun xs H Q => ∃ p ys, xs = [.ref p] ∧ (SqL X.K H p ys ∨ SqT X.K H p ys) ∧ ∀ l, H l = none → Q (.ref l) (upd H l (.lst ys))) (gOne gListM) := by
  refine ⟨call_list_of, fun H μ xs ds Q Qd m rx ⟨d, e, ds', e2, q⟩ k => ?_⟩
  subst e
  obtain ⟨v, rfl, rv⟩ := ra1 rx
  obtain ⟨a, vs, rfl, hs, ra⟩ := seq_of m rv e2
  exact ⟨a, vs, rfl, hs, fun p hp => k _ _ _ _ (Mv.newL m hp ra) (.obj p) (q p (m.fresh hp))⟩
def gTuple : G1 := fun x μ Q => (∃ ds, (lstOf μ x = some ds ∨ x = .ro ds) ∧ Q (.tup ds) μ) ∨ ∃ ds, x = .tup ds ∧ Q (.tup ds) μ
theorem c_tuple : CallR X (.type "tuple") (fun xs H Q => ∃ p ys, xs = [.ref p] ∧ ((SqL X.K H p ys ∧ ∀ l, H l = none → Q (.ref l) (upd H l (.tup ys))) ∨ (SqT X.K H p ys ∧ Q (.ref p) H))) ∧
    CL X.K (fun xs H Q => ∃ p ys, xs = [.ref p] ∧ ((SqL X.K H p ys ∧ ∀ l, H l = none → Q (.ref l) (upd H l (.tup ys))) ∨ (SqT X.K H p ys ∧ Q (.ref p) H))) (gOne gTuple) := by
  refine ⟨call_tuple_of, fun H μ xs ds Q Qd m rx ⟨d, e, h⟩ k => ?_⟩
  subst e
  obtain ⟨v, rfl, rv⟩ := ra1 rx
  rcases h with ⟨ds, e, q⟩ | ⟨ds, e, q⟩
  · obtain ⟨a, vs, rfl, hs, ra⟩ := lro_of m rv e
    refine ⟨a, vs, rfl, .inl ⟨hs, fun p hp => ?_⟩⟩
    have m2 := Mv.new (o := .tup vs) m hp
    exact k _ _ _ _ m2 (.tup (SqT.of (hid_new (m.fresh hp))) (ra.mono m2.sm)) q
  · subst e
    cases rv with
    | @tup a vs _ h1 ra => exact ⟨a, vs, rfl, .inr ⟨same_t hid_sub h1, k _ _ H μ (.refl m) (.tup h1 ra) q⟩⟩
def gStr : G1 := fun x μ Q => (∃ i : Int, x = .int i ∧ i.natAbs.log2 < 1920 ∧ Q (.str (toString i)) μ) ∨ ∃ z, x = .str z ∧ Q (.str z) μ
theorem c_str : CallR X (.type "str") (fun xs H Q => (∃ i : Int, xs = [.int i] ∧ i.natAbs.log2 < 1920 ∧ Q (.str (toString i)) H) ∨ ∃ a, xs = [.str a] ∧ Q (.str a) H) ∧
    CL X.K (fun xs H Q => (∃ i : Int, xs = [.int i] ∧ i.natAbs.log2 < 1920 ∧ Q (.str (toString i)) H) ∨ ∃ a, xs = [.str a] ∧ Q (.str a) H) (gOne gStr) := by
  refine ⟨CallR.or call_str_int SkE.call_str_str, fun H μ xs ds Q Qd m rx ⟨d, e, h⟩ k => ?_⟩
  subst e
  obtain ⟨v, rfl, rv⟩ := ra1 rx
  rcases h with ⟨i, rfl, z, q⟩ | ⟨i, rfl, q⟩
  · exact .inl ⟨i, by rw [rv.int_inv], z, k _ _ H μ (.refl m) (.str _) q⟩
  · exact .inr ⟨i, by rw [rv.str_inv], k _ _ H μ (.refl m) (.str _) q⟩
def gInt2 (g : Int → Int → Int) : List D → M → DK → Prop := fun ds μ Q => ∃ i j, ds = [.int i, .int j] ∧ Q (.int (g i j)) μ
theorem cl_int2 {K : PySem.W.Frag} {g : Int → Int → Int} : CL K (fun xs H Q => ∃ i j, xs = [.int i, .int j] ∧ Q (.int (g i j)) H) (gInt2 g) := fun H μ xs ds Q Qd m rx ⟨i, j, e, q⟩ k => by
  subst e
  obtain ⟨v, w, rfl, r1, r2⟩ := ra2 rx
  rw [r1.int_inv, r2.int_inv]
  exact ⟨i, j, rfl, k _ _ H μ (.refl m) (.int _) q⟩
theorem c_max2 (hc : X.calm = true) : CallR X (.builtin "max") (fun xs H Q => ∃ i j, xs = [.int i, .int j] ∧ Q (.int (if j > i then j else i)) H) ∧ CL X.K (fun xs H Q => ∃ i j, xs = [.int i, .int j] ∧ Q (.int (if j > i then j else i)) H) (gInt2 fun i j => if j > i then j else i) := ⟨call_max2 hc, cl_int2⟩
theorem c_min2 (hc : X.calm = true) : CallR X (.builtin "min") (fun xs H Q => ∃ i j, xs = [.int i, .int j] ∧ Q (.int (if j < i then j else i)) H) ∧ CL X.K (fun xs H Q => ∃ i j, xs = [.int i, .int j] ∧ Q (.int (if j < i then j else i)) H) (gInt2 fun i j => if j < i then j else i) := ⟨call_min2 hc, cl_int2⟩
end
end DL

set_option maxHeartbeats 2000000
namespace DL
open PySem PySem.Spec PyProof.Rows L2

/-! ### isinstance -/
/-- what a class must have for its instances' types to be told -/
structure InsTy (K : PySem.W.Frag) (C : Addr) : Prop where
  cl : Cls K C
  ha : PySem.W.findIn K (.ref C) "__class__" = some (some (.builtin "object.__class__"))
  hn : PySem.W.specialIn K (.builtin "object.__class__") "__get__" = some (some (.builtin "getset_descriptor.__get__"))
  htk : PySem.W.takesIn K (.builtin "object.__class__") = some true
  hm : PySem.W.mroIn K C (.type "object") = some true
inductive TyD (K : PySem.W.Frag) (μ : M) : D → Value → Prop
  | non : TyD K μ .non (.type "NoneType")
  | bl (b : Bool) : TyD K μ (.bl b) (.type "bool")
  | int (i : Int) : TyD K μ (.int i) (.type "int")
  | str (x : Str) : TyD K μ (.str x) (.type "str")
  | lst (ds : List D) : TyD K μ (.lst ds) (.type "list")
  | ro (ds : List D) : TyD K μ (.ro ds) (.type "list")
  | tup (ds : List D) : TyD K μ (.tup ds) (.type "tuple")
  | dct (ds : List (Key × D)) : TyD K μ (.dct ds) (.type "dict")
  | olst {a : Addr} {ds : List D} (h : μ a = some (.lst ds)) : TyD K μ (.obj a) (.type "list")
  | odct {a : Addr} {ds : List (Key × D)} (h : μ a = some (.dct ds)) : TyD K μ (.obj a) (.type "dict")
  | ins {a C : Addr} {fs : List (Str × D)} (h : μ a = some (.ins C fs)) (c : InsTy K C) : TyD K μ (.obj a) (.ref C)
  | insD {C : Addr} (fs : List (Str × D)) (c : InsTy K C) : TyD K μ (.ins C fs) (.ref C)
theorem ty_of {K : PySem.W.Frag} {H : Hp} {μ : M} {v : V} {d : D} {t : Value} (m : MR K H μ) (r : R K (hid H μ) v d) (h : TyD K μ d t) : TyX K H v t := by
  cases h with
  | non => rw [r.non_inv]; exact .base .non
  | bl b => rw [r.bl_inv]; exact .base (.bl b)
  | int b => rw [r.int_inv]; exact .base (.int b)
  | str b => rw [r.str_inv]; exact .base (.str b)
  | lst ds =>
    cases r with
    | lst e _ => exact .base (.lst (hid_some.mp e).2)
  | ro ds =>
    cases r with
    | ro e _ =>
      rcases hid_sub.seq e with (e | ⟨o, e⟩) | ⟨o, its, n, e, c, _⟩
      · exact .base (.lst e)
      · exact .base (.frz e)
      · exact .kList e c
  | tup ds =>
    cases r with
    | tup e _ =>
      rcases same_t hid_sub e with (e | ⟨o, e⟩) | ⟨o, its, n, e, c, _⟩
      · exact .base (.tup e)
      · exact .fTuple e
      · exact .kTuple e c
  | dct ds =>
    cases r with
    | dct e _ => exact .base (.dK (hid_some.mp e).2)
  | olst h =>
    rw [r.obj_inv]
    obtain ⟨vs, e, _⟩ := m _ _ h
    exact .base (.lst e)
  | odct h =>
    rw [r.obj_inv]
    obtain ⟨vs, e, _⟩ := m _ _ h
    exact .base (.dK e)
  | ins h c =>
    rw [r.obj_inv]
    obtain ⟨dx, vs, e, _⟩ := m _ _ h
    exact .base (.ins e c.cl c.ha c.hn c.htk c.hm)
  | insD fs c =>
    cases r with
    | ins e rf => exact .base (.ins (hid_some.mp e).2 c.cl c.ha c.hn c.htk c.hm)
/-- a class, as a value -/
inductive ClsD : D → Value → Prop
  | ty (n : String) : ClsD (.raw (.ty n)) (.type n)
  | own (C : Addr) : ClsD (.raw (.ref C)) (.ref C)
theorem ClsD.v {K : PySem.W.Frag} {G : Hp} {v : V} {d : D} {u : Value} (c : ClsD d u) (r : R K G v d) : ClsV v u := by
  cases c with
  | ty n => rw [r.raw_inv]; exact .ty n
  | own C => rw [r.raw_inv]; exact .own C
theorem ClsD.vs {K : PySem.W.Frag} {G : Hp} : ∀ {ds : List D} {us : List Value} {vs : List V}, Paired ClsD ds us → RA K G vs ds → Paired ClsV vs us
  | _, _, _, .nil, r => by cases r; exact .nil
  | _, _, _, .cons h t, r => by
    cases r with
    | cons r1 r2 => exact .cons (h.v r1) (ClsD.vs t r2)
def gIsi (K : PySem.W.Frag) : List D → M → DK → Prop := fun ds μ Q => (∃ x c t u b, ds = [x, c] ∧ ClsD c u ∧ TyD K μ x t ∧ PySem.W.kitOne K t u = some b ∧ Q (.bl b) μ) ∨
  ∃ x cs t us b, ds = [x, .tup cs] ∧ Paired ClsD cs us ∧ TyD K μ x t ∧ PySem.W.kitAny K t us = some b ∧ Q (.bl b) μ
def rIsiA (K : PySem.W.Frag) : List V → Hp → VK → Prop := fun xs H Q => rIsi K xs H Q ∨ rIsiS K xs H Q
where rIsiS (K : PySem.W.Frag) : List V → Hp → VK → Prop := fun xs H Q => ∃ (x : V) (tp : Addr) (cs : List V) (t : Value) (us : List Value) (b : Bool), xs = [x, .ref tp] ∧ SqT K H tp cs ∧ Paired ClsV cs us ∧ TyX K H x t ∧ PySem.W.kitAny K t us = some b ∧ Q (.bl b) H
theorem isiS {X : Cx} : CallR X (.builtin "isinstance") (rIsiA.rIsiS X.K) := by
  intro pins s σ H xs us Q I r h
  obtain ⟨x, tp, cs, t, ws, b, rfl, hT, k, ty, e, q⟩ := h
  obtain ⟨u1, u2, rfl, r1, r2⟩ := vals2 r
  cases (show u2 = Value.ref tp from r2)
  obtain ⟨P, Z, p, hx⟩ := kit_of I r1 ty
  obtain ⟨its, rv, ⟨o, h1, h2, n, h3⟩, _⟩ := I.tuple hT
  have e3 := ClsV.all k rv
  subst e3
  obtain ⟨oc, od, dt, sl⟩ := o
  simp only at h2 h3
  subst h2 h3
  exact PySem.W.kia_tup Z I.kIn p h1 e hx fun tk => ⟨.bl b, H, I.tok tk, rfl, q⟩
section
variable {X : Cx} {W : WX}
theorem c_isi (K : PySem.W.Frag) (hK : X.K = K) : CallR X (.builtin "isinstance") (rIsiA X.K) ∧ CL X.K (rIsiA X.K) (gIsi K) := by
  subst hK
  refine ⟨CallR.or call_isi isiS, fun H μ xs ds Q Qd m rx h k => ?_⟩
  rcases h with ⟨x, c, t, u, b, e, hc, ht, hk, q⟩ | ⟨x, cs, t, us, b, e, hc, ht, hk, q⟩
  · subst e
    obtain ⟨v, w, rfl, r1, r2⟩ := ra2 rx
    exact .inl ⟨v, w, t, u, b, rfl, hc.v r2, ty_of m r1 ht, hk, k _ _ H μ (.refl m) (.bl _) q⟩
  · subst e
    obtain ⟨v, w, rfl, r1, r2⟩ := ra2 rx
    cases r2 with
    | @tup a vs _ h1 ra => exact .inr ⟨v, a, vs, t, us, b, rfl, same_t hid_sub h1, ClsD.vs hc ra, ty_of m r1 ht, hk, k _ _ H μ (.refl m) (.bl _) q⟩
end

/-! ### repr -/
def rRepr (K : PySem.W.Frag) : List V → Hp → VK → Prop := fun xs H Q => ∃ x p, xs = [x] ∧ Dq K H x p ∧ okN p = true ∧ p.showable = true ∧ p.depth ≤ 60 ∧ p.shown.length ≤ sizeLine ∧ Q (.str p.shown) H
/-- as gRepr, dicts anywhere -/
def gRepr : G1 := fun x μ Q => ∃ p, pyOf μ x = some p ∧ okN p = true ∧ p.showable = true ∧ p.depth ≤ 60 ∧ p.shown.length ≤ 1000000 ∧ Q (.str p.shown) μ
theorem call_repr {X : Cx} (hS : SysB X.base) (hg : X.A.guards = some []) (hu : X.A.units + 64 < cLine) : CallR X (.builtin "repr") (rRepr X.K) := by
  intro pins s σ H xs us Q I r h
  obtain ⟨x, p, rfl, hd, ok, hs, hdp, hz, q⟩ := h
  obtain ⟨u, rfl, ru⟩ := vals1 r
  have fin : ∀ (h' : Heap) (tk : Nat) (t : Tok), (∀ b o, s.heap.get? b = some o → h'.get? b = some o) → EP X pins σ Q (.str p.shown t) { s with heap := h', toks := tk } := fun h' tk t hk => ⟨.str _, H, I.kept hk, ⟨t, rfl⟩, q⟩
  have one : ∀ (t : Tok) (tk : Nat), EP X pins σ Q (.str p.shown t) { s with toks := tk } := fun t tk => ⟨.str _, H, I.tok tk, ⟨t, rfl⟩, q⟩
  obtain ⟨as, rd, hsm'⟩ := Dq.readsS I hS _ _ _ hd ok ru
  have hsm : p.hasDict = true → sysModules ∉ as := fun _ => hsm'
  cases hd with
  | non =>
    cases ru
    exact PySem.P.repr_of_none (one _ _)
  | bl b =>
    cases ru
    refine PySem.P.repr_of_bool ?_
    have := one s.toks (s.toks + 1)
    cases b <;> exact this
  | int i =>
    obtain ⟨t, rfl⟩ := ru
    exact PySem.P.repr_of_int (by simpa [PyData.showable] using hs) (by have := one s.toks (s.toks + 1); simpa only [PyData.shown] using this)
  | str z =>
    obtain ⟨t, rfl⟩ := ru
    refine PySem.P.repr_of_str (by have := one s.toks (s.toks + 1); simpa only [PyData.shown] using this) ?_
    simpa only [PyData.shown] using hz
  | lst _ _ =>
    cases ru
    exact repr_of_reads' rd hs hsm hg (by omega) (fun _ _ e => e) (fun h' u tk hk => fin h' tk u hk) hz
  | tup _ _ =>
    cases ru
    exact repr_of_reads' rd hs hsm hg (by omega) (fun _ _ e => e) (fun h' u tk hk => fin h' tk u hk) hz
  | dct _ _ =>
    cases ru
    exact repr_of_reads' rd hs hsm hg (by omega) (fun _ _ e => e) (fun h' u tk hk => fin h' tk u hk) hz
theorem c_repr {X : Cx} (K : PySem.W.Frag) (hK : X.K = K) (hS : SysB X.base) (hg : X.A.guards = some []) (hu : X.A.units + 64 < cLine) : CallR X (.builtin "repr") (rRepr K) ∧ CL X.K (rRepr K) (gOne gRepr) := by
  subst hK
  refine ⟨call_repr hS hg hu, fun H μ xs ds Q Qd m rx ⟨d, e, p, e2, h1, h2, h3, h4, q⟩ k => ?_⟩
  subst e
  obtain ⟨v, rfl, rv⟩ := ra1 rx
  exact ⟨v, p, rfl, Dq.of_pyOf m rv e2, h1, h2, h3, sz_ok h4, k _ _ H μ (.refl m) (.str _) q⟩

/-! ### dict displays -/
/-- a written dict's pairs -/
inductive PPD (X : Cx) (W : WX) (pos : Pos) : List (Option Expr) → List Expr → List (TE × TE) → List (DW × DW) → Prop
  | nil : PPD X W pos [] [] [] []
  | cons {k v : Expr} {ks : List (Option Expr)} {vs : List Expr} {tk tv : TE} {wk wv : DW} {trs : List (TE × TE)} {ws : List (DW × DW)} (hk : PD X W k tk wk) (hv : PD X W v tv wv) (r : PPD X W pos ks vs trs ws) : PPD X W pos (some k :: ks) (v :: vs) ((tk, tv) :: trs) ((wk, wv) :: ws)
def wPairs : List (DW × DW) → DSt → M → (List (D × D) → M → Prop) → FK → Prop
  | [], _, μ, Q, _ => Q [] μ
  | (wk, wv) :: r, δ, μ, Q, F => wk δ μ (fun x μ1 => wv δ μ1 (fun y μ2 => wPairs r δ μ2 (fun ps μ3 => Q ((x, y) :: ps) μ3) F) F) F
theorem PPD.pps {X : Cx} {W : WX} {pos : Pos} {ks : List (Option Expr)} {vs : List Expr} {trs : List (TE × TE)} {ws : List (DW × DW)} (h : PPD X W pos ks vs trs ws) : PPs X pos ks vs trs := by
  induction h with
  | nil => exact pps_nil
  | cons hk hv _ ih => exact pps_cons hk.pe hv.pe ih
inductive RP (K : PySem.W.Frag) (G : Hp) : List (V × V) → List (D × D) → Prop
  | nil : RP K G [] []
  | cons {x y : V} {d e : D} {vs : List (V × V)} {ds : List (D × D)} : R K G x d → R K G y e → RP K G vs ds → RP K G ((x, y) :: vs) ((d, e) :: ds)
theorem PPD.lp {X : Cx} {W : WX} {pos : Pos} {ks : List (Option Expr)} {vs : List Expr} {trs : List (TE × TE)} {ws : List (DW × DW)} (h : PPD X W pos ks vs trs ws) : ∀ (σ : St) (δ : DSt) (H : Hp) (μ : M) (Q : List (V × V) → Hp → Prop) (Qd : List (D × D) → M → Prop) (F : FK), SD X.K σ δ H μ → wPairs ws δ μ Qd F →
    (∀ vs ds H' μ', Mv X.K H μ H' μ' → RP X.K (hid H' μ') vs ds → Qd ds μ' → Q vs H') → Ex1 X.K W σ H μ F → tPairs trs σ H Q := by
  induction h with
  | nil => exact fun σ δ H μ Q Qd F S q kQ _ => kQ [] [] H μ (.refl S.mr) .nil q
  | cons hk hv _ ih =>
    intro σ δ H μ Q Qd F S q kQ kF
    refine hk.le σ δ H μ _ _ F S q (fun x dx H1 μ1 m1 r1 q1 => ?_) kF
    refine hv.le σ δ H1 μ1 _ _ F (S.step m1) q1 (fun y dy H2 μ2 m2 r2 q2 => ?_) (kF.step m1)
    refine ih σ δ H2 μ2 _ _ F (S.step (m1.trans m2)) q2 (fun ps ds H3 μ3 m3 r3 q3 => ?_) (kF.step (m1.trans m2))
    exact kQ _ _ H3 μ3 (m1.trans (m2.trans m3)) (.cons (r1.mono (m2.trans m3).sm) (r2.mono m3.sm) r3) q3
def mergeD (kvs more : List (Key × D)) : List (Key × D) := more.foldl (fun acc kv => putD acc kv.1 kv.2) kvs
where putD (kvs : List (Key × D)) (k : Key) (v : D) : List (Key × D) := if kvs.any (fun kv => decide (kv.1 = k)) then kvs.map (fun kv => if kv.1 = k then (kv.1, v) else kv) else kvs ++ [(k, v)]
def putD := mergeD.putD
theorem rk_any {K : PySem.W.Frag} {G : Hp} {k : Key} : ∀ {kvs : List (Key × V)} {ks : List (Key × D)}, RK K G kvs ks → (kvs.any fun kv => decide (kv.1 = k)) = (ks.any fun kv => decide (kv.1 = k))
  | _, _, .nil => rfl
  | _, _, .cons _ r => by
    rw [List.any_cons, List.any_cons, rk_any r]
theorem rk_map {K : PySem.W.Frag} {G : Hp} {k : Key} {v : V} {d : D} (h : R K G v d) : ∀ {kvs : List (Key × V)} {ks : List (Key × D)}, RK K G kvs ks → RK K G (kvs.map fun kv => if kv.1 = k then (kv.1, v) else kv) (ks.map fun kv => if kv.1 = k then (kv.1, d) else kv)
  | _, _, .nil => .nil
  | _, _, .cons (k := k1) q r => by
    rw [List.map_cons, List.map_cons]
    by_cases e : k1 = k
    · rw [if_pos e, if_pos e]
      exact .cons h (rk_map h r)
    · rw [if_neg e, if_neg e]
      exact .cons q (rk_map h r)
theorem rk_app {K : PySem.W.Frag} {G : Hp} {k : Key} {v : V} {d : D} (h : R K G v d) : ∀ {kvs : List (Key × V)} {ks : List (Key × D)}, RK K G kvs ks → RK K G (kvs ++ [(k, v)]) (ks ++ [(k, d)])
  | _, _, .nil => .cons h .nil
  | _, _, .cons q r => .cons q (rk_app h r)
theorem rk_put {K : PySem.W.Frag} {G : Hp} {k : Key} {v : V} {d : D} {kvs : List (Key × V)} {ks : List (Key × D)} (r : RK K G kvs ks) (h : R K G v d) : RK K G (putK kvs k v) (putD ks k d) := by
  unfold putK putD mergeD.putD
  rw [rk_any r]
  by_cases e : (ks.any fun kv => decide (kv.1 = k)) = true
  · rw [if_pos e, if_pos e]
    exact rk_map h r
  · rw [if_neg e, if_neg e]
    exact rk_app h r
theorem rk_merge {K : PySem.W.Frag} {G : Hp} : ∀ {more : List (Key × V)} {mored : List (Key × D)}, RK K G more mored → ∀ {kvs : List (Key × V)} {ks : List (Key × D)}, RK K G kvs ks → RK K G (mergeK kvs more) (mergeD ks mored)
  | _, _, .nil, _, _, r => r
  | _, _, .cons h t, _, _, r => rk_merge t (rk_put r h)
theorem rp_keys {K : PySem.W.Frag} {G : Hp} : ∀ {vs : List (V × V)} {ds : List (D × D)} {kds : List (Key × D)}, RP K G vs ds → (ds.mapM fun p => (keyOf p.1).map fun k => (k, p.2)) = some kds → ∃ kvs : List (Key × V), vs = kvs.map (fun kv => (kV kv.1, kv.2)) ∧ RK K G kvs kds
  | _, _, _, .nil, e => by
    simp at e
    subst e
    exact ⟨[], rfl, .nil⟩
  | _, _, kds, .cons (d := d) (e := d2) (ds := ds) h1 h2 r, e => by
    rw [List.mapM_cons] at e
    cases ek : keyOf d with
    | none => simp [ek] at e
    | some k =>
      cases er : (ds.mapM fun p => (keyOf p.1).map fun k => (k, p.2)) with
      | none => simp [ek, er] at e
      | some kr =>
        simp [ek, er] at e
        subst e
        obtain ⟨kvs, e2, r2⟩ := rp_keys r er
        refine ⟨(k, _) :: kvs, ?_, .cons h2 r2⟩
        rw [e2, key_of h1 ek]
        rfl
section
variable {X : Cx} {W : WX} {pos : Pos}
/-- a written dict, behind a handle -/
def wDctM (ws : List (DW × DW)) : DW := fun δ μ Q F => ∀ p, μ p = none → wPairs ws δ (mput μ p (.dct [])) (fun ps μ1 => μ1 p = some (.dct []) ∧ ps.length ≤ 15 ∧ ∃ kds, (ps.mapM fun p => (keyOf p.1).map fun k => (k, p.2)) = some kds ∧ Q (.obj p) (mput μ1 p (.dct (mergeD [] kds)))) F
theorem pd_dctM {keys : List (Option Expr)} {values : List Expr} {trs : List (TE × TE)} {ws : List (DW × DW)} (h : PPD X W pos keys values trs ws) (hall : keys.all (·.isSome) = true := by rfl) (hl : keys.length = values.length := by rfl) (h0 : keys ≠ [] := by exact List.cons_ne_nil _ _) (h15 : keys.length ≤ 15 := by decide) :
    PD X W (.Dict keys values pos) (tDisp trs) (wDctM ws) := by
  refine ⟨pe_disp h.pps hall hl h0 h15, fun σ δ H μ Q Qd F S q kQ kF p hp => ?_⟩
  have m1 : Mv X.K H μ (upd H p (.dK [])) (mput μ p (.dct [])) := Mv.put S.mr (.inl hp) fun _ _ => ⟨[], upd_same, .nil⟩
  refine h.lp σ δ _ _ _ _ F (S.step m1) (q p (S.mr.fresh hp)) (fun vs ds H2 μ2 m2 r2 q2 => ?_) (kF.step m1)
  obtain ⟨e1, hz, kds, e2, q3⟩ := q2
  obtain ⟨kvs, ev, rk⟩ := rp_keys r2 e2
  obtain ⟨kv0, e3, r0⟩ := m2.mr p _ e1
  cases r0
  have hlen : kvs.length ≤ 15 := by
    have h1 : vs.length = ds.length := by
      clear kQ kF q3 e2 ev rk
      induction r2 with
      | nil => rfl
      | cons _ _ _ ih => exact congrArg (· + 1) (ih (by simp only [List.length_cons] at hz; omega))
    rw [ev, List.length_map] at h1
    omega
  refine ⟨e3, kvs, ev, hlen, ?_⟩
  have m3 : Mv X.K H2 μ2 (upd H2 p (.dK (mergeK [] kvs))) (mput μ2 p (.dct (mergeD [] kds))) :=
    Mv.put m2.mr (.inr ⟨_, e1⟩) fun sm eq => ⟨_, upd_same, by rw [eq]; exact rk_merge (rk.mono sm) .nil⟩
  exact kQ _ _ _ _ (m1.trans (m2.trans m3)) (.obj p) q3
/-- a handle is let go: what it stands for is data from now on -/
def mdel (μ : M) (a : Addr) : M := fun b => if b = a then none else μ b
theorem mdel_ne {μ : M} {a b : Addr} (h : b ≠ a) : mdel μ a b = μ b := if_neg h
theorem mdel_same {μ : M} {a : Addr} : mdel μ a a = none := if_pos rfl
theorem Mv.drop {K : PySem.W.Frag} {H : Hp} {μ : M} (m : MR K H μ) (a : Addr) : Mv K H μ H (mdel μ a) := by
  have sm : Same (hid H μ) (hid H (mdel μ a)) := fun b o h => by
    obtain ⟨h1, h2⟩ := hid_some.mp h
    refine hid_some.mpr ⟨⟨?_, h1.2⟩, h2⟩
    by_cases e : b = a
    · rw [e, mdel_same]
    · rw [mdel_ne e]; exact h1.1
  refine ⟨sm, fun b mo h => ?_⟩
  by_cases e : b = a
  · rw [e, mdel_same] at h; cases h
  · rw [mdel_ne e] at h
    exact (m b mo h).mono sm rfl
/-- a written dict, as data -/
def wDct (ws : List (DW × DW)) : DW := fun δ μ Q F => ∀ p, μ p = none → wPairs ws δ (mput μ p (.dct [])) (fun ps μ1 => μ1 p = some (.dct []) ∧ ps.length ≤ 15 ∧ ∃ kds, (ps.mapM fun p => (keyOf p.1).map fun k => (k, p.2)) = some kds ∧ Q (.dct (mergeD [] kds)) (mdel μ1 p)) F
theorem mdel_put {μ : M} {p : Addr} {m : MO} : mdel (mput μ p m) p = mdel μ p := by
  funext b
  by_cases e : b = p
  · rw [e, mdel_same, mdel_same]
  · rw [mdel_ne e, mdel_ne e, mput_ne e]
theorem pd_dct {keys : List (Option Expr)} {values : List Expr} {trs : List (TE × TE)} {ws : List (DW × DW)} (h : PPD X W pos keys values trs ws) (hall : keys.all (·.isSome) = true := by rfl) (hl : keys.length = values.length := by rfl) (h0 : keys ≠ [] := by exact List.cons_ne_nil _ _) (h15 : keys.length ≤ 15 := by decide) :
    PD X W (.Dict keys values pos) (tDisp trs) (wDct ws) := by
  refine ⟨pe_disp h.pps hall hl h0 h15, fun σ δ H μ Q Qd F S q kQ kF p hp => ?_⟩
  have m1 : Mv X.K H μ (upd H p (.dK [])) (mput μ p (.dct [])) := Mv.put S.mr (.inl hp) fun _ _ => ⟨[], upd_same, .nil⟩
  refine h.lp σ δ _ _ _ _ F (S.step m1) (q p (S.mr.fresh hp)) (fun vs ds H2 μ2 m2 r2 q2 => ?_) (kF.step m1)
  obtain ⟨e1, hz, kds, e2, q3⟩ := q2
  obtain ⟨kvs, ev, rk⟩ := rp_keys r2 e2
  obtain ⟨kv0, e3, r0⟩ := m2.mr p _ e1
  cases r0
  have hlen : kvs.length ≤ 15 := by
    have h1 : vs.length = ds.length := by
      clear kQ kF q3 e2 ev rk
      induction r2 with
      | nil => rfl
      | cons _ _ _ ih => exact congrArg (· + 1) (ih (by simp only [List.length_cons] at hz; omega))
    rw [ev, List.length_map] at h1
    omega
  refine ⟨e3, kvs, ev, hlen, ?_⟩
  have m3 : Mv X.K H2 μ2 (upd H2 p (.dK (mergeK [] kvs))) (mput μ2 p (.dct (mergeD [] kds))) :=
    Mv.put m2.mr (.inr ⟨_, e1⟩) fun sm eq => ⟨_, upd_same, by rw [eq]; exact rk_merge (rk.mono sm) .nil⟩
  have m4 := Mv.drop m3.mr p
  rw [mdel_put] at m4
  have e5 : hid (upd H2 p (.dK (mergeK [] kvs))) (mdel μ2 p) p = some (.dK (mergeK [] kvs)) := hid_some.mpr ⟨⟨mdel_same, rfl⟩, upd_same⟩
  exact kQ _ _ _ _ (m1.trans (m2.trans (m3.trans m4))) (.dct e5 (rk_merge (rk.mono (m3.trans m4).sm) .nil)) q3
end
end DL

set_option maxHeartbeats 2000000
namespace DL
open PySem PySem.Spec PyProof.Rows L2

/-! ### what a def promises, over data -/
abbrev DF := List D → M → DK → FK → Prop
def spD (K : PySem.W.Frag) (wp : DF) : Sp := fun vs H Q E => ∃ (ds : List D) (μ : M) (Qd : DK) (F : FK), RA K (hid H μ) vs ds ∧ MR K H μ ∧ wp ds μ Qd F ∧
  (∀ v d H' μ', Mv K H μ H' μ' → R K (hid H' μ') v d → Qd d μ' → Q v H') ∧ ∀ cls dd er H' μ', Mv K H μ H' μ' → ErR K (hid H' μ') cls dd er → F er μ' → E cls dd H'
/-- the def at f, called with n arguments -/
def FnD (P : Program) (w : World) (K : PySem.W.Frag) (mg : Str → Option Value) (base : Heap) (k : Nat) (f : Addr) (wp : DF) : Prop :=
  ∀ (A : Around) (outer : List Env) (s : Shared) (H : Hp) (us : List Value) (vs : List V) (Q : VK) (E : XK), A.guards = some [] → Room k A → Env0 P w K mg base A outer s H → Vals vs us → spD K wp vs H Q E →
    codeAny (model P w) A (.call (.ref f) ⟨us, []⟩) (CR (L2.CX P w) outer P w H s Q E) s
/-- the def that the module calls x -/
structure CalD (P : Program) (w : World) (K : PySem.W.Frag) (mg : Str → Option Value) (base : Heap) (k : Nat) (x : Str) (wp : DF) : Prop where
  ex : ∃ f, mg x = some (.ref f) ∧ PySem.W.keepIn K (.ref f) = true ∧ FnD P w K mg base k f wp
section
variable {P : Program} {w : World} {K : PySem.W.Frag} {mg : Str → Option Value} {base : Heap} {k j : Nat} {f : Addr} {wp wp' : DF} {x : Str}
theorem spD.imp {vs : List V} {H : Hp} {Q : VK} {E : XK} (h : ∀ ds μ Q F, wp' ds μ Q F → wp ds μ Q F) (s : spD K wp' vs H Q E) : spD K wp vs H Q E := by
  obtain ⟨ds, μ, Qd, F, h1, h2, h3, h4⟩ := s
  exact ⟨ds, μ, Qd, F, h1, h2, h _ _ _ _ h3, h4⟩
theorem FnD.imp (F : FnD P w K mg base k f wp) (h : ∀ ds μ Q F, wp' ds μ Q F → wp ds μ Q F) : FnD P w K mg base k f wp' := fun A outer s H us vs Q E g r e v z => F A outer s H us vs Q E g r e v (z.imp h)
theorem CalD.imp (F : CalD P w K mg base k x wp) (h : ∀ ds μ Q F, wp' ds μ Q F → wp ds μ Q F) : CalD P w K mg base k x wp' := by
  obtain ⟨f, h1, h2, h3⟩ := F.ex
  exact ⟨f, h1, h2, h3.imp h⟩
theorem FnD.mono (F : FnD P w K mg base j f wp) (h : j ≤ k) : FnD P w K mg base k f wp := fun A outer s H us vs Q E g r e v z => F A outer s H us vs Q E g (r.mono h) e v z
theorem CalD.mono (F : CalD P w K mg base j x wp) (h : j ≤ k) : CalD P w K mg base k x wp := by
  obtain ⟨f, h1, h2, h3⟩ := F.ex
  exact ⟨f, h1, h2, h3.mono h⟩
end

/-! ### a body's surroundings -/
structure Ct (X : Cx) (W : WX) (k : Nat) : Prop where
  tk : Takes X W
  gd : X.A.guards = some []
  hr : Room k X.A
  calm : X.calm = true
  sk : ∃ e l, X.stack = e :: l ∧ e.scope.isGenerator = false ∧ e.scope.isCoroutine = false ∧ e.builtins = builtinsNs ∧ e.globals = mainGlobals
theorem Ct.hu {X : Cx} {W : WX} {k : Nat} (c : Ct X W k) : X.A.units + 64 < cLine := c.hr.units
/-- // of any ints -/
theorem o_divP {X : Cx} {W : WX} {k : Nat} (K : PySem.W.Frag) (hK : X.K = K) (HS : SysP X.prog X.base) (c : Ct X W k) (hk : 32 ≤ k := by decide) :
    OpR X (binaryOp .FloorDiv) (rI CDivG fun i j => .int (i.fdiv j)) ∧ OL X.K (rI CDivG fun i j => .int (i.fdiv j)) (gI CDivG fun i j => .int (i.fdiv j)) := by
  refine ⟨fun pins s σ H x y v u Q I rx ry h => ?_, ol_int fun _ _ h => h⟩
  obtain ⟨i, j, rfl, rfl, hc, q⟩ := h
  obtain ⟨t, rfl⟩ := rx
  obtain ⟨t', rfl⟩ := ry
  obtain ⟨e, l, e1, e2, e3, e4, e5⟩ := c.sk
  have hd : X.A.depth + Builtin.pylongFrames < recursionLimit := by
    have := c.hr.dp
    have e : Builtin.pylongFrames = 100 := rfl
    omega
  have hfr : X.A.frames = some (e :: l) := by rw [← e1]; exact I.ok.frames
  have hN : s.heap.NoSeer := HS.s.keeps fun b o e => I.bk b o e
  exact floordiv_int hc.1 ⟨.int (i.fdiv j), H, I.tok _, ⟨_, rfl⟩, q⟩ (.inr (PylongRoom.of I.nolimit hd (SeerAt.of (M := model X.prog X.w) hN HS.t hfr e2 e3 e4 e5)))
theorem Ct.hu1 {X : Cx} {W : WX} {k : Nat} (c : Ct X W k) : X.A.units + 1 < cLine := hu_of c.hr
section
variable {X : Cx} {W : WX} {k j : Nat} {wp : DF} {x : Str} {p pos : Pos} {e : Expr} {es : List Expr} {tr : TA} {wr : DA} {E : St → XK}
theorem run_fnD {pins : List (Addr × Obj)} {σ : St} {H : Hp} {s : Shared} {Q : VK} {us : List Value} {vs : List V} {f : Addr} (F : FnD X.prog X.w X.K X.mg X.base k f wp) (gd : X.A.guards = some []) (hr : Room k X.A) (hx : PassesAt (L2.CX X.prog X.w) X σ (E σ))
    (I : Inv X pins σ H s) (r : Vals vs us) (h : spD X.K wp vs H Q (E σ)) : wpAny (model X.prog X.w) X.A (call (.ref f) us) (EP X pins σ Q) X.xe s := by
  refine wpAny_call (codeAny_mono (F X.A X.stack s H us vs Q (E σ) gd hr I.env0 r h) fun r s' hq => ?_)
  cases r with
  | error e => exact hx pins H s e s' I hq
  | ok fl => cases fl <;> first | exact I.after hq | exact False.elim hq
def tCallD (K : PySem.W.Frag) (W : WX) (wp : DF) (t : TA) : TE := fun σ H Q => t σ H fun vs H1 => spD K wp vs H1 Q (WE W σ)
def wCall (wp : DF) (wa : DA) : DW := fun δ μ Q F => wa δ μ (fun ds μ1 => wp ds μ1 Q F) F
theorem le_call {K : PySem.W.Frag} {W : WX} (ha : LA K W tr wr) : LE K W (tCallD K W wp tr) (wCall wp wr) := fun σ δ H μ Q Qd F S q kQ kF =>
  ha σ δ H μ _ _ F S q (fun vs ds H1 μ1 m1 r1 q1 => ⟨ds, μ1, Qd, F, r1, m1.mr, q1, fun v d H' μ' m r q' => kQ v d H' μ' (m1.trans m) r q', fun cls dd er H' μ' m r f => kF cls dd er H' μ' (m1.trans m) r f⟩) kF
theorem pd_call (K : PySem.W.Frag) (hK : X.K = K) (c : Ct X W j) (C : CalD X.prog X.w X.K X.mg X.base k x wp) (ha : PDA X W (e :: es) tr wr) (hk : k ≤ j := by decide) (hg : Gl X x := by rfl)
    (hdb : (x == ("__debug__" : Str)) = false := by decide) (he : starEach (e :: es) X.env = (false, eval e X.env) :: starEach es X.env := by rfl) (hpl : (backTo pos (starEach es X.env)).any (·.1) = false := by rfl) :
    PD X W (.Call (.Name x p) (e :: es) [] pos) (tCallD K W wp tr) (wCall wp wr) := by
  subst hK
  refine ⟨⟨fun pins s σ H Q I h => ?_⟩, le_call ha.la⟩
  obtain ⟨f, hm, kp, F⟩ := C.ex
  refine wpAny_Call_Name_kw (ld_glob I hg hm ?_ hdb)
  refine PySem.W.callWith_K (h₀ := X.base) I.ok.mod.kin kp (thn (ha.pa.run pos pins s σ H _ I h) fun us s1 ⟨vs, H1, I1, r, q⟩ => ⟨I1.kIn, ?_⟩) he hpl
  exact run_fnD F c.gd (c.hr.mono hk) (passAt c.tk σ) I1 r q
theorem pd_call0 (K : PySem.W.Frag) (hK : X.K = K) (c : Ct X W j) (C : CalD X.prog X.w X.K X.mg X.base k x wp) (hk : k ≤ j := by decide) (hg : Gl X x := by rfl) (hdb : (x == ("__debug__" : Str)) = false := by decide) :
    PD X W (.Call (.Name x p) [] [] pos) (tCallD K W wp tNil) (wCall wp wNil) := by
  subst hK
  refine ⟨⟨fun pins s σ H Q I h => ?_⟩, le_call pda_nil.la⟩
  obtain ⟨f, hm, kp, F⟩ := C.ex
  refine wpAny_Call_Name_kw (ld_glob I hg hm ?_ hdb)
  exact PySem.W.callWith_K0 I.kIn kp (run_fnD (us := []) F c.gd (c.hr.mono hk) (passAt c.tk σ) I .nil h)
end

/-! ### statements -/
def wNext : DS := fun D _ δ μ => D.nx δ μ
def wSeq (a b : DS) : DS := fun D F δ μ => a { D with nx := fun δ' μ' => b D F δ' μ' } F δ μ
def wRet (wa : DW) : DS := fun D F δ μ => wa δ μ D.rt F
def wRetN : DS := fun D _ _ μ => D.rt .non μ
def wBrk : DS := fun D _ δ μ => D.bk δ μ
def wCnt : DS := fun D _ δ μ => D.ct δ μ
def wDrop (wa : DW) : DS := fun D F δ μ => wa δ μ (fun _ μ1 => D.nx δ μ1) F
def wIfS (t : DT) (a b : DS) : DS := fun D F δ μ => t δ μ (fun k μ1 => if k = true then a D F δ μ1 else b D F δ μ1) F
/-- targets -/
abbrev DG := D → DSt → M → (DSt → M → Prop) → Prop
abbrev DGs := List D → DSt → M → (DSt → M → Prop) → Prop
def wName (i : Nat) : DG := fun d δ μ Q => Q (δ.set i (some d)) μ
def wGNil : DGs := fun ds δ μ Q => ds = [] ∧ Q δ μ
def wGCons (t : DG) (u : DGs) : DGs := fun ds δ μ Q => ∃ d r, ds = d :: r ∧ t d δ μ fun δ' μ' => u r δ' μ' Q
def wGTup (n : Nat) (t : DGs) : DG := fun d δ μ Q => ∃ ds, d = .tup ds ∧ ds.length = n ∧ t ds δ μ Q
/-- but for the slots sl all is as it was -/
def But (sl : List Nat) (σ σ' : St) : Prop := (∀ i, i ∉ sl → σ'[i]? = σ[i]?) ∧ σ'.length = σ.length
theorem But.trans {sl sl' : List Nat} {σ σ1 σ2 : St} (a : But sl σ σ1) (b : But sl' σ1 σ2) : But (sl ++ sl') σ σ2 := ⟨fun i h => (b.1 i fun z => h (List.mem_append_right _ z)).trans (a.1 i fun z => h (List.mem_append_left _ z)), b.2.trans a.2⟩
def LG (K : PySem.W.Frag) (t : TG) (w : DG) (sl : List Nat) : Prop := ∀ (σ : St) (δ : DSt) (H : Hp) (μ : M) (v : V) (d : D) (Q : St → Hp → Prop) (Qd : DSt → M → Prop), SD K σ δ H μ → R K (hid H μ) v d → w d δ μ Qd → (∀ σ' δ' H' μ', Same (hid H μ) (hid H' μ') → SD K σ' δ' H' μ' → But sl σ σ' → Qd δ' μ' → Q σ' H') → t v σ H Q
def LGs (K : PySem.W.Frag) (t : TGs) (w : DGs) (sl : List Nat) : Prop := ∀ (σ : St) (δ : DSt) (H : Hp) (μ : M) (vs : List V) (ds : List D) (Q : St → Hp → Prop) (Qd : DSt → M → Prop), SD K σ δ H μ → RA K (hid H μ) vs ds → w ds δ μ Qd → (∀ σ' δ' H' μ', Same (hid H μ) (hid H' μ') → SD K σ' δ' H' μ' → But sl σ σ' → Qd δ' μ' → Q σ' H') → t vs σ H Q
structure PDG (X : Cx) (e : Expr) (t : TG) (w : DG) (sl : List Nat) : Prop where
  pg : PG X e t
  lg : LG X.K t w sl
structure PDGs (X : Cx) (e : List Expr) (t : TGs) (w : DGs) (sl : List Nat) : Prop where
  pg : PGs X e t
  lg : LGs X.K t w sl
section
variable {X : Cx} {W : WX} {x : Str} {pos pos' : Pos} {e tg : Expr} {es : List Expr} {te : TE} {we : DW} {t u : TG} {wt wu : DG} {us : TGs} {wus : DGs} {st : Stmt} {sts a b : List Stmt} {ts tr ta tb : TS} {ws wr wa wb : DS} {tt : TT} {wc : DT} {i : Nat}
theorem pdg_name (i : Nat) (hN : X.N.Nodup) (hi : X.N[i]? = some x := by rfl) (hx : Loc X.env.scope x := by first | exact Or.inl rfl | exact Or.inr rfl) (hf : X.fn x = true ∨ X.env.scope.names.lookup x = some .local := by first | exact .inl rfl | exact .inr rfl) : PDG X (.Name x pos) (gName i) (wName i) [i] :=
  ⟨pg_name hN hi hx hf, fun σ δ H μ v d Q Qd S r q k => k _ _ H μ (Same.refl _) (S.set i r) ⟨fun j h => List.getElem?_set_ne (fun e => h (by simp [e])), by simp⟩ q⟩
theorem pdgs_nil : PDGs X [] gNil wGNil [] := ⟨pgs_nil, fun σ δ H μ vs ds Q Qd S r ⟨e, q⟩ k => by
  subst e
  cases r
  exact ⟨rfl, k _ _ H μ (Same.refl _) S ⟨fun _ _ => rfl, rfl⟩ q⟩⟩
theorem pdgs_cons {sl sl' : List Nat} (h1 : PDG X e t wt sl) (h2 : PDGs X es us wus sl') (hs : (assignEach (e :: es) X.env).map (·.2) = assign e X.env :: (assignEach es X.env).map (·.2) := by rfl) : PDGs X (e :: es) (gCons t us) (wGCons wt wus) (sl ++ sl') := by
  refine ⟨pgs_cons h1.pg h2.pg hs, fun σ δ H μ vs ds Q Qd S r ⟨d, dr, e, q⟩ k => ?_⟩
  subst e
  cases r with
  | cons r1 r2 =>
    refine ⟨_, _, rfl, h1.lg σ δ H μ _ d _ _ S r1 q fun σ1 δ1 H1 μ1 m1 S1 b1 q1 => ?_⟩
    exact h2.lg σ1 δ1 H1 μ1 _ dr Q Qd S1 (r2.mono m1) q1 fun σ' δ' H' μ' m' S' b' q' => k σ' δ' H' μ' (m1.trans m') S' (b1.trans b') q'
theorem pdg_tup {n : Nat} {kk : Nat} {sl : List Nat} (hc : X.calm = true) (h : PDGs X es us wus sl) (hn : (assignEach es X.env).length = n := by rfl) (hst : (assignEach es X.env).findIdx? (·.1) = none := by rfl) : PDG X (.Tuple es kk pos) (gTup X.K n us) (wGTup n wus) sl :=
  ⟨pg_tup hc h.pg hn hst, fun σ δ H μ v d Q Qd S r ⟨ds, e, hl, q⟩ k => by
    subst e
    cases r with
    | @tup a vs _ h1 ra => exact ⟨a, vs, rfl, same_t hid_sub h1, by rw [ra.length]; exact hl, h.lg σ δ H μ vs ds Q Qd S ra q k⟩⟩

theorem pdb_nil : PDB X W [] tNext wNext := ⟨pss_nil, fun G0 σ δ H μ D Dd F g S q k => k.nx σ δ H μ g S q⟩
theorem pds_pass : PDS X W (.Pass pos) tNext wNext := ⟨ps_pass, fun G0 σ δ H μ D Dd F g S q k => k.nx σ δ H μ g S q⟩
theorem pdb_cons (h1 : PDS X W st ts ws) (h2 : PDB X W sts tr wr) : PDB X W (st :: sts) (tSeq ts tr) (wSeq ws wr) :=
  ⟨pss_cons h1.ps h2.pss, fun G0 σ δ H μ D Dd F g S q k => h1.ls G0 σ δ H μ _ _ F g S q ⟨fun σ1 δ1 H1 μ1 g1 S1 q1 => h2.ls G0 σ1 δ1 H1 μ1 D Dd F g1 S1 q1 k, k.rt, k.bk, k.ct, k.er⟩⟩
theorem pdb_one (h : PDS X W st ts ws) : PDB X W [st] ts ws := ⟨pss_one h.ps, h.ls⟩
theorem pds_ret (h : PD X W e te we) : PDS X W (.Return (some e) pos) (tRet te) (wRet we) :=
  ⟨ps_ret h.pe, fun G0 σ δ H μ D Dd F g S q k => h.le σ δ H μ _ _ F S q (fun v d H' μ' m r q' => k.rt v d H' μ' (g.trans m.sm) m.mr r q') (k.ex1 g)⟩
theorem pds_retN : PDS X W (.Return none pos) tRetN wRetN := ⟨ps_retN, fun G0 σ δ H μ D Dd F g S q k => k.rt .non .non H μ g S.mr .non q⟩
theorem pds_brk : PDS X W (.Break pos) tBreak wBrk := ⟨ps_break, fun G0 σ δ H μ D Dd F g S q k => k.bk σ δ H μ g S q⟩
theorem pds_cnt : PDS X W (.Continue pos) tCont wCnt := ⟨ps_continue, fun G0 σ δ H μ D Dd F g S q k => k.ct σ δ H μ g S q⟩
theorem pds_expr (h : PD X W e te we) (hs : swapsWith e none pos.line X.env = pure false := by rfl) : PDS X W (.Expr e pos) (tDrop te) (wDrop we) :=
  ⟨ps_expr h.pe hs, fun G0 σ δ H μ D Dd F g S q k => h.le σ δ H μ _ _ F S q (fun v d H' μ' m r q' => k.nx σ δ H' μ' (g.trans m.sm) (S.step m) q') (k.ex1 g)⟩
theorem pds_if {c : Expr} (hc : PDT X W c tt wc) (ha : PDB X W a ta wa) (hb : PDB X W b tb wb) : PDS X W (.If c a b pos) (tIfS tt ta tb) (wIfS wc wa wb) := by
  refine ⟨ps_if hc.pt ha.pss hb.pss, fun G0 σ δ H μ D Dd F g S q k => hc.lt σ δ H μ _ _ F S q (fun b H1 μ1 m1 q1 => ?_) (k.ex1 g)⟩
  cases b with
  | true => exact ha.ls G0 σ δ H1 μ1 D Dd F (g.trans m1.sm) (S.step m1) q1 k
  | false => exact hb.ls G0 σ δ H1 μ1 D Dd F (g.trans m1.sm) (S.step m1) q1 k
/-- target = e -/
def wAsg (wa : DW) (g : DG) : DS := fun D F δ μ => wa δ μ (fun d μ1 => g d δ μ1 D.nx) F
theorem ls_asg {K : PySem.W.Frag} {sl : List Nat} (h : LE K W te we) (hg : LG K t wt sl) : LS K W (tAsg te t) (wAsg we wt) := fun G0 σ δ H μ D Dd F g S q k =>
  h σ δ H μ _ _ F S q (fun v d H1 μ1 m1 r1 q1 => hg σ δ H1 μ1 v d _ _ (S.step m1) r1 q1 fun σ' δ' H' μ' m' S' _ q' => k.nx σ' δ' H' μ' ((g.trans m1.sm).trans m') S' q') (k.ex1 g)
theorem pds_set (i : Nat) (hN : X.N.Nodup) (he : PD X W e te we) (hi : X.N[i]? = some x := by rfl) (hx : Loc X.env.scope x := by first | exact Or.inl rfl | exact Or.inr rfl) (hs : swapsWith e (some (.Name x pos')) pos.line X.env = pure false := by rfl)
    (hf : X.fn x = true ∨ X.env.scope.names.lookup x = some .local := by first | exact .inl rfl | exact .inr rfl) : PDS X W (.Assign [.Name x pos'] e pos) (tAsg te (gName i)) (wAsg we (wName i)) :=
  ⟨ps_set hN hi hx he.pe hs hf, ls_asg (sl := [i]) he.le fun σ δ H μ v d Q Qd S r q k => k _ _ H μ (Same.refl _) (S.set i r) ⟨fun j h => List.getElem?_set_ne (fun e => h (by simp [e])), by simp⟩ q⟩
theorem pds_asg {sl : List Nat} (he : PD X W e te we) (hg : PDG X tg t wt sl) (hs : swapsWithSole [tg] e pos.line X.env = pure false := by rfl) (hw : swappedStores [tg] e X.env = pure none := by rfl) (h1 : (assignEach [tg] X.env).map (·.2) = [assign tg X.env] := by rfl) : PDS X W (.Assign [tg] e pos) (tAsg te t) (wAsg we wt) :=
  ⟨ps_asg he.pe hg.pg hs hw h1, ls_asg he.le hg.lg⟩
/-- a, b = x, y, plain local names -/
def wPar (i j : Nat) (wa : DA) : DS := fun D F δ μ => wa δ μ (fun ds μ1 => ∃ v w, ds = [v, w] ∧ D.nx ((δ.set i (some v)).set j (some w)) μ1) F
theorem pds_par (i j : Nat) {y : Str} {a b : Expr} {ta : TA} {wa : DA} {px py pt : Pos} {kt k2 pt2} (hc : X.calm = true) (hN : X.N.Nodup) (ha : PDA X W [a, b] ta wa) (hi : X.N[i]? = some x := by rfl) (hj : X.N[j]? = some y := by rfl) (hij : i ≠ j := by decide)
    (hx : X.env.scope.names.lookup x = some .local := by rfl) (hy : X.env.scope.names.lookup y = some .local := by rfl)
    (hw : swappedStores [.Tuple [.Name x px, .Name y py] kt pt] (.Tuple [a, b] k2 pt2) X.env = pure (some [x, y]) := by rfl)
    (hs : swapsWithSole [.Tuple [.Name x px, .Name y py] kt pt] (.Tuple [a, b] k2 pt2) pos.line X.env = pure false := by rfl) :
    PDS X W (.Assign [.Tuple [.Name x px, .Name y py] kt pt] (.Tuple [a, b] k2 pt2) pos) (tPar i j ta) (wPar i j wa) := by
  refine ⟨ps_par hc hN hi hj hij hx hy ha.pa hw hs, fun G0 σ δ H μ D Dd F g S q k => ha.la σ δ H μ _ _ F S q (fun vs ds H1 μ1 m1 r1 q1 => ?_) (k.ex1 g)⟩
  obtain ⟨d1, d2, e, q1⟩ := q1
  subst e
  obtain ⟨v, w, rfl, h1, h2⟩ := ra2 r1
  exact ⟨v, w, rfl, k.nx _ _ H1 μ1 (g.trans m1.sm) (((S.step m1).set i h1).set j h2) q1⟩
/-- d[k] = v of a dict behind a handle -/
def wDPut (wd wk wv : DW) : DS := fun D F δ μ => wv δ μ (fun v μ1 => wd δ μ1 (fun d μ2 => wk δ μ2 (fun y μ3 => ∃ a ks k, d = .obj a ∧ μ3 a = some (.dct ks) ∧ keyOf y = some k ∧ ks.length ≤ 1000000 ∧ D.nx δ (mput μ3 a (.dct (putD ks k v)))) F) F) F
theorem pds_dput {o i value : Expr} {td ty tv : TE} {wd wk wv : DW} (hu : X.A.units + 1 < cLine) (ho : PD X W o td wd) (hi : PD X W i ty wk) (hv : PD X W value tv wv) (hs : swapsWith value (some (.Subscript o i pos')) pos.line X.env = pure false := by rfl) :
    PDS X W (.Assign [.Subscript o i pos'] value pos) (sDPut td ty tv) (wDPut wd wk wv) := by
  refine ⟨ps_dput hu ho.pe hi.pe hv.pe hs, fun G0 σ δ H μ D Dd F g S q k => ?_⟩
  refine hv.le σ δ H μ _ _ F S q (fun v dv H1 μ1 m1 r1 q1 => ?_) (k.ex1 g)
  refine ho.le σ δ H1 μ1 _ _ F (S.step m1) q1 (fun d dd H2 μ2 m2 r2 q2 => ?_) (k.ex1 (g.trans m1.sm))
  refine hi.le σ δ H2 μ2 _ _ F (S.step (m1.trans m2)) q2 (fun y dy H3 μ3 m3 r3 q3 => ?_) (k.ex1 ((g.trans m1.sm).trans m2.sm))
  obtain ⟨a, ks, key, e1, e2, e3, hz, q4⟩ := q3
  subst e1
  obtain ⟨kvs, e4, rk⟩ := m3.mr a _ e2
  refine ⟨a, upd H3 a (.dK (putK kvs key v)), r2.obj_inv, ?_, ?_⟩
  · rw [key_of r3 e3]
    exact DPut.k e4 (Nat.lt_of_le_of_lt (by rw [rk.length]; exact hz) (by decide))
  · have m4 : Mv X.K H3 μ3 (upd H3 a (.dK (putK kvs key v))) (mput μ3 a (.dct (putD ks key dv))) := Mv.put m3.mr (.inr ⟨_, e2⟩) fun sm eq => ⟨_, upd_same, by rw [eq]; exact rk_put (rk.mono sm) (r1.mono ((m2.trans m3).sm.trans sm))⟩
    have m := m1.trans (m2.trans (m3.trans m4))
    exact k.nx σ δ _ _ (g.trans m.sm) (S.step m) q4
/-- xs.append(e), xs behind a handle; as an expression it is None -/
def wApp (wo we : DW) : DW := fun δ μ Q F => wo δ μ (fun d μ1 => ∃ a, d = .obj a ∧ (∃ ds0, μ1 a = some (.lst ds0)) ∧ we δ μ1 (fun v μ2 => ∃ ds, μ2 a = some (.lst ds) ∧ ds.length ≤ 1000000 ∧ Q .non (mput μ2 a (.lst (ds ++ [v])))) F) F
theorem pd_app {o : Expr} {apos cpos : Pos} {to : TE} {wo : DW} (ho : PD X W o to wo) (he : PD X W e te we) (hs : starEach [e] X.env = (false, eval e X.env) :: starEach [] X.env := by rfl)
    (hbase : attributeBase o "append" X.env (eval o X.env) = eval o X.env := by rfl)
    (hfew : ((backTo cpos (starEach [e] X.env)).all (fun x => !x.1) && (backToKw cpos (keywordEach [] X.env)).all (fun x => x.1.isSome) && decide ([e].length + ([] : List Keyword).length + (if ([] : List Keyword).isEmpty then 0 else 1) < 30)) = true := by rfl)
    (hline : (apos.endLine == cpos.line) = true := by rfl) :
    PD X W (.Call (.Attribute o "append" apos) [e] [] cpos) (tBM X.K "list" rAppend to (tCons te tNil)) (wApp wo we) := by
  refine ⟨pe_bm PySem.F.plainAttrs_list PySem.F.slot_list_append PySem.F.type_list_append mt_append ho.pe (pa_cons he.pe pa_nil hs) hbase hfew hline hs, fun σ δ H μ Q Qd F S q kQ kF => ?_⟩
  refine ho.le σ δ H μ _ _ F S q (fun v d H1 μ1 m1 r1 q1 => ?_) kF
  obtain ⟨a, e1, ⟨ds0, e0⟩, q1⟩ := q1
  subst e1
  rw [r1.obj_inv]
  obtain ⟨vs0, e2, ra0⟩ := m1.mr a _ e0
  refine ⟨.inl ⟨rfl, _, .inl (.inl e2)⟩, ?_⟩
  refine he.le σ δ H1 μ1 _ _ F (S.step m1) q1 (fun w dw H2 μ2 m2 r2 q2 => ?_) (kF.step m1)
  obtain ⟨ds, e3, hz, q3⟩ := q2
  obtain ⟨vs, e4, ra⟩ := m2.mr a _ e3
  refine ⟨a, vs, w, rfl, rfl, e4, Nat.lt_of_le_of_lt (by rw [ra.length]; exact hz) (by decide), ?_⟩
  have m3 : Mv X.K H2 μ2 (upd H2 a (.lst (vs ++ [w]))) (mput μ2 a (.lst (ds ++ [dw]))) := Mv.put m2.mr (.inr ⟨_, e3⟩) fun sm eq => ⟨_, upd_same, by rw [eq]; exact (ra.mono sm).append (.cons (r2.mono sm) .nil)⟩
  exact kQ _ _ _ _ (m1.trans (m2.trans m3)) .non q3
end
end DL

set_option maxHeartbeats 2000000
namespace DL
open PySem PySem.Spec PyProof.Rows L2

/-! ### what is walked: a list of data, while Gd stands -/
def ItD (K : PySem.W.Frag) (H : Hp) (μ : M) (J : It) (ds : List D) (Gd : M → Prop) : Prop := ∃ (G : Hp → Prop) (Y : Nat → Hp → V → Hp → Prop), Walk J ds.length G Y ∧ (∀ H1 μ1, Same (hid H μ) (hid H1 μ1) → MR K H1 μ1 → Gd μ1 → G H1) ∧
  ∀ i x H1 μ1 H2, i < ds.length → Same (hid H μ) (hid H1 μ1) → MR K H1 μ1 → Gd μ1 → Y i H1 x H2 → ∃ d, ds[i]? = some d ∧ Mv K H1 μ1 H2 μ1 ∧ R K (hid H2 μ1) x d
abbrev DI := DSt → M → (List D → (M → Prop) → M → Prop) → FK → Prop
def LI (K : PySem.W.Frag) (W : WX) (t : TI) (w : DI) : Prop := ∀ (σ : St) (δ : DSt) (H : Hp) (μ : M) (Q : It → Hp → Prop) (Qd : List D → (M → Prop) → M → Prop) (F : FK), SD K σ δ H μ → w δ μ Qd F →
  (∀ J ds Gd H' μ', Mv K H μ H' μ' → ItD K H' μ' J ds Gd → Qd ds Gd μ' → Q J H') → Ex1 K W σ H μ F → t σ H Q
structure PDI (X : Cx) (W : WX) (tg e : Expr) (t : TI) (w : DI) : Prop where
  pi : PI X tg e t
  li : LI X.K W t w
abbrev Any : M → Prop := fun _ => True
section
variable {K : PySem.W.Frag} {H : Hp} {μ : M} {a b : Addr} {vs ws : List V} {ds es : List D}
theorem itd_list (hs : SqL K (hid H μ) a vs) (r : RA K (hid H μ) vs ds) : ItD K H μ (Itl K a) ds Any := by
  refine ⟨_, _, by rw [← r.length]; exact walk_list, fun H1 μ1 m _ _ => hid_sub.seq (m.seq hs), fun i x H1 μ1 H2 _ m mr _ y => ?_⟩
  obtain ⟨e1, e2⟩ := y
  subst e1
  obtain ⟨d, h1, h2⟩ := r.get' e2
  exact ⟨d, h1, .refl mr, h2.mono m⟩
theorem itd_tup (hs : SqT K (hid H μ) a vs) (r : RA K (hid H μ) vs ds) : ItD K H μ (Itt K a) ds Any := by
  refine ⟨_, _, by rw [← r.length]; exact walk_tup, fun H1 μ1 m _ _ => same_t hid_sub (same_t m hs), fun i x H1 μ1 H2 _ m mr _ y => ?_⟩
  obtain ⟨e1, e2⟩ := y
  subst e1
  obtain ⟨d, h1, h2⟩ := r.get' e2
  exact ⟨d, h1, .refl mr, h2.mono m⟩
/-- a list behind a handle: as long as it stands as it is -/
theorem itd_obj (m : MR K H μ) (h : μ a = some (.lst ds)) : ItD K H μ (Itl K a) ds (fun μ' => μ' a = some (.lst ds)) := by
  obtain ⟨vs, e, r⟩ := m a _ h
  refine ⟨fun H1 => ∃ vs1, H1 a = some (.lst vs1) ∧ vs1.length = ds.length, fun i H1 x H2 => H2 = H1 ∧ ∃ vs1, H1 a = some (.lst vs1) ∧ vs1[i]? = some x, ⟨fun i H1 hi ⟨vs1, e1, el⟩ => ?_, fun H1 ⟨vs1, e1, el⟩ => ?_, fun i H1 x H2 hi ⟨vs1, e1, el⟩ y => ?_⟩, fun H1 μ1 _ mr g => ?_, fun i x H1 μ1 H2 hi _ mr g y => ?_⟩
  · exact ⟨vs1, vs1[i]'(by omega), SqL.of e1, by simp [show i < vs1.length by omega]⟩
  · exact ⟨vs1, SqL.of e1, by omega⟩
  · exact ⟨y.1, vs1, e1, y.2 vs1 (SqL.of e1)⟩
  · obtain ⟨vs1, e1, r1⟩ := mr a _ g
    exact ⟨vs1, e1, r1.length⟩
  · obtain ⟨e0, vs1, e1, e2⟩ := y
    subst e0
    obtain ⟨vs2, e3, r2⟩ := mr a _ g
    rw [e1] at e3
    cases e3
    obtain ⟨d, h1, h2⟩ := r2.get' e2
    exact ⟨d, h1, .refl mr, h2⟩
def intsD (lo : Int) (n : Nat) : List D := (List.range n).map fun i => .int (lo + (i : Nat))
theorem intsD_len (lo : Int) (n : Nat) : (intsD lo n).length = n := by simp [intsD]
theorem itd_range {lo : Int} {n : Nat} : ItD K H μ (Itr lo n) (intsD lo n) Any := by
  refine ⟨_, _, by rw [intsD_len]; exact walk_range, fun _ _ _ _ _ => True.intro, fun i x H1 μ1 H2 hi m mr _ y => ?_⟩
  obtain ⟨e1, e2⟩ := y
  subst e1 e2
  rw [intsD_len] at hi
  exact ⟨_, by simp [intsD, hi], .refl mr, .int _⟩
def pairs (ds es : List D) : List D := (ds.zip es).map fun p => .tup [p.1, p.2]
theorem pair_of {T : Addr} {x y : V} {d e : D} (m : MR K H μ) (hT : H T = none) (r1 : R K (hid H μ) x d) (r2 : R K (hid H μ) y e) : Mv K H μ (upd H T (.tup [x, y])) μ ∧ R K (hid (upd H T (.tup [x, y])) μ) (.ref T) (.tup [d, e]) := by
  have m2 := Mv.new (o := .tup [x, y]) m hT
  exact ⟨m2, .tup (SqT.of (hid_new (m.fresh hT))) (.cons (r1.mono m2.sm) (.cons (r2.mono m2.sm) .nil))⟩
def enum (ds : List D) : List D := (ds.zipIdx).map fun p => .tup [.int (p.2 : Nat), p.1]
theorem itd_enum (hs : SqL K (hid H μ) a vs) (r : RA K (hid H μ) vs ds) : ItD K H μ (Ite K a) (enum ds) Any := by
  have hl : (enum ds).length = vs.length := by rw [r.length]; simp [enum]
  refine ⟨_, _, by rw [hl]; exact walk_enum, fun H1 μ1 m _ _ => hid_sub.seq (m.seq hs), fun i x H1 μ1 H2 _ m mr _ y => ?_⟩
  obtain ⟨T, x1, x2, e0, e1, e2, e3, e4⟩ := y
  subst e0 e2
  obtain ⟨d, h1, h2⟩ := r.get' e4
  cases e3
  obtain ⟨m2, r2⟩ := pair_of mr e1 (.int (i : Nat)) (h2.mono m)
  exact ⟨_, by simp [enum, h1], m2, r2⟩
theorem itd_zip (hs : SqL K (hid H μ) a vs) (r : RA K (hid H μ) vs ds) (hs2 : SqL K (hid H μ) b ws) (r2 : RA K (hid H μ) ws es) : ItD K H μ (Itz K a b) (pairs ds es) Any := by
  have hl : (pairs ds es).length = min vs.length ws.length := by rw [r.length, r2.length]; simp [pairs]
  refine ⟨fun H => SqL K H a vs ∧ SqL K H b ws, YPair (fun i => vs[i]?) (fun i => ws[i]?), by rw [hl]; exact walk_zip rfl, fun H1 μ1 m _ _ => ⟨hid_sub.seq (m.seq hs), hid_sub.seq (m.seq hs2)⟩, fun i x H1 μ1 H2 _ m mr _ y => ?_⟩
  obtain ⟨T, x1, x2, e0, e1, e2, e3, e4⟩ := y
  subst e0 e2
  obtain ⟨d, h1, h2⟩ := r.get' e3
  obtain ⟨d2, h3, h4⟩ := r2.get' e4
  obtain ⟨m2, rr⟩ := pair_of mr e1 (h2.mono m) (h4.mono m)
  refine ⟨.tup [d, d2], ?_, m2, rr⟩
  have hz : (ds.zip es)[i]? = some (d, d2) := List.getElem?_zip_eq_some.mpr ⟨h1, h3⟩
  simp only [pairs, List.getElem?_map, hz, Option.map_some]
end
section
variable {X : Cx} {W : WX} {tg e : Expr} {te : TE} {we : DW} {p pos : Pos}
/-- over a list (written, read-only, or behind a handle) or a tuple -/
def iSeq (K : PySem.W.Frag) (tl : TE) : TI := fun σ H R => tl σ H fun x H1 => ∃ a, x = .ref a ∧ (((∃ xs, SqL K H1 a xs) ∧ R (Itl K a) H1) ∨ ((∃ xs, SqT K H1 a xs) ∧ R (Itt K a) H1))
theorem pi_seq {l : Expr} {tl : TE} (hl : PE X l tl) : PI X tg l (iSeq X.K tl) := by
  refine ⟨fun pins s σ H R I h => ?_⟩
  refine thn (hl.run pins s σ H _ I h) fun v s1 ⟨x, H1, I1, r1, a, e, q⟩ => ?_
  subst e
  cases r1
  have fp : ∀ b ∈ [s1.heap.objs.size], FpOk X pins H1 b := fun b hb => by
    rw [show b = s1.heap.objs.size by simpa using hb]
    exact I1.fpOk (Nat.le_refl _) (I1.hok.fresh (Nat.le_refl _))
  rcases q with ⟨⟨xs, hq⟩, q⟩ | ⟨⟨xs, hq⟩, q⟩
  · obtain ⟨its, rv, pl, hz⟩ := I1.list hq
    exact wpAny_pyIter_list pl.isList ⟨_, [s1.heap.objs.size], _, _, H1, rfl, I1.kept (t' := s1.toks) fun b o e => Heap.get?_push_of_some _ e, turn_list a _, ⟨_, Heap.get?_push_size _ rfl, rfl, rfl⟩, fp, q⟩
  · obtain ⟨its, rv, pl, hz⟩ := I1.tuple hq
    exact wpAny_pyIter_tuple (show s1.heap.IsTuple a its.toArray from pl) ⟨_, [s1.heap.objs.size], _, _, H1, rfl, I1.kept (t' := s1.toks) fun b o e => Heap.get?_push_of_some _ e, turn_tuple a _, ⟨_, Heap.get?_push_size _ rfl, rfl, rfl⟩, fp, q⟩
def wISeq (we : DW) : DI := fun δ μ Q F => we δ μ (fun d μ1 => (∃ ds, (d = .lst ds ∨ d = .ro ds ∨ d = .tup ds) ∧ Q ds Any μ1) ∨ ∃ a ds, d = .obj a ∧ μ1 a = some (.lst ds) ∧ Q ds (fun μ' => μ' a = some (.lst ds)) μ1) F
theorem pdi_seq (h : PD X W e te we) : PDI X W tg e (iSeq X.K te) (wISeq we) := by
  refine ⟨pi_seq h.pe, fun σ δ H μ Q Qd F S q kQ kF => h.le σ δ H μ _ _ F S q (fun v d H1 μ1 m1 r1 q1 => ?_) kF⟩
  rcases q1 with ⟨ds, e, q1⟩ | ⟨a, ds, e, hm, q1⟩
  · rcases e with e | e | e
    · subst e
      cases r1 with
      | lst h1 ra => exact ⟨_, rfl, .inl ⟨⟨_, SqL.of (hid_some.mp h1).2⟩, kQ _ _ _ H1 μ1 m1 (itd_list (SqL.of h1) ra) q1⟩⟩
    · subst e
      cases r1 with
      | ro h1 ra => exact ⟨_, rfl, .inl ⟨⟨_, hid_sub.seq h1⟩, kQ _ _ _ H1 μ1 m1 (itd_list h1 ra) q1⟩⟩
    · subst e
      cases r1 with
      | tup h1 ra => exact ⟨_, rfl, .inr ⟨⟨_, same_t hid_sub h1⟩, kQ _ _ _ H1 μ1 m1 (itd_tup h1 ra) q1⟩⟩
  · subst e
    obtain ⟨vs, h1, _⟩ := m1.mr a _ hm
    exact ⟨a, r1.obj_inv, .inl ⟨⟨vs, SqL.of h1⟩, kQ _ _ _ H1 μ1 m1 (itd_obj m1.mr hm) q1⟩⟩
def wIRng1 (wa : DA) : DI := fun δ μ Q F => wa δ μ (fun ds μ1 => ∃ j : Int, ds = [.int j] ∧ -(2 ^ 62) ≤ j ∧ j < 2 ^ 62 ∧ Q (intsD 0 j.toNat) Any μ1) F
def wIRng2 (wa : DA) : DI := fun δ μ Q F => wa δ μ (fun ds μ1 => ∃ i j : Int, ds = [.int i, .int j] ∧ (-(2 ^ 62) ≤ i ∧ i < 2 ^ 62 ∧ -(2 ^ 62) ≤ j ∧ j < 2 ^ 62) ∧ Q (intsD i (j - i).toNat) Any μ1) F
theorem pdi_range1 {a : Expr} {ta : TA} {wa : DA} (hm : X.mg "range" = none) (ha : PDA X W [a] ta wa) (hg : Gl X "range" := by rfl) (hs : starEach [a] X.env = [(false, eval a X.env)] := by rfl) : PDI X W tg (.Call (.Name "range" p) [a] [] pos) (iRng1 ta) (wIRng1 wa) := by
  refine ⟨pi_range1 hg hm ha.pa hs, fun σ δ H μ Q Qd F S q kQ kF => ha.la σ δ H μ _ _ F S q (fun vs ds H1 μ1 m1 r1 q1 => ?_) kF⟩
  obtain ⟨j, e, h1, h2, q1⟩ := q1
  subst e
  obtain ⟨v, rfl, rv⟩ := ra1 r1
  exact ⟨j, by rw [rv.int_inv], h1, h2, kQ _ _ _ H1 μ1 m1 itd_range q1⟩
theorem pdi_range2 {a b : Expr} {ta : TA} {wa : DA} (hm : X.mg "range" = none) (ha : PDA X W [a, b] ta wa) (hg : Gl X "range" := by rfl) (hs : starEach [a, b] X.env = [(false, eval a X.env), (false, eval b X.env)] := by rfl) (hs2 : starEach [b] X.env = [(false, eval b X.env)] := by rfl) : PDI X W tg (.Call (.Name "range" p) [a, b] [] pos) (iRng2 ta) (wIRng2 wa) := by
  refine ⟨pi_range2 hg hm ha.pa hs hs2, fun σ δ H μ Q Qd F S q kQ kF => ha.la σ δ H μ _ _ F S q (fun vs ds H1 μ1 m1 r1 q1 => ?_) kF⟩
  obtain ⟨i, j, e, h1, q1⟩ := q1
  subst e
  obtain ⟨v, w, rfl, rv, rw'⟩ := ra2 r1
  exact ⟨i, j, by rw [rv.int_inv, rw'.int_inv], h1, kQ _ _ _ H1 μ1 m1 itd_range q1⟩
/-- enumerate of a written list, zip of two -/
def wIEnum (wa : DA) : DI := fun δ μ Q F => wa δ μ (fun ds μ1 => ∃ xs, (ds = [.lst xs] ∨ ds = [.ro xs]) ∧ Q (enum xs) Any μ1) F
def wIZip (wa : DA) : DI := fun δ μ Q F => wa δ μ (fun ds μ1 => ∃ xs ys, ds = [.lst xs, .lst ys] ∧ Q (pairs xs ys) Any μ1) F
theorem pdi_enum {a : Expr} {ta : TA} {wa : DA} {tpos : Pos} {elts : List Expr} {kk : Nat} (hm : X.mg "enumerate" = none) (ha : PDA X W [a] ta wa) (hg : Gl X "enumerate" := by rfl) (hs : starEach [a] X.env = [(false, eval a X.env)] := by rfl) : PDI X W (.Tuple elts kk tpos) (.Call (.Name "enumerate" p) [a] [] pos) (iEnum X.K ta) (wIEnum wa) := by
  refine ⟨pi_enum hg hm ha.pa hs, fun σ δ H μ Q Qd F S q kQ kF => ha.la σ δ H μ _ _ F S q (fun vs ds H1 μ1 m1 r1 q1 => ?_) kF⟩
  obtain ⟨xs, e, q1⟩ := q1
  rcases e with e | e
  · subst e
    obtain ⟨v, rfl, rv⟩ := ra1 r1
    cases rv with
    | lst h1 ra => exact ⟨_, _, rfl, SqL.of (hid_some.mp h1).2, kQ _ _ _ H1 μ1 m1 (itd_enum (SqL.of h1) ra) q1⟩
  · subst e
    obtain ⟨v, rfl, rv⟩ := ra1 r1
    cases rv with
    | ro h1 ra => exact ⟨_, _, rfl, hid_sub.seq h1, kQ _ _ _ H1 μ1 m1 (itd_enum h1 ra) q1⟩
theorem pdi_zip {a b : Expr} {ta : TA} {wa : DA} {tpos : Pos} {elts : List Expr} {kk : Nat} (hm : X.mg "zip" = none) (ha : PDA X W [a, b] ta wa) (hg : Gl X "zip" := by rfl) (hs : starEach [a, b] X.env = (false, eval a X.env) :: starEach [b] X.env := by rfl) (hpl : (backTo pos (starEach [b] X.env)).any (·.1) = false := by rfl) : PDI X W (.Tuple elts kk tpos) (.Call (.Name "zip" p) [a, b] [] pos) (iZip X.K ta) (wIZip wa) := by
  refine ⟨pi_zip hg hm ha.pa hs hpl, fun σ δ H μ Q Qd F S q kQ kF => ha.la σ δ H μ _ _ F S q (fun vs ds H1 μ1 m1 r1 q1 => ?_) kF⟩
  obtain ⟨xs, ys, e, q1⟩ := q1
  subst e
  obtain ⟨v, w, rfl, rv, rw'⟩ := ra2 r1
  cases rv with
  | lst h1 ra =>
    cases rw' with
    | lst h2 rb => exact ⟨_, _, _, _, rfl, SqL.of (hid_some.mp h1).2, SqL.of (hid_some.mp h2).2, kQ _ _ _ H1 μ1 m1 (itd_zip (SqL.of h1) ra (SqL.of h2) rb) q1⟩

/-! ### for -/
def wLoop (Gd : M → Prop) (tg : DG) (body : DS) : List D → DS
  | [], D, _, δ, μ => Gd μ ∧ D.nx δ μ
  | d :: ds, D, F, δ, μ => Gd μ ∧ tg d δ μ fun δ1 μ1 => body { D with nx := fun δ2 μ2 => wLoop Gd tg body ds D F δ2 μ2, ct := fun δ2 μ2 => wLoop Gd tg body ds D F δ2 μ2, bk := D.nx } F δ1 μ1
theorem wLoop_g {Gd : M → Prop} {tg : DG} {body : DS} {ds : List D} {D : DE} {F : FK} {δ : DSt} {μ : M} (h : wLoop Gd tg body ds D F δ μ) : Gd μ := by
  cases ds <;> exact h.1
def wFor (wi : DI) (tg : DG) (body : DS) : DS := fun D F δ μ => wi δ μ (fun ds Gd μ1 => wLoop Gd tg body ds D F δ μ1) F
theorem pds_for {iter : Expr} {body : List Stmt} {wi : TI} {di : DI} {g : TG} {dg : DG} {sl : List Nat} {tb : TS} {db : DS} (hp : PassesOwn (model X.prog X.w) X.A X.env X.xe) (hc : X.calm = true) (hi : PDI X W tg iter wi di) (hg : PDG X tg g dg sl) (hb : PDB X W body tb db) (hs : ∀ x, foldedSetIterable iter X.env x = pure x := by intro _; rfl) :
    PDS X W (.For tg iter body [] pos) (tFor wi g tb) (wFor di dg db) := by
  refine ⟨ps_for hp hc hi.pi hg.pg hb.pss hs, fun G0 σ δ H μ D Dd F g0 S q k => hi.li σ δ H μ _ _ F S q (fun J ds Gd H1 μ1 m1 it q1 => ?_) (k.ex1 g0)⟩
  obtain ⟨G, Y, wk, gG, gY⟩ := it
  refine for_it wk (fun i σ' H' => ∃ δ' μ', Same (hid H1 μ1) (hid H' μ') ∧ SD X.K σ' δ' H' μ' ∧ wLoop Gd dg db (ds.drop i) Dd F δ' μ') ⟨δ, μ1, Same.refl _, S.step m1, q1⟩ ?_ ?_ ?_
  · rintro i σ' H' _ ⟨δ', μ', sm, S', q'⟩
    exact gG H' μ' sm S'.mr (wLoop_g q')
  · rintro i x σ' H' H2 hi ⟨δ', μ', sm, S', q'⟩ y
    obtain ⟨d, e1, m2, r2⟩ := gY i x H' μ' H2 hi sm S'.mr (wLoop_g q') y
    have ed : ds.drop i = d :: ds.drop (i + 1) := by
      obtain ⟨h1, h2⟩ := List.getElem?_eq_some_iff.mp e1
      rw [List.drop_eq_getElem_cons h1, h2]
    rw [ed] at q'
    refine hg.lg σ' δ' H2 μ' x d _ _ (S'.step m2) r2 q'.2 fun σ3 δ3 H3 μ3 m3 S3 _ q3 => ?_
    have g3 : Same (hid H1 μ1) (hid H3 μ3) := sm.trans (m2.sm.trans m3)
    refine hb.ls (hid H1 μ1) σ3 δ3 H3 μ3 _ _ F g3 S3 q3 ⟨?_, ?_, ?_, ?_, ?_⟩
    · exact fun σ4 δ4 H4 μ4 g4 S4 q4 => ⟨δ4, μ4, g4, S4, q4⟩
    · exact fun v d H4 μ4 g4 mr r q4 => k.rt v d H4 μ4 ((g0.trans m1.sm).trans g4) mr r q4
    · exact fun σ4 δ4 H4 μ4 g4 S4 q4 => k.nx σ4 δ4 H4 μ4 ((g0.trans m1.sm).trans g4) S4 q4
    · exact fun σ4 δ4 H4 μ4 g4 S4 q4 => ⟨δ4, μ4, g4, S4, q4⟩
    · exact fun cls dd er σ4 H4 μ4 g4 mr r f => k.er cls dd er σ4 H4 μ4 ((g0.trans m1.sm).trans g4) mr r f
  · rintro σ' H' ⟨δ', μ', sm, S', q'⟩
    rw [List.drop_length] at q'
    exact k.nx σ' δ' H' μ' ((g0.trans m1.sm).trans sm) S' q'.2

/-! ### while -/
def wRun (c : DT) (body : DS) : Nat → DS
  | 0, _, _, _, _ => False
  | n + 1, D, F, δ, μ => c δ μ (fun k μ1 => if k = true then body { D with nx := fun δ2 μ2 => wRun c body n D F δ2 μ2, ct := fun δ2 μ2 => wRun c body n D F δ2 μ2, bk := D.nx } F δ μ1 else D.nx δ μ1) F
def wWhile (c : DT) (body : DS) : DS := fun D F δ μ => ∃ n, wRun c body n D F δ μ
theorem pds_while {c : Expr} {body : List Stmt} {tc : TT} {dc : DT} {tb : TS} {db : DS} (hp : PassesOwn (model X.prog X.w) X.A X.env X.xe) (hc : PDT X W c tc dc) (hb : PDB X W body tb db) : PDS X W (.While c body [] pos) (tWhile tc tb) (wWhile dc db) := by
  refine ⟨ps_while hp hc.pt hb.pss, fun G0 σ δ H μ D Dd F g0 S q k => ?_⟩
  obtain ⟨n, q⟩ := q
  refine ⟨fun n σ' H' => ∃ δ' μ', Same G0 (hid H' μ') ∧ SD X.K σ' δ' H' μ' ∧ wRun dc db n Dd F δ' μ', ⟨n, δ, μ, g0, S, q⟩, ?_⟩
  rintro m σ' H' ⟨δ', μ', g', S', q'⟩
  cases m with
  | zero => exact False.elim q'
  | succ m =>
    refine hc.lt σ' δ' H' μ' _ _ F S' q' (fun b H1 μ1 m1 q1 => ?_) (k.ex1 g')
    cases b with
    | false => exact k.nx σ' δ' H1 μ1 (g'.trans m1.sm) (S'.step m1) q1
    | true =>
      refine ⟨fun σ2 H2 => ∃ δ2 μ2, Same G0 (hid H2 μ2) ∧ SD X.K σ2 δ2 H2 μ2 ∧ wRun dc db m Dd F δ2 μ2, fun σ2 H2 z => ⟨m, Nat.lt_succ_self m, z⟩, ?_⟩
      exact hb.ls G0 σ' δ' H1 μ1 _ _ F (g'.trans m1.sm) (S'.step m1) q1 ⟨fun σ2 δ2 H2 μ2 g2 S2 q2 => ⟨δ2, μ2, g2, S2, q2⟩, k.rt, fun σ2 δ2 H2 μ2 g2 S2 q2 => k.nx σ2 δ2 H2 μ2 g2 S2 q2, fun σ2 δ2 H2 μ2 g2 S2 q2 => ⟨δ2, μ2, g2, S2, q2⟩, k.er⟩
end

/-! ### a def of the text -/
/-- what the top has written of the def x -/
structure DefD (K : PySem.W.Frag) (mg : Str → Option Value) (x : Str) (st : Stmt) : Prop where
  ex : ∃ (f : Addr) (oc : Value) (od : Option Addr) (kV doc pm : Value) (an : Option Addr) (cdv ct : Value) (osl : Array (Option Value)), mg x = some (.ref f) ∧ PySem.W.keepIn K (.ref f) = true ∧
    K.lookup f = some ⟨oc, od, .func (PySem.W.fnOf x x (defArgs st) (defBody st) (defScope st) .none kV doc pm an cdv ct), osl⟩ ∧ PySem.W.codeIn K cdv x = true
def dstart (N : List Str) (ds : List D) : DSt := ds.map some ++ List.replicate (N.length - ds.length) none
theorem sd_start {K : PySem.W.Frag} {H : Hp} {μ : M} {N : List Str} {vs : List V} {ds : List D} (m : MR K H μ) (r : RA K (hid H μ) vs ds) : SD K (L2.start N vs) (dstart N ds) H μ := by
  refine ⟨fun i d h => ?_, m, by unfold L2.start dstart; simp [r.length]⟩
  unfold dstart at h
  by_cases hi : i < ds.length
  · rw [List.getElem?_append_left (by simpa using hi), List.getElem?_map] at h
    cases e : ds[i]? with
    | none => rw [e] at h; cases h
    | some d' =>
      rw [e] at h
      cases h
      obtain ⟨v, h1, h2⟩ := r.get e
      refine ⟨v, ?_, h2⟩
      unfold L2.start
      rw [List.getElem?_append_left (by simp; rw [r.length]; exact hi), List.getElem?_map, h1] <;> rfl
  · rw [List.getElem?_append_right (by simpa using hi), List.getElem?_replicate] at h
    split at h <;> cases h
abbrev WD (E : XK) : WX := fun cls d _ H => E cls d H
/-- a def's context -/
abbrev cxD (P : Program) (w : World) (K : PySem.W.Frag) (mg : Str → Option Value) (base : Heap) (N : List Str) (qual : Str) (sc : Scope) (f : Addr) (cdv : Value) (A : Around) (outer : List Env) (s : Shared) (H : Hp) (E : XK) : Cx :=
  cxOf (L2.CX P w) P w K mg base N qual sc f cdv A outer s H E
section
variable {P : Program} {w : World} {K : PySem.W.Frag} {mg : Str → Option Value} {base : Heap} {k : Nat} {wp : DF} {x : Str}
theorem ct_of {N : List Str} {qual : Str} {sc : Scope} {f : Addr} {cdv : Value} {A : Around} {outer : List Env} {s : Shared} {H : Hp} {E : XK} {ps : List Str} (S : FnScope N ps sc) (hg : A.guards = some []) (hr : Room k (A.deeper (envOfC qual sc s.heap.objs.size f cdv))) : Ct (cxD P w K mg base N qual sc f cdv A outer s H E) (WD E) k :=
  ⟨takes_of rfl rfl rfl rfl, hg, hr, rfl, _, _, rfl, S.gen, S.co, rfl, rfl⟩
/-- THE RULE: a def by its body. all its parameters given -/
theorem cal_of {st : Stmt} {N ps : List Str} {wb : DS} (D : DefD K mg x st) (S : FnScope N ps (defScope st))
    (hb : ∀ (kV doc pm : Value) (an : Option Addr) (cdv ct : Value) (us : List Value), us.length = ps.length → bindArgs (PySem.W.fnOf x x (defArgs st) (defBody st) (defScope st) .none kV doc pm an cdv ct) ⟨us, []⟩ = pure (ps.zip us))
    (body : ∀ (f : Addr) (cdv : Value) (A : Around) (outer : List Env) (s : Shared) (H : Hp) (E : XK), Ct (cxD P w K mg base N x (defScope st) f cdv A outer s H E) (WD E) k → ∃ t, PDB (cxD P w K mg base N x (defScope st) f cdv A outer s H E) (WD E) (defBody st) t wb)
    (h : ∀ ds μ Q F, wp ds μ Q F → ds.length = ps.length ∧ wb { nx := fun _ μ' => Q .non μ', rt := Q } F (dstart N ds) μ) : CalD P w K mg base (k + 1) x wp := by
  obtain ⟨f, oc, od, kV, doc, pm, an, cdv, ct, osl, hm, kp, lk, hcd⟩ := D.ex
  refine ⟨f, hm, kp, fun A outer s H us vs Q E hg hr e0 r sp => ?_⟩
  obtain ⟨ds, μ, Qd, F, ra, mr, q, kQ, kF⟩ := sp
  obtain ⟨hl, q⟩ := h ds μ Qd F q
  have hv : vs.length = ps.length := by rw [ra.length, hl]
  refine LamX.run_ofS (N := N) (ps := ps) (us := us) (vs := vs) lk hcd S hr e0 (.of_eq (hb _ _ _ _ _ _ us (by rw [← r.length, hv]))) r hv fun hr' => ?_
  obtain ⟨t, hb⟩ := body f cdv A outer s H E (ct_of S hg hr')
  refine ⟨t, hb.pss, hb.ls (hid H μ) _ _ H μ _ _ F (Same.refl _) (sd_start mr ra) q ⟨fun σ δ H' μ' g S' q' => kQ .non .non H' μ' ⟨g, S'.mr⟩ .non q', fun v d H' μ' g m r q' => kQ v d H' μ' ⟨g, m⟩ r q', fun _ _ _ _ _ _ z => z, fun _ _ _ _ _ _ z => z, fun cls dd er σ H' μ' g m r f => kF cls dd er H' μ' ⟨g, m⟩ r f⟩⟩
end
end DL

set_option maxHeartbeats 2000000
namespace DL
open PySem PySem.Spec PyProof.Rows L2

/-! ### an own exception with an own __init__ -/
/-- B.__init__(self, ..), B an own class over ValueError that has none of its own -/
theorem pe_ceinit {X : Cx} {B : Addr} {mc : Value} {x : Str} {p1 p2 pos : Pos} {e : Expr} {es : List Expr} {ta : TA} {pl : Sem Bool} (hm : X.mg x = some (.ref B)) (r : ClX.CRead X.K B mc) (vB : PySem.W.findCls X.K (.ref B) mc "__init__" = some (.val (.builtin "ValueError.__init__"))) (ha : PA X (e :: es) ta) (hg : Gl X x := by rfl)
    (hdb : (x == ("__debug__" : Str)) = false := by decide)
    (hc : eval (.Call (.Attribute (.Name x p1) "__init__" p2) (e :: es) [] pos) X.env = (do
      let ov ← eval (.Name x p1) X.env
      standAt p2.atName
      let (f, first) ← holding [ov] (getMethod ov "__init__" pl)
      callWith pos f first (backTo pos (starEach (e :: es) X.env)) (backToKw pos (keywordEach [] X.env))) := by rfl)
    (he : starEach (e :: es) X.env = (false, eval e X.env) :: starEach es X.env := by rfl) (hpl : (backTo pos (starEach es X.env)).any (·.1) = false := by rfl) :
    PE X (.Call (.Attribute (.Name x p1) "__init__" p2) (e :: es) [] pos) (tVeI X.K ta) := by
  refine ⟨fun pins s σ H Q I h => ?_⟩
  refine PySem.W.methodCall_KW (ld_glob I hg hm ?_ hdb) hc
  refine PySem.W.method_cls I.kIn r.ga (PySem.W.cls_value I.kIn r.rd vB rfl ?_)
  show wpAny _ _ (callWith pos (Value.builtin "ValueError.__init__") [] (backTo pos (starEach (e :: es) X.env)) []) _ _ _
  refine PyProof.Rows.callWith_method1 (thn (ha.run pos pins _ σ H _ (I.tok _) h) fun us s1 ⟨vs, H1, I1, r1, a, C, ws, ev, hl, T, ea, q⟩ => ?_) he hpl
  subst ev
  cases r1 with
  | @cons _ u0 _ ur ra rw' =>
    obtain rfl : u0 = Value.ref a := ra
    have hlen : ur.length ≤ sizeLine := by
      rw [← Paired.length rw', sizeLine_eq]
      omega
    exact oinit_ok T I1 ea hlen fun s' J => ⟨.non, H1, J, rfl, q⟩
/-- what the __init__ of the class at C promises: the fields ns are set -/
def spI (C : Addr) (ns : List Str) : Sp := fun vs H Q _ => ∃ (a : Addr) (ws : List V), vs = .ref a :: ws ∧ ws.length = ns.length ∧ H a = some (exo a C none) ∧
  ∀ (d : Addr) (H' : Hp), H d = none → d ≠ a → H' a = some (exo a C (some d)) → H' d = some (exd d (ns.zip ws).reverse) → (∀ b, b ≠ a → b ≠ d → H' b = H b) → Q .non H'
/-- x names the class at C, whose instances are made of the fields ns -/
structure ExcD (P : Program) (w : World) (K : PySem.W.Frag) (mg : Str → Option Value) (base : Heap) (k : Nat) (x : Str) (C : Addr) (ns : List Str) : Prop where
  T : OexC K C
  ex : ∃ (fI : Addr) (fd : FuncData) (ps : List Str), PySem.W.findIn K (.ref C) "__init__" = some (some (.ref fI)) ∧ PySem.W.typeIn K (.ref fI) = some (.type "function") ∧ FnOk P w K mg base CX0 k fI fd ps (spI C ns) ∧ Binds K fd ps []
  gC : mg x = some (.ref C)
section
variable {P : Program} {w : World} {K : PySem.W.Frag} {mg : Str → Option Value} {base : Heap} {C fI : Addr} {x q f g z : Str} {st : Stmt} {fd : FuncData}
theorem excd1 (F : Fun K "__init__" q st fI fd) (T : OexC K C) (iC : PySem.W.findIn K (.ref C) "__init__" = some (some (.ref fI))) (tI : PySem.W.typeIn K (.ref fI) = some (.type "function")) (gC : mg x = some (.ref C)) (no : PySem.W.findIn K (.ref C) f = some none)
    (S : FnScope ["self", f] ["self", f] (defScope st)) (hb : Binds K fd ["self", f] [])
    (body : ∀ (cdv : Value) (A : Around) (outer : List Env) (s : Shared) (H : Hp) (E : XK), PSs (cxOf CX0 P w K mg base ["self", f] q (defScope st) fI cdv A outer s H E).nox (defBody st) (tSeq (tDrop (tVeI K (tCons (tVar 0) (tCons (tC (.str z)) tNil)))) (tOst K f (tVar 0) (tVar 1)))) : ExcD P w K mg base 1 x C [f] := by
  refine ⟨T, ⟨fI, fd, ["self", f], iC, tI, F.ok S (fun vs H Q E h => ?_) (fun cdv A outer s H vs Q E _ h => ⟨_, body cdv A outer s H E, ?_⟩), hb⟩, gC⟩
  · obtain ⟨a, ws, rfl, hl, _⟩ := h
    simp only [List.length_cons, hl, List.length_nil]
  · obtain ⟨a, ws, rfl, hl, ha, k⟩ := h
    match ws, hl with
    | [v], _ =>
      refine ⟨_, rfl, a, C, _, rfl, (by decide : 1 ≤ 1000), T, ha, _, rfl, _, rfl, a, C, rfl, T, no, .inl ⟨ha, fun dx n ne => k dx _ n ne upd_same (by rw [upd_ne ne, upd_same]; rfl) fun b h1 h2 => by rw [upd_ne h1, upd_ne h2]⟩⟩
theorem excd2 (F : Fun K "__init__" q st fI fd) (T : OexC K C) (iC : PySem.W.findIn K (.ref C) "__init__" = some (some (.ref fI))) (tI : PySem.W.typeIn K (.ref fI) = some (.type "function")) (gC : mg x = some (.ref C)) (no : PySem.W.findIn K (.ref C) f = some none) (no2 : PySem.W.findIn K (.ref C) g = some none)
    (S : FnScope ["self", f, g] ["self", f, g] (defScope st)) (hb : Binds K fd ["self", f, g] [])
    (body : ∀ (cdv : Value) (A : Around) (outer : List Env) (s : Shared) (H : Hp) (E : XK), PSs (cxOf CX0 P w K mg base ["self", f, g] q (defScope st) fI cdv A outer s H E).nox (defBody st) (tSeq (tDrop (tVeI K (tCons (tVar 0) (tCons (tC (.str z)) tNil)))) (tSeq (tOst K f (tVar 0) (tVar 1)) (tOst K g (tVar 0) (tVar 2))))) : ExcD P w K mg base 1 x C [f, g] := by
  refine ⟨T, ⟨fI, fd, ["self", f, g], iC, tI, F.ok S (fun vs H Q E h => ?_) (fun cdv A outer s H vs Q E _ h => ⟨_, body cdv A outer s H E, ?_⟩), hb⟩, gC⟩
  · obtain ⟨a, ws, rfl, hl, _⟩ := h
    simp only [List.length_cons, hl, List.length_nil]
  · obtain ⟨a, ws, rfl, hl, ha, k⟩ := h
    match ws, hl with
    | [v, u], _ =>
      refine ⟨_, rfl, a, C, _, rfl, (by decide : 1 ≤ 1000), T, ha, _, rfl, _, rfl, a, C, rfl, T, no, .inl ⟨ha, fun dx n ne => ?_⟩⟩
      refine ⟨_, rfl, _, rfl, a, C, rfl, T, no2, .inr ⟨dx, [(f, v)], upd_same, by rw [upd_ne ne, upd_same], (by show 1 ≤ 900; decide), ?_⟩⟩
      exact k dx _ n ne (by rw [upd_ne (Ne.symm ne), upd_same]) upd_same fun b h1 h2 => by rw [upd_ne h2, upd_ne h1, upd_ne h2]
end
/-- raise x(..) -/
def wRaise (C : Addr) (ns : List Str) (wa : DA) : DS := fun _ F δ μ => wa δ μ (fun ds μ1 => ds.length = ns.length ∧ F ⟨.ref C, (ns.zip ds).reverse⟩ μ1) F
theorem zip_RF {K : PySem.W.Frag} {G : Hp} : ∀ {ns : List Str} {vs : List V} {ds : List D}, RA K G vs ds → RF K G (ns.zip vs) (ns.zip ds)
  | [], _, _, _ => .nil
  | _ :: _, _, _, .nil => .nil
  | _ :: _, _, _, .cons h r => .cons h (zip_RF r)
theorem RF.append {K : PySem.W.Frag} {G : Hp} : ∀ {vs ws : List (Str × V)} {ds es : List (Str × D)}, RF K G vs ds → RF K G ws es → RF K G (vs ++ ws) (ds ++ es)
  | _, _, _, _, .nil, s => s
  | _, _, _, _, .cons h r, s => .cons h (r.append s)
theorem RF.rev {K : PySem.W.Frag} {G : Hp} : ∀ {vs : List (Str × V)} {ds : List (Str × D)}, RF K G vs ds → RF K G vs.reverse ds.reverse
  | _, _, .nil => .nil
  | _, _, .cons h r => by
    rw [List.reverse_cons, List.reverse_cons]
    exact r.rev.append (.cons h .nil)
section
variable {X : Cx} {W : WX} {k j : Nat} {x : Str} {C : Addr} {ns : List Str} {e : Expr} {es : List Expr} {ta : TA} {wa : DA} {p pos pos2 : Pos}
theorem pds_raise (c : Ct X W j) (E : ExcD X.prog X.w X.K X.mg X.base k x C ns) (ha : PDA X W (e :: es) ta wa) (hk : k + 1 ≤ j := by decide) (hg : Gl X x := by rfl) (hdb : (x == ("__debug__" : Str)) = false := by decide)
    (he : starEach (e :: es) X.env = (false, eval e X.env) :: starEach es X.env := by rfl) (hpl : (backTo pos (starEach es X.env)).any (·.1) = false := by rfl) (h1 : ns.length ≤ 1000 := by decide) :
    PDS X W (.Raise (some (.Call (.Name x p) (e :: es) [] pos)) none pos2) (fun _ σ H => tMkO C (spI C ns) [] ta σ H fun cls d H' => W cls d σ H') (wRaise C ns wa) := by
  obtain ⟨fI, fd, ps, iC, tI, F, hb⟩ := E.ex
  refine ⟨ps_raise c.calm c.tk (pmk_oex E.T iC tI F (c.hr.mono hk) hb .nil pass0 hg E.gC ha.pa hdb he hpl), fun G0 σ δ H μ D Dd F' g S q kk => ?_⟩
  refine ha.la σ δ H μ _ _ F' S q (fun vs ds H1 μ1 m1 r1 ⟨hl, q1⟩ => ⟨by rw [r1.length, hl]; exact h1, fun a na => ⟨a, vs ++ [], rfl, by rw [List.append_nil, r1.length, hl], upd_same, fun d H' hd da ea ed hb' => ⟨rfl, d, _, ea, ed, ?_, ?_⟩⟩⟩) (kk.ex1 g)
  · rw [upd_ne da] at hd
    exact hd
  · rw [upd_ne da] at hd
    have e1 : upd (del H' a) d (.xd (ns.zip (vs ++ [])).reverse) = upd H1 d (.xd (ns.zip vs).reverse) := by
      funext b
      rw [List.append_nil]
      by_cases h1 : b = d
      · rw [h1, upd_same, upd_same]
      · rw [upd_ne h1, upd_ne h1]
        by_cases h2 : b = a
        · rw [h2, del_same, na]
        · rw [del_ne h2, hb' b h2 h1, upd_ne h2]
    rw [e1]
    have m2 := Mv.new (o := .xd (ns.zip vs).reverse) m1.mr hd
    exact kk.er _ _ _ σ _ μ1 ((g.trans m1.sm).trans m2.sm) m2.mr ⟨rfl, fun b => .exc1 (hid_new (m1.mr.fresh hd)) ((zip_RF r1).rev.mono m2.sm)⟩ q1
end
end DL

set_option maxHeartbeats 2000000
namespace DL
open PySem PySem.Spec PyProof.Rows L2

/-! ### try .. except X as n (several clauses) -/
/-- a clause: the class that it names, its name's slot, its suite's reading -/
structure Cl where
  c : Value
  i : Nat
  ts : Addr → Value → Option Addr → TS
/-- the ends of a suite: its name goes -/
def Ends.gone (D : Ends) (i : Nat) : Ends := { nx := fun σ' H' => D.nx (σ'.set i none) H', rt := D.rt, bk := fun σ' H' => D.bk (σ'.set i none) H', ct := fun σ' H' => D.ct (σ'.set i none) H' }
def wCl (K : PySem.W.Frag) (Wout : WX) (D : Ends) : List Cl → WX
  | [], cls, d, σ, H => Wout cls d σ H
  | l :: r, cls, d, σ, H => ∃ b, PySem.W.exmOne K cls l.c = some b ∧ (b = true → ∀ a, H a = none → l.ts a cls d (Ends.gone D l.i) (σ.set l.i (some (.ref a))) H) ∧ (b = false → wCl K Wout D r cls d σ H)
inductive ClOk (X : Cx) : List ExceptHandler → List Cl → Prop
  | nil : ClOk X [] []
  | cons {x n : Str} {l : Cl} {b₀ : Stmt} {suite : List Stmt} {np pos' : Pos} {hds : List ExceptHandler} {ls : List Cl} (hc : Names X x l.c) (hi : X.N[l.i]? = some n) (hln : X.env.kindOf n = some .local)
      (hsu : ∀ (a : Addr) (oe : Obj) (cls : Value) (d : Option Addr) (pn : List (Addr × Obj)), Zc cls d oe → (∃ vs, oe.data = .fields vs) → PSs (X.suite a ((a, oe) :: pn)) (b₀ :: suite) (l.ts a cls d)) (r : ClOk X hds ls) :
      ClOk X (.ExceptHandler (some (.Name x np)) (some n) (b₀ :: suite) pos' :: hds) (l :: ls)
section
variable {X : Cx} {body : List Stmt} {h₀ : ExceptHandler} {hds : List ExceptHandler} {l : List Cl} {pos : Pos} {tb : WX → TS} {Wout : WX}
theorem ps_try_cl (hs : X.stack = X.env :: X.outer) (hf : X.env.frame = some X.env.locals) (hN : X.N.Nodup) (tk : Takes X Wout)
    (hb : ∀ (W : WX) (pn : List (Addr × Obj)) (xe : Value → Shared → Prop), Takes (X.tr pn xe) W → PassesOwn (model X.prog X.w) X.A X.env xe → PSs (X.tr pn xe) body (tb W))
    (hh : ClOk X (h₀ :: hds) l) : PS X (.Try body (h₀ :: hds) [] [] pos) (fun D σ H => tb (wCl X.K Wout D l) D σ H) := by
  constructor
  intro pins s σ H D I h
  have ok := I.ok
  have hfr : X.A.frames = some (X.env :: X.outer) := by rw [ok.frames, hs]
  apply wpAny_Try_except
  refine wpAny_mono ((hb (wCl X.K Wout D l) (X.pn ++ pins) (fun e s₁ => wpAny (model X.prog X.w) X.A (noteFrame e X.env) (fun _ s₂ => wpAny (model X.prog X.w) X.A (setFlight e none) (fun _ s₃ =>
    wpAny (model X.prog X.w) X.A (handleBy e X.env (h₀ :: hds)) (SP X pins D) X.xe s₃) X.xe s₂) X.xe s₁) (fun u s' xx => ?c) PassesOwn.looking).run [] s σ H D (I.toTry _) h) (fun f s1 hsp => ?n) (fun e s1 he => he)
  case n =>
    cases f with
    | next =>
      obtain ⟨σ', H', J, q⟩ := hsp
      exact wpAny_execs_nil ⟨σ', H', J.ofTry ok, q⟩
    | ret u =>
      obtain ⟨v, σ', H', J, r, q⟩ := hsp
      exact ⟨v, σ', H', J.ofTry ok, r, q⟩
    | brk =>
      obtain ⟨σ', H', J, q⟩ := hsp
      exact ⟨σ', H', J.ofTry ok, q⟩
    | cont =>
      obtain ⟨σ', H', J, q⟩ := hsp
      exact ⟨σ', H', J.ofTry ok, q⟩
  case c =>
    obtain ⟨a, B, sI, pins', σ', H', cls, d, rfl, J', nb, up, sky, na, os, ag, w⟩ := xx
    have J : Inv X pins σ' H' sI := J'.ofTry ok
    refine Sky.land Zc.steady hfr hf (L := X.env.locals) (B := B) (a := a) (Z := Zc cls d) (by rw [← hs]; exact sky) fun h3 fl3 up3 => ?_
    have J3 : Inv X pins σ' H' { s' with heap := h3 } := J.landed nb fl3.1 (up.trans up3) os ag
    obtain ⟨oe3, vs3, he3, hz3, hd3⟩ := fl3.there
    have nfr : a ∉ frs (X.env :: X.outer) := fun hm => by
      obtain ⟨_, o', e', hnf⟩ := fl3.2.2.1.mem hm
      rw [he3] at e'
      cases e'
      exact hnf _ hd3
    have nL : a ≠ X.env.locals := fun z => nfr (List.mem_filterMap.mpr ⟨X.env, List.mem_cons_self, by rw [hf, z]⟩)
    have nF : a ∉ X.fs := fun hm => by
      obtain ⟨e, he, q⟩ := List.mem_filterMap.mp hm
      exact nfr (List.mem_filterMap.mpr ⟨e, List.mem_cons_of_mem _ he, q⟩)
    have S3 := J3.suite he3 hd3 na nL nF
    have LT : PySem.W.Looks (model X.prog X.w) h3 (typeOf (.ref a)) cls := fun A Q E s k q => wpAny_typeOf_ref (k _ _ he3) (by rw [hz3.1]; exact q)
    show wpAny (model X.prog X.w) X.A (handleBy (.ref a) X.env (h₀ :: hds)) _ _ _
    revert w
    clear h
    generalize h₀ :: hds = hs' at hh
    induction hh with
    | nil =>
      intro w
      apply wpAny_handleBy_nil
      obtain ⟨k1, k2, k3, oe, vs, T, oT, ts', he, hz, hd, h1, hr⟩ := id fl3
      unfold PySem.passOn
      refine wpAny_bind (wpAny_field he hd h1 ?_)
      rw [if_neg (show ¬ ((Value.ref T == Value.none) = true) from by simp)]
      have fin : wpAny (model X.prog X.w) X.A (setFlight (.ref a) X.env.frame) (fun _ s4 => wpAny (model X.prog X.w) X.A (throw (.ref a) : Sem Flow) (SP X pins D) X.xe s4) X.xe { s' with heap := h3 } := by
        rw [hf]
        exact HandSPX.setFlight_upZ fl3 fun h4 hh4 up4 => wpAny_throw (tk _ _ ⟨a, B, sI, pins, σ', H', cls, d, rfl, J, nb, (up.trans up3).trans up4, .inr (.inr (by rw [hs]; exact hh4)), na, os, ag, w⟩)
      first
        | exact wpAny_bind (wpAny_pure (wpAny_bind fin))
        | exact wpAny_bind fin
    | @cons x n l b₀ suite np pos' hds2 ls hc hi hln hsu r ih =>
      intro w
      obtain ⟨b, hb1, hyes, hno⟩ := w
      have LM := PySem.W.exm_one (M := model X.prog X.w) (J3.kIn) LT hb1
      have hloc : Loc X.env.scope n := .inl hln
      apply wpAny_handleBy_cons (codeAny_handlers_test ?_) (by intro q; cases q)
      have test : ∀ {Q : Value → Shared → Prop} {E : Value → Shared → Prop}, Q l.c { s' with heap := h3 } → wpAny (model X.prog X.w) (X.A.mark (some (.ref a))) (eval (.Name x np) X.env) Q E { s' with heap := h3 } := fun {Q E} q => by
        rcases hc with ⟨hg, hdbg, hm | ⟨hm, hv, hnn⟩⟩
        · exact ld_glob (X := X.suite a ((a, oe3) :: (X.pn ++ pins))) S3 hg hm q hdbg
        · exact ld_blt (X := X.suite a ((a, oe3) :: (X.pn ++ pins))) S3 hg hm hv q hnn hdbg
      refine test (LM.here ?_)
      cases b with
      | false => exact ih (hno rfl)
      | true =>
        refine codeAny_handlers_suite_as (HandSPX.lands_againZ fl3 fun h4 fl4 up4 => ?_)
        have J4 : Inv X pins σ' H' { s' with heap := h4 } := J.landed nb fl4.1 ((up.trans up3).trans up4) os ag
        obtain ⟨oe4, vs4, he4, hz4, hd4⟩ := fl4.there
        refine store_ok (X := X.suite a ((a, oe4) :: (X.pn ++ pins))) (v := .ref a) (J4.suite he4 hd4 na nL nF) hN hi hloc rfl (fun s5 S5 => ?_) (.inr hln)
        have leave : ∀ {σ6 : St} {H6 : Hp} {s6 : Shared} {Q : Shared → Prop}, Inv (X.suite a ((a, oe4) :: (X.pn ++ pins))) [] σ6 H6 s6 → (∀ s7, Inv X pins (σ6.set l.i none) H6 s7 → Q s7) →
            wpAny (model X.prog X.w) X.A (do bindName X.env n .none; unbindBehindTheSuite X.env n pos') (fun _ s7 => Q s7) X.xe s6 := fun S6 hq => gone_ok (S6.unsuite ok) hN hi hln hq
        refine wpAny_mono ((hsu a oe4 cls d (X.pn ++ pins) hz4 ⟨_, hd4⟩).run [] s5 _ H' _ S5 (hyes rfl a na)) (fun f s6 hsp => ?_) (fun _ _ z => False.elim z)
        cases f with
        | ret u =>
          obtain ⟨v6, σ6, H6, S6, r6, q6⟩ := hsp
          exact leave S6 fun s7 J7 => ⟨_, _, _, J7, r6, q6⟩
        | next =>
          obtain ⟨σ6, H6, S6, q6⟩ := hsp
          exact leave S6 fun s7 J7 => ⟨_, _, J7, q6⟩
        | brk =>
          obtain ⟨σ6, H6, S6, q6⟩ := hsp
          exact leave S6 fun s7 J7 => ⟨_, _, J7, q6⟩
        | cont =>
          obtain ⟨σ6, H6, S6, q6⟩ := hsp
          exact leave S6 fun s7 J7 => ⟨_, _, J7, q6⟩
end
end DL

set_option maxHeartbeats 2000000
namespace DL
open PySem PySem.Spec PyProof.Rows L2

/-! ### try: e, except X as n: suite .., over data -/
structure DCl where
  c : Value
  i : Nat
  ws : Addr → Value → Option Addr → DS
def goneD (D : DE) (i : Nat) : DE := { nx := fun δ μ => D.nx (δ.set i none) μ, rt := D.rt, bk := fun δ μ => D.bk (δ.set i none) μ, ct := fun δ μ => D.ct (δ.set i none) μ }
def wClD (K : PySem.W.Frag) (er : Er) (D : DE) (F : FK) (δ : DSt) (μ : M) : List DCl → Prop
  | [] => F er μ
  | l :: r => ∃ b, PySem.W.exmOne K er.cls l.c = some b ∧ if b = true then ∀ a dd, μ a = none → l.ws a er.cls dd (goneD D l.i) (fun _ _ => False) (δ.set l.i (some (.exc a dd er.fs))) μ else wClD K er D F δ μ r
def W0 : WX := fun _ _ _ _ => False
/-- what a suite needs of its surroundings -/
structure CtS (X : Cx) : Prop where
  gd : X.A.guards = some []
  hu : X.A.units + 64 < cLine
inductive ClD (X : Cx) : List ExceptHandler → List Cl → List DCl → Prop
  | nil : ClD X [] [] []
  | cons {x n : Str} {c : Value} {i : Nat} {ts : Addr → Value → Option Addr → TS} {ws : Addr → Value → Option Addr → DS} {b₀ : Stmt} {suite : List Stmt} {np pos' : Pos} {hds : List ExceptHandler} {ls : List Cl} {ds : List DCl} (hc : Names X x c) (hi : X.N[i]? = some n) (hln : X.env.kindOf n = some .local)
      (hsu : ∀ (a : Addr) (oe : Obj) (cls : Value) (d : Option Addr) (pn : List (Addr × Obj)), CtS (X.suite a ((a, oe) :: pn)) → Zc cls d oe → (∃ vs, oe.data = .fields vs) → PDB (X.suite a ((a, oe) :: pn)) W0 (b₀ :: suite) (ts a cls d) (ws a cls d)) (r : ClD X hds ls ds) :
      ClD X (.ExceptHandler (some (.Name x np)) (some n) (b₀ :: suite) pos' :: hds) (⟨c, i, ts⟩ :: ls) (⟨c, i, ws⟩ :: ds)
theorem ClD.ok {X : Cx} {hds : List ExceptHandler} {ls : List Cl} {ds : List DCl} (h : ClD X hds ls ds) (cs : CtS X) : ClOk X hds ls := by
  induction h with
  | nil => exact .nil
  | cons hc hi hln hsu _ ih => exact .cons hc hi hln (fun a oe cls d pn z f => (hsu a oe cls d pn ⟨cs.gd, cs.hu⟩ z f).pss) ih
theorem SD.unset {K : PySem.W.Frag} {σ : St} {δ : DSt} {H : Hp} {μ : M} (s : SD K σ δ H μ) (i : Nat) : SD K (σ.set i none) (δ.set i none) H μ := by
  refine ⟨fun j d h => ?_, s.mr, by rw [List.length_set, List.length_set]; exact s.len⟩
  by_cases z : i = j
  · subst z
    by_cases hi : i < δ.length
    · rw [List.getElem?_set_self hi] at h
      cases h
    · rw [List.getElem?_eq_none (by rw [List.length_set]; omega)] at h
      cases h
  · rw [List.getElem?_set_ne z] at h
    obtain ⟨w, h1, h2⟩ := s.sl j d h
    exact ⟨w, by rw [List.getElem?_set_ne z]; exact h1, h2⟩
theorem ClD.ls {X : Cx} {W : WX} {hds : List ExceptHandler} {ls : List Cl} {ds : List DCl} (h : ClD X hds ls ds) (cs : CtS X) {G0 : Hp} {σ : St} {δ : DSt} {H : Hp} {μ : M} {D : Ends} {Dd : DE} {F : FK} {cls : Value} {dd : Option Addr} {er : Er} (g : Same G0 (hid H μ)) (S : SD X.K σ δ H μ) (r : ErR X.K (hid H μ) cls dd er)
    (k : DEn X.K W G0 D Dd F) (q : wClD X.K er Dd F δ μ ds) : wCl X.K W D ls cls dd σ H := by
  induction h with
  | nil => exact k.er cls dd er σ H μ g S.mr r q
  | @cons x n c i ts ws b₀ suite np pos' hds' ls' ds' hc hi hln hsu _ ih =>
    obtain ⟨b, hb, q⟩ := q
    refine ⟨b, by rw [r.1]; exact hb, fun e a na => ?_, fun e => ?_⟩
    · subst e
      have ma : μ a = none := S.mr.fresh na
      have q1 := q a dd ma
      rw [r.1]
      refine (hsu a { cls := er.cls, dict := dd, data := .fields #[] } er.cls dd X.pn ⟨cs.gd, cs.hu⟩ ⟨rfl, rfl⟩ ⟨_, rfl⟩).ls G0 _ _ H μ _ _ _ g (S.set i (r.2 a)) q1 ⟨?_, ?_, ?_, ?_, ?_⟩
      · exact fun σ' δ' H' μ' g' S' q' => k.nx _ _ H' μ' g' (S'.unset i) q'
      · exact fun v d H' μ' g' m r' q' => k.rt v d H' μ' g' m r' q'
      · exact fun σ' δ' H' μ' g' S' q' => k.bk _ _ H' μ' g' (S'.unset i) q'
      · exact fun σ' δ' H' μ' g' S' q' => k.ct _ _ H' μ' g' (S'.unset i) q'
      · exact fun _ _ _ _ _ _ _ _ _ z => z
    · subst e
      exact ih q
section
variable {X : Cx} {W : WX} {k : Nat} {e : Expr} {te : WX → TE} {we : DW} {h₀ : ExceptHandler} {hds : List ExceptHandler} {ls : List Cl} {ds : List DCl} {p1 pos : Pos}
def wTryE (K : PySem.W.Frag) (we : DW) (ds : List DCl) : DS := fun D F δ μ => we δ μ (fun _ μ1 => D.nx δ μ1) fun er μ1 => wClD K er D F δ μ1 ds
def wTryR (K : PySem.W.Frag) (we : DW) (ds : List DCl) : DS := fun D F δ μ => we δ μ D.rt fun er μ1 => wClD K er D F δ μ1 ds
theorem Ct.tr (c : Ct X W k) {W' : WX} {pn : List (Addr × Obj)} {xe : Value → Shared → Prop} (tk : Takes (X.tr pn xe) W') : Ct (X.tr pn xe) W' k := ⟨tk, c.gd, c.hr, c.calm, c.sk⟩
theorem pds_tryE (c : Ct X W k) (hN : X.N.Nodup) (hb : ∀ (W' : WX) (pn : List (Addr × Obj)) (xe : Value → Shared → Prop), Ct (X.tr pn xe) W' k → PD (X.tr pn xe) W' e (te W') we) (hh : ClD X (h₀ :: hds) ls ds)
    (hs : X.stack = X.env :: X.outer := by rfl) (hf : X.env.frame = some X.env.locals := by rfl) (hsw : swapsWith e none p1.line X.env = pure false := by rfl) :
    PDS X W (.Try [.Expr e p1] (h₀ :: hds) [] [] pos) (fun D σ H => tDrop (te (wCl X.K W D ls)) D σ H) (wTryE X.K we ds) := by
  refine ⟨ps_try_cl (tb := fun W' => tDrop (te W')) hs hf hN c.tk (fun W' pn xe tk _ => pss_one (ps_expr (hb W' pn xe (c.tr tk)).pe hsw)) (hh.ok ⟨c.gd, c.hu⟩), fun G0 σ δ H μ D Dd F g S q kk => ?_⟩
  refine (hb (wCl X.K W D ls) [] (fun _ _ => True) (c.tr fun _ _ _ => trivial)).le σ δ H μ _ _ _ S q (fun v d H' μ' m r q' => kk.nx σ δ H' μ' (g.trans m.sm) (S.step m) q') fun cls dd er H' μ' m r q' => hh.ls ⟨c.gd, c.hu⟩ (g.trans m.sm) (S.step m) r kk q'
theorem pds_tryR (c : Ct X W k) (hN : X.N.Nodup) (hb : ∀ (W' : WX) (pn : List (Addr × Obj)) (xe : Value → Shared → Prop), Ct (X.tr pn xe) W' k → PD (X.tr pn xe) W' e (te W') we) (hh : ClD X (h₀ :: hds) ls ds)
    (hs : X.stack = X.env :: X.outer := by rfl) (hf : X.env.frame = some X.env.locals := by rfl) :
    PDS X W (.Try [.Return (some e) p1] (h₀ :: hds) [] [] pos) (fun D σ H => tRet (te (wCl X.K W D ls)) D σ H) (wTryR X.K we ds) := by
  refine ⟨ps_try_cl (tb := fun W' => tRet (te W')) hs hf hN c.tk (fun W' pn xe tk _ => pss_one (ps_ret (hb W' pn xe (c.tr tk)).pe)) (hh.ok ⟨c.gd, c.hu⟩), fun G0 σ δ H μ D Dd F g S q kk => ?_⟩
  refine (hb (wCl X.K W D ls) [] (fun _ _ => True) (c.tr fun _ _ _ => trivial)).le σ δ H μ _ _ _ S q (fun v d H' μ' m r q' => kk.rt v d H' μ' (g.trans m.sm) m.mr r q') fun cls dd er H' μ' m r q' => hh.ls ⟨c.gd, c.hu⟩ (g.trans m.sm) (S.step m) r kk q'
/-- e.n, e the exception that the suite holds -/
def wXf (a : Addr) (cls : Value) (d : Option Addr) (C : Addr) (n : Str) (we : DW) : DW := fun δ μ Q F => we δ μ (fun x μ1 => cls = .ref C ∧ ∃ fs dv, x = .exc a d fs ∧ fs.lookup n = some dv ∧ Q dv μ1) F
theorem pd_xf {a C : Addr} {oe : Obj} {cls : Value} {d : Option Addr} {pn : List (Addr × Obj)} {W' : WX} {t : TE} {n : Str} (T : XfC X.K C) (hno : PySem.W.findIn X.K (.ref C) n = some none) (hz : Zc cls d oe) (hf : ∃ vs, oe.data = .fields vs) (he : PD (X.suite a ((a, oe) :: pn)) W' e t we)
    (hb : attributeBase e n X.env (eval e X.env) = eval e X.env := by rfl) : PD (X.suite a ((a, oe) :: pn)) W' (.Attribute e n pos) (tXf a cls d C n t) (wXf a cls d C n we) := by
  refine ⟨pe_xf T hno hz hf he.pe hb, fun σ δ H μ Q Qd F S q kQ kF => ?_⟩
  refine he.le σ δ H μ _ _ F S q (fun v x H1 μ1 m1 r1 ⟨ec, fs, dv, e1, e2, q1⟩ => ?_) kF
  subst e1
  cases r1 with
  | exc0 a dd => cases e2
  | exc1 h r =>
    obtain ⟨u, e3, r3⟩ := r.val e2
    exact ⟨rfl, ec, _, _, u, rfl, (hid_some.mp h).2, e3, kQ u dv H1 μ1 m1 r3 q1⟩
end
end DL

set_option maxHeartbeats 2000000
namespace DL
open PySem PySem.Spec PyProof.Rows L2 LamX

/-! ### tables of code objects, over data -/
/-- the tables that are told of are T's -/
def TabM (T : List (Addr × Str)) (μ : M) : Prop := ∀ a q, μ a = some (.tbl q) ↔ (a, q) ∈ T
def isTbl : MO → Bool
  | .tbl _ => true
  | _ => false
theorem TabM.put {T : List (Addr × Str)} {μ : M} {p : Addr} {m : MO} (h : TabM T μ) (hp : ∀ q, μ p ≠ some (.tbl q)) (hm : isTbl m = false) : TabM T (mput μ p m) := fun a q => by
  by_cases e : a = p
  · subst e
    rw [mput_same]
    refine ⟨fun z => ?_, fun z => absurd ((h a q).mpr z) (hp q)⟩
    have z' := Option.some.inj z
    subst z'
    cases hm
  · rw [mput_ne e]
    exact h a q
theorem notCode {c : Addr} {q : Str} {G : Hp} {K : PySem.W.Frag} {H : Hp} {μ : M} {T : List (Addr × Str)} (m : MR K H μ) (t : TabM T μ) (eN : ExtN H G) (tG : Tabs T G) (hc : G c = some (CodeO c q)) : μ c = none := by
  cases e : μ c with
  | none => rfl
  | some mo =>
    have z := m c mo e
    have no : ∀ o, H c = some o → (∀ ps, o ≠ .tbl ps) → (∀ P, o ≠ .ext P) → False := fun o h1 h2 h3 => by
      have q1 := eN c o h1 h2
      rw [hc] at q1
      exact h3 _ (Option.some.inj q1).symm
    cases mo with
    | lst ds => obtain ⟨vs, h1, _⟩ := z; exact (no _ h1 (fun _ y => by cases y) fun _ y => by cases y).elim
    | dct ds => obtain ⟨vs, h1, _⟩ := z; exact (no _ h1 (fun _ y => by cases y) fun _ y => by cases y).elim
    | ins C fs => obtain ⟨dx, vs, h1, _⟩ := z; exact (no _ h1 (fun _ y => by cases y) fun _ y => by cases y).elim
    | tbl q' =>
      obtain ⟨ps, h1, _⟩ := tG (c, q') ((t c q').mp e)
      have h1' : G c = some (.tbl ps) := h1
      rw [hc] at h1'
      exact absurd (Option.some.inj h1') (codeO_ne ps)
theorem tabs_of {K : PySem.W.Frag} {H : Hp} {μ : M} {T : List (Addr × Str)} (m : MR K H μ) (t : TabM T μ) : Tabs T H := fun p hp => by
  obtain ⟨ps, h1, h2, h3⟩ := m p.1 _ ((t p.1 p.2).mpr hp)
  exact ⟨ps, h1, h2, fun pos cv z => let ⟨c, e1, e2⟩ := h3 pos cv z; ⟨c, e1, (hid_some.mp e2).2⟩⟩
theorem mv_tabs {K : PySem.W.Frag} {H G : Hp} {μ : M} {T : List (Addr × Str)} (m : MR K H μ) (t : TabM T μ) (eN : ExtN H G) (tG : Tabs T G) : Mv K H μ G μ := by
  have sm : Same (hid H μ) (hid G μ) := fun b o h => by
    obtain ⟨h1, h2⟩ := hid_some.mp h
    refine hid_some.mpr ⟨h1, eN b o h2 fun ps z => ?_⟩
    subst z
    cases h1.2
  refine ⟨sm, fun a mo e => ?_⟩
  have z := m a mo e
  have st : ∀ o, H a = some o → (∀ ps, o ≠ .tbl ps) → G a = H a := fun o h1 h2 => (eN a o h1 h2).trans h1.symm
  cases mo with
  | lst ds => exact z.mono sm (let ⟨vs, h1, _⟩ := z; st _ h1 fun _ y => by cases y)
  | dct ds => exact z.mono sm (let ⟨vs, h1, _⟩ := z; st _ h1 fun _ y => by cases y)
  | ins C fs => exact z.mono sm (let ⟨dx, vs, h1, _⟩ := z; st _ h1 fun _ y => by cases y)
  | tbl q =>
    obtain ⟨ps, h1, h2, h3⟩ := tG (a, q) ((t a q).mp e)
    exact ⟨ps, h1, h2, fun pos cv y => let ⟨c, e1, e2⟩ := h3 pos cv y; ⟨c, e1, hid_some.mpr ⟨⟨notCode m t eN tG e2, rfl⟩, e2⟩⟩⟩

/-! ### a lambda without parameters, handed to a def that calls it -/
section
variable {X : Cx} {pins : List (Addr × Obj)} {σ : L2.St} {H : Hp} {s : Shared}
/-- x() in the def that got the lambda -/
theorem act_ok {CXg : CXT} {Eg : XK} {Ng : List Str} {qg : Str} {sg : Scope} {g f c' : Addr} {cdg pm ctv : Value} {params : Arguments} {body : Expr} {scope : Scope} {k i : Nat} {a : Str} {pn : List (Addr × Obj)} {xe : Value → Shared → Prop} {W : WX} {tb : XK → TE} {p1 p2 : Pos}
    (I : Inv X pins σ H s) (L : LamS X.env.scope scope) (hf : s.heap.get? f = some (PySem.W.kla_obj "<lambda>" (X.env.qual ++ "<lambda>") params body scope (cloFrom X.env.cells scope.names []) pm c' ctv)) (hfn : H f = none) (hfr : f ∉ frs X.stack)
    (hbind : bindArgs (PySem.W.kla_fn "<lambda>" (X.env.qual ++ "<lambda>") params body scope (cloFrom X.env.cells scope.names []) pm (.ref c') ctv) ⟨[], []⟩ = pure [])
    (tk : Takes ((cxOf CXg X.prog X.w X.K X.mg X.base Ng qg sg g cdg X.A X.stack s H Eg).tr pn xe) W) (hr : Room (k + 1) (X.A.deeper (envOfC qg sg s.heap.objs.size g cdg)))
    (hbody : ∀ (outer : List Env) (s' : Shared) (H : Hp) (E : XK), Room k ((X.A.deeper (envOfC qg sg s.heap.objs.size g cdg)).deeper (lamEnv X scope s'.heap.objs.size f c')) → PE (lamCx X (X.A.deeper (envOfC qg sg s.heap.objs.size g cdg)) outer s' H E scope f c') body (tb E))
    (hN : Ng[i]? = some a) (hv : Vis sg a) (hd : (a == ("__debug__" : Str)) = false := by decide) (hcd : (a == ("__classdict__" : Str)) = false := by decide) :
    PE ((cxOf CXg X.prog X.w X.K X.mg X.base Ng qg sg g cdg X.A X.stack s H Eg).tr pn xe) (.Call (.Name a p1) [] [] p2)
      (fun σZ HZ Q => σZ[i]? = some (some (.ref f)) ∧ HZ c' = some (CodeO c' (X.env.qual ++ "<lambda>")) ∧ tb (WE W σZ) σ HZ Q) := by
  constructor
  rintro pinsZ sZ σZ HZ Q IZ ⟨hs, hc, ht⟩
  refine wpAny_Call_Name_kw (thn ((pe_var (pos := p1) (i := i) hN hv hd hcd).run pinsZ sZ σZ HZ (fun v H1 => v = .ref f ∧ H1 = HZ) IZ ⟨.ref f, hs, rfl, rfl⟩) ?_)
  rintro u s1 ⟨v, H1, I1, r1, rfl, rfl⟩
  obtain rfl : u = Value.ref f := r1
  have of1 := I1.base.keep f _ hf hfn hfr (fun z => nomatch (show f ∈ ([] : List Addr) from z))
  refine PySem.W.callWith_F0 ⟨_, _, _, _, of1⟩ ?_
  have un : Un (frs X.stack) [] H H1 s.heap s1.heap := I1.base
  obtain ⟨⟨oc, vs, t, hoc, hdc, hvc⟩, _, _⟩ := I1.hok c' _ hc
  have rc : codeAny (model X.prog X.w) (X.A.deeper (envOfC qg sg s.heap.objs.size g cdg)) (.call (.ref f) ⟨[], []⟩) (CR (L2.CX X.prog X.w) (envOfC qg sg s.heap.objs.size g cdg :: X.stack) X.prog X.w H1 s1 Q (WE W σZ)) s1 := by
    refine PySem.W.kla_callFunE hr.depth of1 rfl L.co L.gen rfl ⟨c', oc, vs, t, rfl, hoc, hdc, hvc⟩ ?_
    rw [hbind]
    refine wpAny_pure (wpAny_newFunctionEnv (fun y hy => (L.own y hy).2) (fun y hy => absurd hy (by simp)) (fun h₁ hns hsb => ⟨I1.nolimit.fresh _ hsb, ?_⟩) L.kind)
    show codeAny _ _ (.expr body (lamEnv X scope s1.heap.objs.size f c')) _ _
    have J : Inv (lamCx X (X.A.deeper (envOfC qg sg s.heap.objs.size g cdg)) (envOfC qg sg s.heap.objs.size g cdg :: X.stack) s1 H1 (WE W σZ) scope f c') [] σ H1 { s1 with heap := h₁, toks := s1.toks + ([] : List (Str × Value)).length } :=
      lam_start2 I L I1.env0 hr.hd un hns fun b o e => hsb.extBut b o (Nat.ne_of_lt (Heap.lt_size e)) (Heap.get?_push_of_some _ e)
    refine PySem.W.kla_codeExpr (wpAny_mono ((hbody _ s1 H1 (WE W σZ) (hr.deeper _)).run [] _ _ H1 Q J ht) (fun v s' hq => ?_) fun e s' hq => hq)
    obtain ⟨w', H', J', rv, q⟩ := hq
    exact ⟨w', H', J'.os, J'.bare, J'.base, J'.hok, rv, q⟩
  refine wpAny_call (codeAny_mono rc fun r s' hq => ?_)
  · have hx : PassesAt (L2.CX X.prog X.w) ((cxOf CXg X.prog X.w X.K X.mg X.base Ng qg sg g cdg X.A X.stack s H Eg).tr pn xe) σZ (WE W σZ) := passAt tk σZ
    cases r with
    | error e => exact hx pinsZ H1 s1 e s' I1 hq
    | ok fl => cases fl <;> first | exact I1.after hq | exact False.elim hq
end
/-- the call of what slot 0 holds, a lambda of this promise -/
def wLam (f : Addr) (G0 : Hp) (wl : M → DK → FK → Prop) : DW := fun δ μ Q F => δ[0]? = some (some (.lam f G0)) ∧ wl μ Q F
/-- x, a def with one parameter, calls what it gets; wT: what it makes of it -/
structure LamD (P : Program) (w : World) (K : PySem.W.Frag) (mg : Str → Option Value) (base : Heap) (k : Nat) (x : Str) (wT : (M → DK → FK → Prop) → M → DK → Prop) : Prop where
  ex : ∃ (g : Addr) (oc : Value) (od : Option Addr) (a : Str) (Ng : List Str) (pg : Arguments) (bg : List Stmt) (sg : Scope) (kV doc pm cdv ct : Value) (an : Option Addr) (osl : Array (Option Value)) (wb : DW → DS),
    mg x = some (.ref g) ∧ PySem.W.keepIn K (.ref g) = true ∧ K.lookup g = some ⟨oc, od, .func (PySem.W.fnOf x x pg bg sg .none kV doc pm an cdv ct), osl⟩ ∧ PySem.W.codeIn K cdv x = true ∧ L2.Binds K (PySem.W.fnOf x x pg bg sg .none kV doc pm an cdv ct) [a] [] ∧ FnScope Ng [a] sg ∧ Ng[0]? = some a ∧ Vis sg a ∧
    (a == ("__debug__" : Str)) = false ∧ (a == ("__classdict__" : Str)) = false ∧
    (∀ (A : Around) (outer : List Env) (s : Shared) (H : Hp) (f : Addr) (G0 : Hp) (wl : M → DK → FK → Prop), A.guards = some [] → Room k (A.deeper (envOfC x sg s.heap.objs.size g cdv)) →
      ∀ (te : WX → TE), (∀ (W : WX) (pn : List (Addr × Obj)) (xe : Value → Shared → Prop) (p1 p2 : Pos), Takes ((cxOf CX0 P w K mg base Ng x sg g cdv A outer s H E0).tr pn xe) W → PD ((cxOf CX0 P w K mg base Ng x sg g cdv A outer s H E0).tr pn xe) W (.Call (.Name a p1) [] [] p2) (te W) (wLam f G0 wl)) →
      ∃ t, PDB (cxOf CX0 P w K mg base Ng x sg g cdv A outer s H E0).nox W0 bg t (wb (wLam f G0 wl))) ∧
    ∀ (wl : M → DK → FK → Prop) (μ : M) (Q : DK), wT wl μ Q → ∀ (f : Addr) (G0 : Hp), wb (wLam f G0 wl) { nx := fun _ μ' => Q .non μ', rt := Q } (fun _ _ => False) (dstart Ng [.lam f G0]) μ
/-- x(lambda: body) -/
def wLamC (T : List (Addr × Str)) (wT : (M → DK → FK → Prop) → M → DK → Prop) (wb : DW) : DW := fun δ μ Q _ => TabM T μ ∧ wT (wb δ) μ Q
theorem pd_lamcall {X : Cx} {W : WX} {x : Str} {j k kb : Nat} {wT : (M → DK → FK → Prop) → M → DK → Prop} {T : List (Addr × Str)} {cc P : Addr} {params : Arguments} {body : Expr} {scope : Scope} {wb : DW} {t : XK → TE} {p lpos pos : Pos} (c : Ct X W j) (L : LamD X.prog X.w X.K X.mg X.base k x wT)
    (TB : TabB X.base X.mg cc P) (hcode : X.env.code = .ref cc) (hmT : (P, X.env.qual ++ "<lambda>") ∈ T) (LS : LamS X.env.scope scope) (hdef : defaultsOf params X.env = ([], []))
    (hbind : ∀ (q : Str) (cl : List (Str × Addr)) (pm cv ctv : Value), bindArgs (PySem.W.kla_fn "<lambda>" q params body scope cl pm cv ctv) ⟨[], []⟩ = pure [])
    (hbody : ∀ (A : Around) (outer : List Env) (s : Shared) (H : Hp) (E : XK) (f c' : Addr), Ct (lamCx X A outer s H E scope f c') (WD E) kb → PD (lamCx X A outer s H E scope f c') (WD E) body (t E) wb)
    (hk : k + 1 ≤ j := by decide) (hkb : kb + 2 ≤ j := by decide) (hg : Gl X x := by rfl) (hdb : (x == ("__debug__" : Str)) = false := by decide) :
    PD X W (.Call (.Name x p) [.Lambda params body scope lpos] [] pos) (fun σ H Q => ∃ δ μ Qd, SD X.K σ δ H μ ∧ wLamC T wT wb δ μ Qd (fun _ _ => False) ∧ ∀ v d H' μ', Mv X.K H μ H' μ' → R X.K (hid H' μ') v d → Qd d μ' → Q v H') (wLamC T wT wb) := by
  refine ⟨⟨fun pins s σ H Q I h => ?_⟩, fun σ δ H μ Q Qd F S q kQ _ => ⟨δ, μ, Qd, S, q, kQ⟩⟩
  obtain ⟨δ, μ, Qd, S, ⟨hT, hw⟩, kQ⟩ := h
  obtain ⟨g, oc, od, a, Ng, pg, bg, sg, kV, doc, pm, cdv, ct, an, osl, wbg, hm, kp, lk, hcg, hb, Sg, hNg, hva, hd, hcd, hbg, hwT⟩ := L.ex
  refine wpAny_Call_Name_kw (ld_glob I hg hm ?_ hdb)
  refine PySem.W.callWith_K (h₀ := X.base) I.ok.mod.kin kp ?_ (by rfl) (by rfl)
  show wpAny _ _ (spliced ((false, eval (.Lambda params body scope lpos) X.env) :: backTo pos (starEach [] X.env))) _ _ s
  have hu : ∀ p ∈ T, p.1 = P → p.2 = X.env.qual ++ "<lambda>" := fun p hp e => by
    have h1 := (hT p.1 p.2).mpr hp
    have h2 := (hT _ _).mpr hmT
    rw [e, h2] at h1
    have h3 := Option.some.inj h1
    injection h3 with h3
    exact h3.symm
  refine Calls.spliced_cons (lam_make2 I TB hcode hmT hu (tabs_of S.mr hT) hdef (LS.has I.ok) fun f c' pm' ctv H1 s' I1 eN T1 hf hfn hfr hco => ?_)
  refine Calls.spliced_nil ⟨I1.kIn, ?_⟩
  have m1 : Mv X.K H μ H1 μ := mv_tabs S.mr hT eN T1
  have S1 : SD X.K σ δ H1 μ := S.step m1
  have hcod : hid H1 μ c' = some (CodeO c' (X.env.qual ++ "<lambda>")) := hid_some.mpr ⟨⟨notCode S.mr hT eN T1 hco, rfl⟩, hco⟩
  have hrj := c.hr
  have rc : codeAny (model X.prog X.w) X.A (.call (.ref g) ⟨[.ref f], []⟩) (CR CX0 X.stack X.prog X.w H1 s' Q E0) s' := by
    obtain ⟨j', rfl⟩ : ∃ j', j = j' + 1 := ⟨j - 1, by omega⟩
    refine run_ofS (N := Ng) (ps := [a]) (us := [.ref f]) (vs := [.ref f]) lk hcg Sg hrj I1.env0 (hb s' [.ref f] I1.kIn rfl) (.cons rfl .nil) rfl fun hr' => ?_
    have act : ∀ (W : WX) (pn : List (Addr × Obj)) (xe : Value → Shared → Prop) (p1 p2 : Pos), Takes ((cxOf CX0 X.prog X.w X.K X.mg X.base Ng x sg g cdv X.A X.stack s' H1 E0).tr pn xe) W →
        PD ((cxOf CX0 X.prog X.w X.K X.mg X.base Ng x sg g cdv X.A X.stack s' H1 E0).tr pn xe) W (.Call (.Name a p1) [] [] p2) (fun σZ HZ Q => σZ[0]? = some (some (.ref f)) ∧ HZ c' = some (CodeO c' (X.env.qual ++ "<lambda>")) ∧ t (WE W σZ) σ HZ Q) (wLam f (hid H1 μ) (wb δ)) := fun W pn xe p1 p2 tk => by
      have ctx : ∀ (outer : List Env) (s2 : Shared) (H : Hp) (E : XK), Room kb ((X.A.deeper (envOfC x sg s'.heap.objs.size g cdv)).deeper (lamEnv X scope s2.heap.objs.size f c')) → Ct (lamCx X (X.A.deeper (envOfC x sg s'.heap.objs.size g cdv)) outer s2 H E scope f c') (WD E) kb := fun outer s2 H E hr2 =>
        ⟨takes_of rfl rfl rfl rfl, c.gd, hr2, rfl, _, _, rfl, LS.gen, LS.co, rfl, rfl⟩
      refine ⟨act_ok (i := 0) (k := kb) (tb := fun E => t E) I1 LS hf hfn hfr (hbind _ _ _ _ _) tk (hr'.mono (by omega)) (fun outer s2 H E hr2 => (hbody _ outer s2 H E f c' (ctx outer s2 H E hr2)).pe) hNg hva hd hcd, ?_⟩
      rintro σZ δZ HZ μZ Q' Qd' F' SZ ⟨e0, q'⟩ kQ' kF'
      obtain ⟨v0, ev, rv⟩ := SZ.sl 0 _ e0
      cases rv with
      | lam _ sm =>
        refine ⟨ev, (hid_some.mp (sm _ _ hcod)).2, ?_⟩
        have SS : SD X.K σ δ HZ μZ := S1.step ⟨sm, SZ.mr⟩
        have room2 : Room kb ((X.A.deeper (envOfC x sg s'.heap.objs.size g cdv)).deeper (lamEnv X scope s'.heap.objs.size f c')) := (hr'.mono (by omega : kb + 1 ≤ j')).deeper _
        refine (hbody _ [] s' H1 (WE W σZ) f c' (ctx [] s' H1 (WE W σZ) room2)).le σ δ HZ μZ Q' Qd' F' SS q' kQ' fun cls dd er H' μ' m r fq => ?_
        exact kF' cls dd er H' μ' m r fq
    obtain ⟨t', hB⟩ := hbg X.A X.stack s' H1 f (hid H1 μ) (wb δ) c.gd (hr'.mono (by omega)) _ act
    refine ⟨t', hB.pss.nox, hB.ls (hid H1 μ) _ (dstart Ng [.lam f (hid H1 μ)]) H1 μ _ _ _ (Same.refl _) (sd_start S1.mr (.cons (.lam f (Same.refl _)) .nil)) (hwT (wb δ) μ Qd hw f _) ⟨?_, ?_, ?_, ?_, ?_⟩⟩
    · exact fun σ' δ' H' μ' g' S' q' => kQ .non .non H' μ' (m1.trans ⟨g', S'.mr⟩) .non q'
    · exact fun v d H' μ' g' m r q' => kQ v d H' μ' (m1.trans ⟨g', m⟩) r q'
    · exact fun _ _ _ _ _ _ z => z
    · exact fun _ _ _ _ _ _ z => z
    · exact fun _ _ _ _ _ _ _ _ _ z => z
  refine wpAny_call (codeAny_mono rc fun r s2 hq => ?_)
  cases r with
  | error e => exact (show False from hq).elim
  | ok fl => cases fl <;> first | exact I1.after hq | exact False.elim hq
end DL

set_option maxHeartbeats 2000000
namespace DL
open PySem PySem.Spec PyProof.Rows L2 LamX

/-! ### the call of what a name of the def holds: one of some defs -/
def wCallV (i : Nat) (fs : List (Addr × DF)) (wa : DA) : DW := fun δ μ Q F => ∃ p ∈ fs, δ[i]? = some (some (.raw (.ref p.1))) ∧ wa δ μ (fun ds μ1 => p.2 ds μ1 Q F) F
theorem pd_callV {X : Cx} {W : WX} {x : Str} {j k : Nat} {e : Expr} {es : List Expr} {tr : TA} {wr : DA} {p pos : Pos} (K : PySem.W.Frag) (hK : X.K = K) (c : Ct X W j) (i : Nat) (fs : List (Addr × DF)) (hfs : ∀ p ∈ fs, PySem.W.keepIn X.K (.ref p.1) = true ∧ FnD X.prog X.w X.K X.mg X.base k p.1 p.2) (ha : PDA X W (e :: es) tr wr)
    (hN : X.N[i]? = some x := by rfl) (hv : Vis X.env.scope x := by first | exact Or.inl rfl | exact Or.inr (Or.inl rfl) | exact Or.inr (Or.inr rfl)) (hd : (x == ("__debug__" : Str)) = false := by decide) (hcd : (x == ("__classdict__" : Str)) = false := by decide)
    (hk : k ≤ j := by decide) (he : starEach (e :: es) X.env = (false, eval e X.env) :: starEach es X.env := by rfl) (hpl : (backTo pos (starEach es X.env)).any (·.1) = false := by rfl) :
    PD X W (.Call (.Name x p) (e :: es) [] pos) (fun σ H Q => ∃ p ∈ fs, σ[i]? = some (some (.ref p.1)) ∧ tCallD K W p.2 tr σ H Q) (wCallV i fs wr) := by
  subst hK
  refine ⟨⟨fun pins s σ H Q I h => ?_⟩, fun σ δ H μ Q Qd F S q kQ kF => ?_⟩
  · obtain ⟨q, hq, hs, h⟩ := h
    obtain ⟨kp, F⟩ := hfs q hq
    refine wpAny_Call_Name_kw (thn ((pe_var (pos := p) (i := i) hN hv hd hcd).run pins s σ H (fun v H1 => v = .ref q.1 ∧ H1 = H) I ⟨.ref q.1, hs, rfl, rfl⟩) ?_)
    rintro u s1 ⟨v, H1, I1, r1, rfl, rfl⟩
    obtain rfl : u = Value.ref q.1 := r1
    refine PySem.W.callWith_K (h₀ := X.base) I1.ok.mod.kin kp (thn (ha.pa.run pos pins s1 σ H1 _ I1 h) fun us s2 ⟨vs, H2, I2, r2, q2⟩ => ⟨I2.kIn, ?_⟩) he hpl
    exact run_fnD F c.gd (c.hr.mono hk) (passAt c.tk σ) I2 r2 q2
  · obtain ⟨p, hp, hs, q⟩ := q
    obtain ⟨v, e1, r1⟩ := S.sl i _ hs
    cases r1
    exact ⟨p, hp, e1, le_call ha.la σ δ H μ Q Qd F S q kQ kF⟩
/-- a def with one parameter that calls what it gets, by its body -/
theorem lam_of {P : Program} {w : World} {K : PySem.W.Frag} {mg : Str → Option Value} {base : Heap} {k : Nat} {x a : Str} {st : Stmt} {Ng : List Str} {wT : (M → DK → FK → Prop) → M → DK → Prop} (wb : DW → DS) (D : DefD K mg x st) (S : FnScope Ng [a] (defScope st)) (hNg : Ng[0]? = some a) (hva : Vis (defScope st) a)
    (hd : (a == ("__debug__" : Str)) = false) (hcd : (a == ("__classdict__" : Str)) = false)
    (hb : ∀ (kV doc pm : Value) (an : Option Addr) (cdv ct : Value) (us : List Value), us.length = ([a] : List Str).length → bindArgs (PySem.W.fnOf x x (defArgs st) (defBody st) (defScope st) .none kV doc pm an cdv ct) ⟨us, []⟩ = pure (([a] : List Str).zip us))
    (body : ∀ (g : Addr) (cdv : Value) (A : Around) (outer : List Env) (s : Shared) (H : Hp) (wl : DW), Ct (cxOf CX0 P w K mg base Ng x (defScope st) g cdv A outer s H E0).nox W0 k →
      ∀ (te : WX → TE), (∀ (W : WX) (pn : List (Addr × Obj)) (xe : Value → Shared → Prop) (p1 p2 : Pos), Takes ((cxOf CX0 P w K mg base Ng x (defScope st) g cdv A outer s H E0).tr pn xe) W → PD ((cxOf CX0 P w K mg base Ng x (defScope st) g cdv A outer s H E0).tr pn xe) W (.Call (.Name a p1) [] [] p2) (te W) wl) →
      ∃ t, PDB (cxOf CX0 P w K mg base Ng x (defScope st) g cdv A outer s H E0).nox W0 (defBody st) t (wb wl))
    (h : ∀ (wl : M → DK → FK → Prop) (μ : M) (Q : DK), wT wl μ Q → ∀ (f : Addr) (G0 : Hp), wb (wLam f G0 wl) { nx := fun _ μ' => Q .non μ', rt := Q } (fun _ _ => False) (dstart Ng [.lam f G0]) μ) : LamD P w K mg base k x wT := by
  obtain ⟨g, oc, od, kV, doc, pm, an, cdv, ct, osl, hm, kp, lk, hcc⟩ := D.ex
  refine ⟨g, oc, od, a, Ng, defArgs st, defBody st, defScope st, kV, doc, pm, cdv, ct, an, osl, wb, hm, kp, lk, hcc, .all (hb kV doc pm an cdv ct), S, hNg, hva, hd, hcd, fun A outer s H f G0 wl hg hr te act => ?_, h⟩
  exact body g cdv A outer s H (wLam f G0 wl) ⟨LamX.takes0, hg, hr, rfl, _, _, rfl, S.gen, S.co, rfl, rfl⟩ te act

/-! ### the end -/
section
variable {P : Program} {w : World} {K : PySem.W.Frag} {mg mb : Str → Option Value} {k : Nat} {fa a : Addr} {cs : List (Addr × Addr × Str)} {s₁ : Shared} {vs : List Value} {ns : List Int} {wp : DF}
/-- what is tracked at the law's call -/
def endH (K : PySem.W.Frag) (a : Addr) (vs : List Value) (ns : List Int) (T : List (Addr × Str)) : Hp := fun b =>
  if b = a then (if (K.lookup a).isSome = true then none else some (.frz { cls := .type "list", data := .seq vs.toArray } (.lst (ns.map V.int)))) else (T.lookup b).map fun _ => .tbl #[]
def endM (T : List (Addr × Str)) : M := fun b => (T.lookup b).map .tbl
theorem lk_mem {b : Addr} {q : Str} : ∀ {T : List (Addr × Str)}, T.lookup b = some q → (b, q) ∈ T
  | [], h => by cases h
  | (c, r) :: T, h => by
    rw [List.lookup_cons] at h
    cases e : (b == c) with
    | true =>
      rw [e] at h
      cases h
      rw [beq_iff_eq.mp e]
      exact List.mem_cons_self ..
    | false =>
      rw [e] at h
      exact List.mem_cons_of_mem _ (lk_mem h)
theorem mem_lk {b : Addr} {q : Str} : ∀ {T : List (Addr × Str)}, (b, q) ∈ T → ∃ q', T.lookup b = some q'
  | (c, r) :: T, h => by
    rw [List.lookup_cons]
    cases e : (b == c) with
    | true => exact ⟨r, rfl⟩
    | false =>
      rcases List.mem_cons.mp h with z | z
      · cases z
        simp at e
      · exact mem_lk z
theorem lookup_iff {T : List (Addr × Str)} (hT : ∀ b q q', (b, q) ∈ T → (b, q') ∈ T → q = q') {b : Addr} {q : Str} : T.lookup b = some q ↔ (b, q) ∈ T := by
  refine ⟨lk_mem, fun h => ?_⟩
  obtain ⟨q', h'⟩ := mem_lk h
  rw [h', hT b q q' h (lk_mem h')]
theorem law_end (KX : K.In s₁.heap) (hns : s₁.heap.Ns mainGlobals mg) (hb : s₁.heap.Ns builtinsNs mb) (hbb : ∀ x : Str, x ≠ "__name__" → mb x = bootBuiltins x) (hlim : s₁.heap.NoLimit) (hsy : s₁.heap.NoSeer) (hpt : P.given.tree = none) (hg : s₁.gens = #[])
    (hT : ∀ p ∈ cs, s₁.heap.get? p.2.1 = some { cls := .none, data := .fields #[] }) (nT : ∀ p ∈ cs, K.lookup p.2.1 = none) (C : ∀ p ∈ cs, PySem.W.CodeHd s₁.heap p.1 p.2.1) (fT : ∀ b q q', (b, q) ∈ cs.map (·.2) → (b, q') ∈ cs.map (·.2) → q = q')
    (hbm : ∃ (bm : Addr) (ob : Obj), mg "__builtins__" = some (.ref bm) ∧ bm ≠ builtinsNs ∧ s₁.heap.get? bm = some ob ∧ ob.cls = .type "module" ∧ ob.dict = some builtinsNs ∧ ob.data = .plain)
    (ha : s₁.heap.get? a = some { cls := .type "list", data := .seq vs.toArray }) (hi : IntsAre vs ns) (hl : ns.length ≤ sizeLine) (hr : Room k callerA)
    (F : ∀ base : Heap, K.In base → base.Ns mainGlobals mg → SysP P base → (∀ p ∈ cs, TabB base mg p.1 p.2.1) → FnD P w K mg base k fa wp) (hwp : ∀ μ : M, TabM (cs.map (·.2)) μ → wp [.ro (ns.map D.int)] μ (fun d _ => d = .bl true) fun _ _ => False) :
    codeAny (model P w) callerA (.call (.ref fa) ⟨[.ref a], []⟩) (fun r s' => r = .ok (.ret (.bool true)) ∧ OldK s₁.heap s'.heap ∧ s'.os = s₁.os ∧ AllBare s'.gens) s₁ := by
  obtain ⟨T, eT⟩ : ∃ T, T = cs.map (·.2) := ⟨_, rfl⟩
  obtain ⟨H, eH⟩ : ∃ H, H = endH K a vs ns T := ⟨_, rfl⟩
  rw [← eT] at fT hwp
  have rv := vals_ints hi
  have inT : ∀ {b : Addr} {q : Str}, T.lookup b = some q → ∃ p ∈ cs, p.2.1 = b := fun {b q} h => by
    have h' := lk_mem h
    rw [eT] at h'
    obtain ⟨p, hp, e⟩ := List.mem_map.mp h'
    exact ⟨p, hp, by rw [e]⟩
  have tabAt : ∀ {b : Addr} {q : Str}, T.lookup b = some q → s₁.heap.get? b = some { cls := .none, data := .fields #[] } ∧ K.lookup b = none := fun {b q} h => by
    obtain ⟨p, hp, rfl⟩ := inT h
    exact ⟨hT p hp, nT p hp⟩
  have ofT : ∀ p ∈ cs, ∃ q, T.lookup p.2.1 = some q := fun p hp => mem_lk (q := p.2.2) (by rw [eT]; exact List.mem_map.mpr ⟨p, hp, rfl⟩)
  have aT : T.lookup a = none := by
    cases e : T.lookup a with
    | none => rfl
    | some q =>
      have z := (tabAt e).1
      rw [ha] at z
      have z' : Data.seq vs.toArray _ = Data.fields #[] := congrArg Obj.data (Option.some.inj z)
      cases z'
  have hLen : (ns.map V.int).length ≤ sizeLine := by rw [List.length_map]; exact hl
  have at_a : H a = if (K.lookup a).isSome = true then none else some (.frz { cls := .type "list", data := .seq vs.toArray } (.lst (ns.map V.int))) := by rw [eH]; exact if_pos rfl
  have at_b : ∀ {b : Addr}, b ≠ a → H b = (T.lookup b).map fun _ => .tbl #[] := fun {b} h => by rw [eH]; exact if_neg h
  -- what is tracked is there, and of two kinds
  have kinds : ∀ {b : Addr} {u : HO}, H b = some u → (b = a ∧ K.lookup a = none ∧ u = .frz { cls := .type "list", data := .seq vs.toArray } (.lst (ns.map V.int))) ∨ ∃ q, T.lookup b = some q ∧ u = .tbl #[] := fun {b u} h => by
    by_cases e : b = a
    · subst e
      rw [at_a] at h
      split at h
      · cases h
      · rename_i hk
        exact .inl ⟨rfl, by cases q : K.lookup b with | none => rfl | some o => exact absurd (by rw [q]; rfl) hk, (Option.some.inj h).symm⟩
    · rw [at_b e, Option.map_eq_some_iff] at h
      obtain ⟨q, h1, h2⟩ := h
      exact .inr ⟨q, h1, h2.symm⟩
  have hok : HOk P w H s₁.heap := fun b u h => by
    rcases kinds h with ⟨rfl, hk, rfl⟩ | ⟨q, h1, rfl⟩
    · exact ⟨ha, hLen, vs, _, rv, ha⟩
    · exact (tabAt h1).1
  have noD : ∀ {b : Addr} {o : Obj}, s₁.heap.get? b = some o → (∀ vs n, o.data ≠ .seq vs n) → o.data ≠ .fields #[] → H b = none := fun {b o} e h1 h2 => by
    cases q : H b with
    | none => rfl
    | some u =>
      rcases kinds q with ⟨rfl, _, _⟩ | ⟨q', h3, _⟩
      · rw [ha] at e
        cases e
        exact absurd rfl (h1 _ _)
      · rw [(tabAt h3).1] at e
        cases e
        exact absurd rfl h2
  have base_of : ∀ {b : Addr} {o : Obj}, s₁.heap.get? b = some o → H b = none → (hidT s₁.heap H).get? b = some o := fun e n => hidT_get e n
  have nsK : ∀ {b : Addr} {m : Str → Option Value}, s₁.heap.Ns b m → (hidT s₁.heap H).Ns b m := fun {b m} ⟨o, es, ep, e, d, r⟩ =>
    ⟨o, es, ep, base_of e (noD e (fun vs n z => by rw [d] at z; cases z) fun z => by rw [d] at z; cases z), d, r⟩
  have hKb : K.In (hidT s₁.heap H) := fun b o e => base_of (KX b o e) (by
    cases q : H b with
    | none => rfl
    | some u =>
      rcases kinds q with ⟨rfl, hk, _⟩ | ⟨q', h3, _⟩
      · rw [hk] at e
        cases e
      · rw [(tabAt h3).2] at e
        cases e)
  have hM : L2.Mod K mg (hidT s₁.heap H) := ⟨hKb, nsK hns, ⟨mb, nsK hb, hbb⟩, let ⟨mc, h1, h2⟩ := hlim; ⟨mc, nsK h1, h2⟩⟩
  have TB : ∀ p ∈ cs, TabB (hidT s₁.heap H) mg p.1 p.2.1 := fun p hp => by
    have hTp := hT p hp
    refine ⟨?_, ?_, fun z => ?_⟩
    · obtain ⟨o, us, file, tf, flags, tg, inF, text, tt, e1, r1, r2, r3, r⟩ := C p hp
      refine ⟨o, us, file, tf, flags, tg, inF, text, tt, base_of e1 (noD e1 (fun vs n z => by rw [r2] at z; cases z) fun z => ?_), r1, r2, r3, r⟩
      rw [r2] at z
      cases z
      simp at r3
    · obtain ⟨bm, ob, b1, b2, b3, b4, b5, b6⟩ := hbm
      refine ⟨bm, ob, b1, b2, fun q => ?_, fun q => ?_, base_of b3 (noD b3 (fun vs n z => by rw [b6] at z; cases z) fun z => by rw [b6] at z; cases z), b4, b5, b6⟩
      · obtain ⟨o, es, ep, e, hd, _⟩ := hns
        rw [q, e] at b3
        cases b3
        rw [hd] at b6
        cases b6
      · rw [q, hTp] at b3
        cases b3
        cases b6
    · obtain ⟨o, es, ep, e, hd, _⟩ := hns
      rw [z, hTp] at e
      cases e
      cases hd
  have e0 : Env0 P w K mg (hidT s₁.heap H) callerA [] s₁ H := ⟨rfl, hM, fun b o e => of_hidT e, Nat.le_of_eq (hidT_size _ _), trivial, fun b hb => absurd (show b ∈ ([] : List Addr) from hb) (by simp), hok, .of_eq hg⟩
  have hTM : TabM T (endM T) := fun b q => by
    unfold endM
    rw [Option.map_eq_some_iff]
    constructor
    · rintro ⟨q', h1, h2⟩
      cases h2
      exact (lookup_iff fT).mp h1
    · exact fun h => ⟨q, (lookup_iff fT).mpr h, rfl⟩
  have mr : MR K H (endM T) := fun b m e => by
    unfold endM at e
    rw [Option.map_eq_some_iff] at e
    obtain ⟨q, h1, h2⟩ := e
    subst h2
    have hba : b ≠ a := fun z => by rw [z, aT] at h1; cases h1
    exact ⟨#[], by rw [at_b hba, h1]; rfl, True.intro, fun pos cv z => by
      have z' : codeAmong pos [] = some cv := z
      simp [codeAmong] at z'⟩
  have hS : SqL K (hid H (endM T)) a (ns.map V.int) := by
    cases hk : K.lookup a with
    | some o =>
      have e := KX a o hk
      rw [ha] at e
      cases e
      exact .inr ⟨_, vs.toArray, _, hk, rfl, rfl, rfl, by rw [List.size_toArray, hi.length]; exact hl, by simpa using rv⟩
    | none =>
      refine .inl (.inr ⟨{ cls := .type "list", data := .seq vs.toArray }, hid_some.mpr ⟨⟨?_, rfl⟩, ?_⟩⟩)
      · unfold endM
        rw [aT]
        rfl
      · rw [at_a, hk]
        rfl
  have seerK : (hidT s₁.heap H).NoSeer := by
    obtain ⟨⟨mc, c1, c2⟩, ⟨mm, m1, m2⟩, ⟨mi, i1, i2⟩, _⟩ := hsy
    obtain ⟨bm, ob, b1, _, b3, b4, b5, b6⟩ := hbm
    exact ⟨⟨mc, nsK c1, c2⟩, ⟨mm, nsK m1, m2⟩, ⟨mi, nsK i1, i2⟩, ⟨mg, bm, ob, nsK hns, b1, base_of b3 (noD b3 (fun vs n z => by rw [b6] at z; cases z) fun z => by rw [b6] at z; cases z), b4, b5⟩⟩
  refine codeAny_mono (F _ hKb (nsK hns) ⟨seerK, hpt⟩ TB callerA [] s₁ H [.ref a] [.ref a] (fun v _ => v = .bl true) (fun _ _ _ => False) rfl hr e0 (.cons rfl .nil) ⟨[.ro (ns.map D.int)], endM T, _, _, .cons (.ro hS (RA.ints ns)) .nil, mr, hwp _ hTM, fun v d H' μ' m r q => ?_, fun _ _ _ _ _ _ _ z => z⟩) fun r s' h => ?_
  · subst q
    exact r.bl_inv
  · cases r with
    | error e =>
      obtain ⟨_, _, _, _, _, _, _, _, _, _, _, _, z⟩ := h
      exact z.elim
    | ok fl =>
      cases fl with
      | next => exact False.elim h
      | brk => exact False.elim h
      | cont => exact False.elim h
      | ret u =>
        obtain ⟨v, H', os, bare, un, hok', r', q⟩ := h
        have q' : v = .bl true := q
        subst q'
        obtain rfl : u = Value.bool true := r'
        have key : ∀ b o, s₁.heap.get? b = some o → (∃ q, T.lookup b = some q) ∨ s'.heap.get? b = some o := fun b o e => by
          cases q : H b with
          | none => exact .inr (un.keep b o e q (by intro z; exact absurd (show b ∈ ([] : List Addr) from z) (by simp)) (by simp))
          | some u =>
            rcases kinds q with ⟨rfl, _, rfl⟩ | ⟨q', h3, _⟩
            · obtain ⟨e1, _⟩ := hok b _ q
              obtain ⟨e2, _⟩ := hok' b _ (un.frzs b _ _ q)
              rw [e] at e1
              cases e1
              exact .inr e2
            · exact .inl ⟨q', h3⟩
        have grown : ∀ {b : Addr} {q : Str}, T.lookup b = some q → ∃ more : Array Value, s'.heap.get? b = some { cls := .none, data := .fields more } := fun {b q} h => by
          have hba : b ≠ a := fun z => by rw [z, aT] at h; cases h
          obtain ⟨more, z⟩ := un.tbls b #[] (by rw [at_b hba, h]; rfl)
          exact ⟨_, hok' b _ z⟩
        refine ⟨rfl, ⟨fun b o e => ?_, fun b o e => ?_⟩, os, bare⟩
        · rcases key b o e with ⟨q, h⟩ | h
          · obtain ⟨more, hm⟩ := grown h
            obtain ⟨p, hp, ep⟩ := inT h
            have e2 := (tabAt h).1
            rw [e] at e2
            cases e2
            rw [← ep] at hm e ⊢
            exact .inr (.inl ⟨((C p hp).tab (hT p hp)).isCodeTable, rfl, #[], more, rfl, by rw [Array.empty_append]; exact hm⟩)
          · exact .inl h
        · rcases key b o e with ⟨q, h⟩ | h
          · obtain ⟨more, hm⟩ := grown h
            exact ⟨_, hm⟩
          · exact ⟨o, h⟩
end
end DL

set_option maxHeartbeats 2000000
namespace DL
open PySem PySem.Spec PyProof.Rows L2 LamX

/-! ### names for the operators' readings -/
abbrev gSub : G2 := gI (fun _ _ => True) fun i j => .int (i - j)
abbrev gMul : G2 := gI CMulX fun i j => .int (i * j)
abbrev gMod : G2 := gI (fun _ j => j ≠ 0) fun i j => .int (i.fmod j)
abbrev gDiv : G2 := gI CDivG fun i j => .int (i.fdiv j)
abbrev gPow : G2 := gI CPow fun i j => .int (i ^ j.toNat)
abbrev gLt : G2 := gI (fun _ _ => True) fun i j => .bl (decide (i < j))
abbrev gLe : G2 := gI (fun _ _ => True) fun i j => .bl (decide (i ≤ j))
abbrev gGt : G2 := gI (fun _ _ => True) fun i j => .bl (decide (j < i))
abbrev gGe : G2 := gI (fun _ _ => True) fun i j => .bl (decide (j ≤ i))
abbrev gNeg : G1 := gU fun i => .int (-i)
abbrev gAbs : List D → M → DK → Prop := gOne (gU fun i => .int (if i < 0 then -i else i))
abbrev gMax2 : List D → M → DK → Prop := gInt2 fun i j => if j > i then j else i
abbrev gMin2 : List D → M → DK → Prop := gInt2 fun i j => if j < i then j else i

/-- an exception class that a clause names, its fields -/
structure ExF (K : PySem.W.Frag) (mg : Str → Option Value) (x : Str) (C : Addr) (fs : List Str) : Prop where
  gC : mg x = some (.ref C)
  xf : XfC K C
  no : ∀ f, f ∈ fs → PySem.W.findIn K (.ref C) f = some none
/-- a def whose code object is known -/
structure DefT (K : PySem.W.Frag) (mg : Str → Option Value) (x : Str) (st : Stmt) (cc : Addr) : Prop where
  ex : ∃ (f : Addr) (oc : Value) (od : Option Addr) (kV doc pm : Value) (an : Option Addr) (ct : Value) (osl : Array (Option Value)), mg x = some (.ref f) ∧ PySem.W.keepIn K (.ref f) = true ∧
    K.lookup f = some ⟨oc, od, .func (PySem.W.fnOf x x (defArgs st) (defBody st) (defScope st) .none kV doc pm an (.ref cc) ct), osl⟩ ∧ PySem.W.codeIn K (.ref cc) x = true
section
variable {P : Program} {w : World} {K : PySem.W.Frag} {mg : Str → Option Value} {base : Heap} {k : Nat} {wp : DF} {x : Str}
theorem cal_ofT {st : Stmt} {cc : Addr} {N ps : List Str} {wb : DS} (D : DefT K mg x st cc) (S : FnScope N ps (defScope st))
    (hb : ∀ (kV doc pm : Value) (an : Option Addr) (cdv ct : Value) (us : List Value), us.length = ps.length → bindArgs (PySem.W.fnOf x x (defArgs st) (defBody st) (defScope st) .none kV doc pm an cdv ct) ⟨us, []⟩ = pure (ps.zip us))
    (body : ∀ (f : Addr) (A : Around) (outer : List Env) (s : Shared) (H : Hp) (E : XK), Ct (cxD P w K mg base N x (defScope st) f (.ref cc) A outer s H E) (WD E) k → ∃ t, PDB (cxD P w K mg base N x (defScope st) f (.ref cc) A outer s H E) (WD E) (defBody st) t wb)
    (h : ∀ ds μ Q F, wp ds μ Q F → ds.length = ps.length ∧ wb { nx := fun _ μ' => Q .non μ', rt := Q } F (dstart N ds) μ) : CalD P w K mg base (k + 1) x wp := by
  obtain ⟨f, oc, od, kV, doc, pm, an, ct, osl, hm, kp, lk, hcd⟩ := D.ex
  refine ⟨f, hm, kp, fun A outer s H us vs Q E hg hr e0 r sp => ?_⟩
  obtain ⟨ds, μ, Qd, F, ra, mr, q, kQ, kF⟩ := sp
  obtain ⟨hl, q⟩ := h ds μ Qd F q
  have hv : vs.length = ps.length := by rw [ra.length, hl]
  refine LamX.run_ofS (N := N) (ps := ps) (us := us) (vs := vs) lk hcd S hr e0 (.of_eq (hb _ _ _ _ _ _ us (by rw [← r.length, hv]))) r hv fun hr' => ?_
  obtain ⟨t, hb⟩ := body f A outer s H E (ct_of S hg hr')
  refine ⟨t, hb.pss, hb.ls (hid H μ) _ _ H μ _ _ F (Same.refl _) (sd_start mr ra) q ⟨fun σ δ H' μ' g S' q' => kQ .non .non H' μ' ⟨g, S'.mr⟩ .non q', fun v d H' μ' g m r q' => kQ v d H' μ' ⟨g, m⟩ r q', fun _ _ _ _ _ _ z => z, fun _ _ _ _ _ _ z => z, fun cls dd er σ H' μ' g m r f => kF cls dd er H' μ' ⟨g, m⟩ r f⟩⟩
end
end DL

set_option maxHeartbeats 2000000
namespace DL
open PySem PySem.Spec PyProof.Rows L2

/-! ### shown texts: their signs, their length -/
def okT (x : Str) : Prop := ∀ c ∈ x.cps.toList, c < 0x110000
theorem okT_strOk {x : Str} (h : okT x) : PyData.strOk x = true := by
  unfold PyData.strOk
  rw [Array.all_eq_true_iff_forall_mem]
  intro c hc
  simpa using h c (Array.mem_toList_iff.mpr hc)
theorem okT_of {x : Str} (h : PyData.strOk x = true) : okT x := fun c hc => by
  unfold PyData.strOk at h
  have := (Array.all_eq_true_iff_forall_mem.mp h) c (Array.mem_toList_iff.mp hc)
  simpa using this
theorem okT_app {x y : Str} (a : okT x) (b : okT y) : okT (x ++ y) := fun c hc => by
  rw [show (x ++ y).cps = x.cps ++ y.cps from rfl, Array.toList_append, List.mem_append] at hc
  rcases hc with hc | hc
  · exact a c hc
  · exact b c hc
theorem okT_join {s : Str} (hs : okT s) : ∀ {l : List Str}, (∀ x ∈ l, okT x) → okT (Str.join s l)
  | [], _ => fun c hc => by
    have hc' : c ∈ (Str.empty).cps.toList := hc
    simp [Str.empty] at hc'
  | [x], h => h x (by simp)
  | x :: y :: r, h => okT_app (okT_app (h x (by simp)) hs) (okT_join hs fun z hz => h z (List.mem_cons_of_mem _ hz))
theorem okT_sep : okT ((", " : String) : Str) := okT_of (by decide +kernel)
theorem okT_from : ∀ (l : List Str) (k : Nat) (acc : Str), okT acc → (∀ x ∈ l, okT x) → okT (textFrom k acc l)
  | [], _, _, a, _ => a
  | t :: ts, k, acc, a, h => okT_from ts (k + 1) _ (okT_app (okT_app a (by split <;> exact okT_of (by decide +kernel))) (h t (by simp))) fun z hz => h z (List.mem_cons_of_mem _ hz)
mutual
def bnd : PyData → Nat
  | .none => 4
  | .bool _ => 5
  | .int _ => 600
  | .str x => (reprText x).length
  | .list xs => bndA xs + 3
  | .tuple xs => bndA xs + 3
  | .dict ks => bndK ks + 3
def bndA : List PyData → Nat
  | [] => 0
  | x :: xs => bnd x + 2 + bndA xs
def bndK : List (PyData × PyData) → Nat
  | [] => 0
  | (k, v) :: r => bnd k + 2 + bnd v + 2 + bndK r
end
mutual
/-- may be shown: its ints are below 10 ^ 500 -/
def small : PyData → Bool
  | .none => true
  | .bool _ => true
  | .int i => decide (i.natAbs < 10 ^ 500)
  | .str x => PyData.strOk (reprText x)
  | .list xs => smallA xs
  | .tuple xs => smallA xs
  | .dict ks => smallK ks
def smallA : List PyData → Bool
  | [] => true
  | x :: xs => small x && smallA xs
def smallK : List (PyData × PyData) → Bool
  | [] => true
  | (k, v) :: r => small k && small v && smallK r
end
theorem log2_small {i : Int} (h : i.natAbs < 10 ^ 500) : i.natAbs.log2 < 1920 := by
  by_cases e : i.natAbs = 0
  · rw [e]
    decide
  · refine Nat.log2_lt e |>.mpr (Nat.lt_of_lt_of_le h ?_)
    decide +kernel
theorem len_small {i : Int} (h : i.natAbs < 10 ^ 500) : (PyData.shown (.int i)).length ≤ 600 := by
  have e := int_text_length_le10 (k := 500) (by decide) h
  show (Str.ofString (toString i)).length ≤ 600
  rw [PySem.ofString_length]
  omega
mutual
theorem shown_small : ∀ {p : PyData}, small p = true → p.showable = true ∧ p.shown.length ≤ bnd p ∧ okT p.shown
  | .none, _ => ⟨rfl, by decide +kernel, okT_of (by decide +kernel)⟩
  | .bool b, _ => ⟨rfl, by cases b <;> decide +kernel, by cases b <;> exact okT_of (by decide +kernel)⟩
  | .int i, h => by
    have h' : i.natAbs < 10 ^ 500 := of_decide_eq_true (by simpa only [small] using h)
    refine ⟨by simpa only [PyData.showable, decide_eq_true_eq] using log2_small h', by simpa only [bnd] using len_small h', fun c hc => ?_⟩
    by_cases z : c < 0x110000
    · exact z
    · exact absurd hc (shown_int_free' ⟨by omega, by omega⟩ i)
  | .str x, h => ⟨rfl, Nat.le_refl _, okT_of h⟩
  | .list xs, h => by
    obtain ⟨h1, h2, h3⟩ := shown_smallA (xs := xs) (by simpa only [small] using h)
    refine ⟨by simpa only [PyData.showable] using h1, ?_, ?_⟩
    · have e := listText_len_le (PyData.shownAll xs)
      simp only [bnd]
      show (listText (PyData.shownAll xs)).length ≤ _
      omega
    · show okT (listText (PyData.shownAll xs))
      exact okT_app (okT_from _ _ _ (okT_of (by decide +kernel)) h3) (okT_of (by decide +kernel))
  | .tuple xs, h => by
    obtain ⟨h1, h2, h3⟩ := shown_smallA (xs := xs) (by simpa only [small] using h)
    refine ⟨by simpa only [PyData.showable] using h1, ?_, ?_⟩
    · have e := tupleText_len_le (PyData.shownAll xs)
      simp only [bnd]
      show (tupleText (PyData.shownAll xs)).length ≤ _
      omega
    · show okT (tupleText (PyData.shownAll xs))
      unfold tupleText
      exact okT_app (okT_app (okT_of (by decide +kernel)) (okT_join okT_sep h3)) (by split <;> exact okT_of (by decide +kernel))
  | .dict ks, h => by
    obtain ⟨h1, h2, h3⟩ := shown_smallK (xs := ks) (by simpa only [small] using h)
    refine ⟨by simpa only [PyData.showable] using h1, ?_, ?_⟩
    · have e := dictText_len_le (PyData.shownKv ks)
      simp only [bnd]
      show (dictText (PyData.shownKv ks)).length ≤ _
      omega
    · show okT (dictText (PyData.shownKv ks))
      unfold dictText
      exact okT_app (okT_app (okT_of (by decide +kernel)) (okT_join okT_sep h3)) (okT_of (by decide +kernel))
theorem shown_smallA : ∀ {xs : List PyData}, smallA xs = true → PyData.showableAll xs = true ∧ ((PyData.shownAll xs).map (·.length)).sum + 2 * (PyData.shownAll xs).length ≤ bndA xs ∧ ∀ t ∈ PyData.shownAll xs, okT t
  | [], _ => ⟨rfl, by simp [PyData.shownAll, bndA], fun t ht => by simp [PyData.shownAll] at ht⟩
  | x :: xs, h => by
    have h' : small x = true ∧ smallA xs = true := by simpa only [smallA, Bool.and_eq_true] using h
    obtain ⟨a1, a2, a3⟩ := shown_small h'.1
    obtain ⟨b1, b2, b3⟩ := shown_smallA h'.2
    refine ⟨by simp only [PyData.showableAll, a1, b1, Bool.and_self], ?_, fun t ht => ?_⟩
    · simp only [PyData.shownAll, bndA, List.map_cons, List.sum_cons, List.length_cons]
      omega
    · simp only [PyData.shownAll, List.mem_cons] at ht
      rcases ht with rfl | ht
      · exact a3
      · exact b3 t ht
theorem shown_smallK : ∀ {xs : List (PyData × PyData)}, smallK xs = true → PyData.showableKv xs = true ∧ ((PyData.shownKv xs).map (·.length)).sum + 2 * (PyData.shownKv xs).length ≤ bndK xs ∧ ∀ t ∈ PyData.shownKv xs, okT t
  | [], _ => ⟨rfl, by simp [PyData.shownKv, bndK], fun t ht => by simp [PyData.shownKv] at ht⟩
  | (k, v) :: xs, h => by
    have h' : (small k = true ∧ small v = true) ∧ smallK xs = true := by simpa only [smallK, Bool.and_eq_true] using h
    obtain ⟨a1, a2, a3⟩ := shown_small h'.1.1
    obtain ⟨c1, c2, c3⟩ := shown_small h'.1.2
    obtain ⟨b1, b2, b3⟩ := shown_smallK h'.2
    refine ⟨by simp only [PyData.showableKv, a1, c1, b1, Bool.and_self], ?_, fun t ht => ?_⟩
    · have e : (PyData.shown k ++ ": " ++ PyData.shown v).length = (PyData.shown k).length + 2 + (PyData.shown v).length := by
        rw [strLen_append, strLen_append]
        rfl
      simp only [PyData.shownKv, bndK, List.map_cons, List.sum_cons, List.length_cons, e]
      omega
    · simp only [PyData.shownKv, List.mem_cons] at ht
      rcases ht with rfl | ht
      · exact okT_app (okT_app a3 (okT_of (by decide +kernel))) c3
      · exact b3 t ht
end
/-- repr -/
theorem repr_ok {x : D} {p : PyData} {μ : M} {Q : DK} (e : pyOf μ x = some p) (h1 : okP p = true) (h2 : small p = true) (h3 : p.depth ≤ 60) (h4 : bnd p ≤ 1000000) (q : Q (.str p.shown) μ) : gRepr x μ Q :=
  ⟨p, e, okN_ofP h1, (shown_small h2).1, h3, Nat.le_trans (shown_small h2).2.1 h4, q⟩
/-- two texts told apart -/
theorem eq_txt {neg : Bool} {x y : Str} {μ : M} {Q : DK} (hx : okT x) (hy : okT y) (q : Q (.bl (if neg = true then !(x == y) else (x == y))) μ) : gEq neg (.str x) (.str y) μ Q := by
  refine ⟨.str x, .str y, rfl, rfl, ?_, ?_, ?_⟩
  · simpa [SeqAt.shaped, PyData.canLay0, PyData.depth] using okT_strOk hx
  · simpa [SeqAt.shaped, PyData.canLay0, PyData.depth] using okT_strOk hy
  · simpa only [PyData.eqv] using q
/-- a thing is equal to itself -/
theorem eq_self {neg : Bool} {x y : D} {p : PyData} {μ : M} {Q : DK} (hx : pyOf μ x = some p) (hy : pyOf μ y = some p) (s : SeqAt.shaped p = true) (q : Q (.bl (!neg)) μ) : gEq neg x y μ Q := by
  refine ⟨p, p, hx, hy, s, s, ?_⟩
  rw [SeqAt.eqv_refl p (SeqAt.canLay_of_shaped s)]
  cases neg <;> exact q
/-- ints told apart -/
theorem eq_int {neg : Bool} {x y : Int} {μ : M} {Q : DK} (q : Q (.bl (if neg = true then !(x == y) else (x == y))) μ) : gEq neg (.int x) (.int y) μ Q :=
  ⟨.int x, .int y, rfl, rfl, rfl, rfl, by simpa only [PyData.eqv] using q⟩
theorem gEq_int {neg : Bool} {x y : Int} {μ : M} {Q : DK} : gEq neg (.int x) (.int y) μ Q ↔ Q (.bl (if neg = true then !(x == y) else (x == y))) μ := by
  refine ⟨fun ⟨p, q, e1, e2, _, _, h⟩ => ?_, eq_int⟩
  cases e1
  cases e2
  simpa only [PyData.eqv] using h

/-! ### isinstance of what is typed by a built-in class -/
def tyN : D → Option String
  | .non => some "NoneType"
  | .bl _ => some "bool"
  | .int _ => some "int"
  | .str _ => some "str"
  | .lst _ => some "list"
  | .ro _ => some "list"
  | .tup _ => some "tuple"
  | .dct _ => some "dict"
  | _ => none
theorem tyN_ok {K : PySem.W.Frag} {μ : M} {d : D} {t : String} (h : tyN d = some t) : TyD K μ d (.type t) := by
  cases d <;> first | (cases h <;> constructor) | cases h
def isW : D → Bool
  | .int _ => true
  | _ => false
def isB : D → Bool
  | .bl _ => true
  | _ => false
def isSq : D → Bool
  | .lst _ => true
  | .ro _ => true
  | .tup _ => true
  | _ => false
def isSt : D → Bool
  | .str _ => true
  | _ => false
theorem isi_int {K : PySem.W.Frag} {μ : M} {d : D} {t : String} {Q : DK} (h : tyN d = some t) (q : Q (.bl (isW d || isB d)) μ) : gIsi K [d, .raw (.ty "int")] μ Q :=
  .inl ⟨d, _, _, _, isW d || isB d, rfl, .ty "int", tyN_ok h, (by cases d <;> first | (cases h <;> rfl) | cases h), q⟩
theorem isi_bool {K : PySem.W.Frag} {μ : M} {d : D} {t : String} {Q : DK} (h : tyN d = some t) (q : Q (.bl (isB d)) μ) : gIsi K [d, .raw (.ty "bool")] μ Q :=
  .inl ⟨d, _, _, _, isB d, rfl, .ty "bool", tyN_ok h, (by cases d <;> first | (cases h <;> rfl) | cases h), q⟩
theorem isi_str {K : PySem.W.Frag} {μ : M} {d : D} {t : String} {Q : DK} (h : tyN d = some t) (q : Q (.bl (isSt d)) μ) : gIsi K [d, .raw (.ty "str")] μ Q :=
  .inl ⟨d, _, _, _, isSt d, rfl, .ty "str", tyN_ok h, (by cases d <;> first | (cases h <;> rfl) | cases h), q⟩
theorem isi_tl {K : PySem.W.Frag} {μ : M} {d : D} {t : String} {Q : DK} (h : tyN d = some t) (q : Q (.bl (isSq d)) μ) : gIsi K [d, .tup [.raw (.ty "tuple"), .raw (.ty "list")]] μ Q :=
  .inr ⟨d, _, _, _, isSq d, rfl, .cons (.ty "tuple") (.cons (.ty "list") .nil), tyN_ok h, (by cases d <;> first | (cases h <;> rfl) | cases h), q⟩
theorem isi_lt {K : PySem.W.Frag} {μ : M} {d : D} {t : String} {Q : DK} (h : tyN d = some t) (q : Q (.bl (isSq d)) μ) : gIsi K [d, .tup [.raw (.ty "list"), .raw (.ty "tuple")]] μ Q :=
  .inr ⟨d, _, _, _, isSq d, rfl, .cons (.ty "list") (.cons (.ty "tuple") .nil), tyN_ok h, (by cases d <;> first | (cases h <;> rfl) | cases h), q⟩
end DL

set_option maxHeartbeats 2000000
namespace DL
open PySem PySem.Spec PyProof.Rows L2

/-! ### what the readings come to -/
section
variable {μ : M} {Q : DK} {xs ys : List D} {i j : Int} {x y d : D}
theorem gIx_tup : gIx (.tup xs) (.int i) μ Q ↔ ∃ d, atI xs i = some d ∧ Q d μ := by
  refine ⟨fun h => ?_, fun ⟨d, h, q⟩ => .inl ⟨xs, i, d, rfl, rfl, h, q⟩⟩
  rcases h with ⟨ds, k, d, e1, e2, e3, q⟩ | ⟨z, _, _, e1, _⟩
  · cases e1
    cases e2
    exact ⟨d, e3, q⟩
  · cases e1
theorem gIx_lst : gIx (.lst xs) (.int i) μ Q ↔ ∃ d, atI xs i = some d ∧ Q d μ := by
  refine ⟨fun h => ?_, fun ⟨d, h, q⟩ => .inl ⟨xs, i, d, rfl, rfl, h, q⟩⟩
  rcases h with ⟨ds, k, d, e1, e2, e3, q⟩ | ⟨z, _, _, e1, _⟩
  · cases e1
    cases e2
    exact ⟨d, e3, q⟩
  · cases e1
theorem atI_0 : atI (x :: xs) 0 = some x := by simp [atI, ixN]
theorem atI_1 : atI (x :: y :: xs) 1 = some y := by
  have e : ixN (xs.length + 1 + 1) 1 = some 1 := by unfold ixN; simp; omega
  simp [atI, e]
theorem atI_2 : atI [x, y, d] 2 = some d := rfl
theorem gLen_tup : gLen (.tup xs) μ Q ↔ Q (.int xs.length) μ := by
  refine ⟨fun h => ?_, fun q => .inl ⟨xs, rfl, q⟩⟩
  rcases h with ⟨ds, e, q⟩ | ⟨z, e, _⟩ | ⟨ks, e, _⟩
  · cases e
    exact q
  · cases e
  · cases e
theorem gLen_lst : gLen (.lst xs) μ Q ↔ Q (.int xs.length) μ := by
  refine ⟨fun h => ?_, fun q => .inl ⟨xs, rfl, q⟩⟩
  rcases h with ⟨ds, e, q⟩ | ⟨z, e, _⟩ | ⟨ks, e, _⟩
  · cases e
    exact q
  · cases e
  · cases e
theorem gInt_int : gInt (.int i) μ Q ↔ Q (.int i) μ := by
  refine ⟨fun h => ?_, fun q => .inl ⟨i, rfl, q⟩⟩
  rcases h with ⟨ds, e, q⟩ | ⟨z, e, _⟩
  · cases e
    exact q
  · cases e
theorem gAdd_int : gAdd (.int i) (.int j) μ Q ↔ Q (.int (i + j)) μ := by
  refine ⟨fun h => ?_, fun q => .inl ⟨i, j, rfl, rfl, q⟩⟩
  rcases h with ⟨a, b, e1, e2, q⟩ | ⟨a, b, e1, _⟩ | ⟨a, b, e1, _⟩ | ⟨a, b, e1, _⟩
  · cases e1
    cases e2
    exact q
  · cases e1
  · cases e1
  · cases e1
theorem gAdd_lst : gAdd (.lst xs) (.lst ys) μ Q ↔ xs.length + ys.length ≤ 1000000 ∧ Q (.lst (xs ++ ys)) μ := by
  refine ⟨fun h => ?_, fun ⟨h, q⟩ => .inr (.inr (.inl ⟨xs, ys, rfl, rfl, h, q⟩))⟩
  rcases h with ⟨a, b, e1, e2, q⟩ | ⟨a, b, e1, _⟩ | ⟨a, b, e1, e2, h, q⟩ | ⟨a, b, e1, _⟩
  · cases e1
  · cases e1
  · cases e1
    cases e2
    exact ⟨h, q⟩
  · cases e1
theorem gAdd_tup : gAdd (.tup xs) (.tup ys) μ Q ↔ xs.length + ys.length ≤ 1000000 ∧ Q (.tup (xs ++ ys)) μ := by
  refine ⟨fun h => ?_, fun ⟨h, q⟩ => .inr (.inr (.inr ⟨xs, ys, rfl, rfl, h, q⟩))⟩
  rcases h with ⟨a, b, e1, e2, q⟩ | ⟨a, b, e1, _⟩ | ⟨a, b, e1, e2, h, q⟩ | ⟨a, b, e1, e2, h, q⟩
  · cases e1
  · cases e1
  · cases e1
  · cases e1
    cases e2
    exact ⟨h, q⟩
theorem gDGet_obj {a : Addr} {ks : List (Key × D)} {z : Str} (h : μ a = some (.dct ks)) : gDGet (.obj a) (.str z) μ Q ↔ ∃ d, valD ks (.inr z) = some d ∧ Q d μ := by
  refine ⟨fun ⟨ks', k, d, e1, e2, e3, q⟩ => ?_, fun ⟨d, e, q⟩ => ⟨ks, _, d, by simp [dctOf, h], rfl, e, q⟩⟩
  simp [dctOf, h] at e1
  cases e1
  cases e2
  exact ⟨d, e3, q⟩
theorem gIsB_bl {a b : Bool} : gIsB (.bl a) (.bl b) μ Q ↔ Q (.bl (decide (a = b))) μ := by
  refine ⟨fun ⟨a', b', e1, e2, q⟩ => ?_, fun q => ⟨a, b, rfl, rfl, q⟩⟩
  cases e1
  cases e2
  exact q
end
/-- but for the handle p nothing is told anew -/
def Only (p : Addr) (μ μ' : M) : Prop := ∀ b, b ≠ p → μ' b = μ b
theorem Only.refl {p : Addr} {μ : M} : Only p μ μ := fun _ _ => rfl
theorem Only.trans {p : Addr} {μ μ1 μ2 : M} (a : Only p μ μ1) (b : Only p μ1 μ2) : Only p μ μ2 := fun c h => (b c h).trans (a c h)
theorem Only.put {p : Addr} {μ : M} {m : MO} : Only p μ (mput μ p m) := fun _ h => mput_ne h
theorem mput_mput {μ : M} {p : Addr} {m m' : MO} : mput (mput μ p m) p m' = mput μ p m' := by
  funext b
  by_cases h : b = p
  · rw [h, mput_same, mput_same]
  · rw [mput_ne h, mput_ne h, mput_ne h]
theorem TabM.only {T : List (Addr × Str)} {p : Addr} {μ μ' : M} {ks ks' : List (Key × D)} (h : TabM T μ) (e : Only p μ μ') (h1 : μ p = some (.dct ks)) (h2 : μ' p = some (.dct ks')) : TabM T μ' := fun a q => by
  by_cases z : a = p
  · subst z
    rw [h2]
    have := h a q
    rw [h1] at this
    constructor
    · intro y
      cases y
    · intro y
      have y' := this.mpr y
      cases y'
  · rw [e a z]
    exact h a q

/-! ### the pen -/
def penD (cs : List Int) (a d n f : Int) : List (Key × D) := [(.inr "cells", .lst (cs.map .int)), (.inr "at", .int a), (.inr "digits", .int d), (.inr "count", .int n), (.inr "fold", .int f)]
/-- a pen stands behind p, at most m draws old -/
def Pen (p : Addr) (μ : M) (m : Nat) : Prop := ∃ cs a d n f, μ p = some (.dct (penD cs a d n f)) ∧ 0 ≤ a ∧ a ≤ cs.length ∧ cs.length ≤ 1000000 ∧ 0 ≤ d ∧ 0 ≤ n ∧ n ≤ m ∧ 0 ≤ f ∧ f < 2147483648
theorem Pen.mono {p : Addr} {μ : M} {m m' : Nat} (h : Pen p μ m) (e : m ≤ m') : Pen p μ m' := by
  obtain ⟨cs, a, d, n, f, h0, h1, h2, h3, h4, h5, h6, h7⟩ := h
  exact ⟨cs, a, d, n, f, h0, h1, h2, h3, h4, h5, by omega, h7⟩
theorem Pen.tab {T : List (Addr × Str)} {p : Addr} {μ μ' : M} {m m' : Nat} (t : TabM T μ) (e : Only p μ μ') (h1 : Pen p μ m) (h2 : Pen p μ' m') : TabM T μ' := by
  obtain ⟨_, _, _, _, _, h1, _⟩ := h1
  obtain ⟨_, _, _, _, _, h2, _⟩ := h2
  exact t.only e h1 h2
section
variable {cs : List Int} {a d n f v : Int} {dv : D}
theorem pen_cells : valD (penD cs a d n f) (.inr "cells") = some (.lst (cs.map .int)) := by rfl
theorem pen_at : valD (penD cs a d n f) (.inr "at") = some (.int a) := by rfl
theorem pen_digits : valD (penD cs a d n f) (.inr "digits") = some (.int d) := by rfl
theorem pen_count : valD (penD cs a d n f) (.inr "count") = some (.int n) := by rfl
theorem pen_fold : valD (penD cs a d n f) (.inr "fold") = some (.int f) := by rfl
theorem put_at : putD (penD cs a d n f) (.inr "at") (.int v) = penD cs v d n f := by rfl
theorem put_digits : putD (penD cs a d n f) (.inr "digits") (.int v) = penD cs a v n f := by rfl
theorem put_count : putD (penD cs a d n f) (.inr "count") (.int v) = penD cs a d v f := by rfl
theorem put_fold : putD (penD cs a d n f) (.inr "fold") (.int v) = penD cs a d n v := by rfl
end
end DL

set_option maxHeartbeats 2000000
namespace DL
open PySem PySem.Spec PyProof.Rows L2
/-! ### loops by an invariant -/
theorem loop_inv {Gd : M → Prop} {tg : DG} {body : DS} {Dd : DE} {F : FK} (ds : List D) {δ : DSt} {μ : M} (I : Nat → DSt → M → Prop) (h0 : I 0 δ μ) (gd : ∀ i δ μ, I i δ μ → Gd μ)
    (step : ∀ i d, ds[i]? = some d → ∀ δ μ, I i δ μ → ∀ R : DSt → M → Prop, (∀ δ' μ', I (i + 1) δ' μ' → R δ' μ') → tg d δ μ fun δ1 μ1 => body { Dd with nx := R, ct := R, bk := Dd.nx } F δ1 μ1)
    (last : ∀ δ μ, I ds.length δ μ → Dd.nx δ μ) : wLoop Gd tg body ds Dd F δ μ := by
  have key : ∀ (es : List D) (i : Nat) (δ : DSt) (μ : M), (∀ j, es[j]? = ds[i + j]?) → es.length + i = ds.length → I i δ μ → wLoop Gd tg body es Dd F δ μ := by
    intro es
    induction es with
    | nil =>
      intro i δ μ _ hl hI
      have : i = ds.length := by simpa using hl
      subst this
      exact ⟨gd _ _ _ hI, last δ μ hI⟩
    | cons e es ih =>
      intro i δ μ hj hl hI
      refine ⟨gd _ _ _ hI, ?_⟩
      refine step i e ?_ δ μ hI _ fun δ' μ' h' => ih (i + 1) δ' μ' (fun j => ?_) (by simp only [List.length_cons] at hl; omega) h'
      · have := hj 0
        simpa using this.symm
      · have := hj (j + 1)
        simp only [List.getElem?_cons_succ] at this
        rw [this]
        congr 1
        omega
  exact key ds 0 δ μ (fun j => by rw [Nat.zero_add]) (by omega) h0
/-- a loop of n laps whatever the items are -/
theorem laps_inv {Gd : M → Prop} {tg : DG} {body : DS} {Dd : DE} {F : FK} (ds : List D) {δ : DSt} {μ : M} (I : Nat → DSt → M → Prop) (h0 : I 0 δ μ) (gd : ∀ i δ μ, I i δ μ → Gd μ)
    (step : ∀ i d, i < ds.length → ∀ δ μ, I i δ μ → ∀ R : DSt → M → Prop, (∀ δ' μ', I (i + 1) δ' μ' → R δ' μ') → tg d δ μ fun δ1 μ1 => body { Dd with nx := R, ct := R, bk := Dd.nx } F δ1 μ1)
    (last : ∀ δ μ, I ds.length δ μ → Dd.nx δ μ) : wLoop Gd tg body ds Dd F δ μ :=
  loop_inv ds I h0 gd (fun i d h => step i d (by obtain ⟨h, _⟩ := List.getElem?_eq_some_iff.mp h; exact h)) last
/-- while, by a measure -/
theorem run_inv {c : DT} {body : DS} {Dd : DE} {F : FK} {δ : DSt} {μ : M} (I : Nat → DSt → M → Prop) (n : Nat) (h0 : I n δ μ)
    (step : ∀ m δ μ, I m δ μ → ∀ R : DSt → M → Prop, (∀ m' δ' μ', m' < m → I m' δ' μ' → R δ' μ') → c δ μ (fun k μ1 => if k = true then body { Dd with nx := R, ct := R, bk := Dd.nx } F δ μ1 else Dd.nx δ μ1) F) :
    ∃ n, wRun c body n Dd F δ μ := by
  have key : ∀ (f m : Nat) (δ : DSt) (μ : M), m ≤ f → I m δ μ → wRun c body (f + 1) Dd F δ μ := by
    intro f
    induction f with
    | zero =>
      intro m δ μ h hI
      exact step m δ μ hI _ fun m' _ _ h' => by omega
    | succ f ih =>
      intro m δ μ h hI
      exact step m δ μ hI _ fun m' δ' μ' h' hI' => ih m' δ' μ' (by omega) hI'
  exact ⟨n + 1, key n n δ μ (Nat.le_refl n) h0⟩
end DL

set_option maxHeartbeats 2000000
/-! the head: facts by names, over data -/
namespace DL
open PySem PySem.Spec PyProof.Rows L2 He
/-- what is looked at behind the top -/
def kOf (g : Addr → Option Obj) (n : Nat) : PySem.W.Frag := frT g (cStatics :: asD g n)
/-- an own exception, in the library's words -/
def oexB (K : PySem.W.Frag) (C : Addr) : Bool :=
  (match K.lookup C with
    | some ⟨.type "type", _, .cls cd, sl⟩ => (match cd.mro, sl.toList with
      | .ref D :: bm, [_, _, _, _, some (.builtin n), _] => D == C && (n == "ValueError.__new__" && (!cd.hasDel && (cd.hasDict && PySem.HandSPX.refsVE bm)))
      | _, _ => false)
    | _ => false) && (eqO (PySem.W.findIn K (.ref C) "__setattr__") (some (some (.builtin "object.__setattr__"))) &&
  (decide (PySem.W.subIn K (.ref C) (.type "BaseException") = some true) && (decide (PySem.W.typeIn K (.ref C) = some (.type "type")) && PySem.W.keepIn K (.ref C))))
theorem oexB_ok {K : PySem.W.Frag} {C : Addr} (h : oexB K C = true) : OexC K C := by
  obtain ⟨h1, h⟩ := ba h
  obtain ⟨h2, h⟩ := ba h
  obtain ⟨h3, h⟩ := ba h
  obtain ⟨h4, h5⟩ := ba h
  refine ⟨?_, eqO_ok h2, of_decide_eq_true h3, of_decide_eq_true h4, h5⟩
  split at h1
  · rename_i dd cd sl hk
    split at h1
    · rename_i D bm a0 a1 a2 a3 n a5 hm hs
      obtain ⟨e1, h1⟩ := ba h1
      obtain ⟨e2, h1⟩ := ba h1
      obtain ⟨e3, h1⟩ := ba h1
      obtain ⟨e4, e5⟩ := ba h1
      have e1 := beq_iff_eq.mp e1
      have e2 := beq_iff_eq.mp e2
      subst e1 e2
      obtain ⟨c1, c2, c3, c4, c5, c6, c7, c8, c9, c10, c11⟩ := cd
      simp only at hm e3 e4
      subst hm
      have e3' : c11 = false := by simpa using e3
      subst e3' e4
      have hs' : sl = #[a0, a1, a2, a3, some (.builtin "ValueError.__new__"), a5] := by rw [← Array.toList_inj]; exact hs
      subst hs'
      exact ⟨_, _, _, _, _, _, _, _, _, _, _, _, _, _, _, hk, e5⟩
    · cases h1
  · cases h1
/-- the base of the own exceptions, whose __init__ is ValueError's -/
def cinB (K : PySem.W.Frag) (B : Addr) : Bool := (PySem.W.readsIn K B (.type "type") && eqO (PySem.W.specialIn K (.ref B) "__getattribute__") (some (some (.builtin "type.__getattribute__")))) &&
  (match PySem.W.findCls K (.ref B) (.type "type") "__init__" with
    | some (.val (.builtin n)) => n == "ValueError.__init__"
    | _ => false)
theorem cinB_ok {K : PySem.W.Frag} {B : Addr} (h : cinB K B = true) : ClX.CRead K B (.type "type") ∧ PySem.W.findCls K (.ref B) (.type "type") "__init__" = some (.val (.builtin "ValueError.__init__")) := by
  obtain ⟨h1, h2⟩ := ba h
  obtain ⟨h3, h4⟩ := ba h1
  refine ⟨⟨h3, eqO_ok h4⟩, ?_⟩
  split at h2
  · rename_i n e
    rw [e, beq_iff_eq.mp h2]
  · cases h2
/-- isinstance of an own class: of its instances, of built-in values -/
structure IsiC (K : PySem.W.Frag) (C : Addr) : Prop where
  ty : InsTy K C
  no : ∀ T : String, T ∈ (["int", "bool", "NoneType", "str", "tuple", "list", "dict"] : List String) → PySem.W.kitOne K (.type T) (.ref C) = some false
def isiB (K : PySem.W.Frag) (C : Addr) : Bool :=
  (PySem.W.plainGet K C Str.empty && (PySem.W.hasDictIn K C && (PySem.W.plainOver K C && eqO (PySem.W.findIn K (.ref C) "__setattr__") (some (some (.builtin "object.__setattr__")))))) &&
  (eqO (PySem.W.findIn K (.ref C) "__class__") (some (some (.builtin "object.__class__"))) && (eqO (PySem.W.specialIn K (.builtin "object.__class__") "__get__") (some (some (.builtin "getset_descriptor.__get__"))) &&
  (decide (PySem.W.takesIn K (.builtin "object.__class__") = some true) && (decide (PySem.W.mroIn K C (.type "object") = some true) && ((["int", "bool", "NoneType", "str", "tuple", "list", "dict"] : List String).all fun T => decide (PySem.W.kitOne K (.type T) (.ref C) = some false))))))
theorem isiB_ok {K : PySem.W.Frag} {C : Addr} (h : isiB K C = true) : IsiC K C := by
  obtain ⟨h0, h⟩ := ba h
  obtain ⟨a1, h0⟩ := ba h0
  obtain ⟨a2, h0⟩ := ba h0
  obtain ⟨a3, a4⟩ := ba h0
  obtain ⟨h1, h⟩ := ba h
  obtain ⟨h2, h⟩ := ba h
  obtain ⟨h3, h⟩ := ba h
  obtain ⟨h4, h5⟩ := ba h
  exact ⟨⟨⟨a1, a2, a3, eqO_ok a4⟩, eqO_ok h1, eqO_ok h2, of_decide_eq_true h3, of_decide_eq_true h4⟩, fun T hT => of_decide_eq_true (List.all_eq_true.mp h5 T hT)⟩
inductive Fb where
  | a (f : Fa) | oex (x : Str) | xf (x : Str) | cin (x : Str) | ini (x : Str) | apart (ps : List Defn) | isi (x : Str) | isx (x y : Str) (b : Bool) | opn (x : Str)
def iniAt (K : PySem.W.Frag) (x : Str) : Addr := ma K (ga K x) "__init__"
def Fb.ok (K : PySem.W.Frag) : Fb → Bool
  | .a f => f.ok K
  | .oex x => oexB K (ga K x)
  | .xf x => xfB K (ga K x)
  | .cin x => cinB K (ga K x)
  | .ini x => eqO (PySem.W.findIn K (.ref (ga K x)) "__init__") (some (some (.ref (iniAt K x)))) && decide (PySem.W.typeIn K (.ref (iniAt K x)) = some (.type "function"))
  | .apart ps => decide ((ps.map fun p => (cT K p).2).Nodup)
  | .isi x => isiB K (ga K x)
  | .isx x y b => decide (PySem.W.kitOne K (.ref (ga K x)) (.ref (ga K y)) = some b)
  | .opn x => PySem.W.selfFirst K (ga K x) && decide (PySem.W.subIn K (.ref (ga K x)) (.type "int") = some false)
structure SaysL (fn : List He.DefD) (fb : List Fb) (tf : List Defn) (h : Heap) (K : PySem.W.Frag) : Prop where
  fns : (fn.map fun d => fnW K d.at_) = fn.map He.DefD.val
  oks : (fn.all fun d => d.ok K) = true
  fbs : (fb.all fun f => f.ok K) = true
  hd : ∀ p ∈ tf, PySem.W.codeHdIn K (cT K p).1 (cT K p).2 = true
  out : ∀ p ∈ tf, K.lookup (cT K p).2 = none
  empty : ∀ p ∈ tf, h.get? (cT K p).2 = some (PySem.W.tabObj #[])
def tabL (g : Addr → Option Obj) (K : PySem.W.Frag) (p : Defn) : Bool := PySem.W.codeHdIn K (cT K p).1 (cT K p).2 && ((g (cT K p).2).any emptyTab)
def obsL (n : Nat) (fn : List He.DefD) (fb : List Fb) (tf : List Defn) (g : Addr → Option Obj) : List FnW × Bool :=
  ((fn.map fun d => fnW (kOf g n) d.at_), (fn.all fun d => d.ok (kOf g n)) && ((fb.all fun f => f.ok (kOf g n)) && tf.all (tabL g (kOf g n))))
theorem saysL_of {n : Nat} {fn : List He.DefD} {fb : List Fb} {tf : List Defn} {h : Heap} (e : obsL n fn fb tf h.get? = (fn.map He.DefD.val, true)) : SaysL fn fb tf h (kOf h.get? n) := by
  obtain ⟨e1, e2⟩ := Prod.mk.inj e
  obtain ⟨e2, e3⟩ := ba e2
  obtain ⟨e3, e4⟩ := ba e3
  have one : ∀ p ∈ tf, PySem.W.codeHdIn (kOf h.get? n) (cT (kOf h.get? n) p).1 (cT (kOf h.get? n) p).2 = true ∧ ∃ o, h.get? (cT (kOf h.get? n) p).2 = some o ∧ emptyTab o = true := fun p hp => by
    obtain ⟨a1, a2⟩ := ba (List.all_eq_true.mp e4 p hp)
    refine ⟨a1, ?_⟩
    cases q : h.get? (cT (kOf h.get? n) p).2 with
    | none =>
      rw [q] at a2
      cases a2
    | some o =>
      rw [q] at a2
      exact ⟨o, rfl, a2⟩
  refine ⟨e1, e2, e3, fun p hp => (one p hp).1, fun p hp => ?_, fun p hp => ?_⟩
  · obtain ⟨o, a1, a2⟩ := (one p hp).2
    exact frT_none a1 a2
  · obtain ⟨o, a1, a2⟩ := (one p hp).2
    rw [a1, emptyTab_eq a2]
def hookL (n : Nat) (fn : List He.DefD) (fb : List Fb) (tf : List Defn) : PySem.W.Hook where
  α := List FnW × Bool
  obs s := obsL n fn fb tf s.heap.get?
  val _ := (fn.map He.DefD.val, true)
  says _ h := ∃ K : PySem.W.Frag, K.In h ∧ SaysL fn fb tf h K
  of _ _ e := ⟨_, frT_in, saysL_of e⟩
  keeps _ _ _ s k := let ⟨K, i, c⟩ := s; ⟨K, i.keeps k, c.fns, c.oks, c.fbs, c.hd, c.out, fun p hp => k _ _ (c.empty p hp)⟩
theorem obsL_eq {n : Nat} {fn : List He.DefD} {fb : List Fb} {tf : List Defn} {g : Addr → Option Obj} {s : Shared} (h : ∀ a, g a = s.heap.get? a) : obsL n fn fb tf g = (hookL n fn fb tf).obs s := by
  rw [show g = s.heap.get? from funext h]
  rfl
section
variable {fn : List He.DefD} {fb : List Fb} {tf : List Defn} {h : Heap} {K : PySem.W.Frag} {mg : Str → Option Value}
theorem SaysL.f (c : SaysL fn fb tf h K) (i : Nat) {f : Fb} (e : fb[i]? = some f := by rfl) : f.ok K = true := List.all_eq_true.mp c.fbs f (List.mem_of_getElem? e)
theorem SaysL.d (c : SaysL fn fb tf h K) (i : Nat) {d : He.DefD} (e : fn[i]? = some d := by rfl) : ∃ fd, FunD K d.name d.qual d.params d.body d.scope (d.dvs K) (d.kws K) (fAd K d.at_) fd := by
  refine d.funD ?_ (List.all_eq_true.mp c.oks d (List.mem_of_getElem? e))
  have := congrArg (fun l => l[i]?) c.fns
  simpa [e] using this
/-- a def at the top -/
abbrev dTop (x : Str) (st : Stmt) : He.DefD := ⟨(x, none), x, x, defArgs st, defBody st, defScope st, [], []⟩
/-- the __init__ of the class x -/
abbrev dIni (x q : Str) (st : Stmt) : He.DefD := ⟨(x, some "__init__"), "__init__", q, defArgs st, defBody st, defScope st, [], []⟩
theorem SaysL.def_ (c : SaysL fn fb tf h K) (X : K.In h) (G : h.Ns mainGlobals mg) (i j : Nat) {x : Str} {st : Stmt} (e : fn[i]? = some (dTop x st) := by rfl) (e2 : fb[j]? = some (.a (.glo x)) := by rfl) : DefD K mg x st := by
  obtain ⟨fd, oc, od, dV, kV, doc, pm, an, cdv, ct, osl, rfl, lk, hc, hd, _⟩ : ∃ fd, _ := let ⟨fd, F⟩ := c.d i e; ⟨fd, F.ex⟩
  have kp := (let ⟨fd, F⟩ := c.d i e; F.kp : PySem.W.keepIn K (.ref (ga K x)) = true)
  obtain ⟨_, rfl⟩ : True ∧ dV = .none := by
    rcases hd with ⟨_, z⟩ | ⟨z, _⟩
    · exact ⟨trivial, z⟩
    · exact absurd rfl z
  exact ⟨_, oc, od, kV, doc, pm, an, cdv, ct, osl, glo_ok X G (c.f j e2), kp, lk, hc⟩
theorem SaysL.defT_ (c : SaysL fn fb tf h K) (X : K.In h) (G : h.Ns mainGlobals mg) (i j : Nat) {x : Str} {st : Stmt} (e : fn[i]? = some (dTop x st) := by rfl) (e2 : fb[j]? = some (.a (.glo x)) := by rfl) : DefT K mg x st (cT K (x, none)).1 := by
  obtain ⟨fd, oc, od, dV, kV, doc, pm, an, cdv, ct, osl, rfl, lk, hc, hd, _⟩ : ∃ fd, _ := let ⟨fd, F⟩ := c.d i e; ⟨fd, F.ex⟩
  have kp := (let ⟨fd, F⟩ := c.d i e; F.kp : PySem.W.keepIn K (.ref (ga K x)) = true)
  obtain ⟨_, rfl⟩ : True ∧ dV = .none := by
    rcases hd with ⟨_, z⟩ | ⟨z, _⟩
    · exact ⟨trivial, z⟩
    · exact absurd rfl z
  obtain ⟨cc, rfl⟩ := codeIn_ref hc
  have ecc : (cT K (x, none)).1 = cc := codeOf_eq lk rfl
  rw [ecc]
  exact ⟨_, oc, od, kV, doc, pm, an, ct, osl, glo_ok X G (c.f j e2), kp, lk, hc⟩
theorem SaysL.glo (c : SaysL fn fb tf h K) (X : K.In h) (G : h.Ns mainGlobals mg) (j : Nat) {x : Str} (e2 : fb[j]? = some (.a (.glo x)) := by rfl) : mg x = some (.ref (ga K x)) := glo_ok X G (c.f j e2)
theorem SaysL.free (c : SaysL fn fb tf h K) (X : K.In h) (G : h.Ns mainGlobals mg) (j : Nat) {x : Str} (e2 : fb[j]? = some (.a (.free x)) := by rfl) : mg x = none := free_ok X G (c.f j e2)
theorem SaysL.exm (c : SaysL fn fb tf h K) (j : Nat) {x y : Str} {b : Bool} (e2 : fb[j]? = some (.a (.exm x y b)) := by rfl) : PySem.W.exmOne K (.ref (ga K x)) (.ref (ga K y)) = some b := exm_ok (c.f j e2)
theorem SaysL.noat (c : SaysL fn fb tf h K) (j : Nat) {x y : Str} (e2 : fb[j]? = some (.a (.noat x y)) := by rfl) : PySem.W.findIn K (.ref (ga K x)) y = some none := noat_ok (c.f j e2)
theorem SaysL.ini (c : SaysL fn fb tf h K) (j : Nat) {x : Str} (e2 : fb[j]? = some (.ini x) := by rfl) : PySem.W.findIn K (.ref (ga K x)) "__init__" = some (some (.ref (iniAt K x))) ∧ PySem.W.typeIn K (.ref (iniAt K x)) = some (.type "function") := by
  obtain ⟨a, b⟩ := ba (c.f j e2)
  exact ⟨eqO_ok a, of_decide_eq_true b⟩
theorem SaysL.isi (c : SaysL fn fb tf h K) (j : Nat) {x : Str} (e2 : fb[j]? = some (.isi x) := by rfl) : IsiC K (ga K x) := isiB_ok (c.f j e2)
theorem SaysL.isx (c : SaysL fn fb tf h K) (j : Nat) {x y : Str} {b : Bool} (e2 : fb[j]? = some (.isx x y b) := by rfl) : PySem.W.kitOne K (.ref (ga K x)) (.ref (ga K y)) = some b := of_decide_eq_true (c.f j e2)
theorem SaysL.opn (c : SaysL fn fb tf h K) (j : Nat) {x : Str} (e2 : fb[j]? = some (.opn x) := by rfl) : PySem.W.selfFirst K (ga K x) = true ∧ PySem.W.subIn K (.ref (ga K x)) (.type "int") = some false :=
  let ⟨h1, h2⟩ := ba (c.f j e2); ⟨h1, of_decide_eq_true h2⟩
theorem SaysL.iniF (c : SaysL fn fb tf h K) (i : Nat) {x q : Str} {st : Stmt} (e : fn[i]? = some (dIni x q st) := by rfl) : ∃ fd, Fun K "__init__" q st (iniAt K x) fd := by
  obtain ⟨fd, oc, od, dV, kV, doc, pm, an, cdv, ct, osl, rfl, lk, hc, hd, _⟩ : ∃ fd, _ := let ⟨fd, F⟩ := c.d i e; ⟨fd, F.ex⟩
  have kp := (let ⟨fd, F⟩ := c.d i e; F.kp : PySem.W.keepIn K (.ref (iniAt K x)) = true)
  obtain ⟨_, rfl⟩ : True ∧ dV = .none := by
    rcases hd with ⟨_, z⟩ | ⟨z, _⟩
    · exact ⟨trivial, z⟩
    · exact absurd rfl z
  exact ⟨_, fun_mk lk hc kp⟩
theorem SaysL.exf (c : SaysL fn fb tf h K) (X : K.In h) (G : h.Ns mainGlobals mg) (j k : Nat) {x : Str} {fs : List Str} (no : ∀ f ∈ fs, PySem.W.findIn K (.ref (ga K x)) f = some none) (e : fb[j]? = some (.a (.glo x)) := by rfl) (e2 : fb[k]? = some (.xf x) := by rfl) : ExF K mg x (ga K x) fs :=
  ⟨glo_ok X G (c.f j e), xfB_ok (c.f k e2), no⟩
/-- what is known of the law's promise at the head's heap -/
theorem walk_l {l : PySem.W.OpenLaw} {n k m : Nat} {q : Program} {loose : List Str} {XP : (Str → Option Value) → Heap → Prop} {d : DefRec} {fn : List He.DefD} {fb : List Fb} {tf : List (Str × Str)} {ja : Nat}
    (hn : l.most = some n) (hn2 : n ≤ sizeLine) (hdf : d.params.defaults = []) (hr : Room k callerA) (him : importsNone q = true) (hpt : l.prog.given.tree = none) (hap : fb[ja]? = some (.apart (tf.map fun p => (p.1, none))))
    (F : ∀ (w : World) (mg : Str → Option Value) (K : PySem.W.Frag) (h : Heap), K.In h → h.Ns mainGlobals mg → SaysL fn fb (tf.map fun p => (p.1, none)) h K →
      ∃ wp : DF, (∀ (μ : M) (ns : List Int), ns.length ≤ n → (∀ z ∈ ns, Builtin.Int.intBits z ≤ 1048576) → TabM (tf.map fun p => ((cT K (p.1, none)).2, p.2)) μ → wp [.ro (ns.map D.int)] μ (fun d _ => d = .bl true) fun _ _ => False) ∧
        ∀ base : Heap, K.In base → base.Ns mainGlobals mg → SysP l.prog base → (∀ p ∈ tf, LamX.TabB base mg (cT K (p.1, none)).1 (cT K (p.1, none)).2) → CalD l.prog w K mg base k d.name wp) :
    PySem.W.WalkO q loose XP (hookL m fn fb (tf.map fun p => (p.1, none))).says l.row.toRowW d [] (fun f vs => PySem.call f vs) := by
  refine Att.attach_callB hn hdf fun w s₀ s₁ mg mb fa o pm cd doc a vs ns G Y ho hd hcd hmg hobj hints hlen hbits hg => ?_
  obtain ⟨K, KX, c⟩ := Y
  obtain ⟨wp, hwp, hF⟩ := F w mg K _ KX G.T.g c
  have hap' : ((tf.map fun p => (p.1, (none : Option Str))).map fun p => (cT K p).2).Nodup := of_decide_eq_true (c.f ja hap)
  have mem : ∀ p ∈ tf, (p.1, (none : Option Str)) ∈ tf.map fun p => (p.1, (none : Option Str)) := fun p hp => List.mem_map.mpr ⟨p, hp, rfl⟩
  have eT : (tf.map fun p => ((cT K (p.1, none)).1, (cT K (p.1, none)).2, p.2)).map (·.2) = tf.map fun p => ((cT K (p.1, none)).2, p.2) := by simp [List.map_map, Function.comp_def]
  refine law_end (cs := tf.map fun p => ((cT K (p.1, none)).1, (cT K (p.1, none)).2, p.2)) KX G.T.g G.T.b G.T.builtins G.T.nolimit (G.T.seer him) hpt hg ?_ ?_ ?_ ?_ G.T.bmain hobj hints (Nat.le_trans hlen hn2) hr (wp := wp) ?_ ?_
  · rintro _ hq
    obtain ⟨p, hp, rfl⟩ := List.mem_map.mp hq
    exact c.empty _ (mem p hp)
  · rintro _ hq
    obtain ⟨p, hp, rfl⟩ := List.mem_map.mp hq
    exact c.out _ (mem p hp)
  · rintro _ hq
    obtain ⟨p, hp, rfl⟩ := List.mem_map.mp hq
    exact PySem.W.codeHd_of_K KX (c.hd _ (mem p hp))
  · rw [eT]
    have key : ∀ l : List (Str × Str), ((l.map fun p => (p.1, (none : Option Str))).map fun p => (cT K p).2).Nodup → ∀ b q q', (b, q) ∈ l.map (fun p => ((cT K (p.1, none)).2, p.2)) → (b, q') ∈ l.map (fun p => ((cT K (p.1, none)).2, p.2)) → q = q' := by
      intro l
      induction l with
      | nil => intro _ b q q' h; cases h
      | cons x l ih =>
        intro hn b q q' h h'
        simp only [List.map_cons, List.nodup_cons] at hn
        have nin : ∀ z, ((cT K (x.1, none)).2, z) ∉ l.map (fun p => ((cT K (p.1, none)).2, p.2)) := fun z hz => hn.1 (by
          obtain ⟨p, hp, e⟩ := List.mem_map.mp hz
          have e1 := (Prod.mk.inj e).1
          rw [List.map_map]
          exact List.mem_map.mpr ⟨p, hp, e1⟩)
        rcases List.mem_cons.mp h with e | h
        · rcases List.mem_cons.mp h' with e' | h'
          · cases e
            cases e'
            rfl
          · cases e
            exact absurd h' (nin _)
        · rcases List.mem_cons.mp h' with e' | h'
          · cases e'
            exact absurd h (nin _)
          · exact ih hn.2 b q q' h h'
    exact key tf hap'
  · intro base KB hB hS hTB
    obtain ⟨f, hm, _, hf⟩ := (hF base KB hB hS fun p hp => hTB _ (List.mem_map.mpr ⟨p, hp, rfl⟩)).ex
    rw [hmg] at hm
    cases hm
    exact hf
  · intro μ hμ
    rw [eT] at hμ
    exact hwp μ ns hlen hbits hμ
theorem fn_of_cal {P : Program} {w : World} {base : Heap} {k : Nat} {x : Str} {a : Addr} {wp : DF} (C : CalD P w K mg base k x wp) (m : mg x = some (.ref a)) : PySem.W.keepIn K (.ref a) = true ∧ FnD P w K mg base k a wp := by
  obtain ⟨f, h1, h2, h3⟩ := C.ex
  rw [m] at h1
  cases h1
  exact ⟨h2, h3⟩
end
end DL

set_option maxHeartbeats 2000000
namespace DL
open PySem PySem.Spec PyProof.Rows L2
/-! ### a < b < c; a, b, c = x, y, z -/
def wChain (g g' : G2) (wa wb wc : DW) : DW := fun δ μ Q F => wa δ μ (fun x μ1 => wb δ μ1 (fun y μ2 => g x y μ2 fun z μ3 => ∃ k, z = .bl k ∧ if k = true then wc δ μ3 (fun w μ4 => g' y w μ4 Q) F else Q (.bl false) μ3) F) F
section
variable {X : Cx} {W : WX} {a b c : Expr} {ta tb tc : TE} {wa wb wc : DW} {pos : Pos} {op op' : CmpOp} {r r' : R2} {g g' : G2}
theorem le_chain {K : PySem.W.Frag} (ha : LE K W ta wa) (hb : LE K W tb wb) (hc : LE K W tc wc) (ho : OL K r g) (ho' : OL K r' g') : LE K W (tChain r r' ta tb tc) (wChain g g' wa wb wc) := fun σ δ H μ Q Qd F S q kQ kF => by
  refine ha σ δ H μ _ _ F S q (fun v d H1 μ1 m1 r1 q1 => ?_) kF
  refine hb σ δ H1 μ1 _ _ F (S.step m1) q1 (fun u e H2 μ2 m2 r2 q2 => ?_) (kF.step m1)
  refine ho H2 μ2 v u d e _ _ m2.mr (r1.mono m2.sm) r2 q2 fun v3 d3 H3 μ3 m3 r3 q3 => ?_
  obtain ⟨k, rfl, q3⟩ := q3
  refine ⟨k, r3.bl_inv, ?_⟩
  have m := m1.trans (m2.trans m3)
  cases k with
  | false => exact kQ _ _ H3 μ3 m (.bl false) q3
  | true => exact hc σ δ H3 μ3 _ _ F (S.step m) q3 (fun w' d' H4 μ4 m4 r4 q4 => ho' H4 μ4 u w' e d' Q Qd m4.mr (r2.mono (m3.trans m4).sm) r4 q4 fun v5 d5 H5 μ5 m5 r5 q5 => kQ v5 d5 H5 μ5 (m.trans (m4.trans m5)) r5 q5) (kF.step m)
theorem pdt_chain (o : OpR X (compareOp op) r ∧ OL X.K r g) (o' : OpR X (compareOp op') r' ∧ OL X.K r' g') (ha : PD X W a ta wa) (hb : PD X W b tb wb) (hc : PD X W c tc wc) (hm : lastMarks [op, op'] [b, c] = false := by with_unfolding_all rfl) :
    PDT X W (.Compare a [op, op'] [b, c] pos) (tTest (tChain r r' ta tb tc)) (wTst (wChain g g' wa wb wc)) := ⟨pt_chain o.1 o'.1 ha.pe hb.pe hc.pe hm, lt_tst (le_chain ha.le hb.le hc.le o.2 o'.2)⟩
theorem pd_chain (o : OpR X (compareOp op) r ∧ OL X.K r g) (o' : OpR X (compareOp op') r' ∧ OL X.K r' g') (ha : PD X W a ta wa) (hb : PD X W b tb wb) (hc : PD X W c tc wc) (hm : lastMarks [op, op'] [b, c] = false := by with_unfolding_all rfl) :
    PD X W (.Compare a [op, op'] [b, c] pos) (tChain r r' ta tb tc) (wChain g g' wa wb wc) := ⟨pe_chain o.1 o'.1 ha.pe hb.pe hc.pe hm, le_chain ha.le hb.le hc.le o.2 o'.2⟩
theorem ra3 {K : PySem.W.Frag} {G : Hp} {xs : List V} {d e f : D} (r : RA K G xs [d, e, f]) : ∃ v w u, xs = [v, w, u] ∧ R K G v d ∧ R K G w e ∧ R K G u f := by
  cases r with
  | cons h r =>
    obtain ⟨w, u, rfl, h2, h3⟩ := ra2 r
    exact ⟨_, _, _, rfl, h, h2, h3⟩
def wPar3 (i j l : Nat) (wa : DA) : DS := fun D F δ μ => wa δ μ (fun ds μ1 => ∃ u v w, ds = [u, v, w] ∧ D.nx (((δ.set i (some u)).set j (some v)).set l (some w)) μ1) F
theorem pds_par3 (i j l : Nat) {x y z : Str} {a b c : Expr} {ta : TA} {wa : DA} {px py pz pt : Pos} {kt k2 pt2} (hc : X.calm = true) (hN : X.N.Nodup) (ha : PDA X W [a, b, c] ta wa) (hi : X.N[i]? = some x := by rfl) (hj : X.N[j]? = some y := by rfl) (hl : X.N[l]? = some z := by rfl) (hij : i ≠ j := by decide) (hil : i ≠ l := by decide) (hjl : j ≠ l := by decide)
    (hx : X.env.scope.names.lookup x = some .local := by rfl) (hy : X.env.scope.names.lookup y = some .local := by rfl) (hz : X.env.scope.names.lookup z = some .local := by rfl)
    (hw : swappedStores [.Tuple [.Name x px, .Name y py, .Name z pz] kt pt] (.Tuple [a, b, c] k2 pt2) X.env = pure (some [x, y, z]) := by rfl)
    (hs : swapsWithSole [.Tuple [.Name x px, .Name y py, .Name z pz] kt pt] (.Tuple [a, b, c] k2 pt2) pos.line X.env = pure false := by rfl) :
    PDS X W (.Assign [.Tuple [.Name x px, .Name y py, .Name z pz] kt pt] (.Tuple [a, b, c] k2 pt2) pos) (tPar3 i j l ta) (wPar3 i j l wa) := by
  refine ⟨ps_par3 hc hN hi hj hl hij hil hjl hx hy hz ha.pa hw hs, fun G0 σ δ H μ D Dd F g S q k => ha.la σ δ H μ _ _ F S q (fun vs ds H1 μ1 m1 r1 q1 => ?_) (k.ex1 g)⟩
  obtain ⟨d1, d2, d3, e, q1⟩ := q1
  subst e
  obtain ⟨v, w, u, rfl, h1, h2, h3⟩ := ra3 r1
  exact ⟨v, w, u, rfl, k.nx _ _ H1 μ1 (g.trans m1.sm) ((((S.step m1).set i h1).set j h2).set l h3) q1⟩
end
end DL

set_option maxHeartbeats 2000000
namespace DL
open PySem PySem.Spec PyProof.Rows L2
/-! ### instances: fields -/
/-- x is an instance of the class at C with these fields: as data, or behind a handle -/
def insOf (μ : M) (C : Addr) (fs : List (Str × D)) (x : D) : Prop := x = .ins C fs ∨ ∃ a, x = .obj a ∧ μ a = some (.ins C fs)
theorem ins_of {K : PySem.W.Frag} {H : Hp} {μ : M} {v : V} {x : D} {C : Addr} {fs : List (Str × D)} (m : MR K H μ) (r : R K (hid H μ) v x) (h : insOf μ C fs x) : ∃ a dx fvs, v = .ref a ∧ H a = some (.ins C dx fvs) ∧ RF K (hid H μ) fvs fs := by
  rcases h with rfl | ⟨a, rfl, h⟩
  · cases r with
    | ins e rf => exact ⟨_, _, _, rfl, (hid_some.mp e).2, rf⟩
  · obtain ⟨dx, fvs, e, rf⟩ := m a _ h
    exact ⟨a, dx, fvs, r.obj_inv, e, rf⟩
theorem RF.none {K : PySem.W.Frag} {G : Hp} {k : Str} : ∀ {fvs : List (Str × V)} {fs : List (Str × D)}, RF K G fvs fs → fs.lookup k = none → fvs.lookup k = none
  | _, _, .nil, _ => rfl
  | _, _, .cons (k := k1) (vs := vs) (ds := ds) q r, h => by
    rw [List.lookup_cons] at h ⊢
    cases e : (k == k1) with
    | true =>
      rw [e] at h
      cases h
    | false =>
      rw [e] at h
      exact RF.none r h
/-- put a field -/
def putFD (f : Str) (d : D) : List (Str × D) → List (Str × D)
  | [] => [(f, d)]
  | (g, x) :: r => if g = f then (g, d) :: r else (g, x) :: putFD f d r
theorem RF.put {K : PySem.W.Frag} {G : Hp} {f : Str} {v : V} {d : D} (h : R K G v d) : ∀ {fvs : List (Str × V)} {fs : List (Str × D)}, RF K G fvs fs → RF K G (putF f v fvs) (putFD f d fs)
  | _, _, .nil => .cons h .nil
  | _, _, .cons (k := g) q r => by
    unfold putF putFD
    by_cases e : g = f
    · rw [if_pos e, if_pos e]
      exact .cons h r
    · rw [if_neg e, if_neg e]
      exact .cons q (r.put h)
theorem RF.length {K : PySem.W.Frag} {G : Hp} : ∀ {fvs : List (Str × V)} {fs : List (Str × D)}, RF K G fvs fs → fvs.length = fs.length
  | _, _, .nil => rfl
  | _, _, .cons _ r => congrArg (· + 1) r.length
/-- the classes whose instances have the field f -/
def Flds (K : PySem.W.Frag) (f : Str) (Cs : List Addr) : Prop := ∀ C ∈ Cs, Cls K C ∧ NoAttr K C f
def gFld (Cs : List Addr) (f : Str) : D → M → DK → Prop := fun x μ Q => ∃ C ∈ Cs, ∃ fs d, insOf μ C fs x ∧ fs.lookup f = some d ∧ Q d μ
def wFld (Cs : List Addr) (f : Str) (wo : DW) : DW := fun δ μ Q F => wo δ μ (fun x μ1 => gFld Cs f x μ1 Q) F
/-- o.f = value, o behind a handle -/
def wFst (Cs : List Addr) (f : Str) (wo wv : DW) : DS := fun D F δ μ => wv δ μ (fun y μ1 => wo δ μ1 (fun x μ2 => ∃ a, ∃ C ∈ Cs, ∃ fs, x = .obj a ∧ μ2 a = some (.ins C fs) ∧ fs.length < 1000 ∧ D.nx δ (mput μ2 a (.ins C (putFD f y fs)))) F) F
section
variable {X : Cx} {W : WX} {o value : Expr} {to tv : TE} {wo wv : DW} {f m : Str} {pos pos' apos p : Pos} {Cs : List Addr}
theorem pd_fld (hC : Flds X.K f Cs) (ho : PD X W o to wo) (hb : attributeBase o f X.env (eval o X.env) = eval o X.env := by rfl) : PD X W (.Attribute o f pos) (tFld X.K to f) (wFld Cs f wo) := by
  refine ⟨pe_fld ho.pe hb, fun σ δ H μ Q Qd F S q kQ kF => ho.le σ δ H μ _ _ F S q (fun v x H1 μ1 m1 r1 q1 => ?_) kF⟩
  obtain ⟨C, hc, fs, d, hi, hl, q1⟩ := q1
  obtain ⟨a, dx, fvs, ev, e, rf⟩ := ins_of m1.mr r1 hi
  obtain ⟨u, hu, ru⟩ := rf.val hl
  exact ⟨a, C, dx, fvs, u, ev, e, (hC C hc).1, (hC C hc).2, hu, kQ u d H1 μ1 m1 ru q1⟩
theorem pds_fst (hC : Flds X.K f Cs) (ho : PD X W o to wo) (hv : PD X W value tv wv) (hs : swapsWith value (some (.Attribute o f pos')) pos.line X.env = pure false := by rfl) : PDS X W (.Assign [.Attribute o f pos'] value pos) (sFld X.K to tv f) (wFst Cs f wo wv) := by
  refine ⟨ps_fld ho.pe hv.pe hs, fun G0 σ δ H μ D Dd F g S q k => hv.le σ δ H μ _ _ F S q (fun y dy H1 μ1 m1 r1 q1 => ?_) (k.ex1 g)⟩
  refine ho.le σ δ H1 μ1 _ _ F (S.step m1) q1 (fun x dx H2 μ2 m2 r2 q2 => ?_) ((k.ex1 g).step m1)
  obtain ⟨a, C, hc, fs, rfl, hm, hl, q2⟩ := q2
  obtain ⟨dx, fvs, e, rf⟩ := m2.mr a _ hm
  refine ⟨a, C, dx, fvs, r2.obj_inv, e, (hC C hc).1, (hC C hc).2, by rw [rf.length]; exact hl, ?_⟩
  have m3 : Mv X.K H2 μ2 (upd H2 a (.ins C dx (putF f y fvs))) (mput μ2 a (.ins C (putFD f dy fs))) :=
    Mv.put m2.mr (.inr ⟨_, hm⟩) fun sm eq => ⟨dx, _, upd_same, by rw [eq]; exact (rf.put (r1.mono m2.sm)).mono sm⟩
  exact k.nx σ δ _ _ (g.trans (m1.trans (m2.trans m3)).sm) (S.step (m1.trans (m2.trans m3))) q2
end
/-! ### methods -/
/-- the class at C has a method m that keeps this promise -/
structure MetD (P : Program) (w : World) (K : PySem.W.Frag) (mg : Str → Option Value) (base : Heap) (k : Nat) (C : Addr) (m : Str) (wp : DF) : Prop where
  cl : Cls K C
  ex : ∃ f, Meth K C m f ∧ FnD P w K mg base k f wp
theorem MetD.mono {P : Program} {w : World} {K : PySem.W.Frag} {mg : Str → Option Value} {base : Heap} {j k : Nat} {C : Addr} {m : Str} {wp : DF} (h : MetD P w K mg base j C m wp) (hk : j ≤ k) : MetD P w K mg base k C m wp :=
  ⟨h.cl, let ⟨f, a, b⟩ := h.ex; ⟨f, a, b.mono hk⟩⟩
def hMet (ms : List (Addr × DF)) (m : Str) (x : D) (μ : M) (k : DF → Prop) : Prop := ∃ p ∈ ms, ∃ fs, insOf μ p.1 fs x ∧ fs.lookup m = none ∧ k p.2
def wMet (ms : List (Addr × DF)) (m : Str) (wo : DW) (wa : DA) : DW := fun δ μ Q F => wo δ μ (fun x μ1 => hMet ms m x μ1 fun wp => wa δ μ1 (fun ds μ2 => wp (x :: ds) μ2 Q F) F) F
def tMetD (K : PySem.W.Frag) (W : WX) (ms : List (Addr × DF)) (m : Str) (to : TE) (ta : TA) : TE := fun σ H Q => to σ H fun x H1 => ∃ p ∈ ms, ∃ a dx fs, x = .ref a ∧ H1 a = some (.ins p.1 dx fs) ∧ fs.lookup m = none ∧ ta σ H1 fun vs H2 => spD K p.2 (x :: vs) H2 Q (WE W σ)
section
variable {X : Cx} {W : WX} {o e : Expr} {es : List Expr} {to : TE} {wo : DW} {ta : TA} {wa : DA} {m : Str} {pos apos : Pos} {j k : Nat} {ms : List (Addr × DF)}
theorem le_met {K : PySem.W.Frag} (ho : LE K W to wo) (ha : LA K W ta wa) : LE K W (tMetD K W ms m to ta) (wMet ms m wo wa) := fun σ δ H μ Q Qd F S q kQ kF => by
  refine ho σ δ H μ _ _ F S q (fun v x H1 μ1 m1 r1 q1 => ?_) kF
  obtain ⟨p, hp, fs, hi, hl, q1⟩ := q1
  obtain ⟨a, dx, fvs, ev, ea, rf⟩ := ins_of m1.mr r1 hi
  refine ⟨p, hp, a, dx, fvs, ev, ea, rf.none hl, ?_⟩
  refine ha σ δ H1 μ1 _ _ F (S.step m1) q1 (fun vs ds H2 μ2 m2 r2 q2 => ?_) (kF.step m1)
  exact ⟨x :: ds, μ2, Qd, F, .cons (r1.mono m2.sm) r2, m2.mr, q2, fun v d H' μ' mm r q' => kQ v d H' μ' (m1.trans (m2.trans mm)) r q', fun cls dd er H' μ' mm r f => kF cls dd er H' μ' (m1.trans (m2.trans mm)) r f⟩
theorem pd_met {pl : Sem Bool} (K : PySem.W.Frag) (hK : X.K = K) (c : Ct X W j) (hms : ∀ p ∈ ms, MetD X.prog X.w X.K X.mg X.base k p.1 m p.2) (ho : PD X W o to wo) (ha : PDA X W (e :: es) ta wa) (hk : k ≤ j := by decide)
    (hst : starEach (e :: es) X.env = (false, eval e X.env) :: starEach es X.env := by rfl) (hpl : (backTo pos (starEach es X.env)).any (·.1) = false := by rfl)
    (ht : eval (.Call (.Attribute o m apos) (e :: es) [] pos) X.env = (eval o X.env >>= fun ov => standAt apos.atName >>= fun _ => holding [ov] (getMethod ov m pl) >>= fun q => callWith pos q.1 q.2 (backTo pos (starEach (e :: es) X.env)) (backToKw pos (keywordEach [] X.env))) := by rfl) :
    PD X W (.Call (.Attribute o m apos) (e :: es) [] pos) (tMetD K W ms m to ta) (wMet ms m wo wa) := by
  subst hK
  refine ⟨⟨fun pins s σ H Q I h => ?_⟩, le_met ho.le ha.la⟩
  refine PySem.W.methodCall_KW (pl := pl) (thn (ho.pe.run pins s σ H _ I h) fun u s1 ⟨x, H1, I1, rx, p, hp, a, dx, fs, ex, ea, l, q⟩ => ?_) ht
  obtain ⟨cl, f, hm, F⟩ := (show Cls X.K p.1 ∧ _ from ⟨(hms p hp).cl, (hms p hp).ex⟩)
  subst ex
  cases (show u = Value.ref a from rx)
  refine getmeth_ok I1 ea cl hm l ?_
  refine PySem.W.callWith_K (first := [.ref a]) (h₀ := X.base) I.ok.mod.kin hm.kp (thn (ha.pa.run pos pins s1 σ H1 _ I1 q) fun us s2 ⟨vs, H2, I2, r, q2⟩ => ⟨I2.kIn, ?_⟩) hst hpl
  exact run_fnD (us := .ref a :: us) (vs := .ref a :: vs) F c.gd (c.hr.mono hk) (passAt c.tk σ) I2 (.cons rfl r) q2
theorem pd_met0 {pl : Sem Bool} (K : PySem.W.Frag) (hK : X.K = K) (c : Ct X W j) (hms : ∀ p ∈ ms, MetD X.prog X.w X.K X.mg X.base k p.1 m p.2) (ho : PD X W o to wo) (hk : k ≤ j := by decide)
    (ht : eval (.Call (.Attribute o m apos) [] [] pos) X.env = (eval o X.env >>= fun ov => standAt apos.atName >>= fun _ => holding [ov] (getMethod ov m pl) >>= fun q => callWith pos q.1 q.2 (backTo pos (starEach [] X.env)) (backToKw pos (keywordEach [] X.env))) := by rfl) :
    PD X W (.Call (.Attribute o m apos) [] [] pos) (tMetD K W ms m to tNil) (wMet ms m wo wNil) := by
  subst hK
  refine ⟨⟨fun pins s σ H Q I h => ?_⟩, le_met ho.le pda_nil.la⟩
  refine PySem.W.methodCall_KW (pl := pl) (thn (ho.pe.run pins s σ H _ I h) fun u s1 ⟨x, H1, I1, rx, p, hp, a, dx, fs, ex, ea, l, q⟩ => ?_) ht
  obtain ⟨cl, f, hm, F⟩ := (show Cls X.K p.1 ∧ _ from ⟨(hms p hp).cl, (hms p hp).ex⟩)
  subst ex
  cases (show u = Value.ref a from rx)
  refine getmeth_ok I1 ea cl hm l ?_
  exact PySem.W.callWith_K0 (first := [.ref a]) I1.kIn hm.kp (run_fnD (us := [.ref a]) (vs := [.ref a]) F c.gd (c.hr.mono hk) (passAt c.tk σ) I1 (.cons rfl .nil) q)
end
/-! ### C(..) -/
/-- x names the class at C, whose __init__ keeps this promise -/
structure MakD (P : Program) (w : World) (K : PySem.W.Frag) (mg : Str → Option Value) (base : Heap) (k : Nat) (x : Str) (C : Addr) (wp : DF) : Prop where
  gC : mg x = some (.ref C)
  ex : ∃ f, Mk K C f ∧ FnD P w K mg base k f wp
/-- the new instance is data from now on -/
def wMak (C : Addr) (wp : DF) (wa : DA) : DW := fun δ μ Q F => wa δ μ (fun ds μ1 => ∀ p, μ1 p = none → wp (.obj p :: ds) (mput μ1 p (.ins C [])) (fun d μ2 => d = .non ∧ ∃ fs, μ2 p = some (.ins C fs) ∧ Q (.ins C fs) (mdel μ2 p)) F) F
/-- the new instance stays behind its handle -/
def wMakM (C : Addr) (wp : DF) (wa : DA) : DW := fun δ μ Q F => wa δ μ (fun ds μ1 => ∀ p, μ1 p = none → wp (.obj p :: ds) (mput μ1 p (.ins C [])) (fun d μ2 => d = .non ∧ Q (.obj p) μ2) F) F
def tMakD (K : PySem.W.Frag) (W : WX) (C : Addr) (wp : DF) (ta : TA) : TE := fun σ H Q => ta σ H fun vs H1 => ∀ x dx, H1 x = none → H1 dx = none → dx ≠ x →
  spD K wp (.ref x :: vs) (upd (upd H1 dx (.own x)) x (.ins C dx [])) (fun v H2 => v = .non ∧ Q (.ref x) H2) (WE W σ)
section
variable {X : Cx} {W : WX} {x : Str} {e : Expr} {es : List Expr} {ta : TA} {wa : DA} {pos p : Pos} {j k : Nat} {C : Addr} {wp : DF}
theorem Mv.inst {K : PySem.W.Frag} {H : Hp} {μ : M} {x dx C : Addr} (m : MR K H μ) (hx : H x = none) (hd : H dx = none) (ne : dx ≠ x) : Mv K H μ (upd (upd H dx (.own x)) x (.ins C dx [])) (mput μ x (.ins C [])) := by
  have m1 := Mv.new (o := .own x) m hd
  exact m1.trans (Mv.put m1.mr (.inl (by rw [upd_ne (Ne.symm ne)]; exact hx)) fun _ _ => ⟨dx, [], upd_same, .nil⟩)
theorem le_mak {K : PySem.W.Frag} (ha : LA K W ta wa) : LE K W (tMakD K W C wp ta) (wMak C wp wa) := fun σ δ H μ Q Qd F S q kQ kF => by
  refine ha σ δ H μ _ _ F S q (fun vs ds H1 μ1 m1 r1 q1 y dy hy hdy ne => ?_) kF
  have mi := Mv.inst (C := C) m1.mr hy hdy ne
  refine ⟨.obj y :: ds, _, _, F, .cons (.obj y) (r1.mono mi.sm), mi.mr, q1 y (m1.mr.fresh hy), fun v d H' μ' mm r q' => ?_, fun cls dd er H' μ' mm r f => kF cls dd er H' μ' (m1.trans (mi.trans mm)) r f⟩
  obtain ⟨rfl, fs, hp, q'⟩ := q'
  obtain ⟨dz, fvs, ea, rf⟩ := mm.mr y _ hp
  have md := Mv.drop mm.mr y
  refine ⟨r.non_inv, kQ _ _ H' _ (m1.trans (mi.trans (mm.trans md))) (.ins (hid_some.mpr ⟨⟨mdel_same, rfl⟩, ea⟩) (rf.mono md.sm)) q'⟩
theorem le_makM {K : PySem.W.Frag} (ha : LA K W ta wa) : LE K W (tMakD K W C wp ta) (wMakM C wp wa) := fun σ δ H μ Q Qd F S q kQ kF => by
  refine ha σ δ H μ _ _ F S q (fun vs ds H1 μ1 m1 r1 q1 y dy hy hdy ne => ?_) kF
  have mi := Mv.inst (C := C) m1.mr hy hdy ne
  refine ⟨.obj y :: ds, _, _, F, .cons (.obj y) (r1.mono mi.sm), mi.mr, q1 y (m1.mr.fresh hy), fun v d H' μ' mm r q' => ?_, fun cls dd er H' μ' mm r f => kF cls dd er H' μ' (m1.trans (mi.trans mm)) r f⟩
  obtain ⟨rfl, q'⟩ := q'
  exact ⟨r.non_inv, kQ _ _ H' _ (m1.trans (mi.trans mm)) (.obj y) q'⟩
theorem run_mak {f : Addr} {pins : List (Addr × Obj)} {σ : St} {H : Hp} {s : Shared} {Q : VK} {us : List Value} {vs : List V} {E : St → XK} (M : Mk X.K C f) (F : FnD X.prog X.w X.K X.mg X.base k f wp) (gd : X.A.guards = some []) (hr : Room (k + 1) X.A) (hx : PassesAt (L2.CX X.prog X.w) X σ (E σ))
    (I : Inv X pins σ H s) (r : Vals vs us) (h : ∀ x dx, H x = none → H dx = none → dx ≠ x → spD X.K wp (.ref x :: vs) (upd (upd H dx (.own x)) x (.ins C dx [])) (fun v H2 => v = .non ∧ Q (.ref x) H2) (E σ)) :
    wpAny (model X.prog X.w) X.A (call (.ref C) us) (EP X pins σ Q) X.xe s := by
  have hq := h (s.heap.objs.size + 1) s.heap.objs.size (I.hok.fresh (Nat.le_succ _)) (I.hok.fresh (Nat.le_refl _)) (Nat.ne_of_lt (Nat.lt_succ_self _))
  have I2 := Inv.made (C := C) I
  refine wpAny_call (make_map (f := f) I.kIn M.makes M.init (beq_iff_eq.mp M.fn) (codeAny_mono (F _ X.stack _ _ (Value.ref (s.heap.objs.size + 1) :: us) (V.ref (s.heap.objs.size + 1) :: vs) _ (E σ) gd (hr.make C us []) (I2.env0.make C us []) (.cons rfl r) hq) fun r s' hq' => ?_))
  cases r with
  | error e => exact hx pins _ _ e s' I2 hq'
  | ok fl =>
    cases fl with
    | next => exact False.elim hq'
    | brk => exact False.elim hq'
    | cont => exact False.elim hq'
    | ret u =>
      obtain ⟨v, H', I3, rv, rfl, q3⟩ := I2.after hq'
      exact ⟨rv, ⟨V.ref (s.heap.objs.size + 1), H', I3, rfl, q3⟩⟩
theorem pe_mak (c : Ct X W j) (M : MakD X.prog X.w X.K X.mg X.base k x C wp) (ha : PA X (e :: es) ta) (hk : k + 1 ≤ j) (hg : Gl X x) (hdb : (x == ("__debug__" : Str)) = false) (he : starEach (e :: es) X.env = (false, eval e X.env) :: starEach es X.env) (hpl : (backTo pos (starEach es X.env)).any (·.1) = false) :
    PE X (.Call (.Name x p) (e :: es) [] pos) (tMakD X.K W C wp ta) := by
  refine ⟨fun pins s σ H Q I h => ?_⟩
  obtain ⟨f, hM, F⟩ := M.ex
  refine wpAny_Call_Name_kw (ld_glob I hg M.gC ?_ hdb)
  refine PySem.W.callWith_K (h₀ := X.base) I.ok.mod.kin hM.kp (thn (ha.run pos pins s σ H _ I h) fun us s1 ⟨vs, H1, I1, r, q⟩ => ⟨I1.kIn, ?_⟩) he hpl
  exact run_mak hM F c.gd (c.hr.mono hk) (passAt c.tk σ) I1 r q
theorem pd_mak (K : PySem.W.Frag) (hK : X.K = K) (c : Ct X W j) (M : MakD X.prog X.w X.K X.mg X.base k x C wp) (ha : PDA X W (e :: es) ta wa) (hk : k + 1 ≤ j := by decide) (hg : Gl X x := by rfl) (hdb : (x == ("__debug__" : Str)) = false := by decide)
    (he : starEach (e :: es) X.env = (false, eval e X.env) :: starEach es X.env := by rfl) (hpl : (backTo pos (starEach es X.env)).any (·.1) = false := by rfl) : PD X W (.Call (.Name x p) (e :: es) [] pos) (tMakD K W C wp ta) (wMak C wp wa) := by
  subst hK
  exact ⟨pe_mak c M ha.pa hk hg hdb he hpl, le_mak ha.la⟩
theorem pd_makM (K : PySem.W.Frag) (hK : X.K = K) (c : Ct X W j) (M : MakD X.prog X.w X.K X.mg X.base k x C wp) (ha : PDA X W (e :: es) ta wa) (hk : k + 1 ≤ j := by decide) (hg : Gl X x := by rfl) (hdb : (x == ("__debug__" : Str)) = false := by decide)
    (he : starEach (e :: es) X.env = (false, eval e X.env) :: starEach es X.env := by rfl) (hpl : (backTo pos (starEach es X.env)).any (·.1) = false := by rfl) : PD X W (.Call (.Name x p) (e :: es) [] pos) (tMakD K W C wp ta) (wMakM C wp wa) := by
  subst hK
  exact ⟨pe_mak c M ha.pa hk hg hdb he hpl, le_makM ha.la⟩
end
end DL

set_option maxHeartbeats 2000000
namespace DL
open PySem PySem.Spec PyProof.Rows L2
/-! ### a function object by its body -/
structure DefQ (K : PySem.W.Frag) (f : Addr) (x q : Str) (st : Stmt) : Prop where
  ex : ∃ (oc : Value) (od : Option Addr) (kV doc pm : Value) (an : Option Addr) (cdv ct : Value) (osl : Array (Option Value)),
    K.lookup f = some ⟨oc, od, .func (PySem.W.fnOf x q (defArgs st) (defBody st) (defScope st) .none kV doc pm an cdv ct), osl⟩ ∧ PySem.W.codeIn K cdv q = true
section
variable {P : Program} {w : World} {K : PySem.W.Frag} {mg : Str → Option Value} {base : Heap} {k : Nat} {wp : DF} {x q m : Str} {f C : Addr}
theorem fnD_of {st : Stmt} {N ps : List Str} {wb : DS} (D : DefQ K f x q st) (S : FnScope N ps (defScope st))
    (hb : ∀ (kV doc pm : Value) (an : Option Addr) (cdv ct : Value) (us : List Value), us.length = ps.length → bindArgs (PySem.W.fnOf x q (defArgs st) (defBody st) (defScope st) .none kV doc pm an cdv ct) ⟨us, []⟩ = pure (ps.zip us))
    (body : ∀ (cdv : Value) (A : Around) (outer : List Env) (s : Shared) (H : Hp) (E : XK), Ct (cxD P w K mg base N q (defScope st) f cdv A outer s H E) (WD E) k → ∃ t, PDB (cxD P w K mg base N q (defScope st) f cdv A outer s H E) (WD E) (defBody st) t wb)
    (h : ∀ ds μ Q F, wp ds μ Q F → ds.length = ps.length ∧ wb { nx := fun _ μ' => Q .non μ', rt := Q } F (dstart N ds) μ) : FnD P w K mg base (k + 1) f wp := by
  obtain ⟨oc, od, kV, doc, pm, an, cdv, ct, osl, lk, hcd⟩ := D.ex
  intro A outer s H us vs Q E hg hr e0 r sp
  obtain ⟨ds, μ, Qd, F, ra, mr, z, kQ, kF⟩ := sp
  obtain ⟨hl, z⟩ := h ds μ Qd F z
  have hv : vs.length = ps.length := by rw [ra.length, hl]
  refine LamX.run_ofS (N := N) (ps := ps) (us := us) (vs := vs) lk hcd S hr e0 (.of_eq (hb _ _ _ _ _ _ us (by rw [← r.length, hv]))) r hv fun hr' => ?_
  obtain ⟨t, hB⟩ := body cdv A outer s H E (ct_of S hg hr')
  refine ⟨t, hB.pss, hB.ls (hid H μ) _ _ H μ _ _ F (Same.refl _) (sd_start mr ra) z ⟨?_, ?_, ?_, ?_, ?_⟩⟩
  · exact fun σ δ H' μ' g S' q' => kQ .non .non H' μ' ⟨g, S'.mr⟩ .non q'
  · exact fun v d H' μ' g m r q' => kQ v d H' μ' ⟨g, m⟩ r q'
  · exact fun _ _ _ _ _ _ z => z
  · exact fun _ _ _ _ _ _ z => z
  · exact fun cls dd er σ H' μ' g m r f => kF cls dd er H' μ' ⟨g, m⟩ r f
theorem met_of (cl : Cls K C) (hm : Meth K C m f) (F : FnD P w K mg base k f wp) : MetD P w K mg base k C m wp := ⟨cl, f, hm, F⟩
theorem mak_of (gC : mg x = some (.ref C)) (hm : Mk K C f) (F : FnD P w K mg base k f wp) : MakD P w K mg base k x C wp := ⟨gC, f, hm, F⟩
end
section
open He
variable {fn : List He.DefD} {fb : List Fb} {tf : List Defn} {h : Heap} {K : PySem.W.Frag} {mg : Str → Option Value}
/-- the method m of the class x -/
abbrev dMet (x m q : Str) (st : Stmt) : He.DefD := ⟨(x, some m), m, q, defArgs st, defBody st, defScope st, [], []⟩
theorem SaysL.metQ (c : SaysL fn fb tf h K) (i : Nat) {x m q : Str} {st : Stmt} (e : fn[i]? = some (dMet x m q st) := by rfl) : DefQ K (ma K (ga K x) m) m q st := by
  obtain ⟨fd, oc, od, dV, kV, doc, pm, an, cdv, ct, osl, rfl, lk, hc, hd, _⟩ : ∃ fd, _ := let ⟨fd, F⟩ := c.d i e; ⟨fd, F.ex⟩
  obtain ⟨_, rfl⟩ : True ∧ dV = .none := by
    rcases hd with ⟨_, z⟩ | ⟨z, _⟩
    · exact ⟨trivial, z⟩
    · exact absurd rfl z
  exact ⟨oc, od, kV, doc, pm, an, cdv, ct, osl, lk, hc⟩
theorem SaysL.cls (c : SaysL fn fb tf h K) (j : Nat) {x : Str} (e2 : fb[j]? = some (.a (.cls x)) := by rfl) : Cls K (ga K x) := cls_ok (c.f j e2)
theorem SaysL.meth (c : SaysL fn fb tf h K) (j : Nat) {x m : Str} (e2 : fb[j]? = some (.a (.meth x m)) := by rfl) : Meth K (ga K x) m (ma K (ga K x) m) := meth_ok (c.f j e2)
theorem SaysL.mkr (c : SaysL fn fb tf h K) (j : Nat) {x : Str} (e2 : fb[j]? = some (.a (.mkr x)) := by rfl) : Mk K (ga K x) (ma K (ga K x) "__init__") := mkr_ok (c.f j e2)
end
/-! ### [e for t in it if c] -/
def wYes : DT := fun _ μ Q _ => Q true μ
structure PDTs (X : Cx) (W : WX) (ifs : List Expr) (t : TT) (w : DT) : Prop where
  pt : PTs X ifs t
  lt : LT X.K W t w
section
variable {X : Cx} {W : WX} {c : Expr} {t : TT} {w : DT}
theorem pdts_nil : PDTs X W [] tYes wYes := ⟨pts_nil, fun σ δ H μ Q Qd F S q k _ => k true H μ (.refl S.mr) q⟩
theorem pdts_one (h : PDT X W c t w) : PDTs X W [c] t w := ⟨pts_one h.pt, h.lt⟩
end
def wipeD (δ : DSt) : List Nat → DSt
  | [] => δ
  | v :: vs => (wipeD δ vs).set v none
theorem SD.wipe {K : PySem.W.Frag} {σ : St} {δ : DSt} {H : Hp} {μ : M} (s : SD K σ δ H μ) : ∀ vs : List Nat, SD K (L2.wipe σ vs) (wipeD δ vs) H μ
  | [] => s
  | v :: vs => (s.wipe vs).unset v
def FF : FK := fun _ _ => False
def wCmp (Gd : M → Prop) (tg : DG) (tt : DT) (we : DW) (p : Addr) (δ : DSt) : List D → List D → M → DK → Prop
  | [], acc, μ, Q => Gd μ ∧ μ p = some (.lst acc) ∧ Q (.lst acc) (mdel μ p)
  | d :: ds, acc, μ, Q => Gd μ ∧ tg d δ μ fun δ1 μ1 => tt δ1 μ1 (fun b μ2 => if b = true then we δ1 μ2 (fun y μ3 => μ3 p = some (.lst acc) ∧ acc.length < 1000000 ∧ wCmp Gd tg tt we p δ ds (acc ++ [y]) (mput μ3 p (.lst (acc ++ [y]))) Q) FF else wCmp Gd tg tt we p δ ds acc μ2 Q) FF
theorem wCmp_g {Gd : M → Prop} {tg : DG} {tt : DT} {we : DW} {p : Addr} {δ : DSt} {ds acc : List D} {μ : M} {Q : DK} (h : wCmp Gd tg tt we p δ ds acc μ Q) : Gd μ := by
  cases ds <;> exact h.1
def wLc (wi : DI) (tg : DG) (tt : DT) (we : DW) (vs : List Nat) : DW := fun δ μ Q F => wi δ μ (fun ds Gd μ1 => ∀ p, μ1 p = none → wCmp Gd tg tt we p (wipeD δ vs) ds [] (mput μ1 p (.lst [])) Q) F
/-- the same, the new list stays behind its handle -/
def wCmpM (Gd : M → Prop) (tg : DG) (tt : DT) (we : DW) (p : Addr) (δ : DSt) : List D → List D → M → DK → Prop
  | [], acc, μ, Q => Gd μ ∧ μ p = some (.lst acc) ∧ Q (.obj p) μ
  | d :: ds, acc, μ, Q => Gd μ ∧ tg d δ μ fun δ1 μ1 => tt δ1 μ1 (fun b μ2 => if b = true then we δ1 μ2 (fun y μ3 => μ3 p = some (.lst acc) ∧ acc.length < 1000000 ∧ wCmpM Gd tg tt we p δ ds (acc ++ [y]) (mput μ3 p (.lst (acc ++ [y]))) Q) FF else wCmpM Gd tg tt we p δ ds acc μ2 Q) FF
theorem wCmpM_g {Gd : M → Prop} {tg : DG} {tt : DT} {we : DW} {p : Addr} {δ : DSt} {ds acc : List D} {μ : M} {Q : DK} (h : wCmpM Gd tg tt we p δ ds acc μ Q) : Gd μ := by
  cases ds <;> exact h.1
def wLcM (wi : DI) (tg : DG) (tt : DT) (we : DW) (vs : List Nat) : DW := fun δ μ Q F => wi δ μ (fun ds Gd μ1 => ∀ p, μ1 p = none → wCmpM Gd tg tt we p (wipeD δ vs) ds [] (mput μ1 p (.lst [])) Q) F
theorem wipe_but {sl : List Nat} {σ σ' : St} (b : But sl σ σ') : ∀ {vs : List Nat}, (∀ i, i ∈ sl → i ∈ vs) → L2.wipe σ' vs = L2.wipe σ vs := by
  intro vs hs
  have hl := b.2
  apply List.ext_getElem?
  intro i
  have key : ∀ (τ : St) (vs : List Nat) (i : Nat), i < τ.length → (L2.wipe τ vs)[i]? = if i ∈ vs then some none else τ[i]? := by
    intro τ vs
    induction vs with
    | nil => intro i _; simp [L2.wipe]
    | cons v vs ih =>
      intro i hi
      unfold L2.wipe
      by_cases e : v = i
      · subst e
        rw [List.getElem?_set_self (by rw [L2.wipe_length]; exact hi)]
        simp
      · rw [List.getElem?_set_ne e, ih i hi]
        have : i ≠ v := fun z => e z.symm
        simp [this]
  by_cases hi : i < σ.length
  · rw [key σ' vs i (by rw [hl]; exact hi), key σ vs i hi]
    by_cases hv : i ∈ vs
    · rw [if_pos hv, if_pos hv]
    · rw [if_neg hv, if_neg hv]
      exact b.1 i fun z => hv (hs i z)
  · rw [List.getElem?_eq_none (by rw [L2.wipe_length, hl]; omega), List.getElem?_eq_none (by rw [L2.wipe_length]; omega)]
theorem wipe_at (τ : St) : ∀ (vs : List Nat) (i : Nat), i < τ.length → (L2.wipe τ vs)[i]? = if i ∈ vs then some none else τ[i]? := by
  intro vs
  induction vs with
  | nil => intro i _; simp [L2.wipe]
  | cons v vs ih =>
    intro i hi
    unfold L2.wipe
    by_cases e : v = i
    · subst e
      rw [List.getElem?_set_self (by rw [L2.wipe_length]; exact hi)]
      simp
    · rw [List.getElem?_set_ne e, ih i hi]
      have : i ≠ v := fun z => e z.symm
      simp [this]
theorem wipe_twice (σ : St) (vs : List Nat) : L2.wipe (L2.wipe σ vs) vs = L2.wipe σ vs := by
  apply List.ext_getElem?
  intro i
  by_cases hi : i < σ.length
  · rw [wipe_at _ vs i (by rw [L2.wipe_length]; exact hi), wipe_at σ vs i hi]
    by_cases hv : i ∈ vs
    · rw [if_pos hv, if_pos hv]
    · rw [if_neg hv, if_neg hv]
  · rw [List.getElem?_eq_none (by rw [L2.wipe_length, L2.wipe_length]; omega), List.getElem?_eq_none (by rw [L2.wipe_length]; omega)]
theorem ex_ff {K : PySem.W.Frag} {W : WX} {σ : St} {H : Hp} {μ : M} : Ex1 K W σ H μ FF := fun _ _ _ _ _ _ _ z => False.elim z
section
variable {X : Cx} {W : WX} {elt tg iter : Expr} {ifs : List Expr} {scope : Scope} {pos : Pos} {wi : TI} {di : DI} {g : TG} {dg : DG} {sl vs : List Nat} {tt : TT} {dt : DT} {te : TE} {de : DW}
theorem le_lc {K : PySem.W.Frag} (hi : LI K W wi di) (hg : LG K g dg sl) (ht : LT K W0 tt dt) (he : LE K W0 te de) (hsl : ∀ i, i ∈ sl → i ∈ vs) : LE K W (tLc wi g tt te vs) (wLc di dg dt de vs) := by
  intro σ δ H μ Q Qd F S q kQ kF
  refine hi σ δ H μ _ _ F S q (fun J ds Gd H1 μ1 m1 it q1 => ?_) kF
  obtain ⟨G, Y, wk, gG, gY⟩ := it
  intro A hA
  have mp := Mv.newL m1.mr hA (ds := []) (vs := []) .nil
  refine lc_it wk (fun i H' => ∃ μ' acc, Same (hid H1 μ1) (hid H' μ') ∧ MR K H' μ' ∧ wCmp Gd dg dt de A (wipeD δ vs) (ds.drop i) acc μ' Qd) ⟨_, [], mp.sm, mp.mr, q1 A (m1.mr.fresh hA)⟩ ?_ ?_ ?_
  · rintro i H' _ ⟨μ', acc, sm, mr, q'⟩
    exact gG H' μ' sm mr (wCmp_g q')
  · rintro i x H' H2 hi' ⟨μ', acc, sm, mr, q'⟩ y
    obtain ⟨d, e1, m2, r2⟩ := gY i x H' μ' H2 hi' sm mr (wCmp_g q') y
    have ed : ds.drop i = d :: ds.drop (i + 1) := by
      obtain ⟨h1, h2⟩ := List.getElem?_eq_some_iff.mp e1
      rw [List.drop_eq_getElem_cons h1, h2]
    rw [ed] at q'
    have S2 := (S.step (m1.trans (Mv.trans ⟨sm, mr⟩ m2))).wipe vs
    refine hg _ _ H2 μ' x d _ _ S2 r2 q'.2 fun σ3 δ3 H3 μ3 m3 S3 bt q3 => ⟨(wipe_but bt hsl).trans (wipe_twice _ _), ?_⟩
    have sm3 : Same (hid H1 μ1) (hid H3 μ3) := sm.trans (m2.sm.trans m3)
    refine ht σ3 δ3 H3 μ3 _ _ FF S3 q3 (fun b H4 μ4 m4 q4 => ?_) ex_ff
    cases b with
    | false => exact ⟨μ4, acc, sm3.trans m4.sm, m4.mr, q4⟩
    | true =>
      refine he σ3 δ3 H4 μ4 _ _ FF (S3.step m4) q4 (fun v dv H5 μ5 m5 r5 q5 => ?_) ex_ff
      obtain ⟨hp, hl, q5⟩ := q5
      obtain ⟨ws, ew, ra⟩ := m5.mr A _ hp
      have m6 : Mv K H5 μ5 (upd H5 A (.lst (ws ++ [v]))) (mput μ5 A (.lst (acc ++ [dv]))) := Mv.put m5.mr (.inr ⟨_, hp⟩) fun s6 eq => ⟨_, upd_same, by rw [eq]; exact (ra.append (.cons r5 .nil)).mono s6⟩
      exact ⟨ws, ew, Nat.lt_of_lt_of_le (by rw [ra.length]; exact hl) (sz_ok (Nat.le_refl _)), _, _, sm3.trans (m4.sm.trans (m5.sm.trans m6.sm)), m6.mr, q5⟩
  · rintro H' ⟨μ', acc, sm, mr, q'⟩
    rw [List.drop_length] at q'
    obtain ⟨_, hp, q'⟩ := q'
    obtain ⟨ws, ew, ra⟩ := mr A _ hp
    have md := Mv.drop mr A
    exact kQ _ _ H' _ (m1.trans (Mv.trans ⟨sm, mr⟩ md)) (.lst (hid_some.mpr ⟨⟨mdel_same, rfl⟩, ew⟩) (ra.mono md.sm)) q'
theorem le_lcM {K : PySem.W.Frag} (hi : LI K W wi di) (hg : LG K g dg sl) (ht : LT K W0 tt dt) (he : LE K W0 te de) (hsl : ∀ i, i ∈ sl → i ∈ vs) : LE K W (tLc wi g tt te vs) (wLcM di dg dt de vs) := by
  intro σ δ H μ Q Qd F S q kQ kF
  refine hi σ δ H μ _ _ F S q (fun J ds Gd H1 μ1 m1 it q1 => ?_) kF
  obtain ⟨G, Y, wk, gG, gY⟩ := it
  intro A hA
  have mp := Mv.newL m1.mr hA (ds := []) (vs := []) .nil
  refine lc_it wk (fun i H' => ∃ μ' acc, Same (hid H1 μ1) (hid H' μ') ∧ MR K H' μ' ∧ wCmpM Gd dg dt de A (wipeD δ vs) (ds.drop i) acc μ' Qd) ⟨_, [], mp.sm, mp.mr, q1 A (m1.mr.fresh hA)⟩ ?_ ?_ ?_
  · rintro i H' _ ⟨μ', acc, sm, mr, q'⟩
    exact gG H' μ' sm mr (wCmpM_g q')
  · rintro i x H' H2 hi' ⟨μ', acc, sm, mr, q'⟩ y
    obtain ⟨d, e1, m2, r2⟩ := gY i x H' μ' H2 hi' sm mr (wCmpM_g q') y
    have ed : ds.drop i = d :: ds.drop (i + 1) := by
      obtain ⟨h1, h2⟩ := List.getElem?_eq_some_iff.mp e1
      rw [List.drop_eq_getElem_cons h1, h2]
    rw [ed] at q'
    have S2 := (S.step (m1.trans (Mv.trans ⟨sm, mr⟩ m2))).wipe vs
    refine hg _ _ H2 μ' x d _ _ S2 r2 q'.2 fun σ3 δ3 H3 μ3 m3 S3 bt q3 => ⟨(wipe_but bt hsl).trans (wipe_twice _ _), ?_⟩
    have sm3 : Same (hid H1 μ1) (hid H3 μ3) := sm.trans (m2.sm.trans m3)
    refine ht σ3 δ3 H3 μ3 _ _ FF S3 q3 (fun b H4 μ4 m4 q4 => ?_) ex_ff
    cases b with
    | false => exact ⟨μ4, acc, sm3.trans m4.sm, m4.mr, q4⟩
    | true =>
      refine he σ3 δ3 H4 μ4 _ _ FF (S3.step m4) q4 (fun v dv H5 μ5 m5 r5 q5 => ?_) ex_ff
      obtain ⟨hp, hl, q5⟩ := q5
      obtain ⟨ws, ew, ra⟩ := m5.mr A _ hp
      have m6 : Mv K H5 μ5 (upd H5 A (.lst (ws ++ [v]))) (mput μ5 A (.lst (acc ++ [dv]))) := Mv.put m5.mr (.inr ⟨_, hp⟩) fun s6 eq => ⟨_, upd_same, by rw [eq]; exact (ra.append (.cons r5 .nil)).mono s6⟩
      exact ⟨ws, ew, Nat.lt_of_lt_of_le (by rw [ra.length]; exact hl) (sz_ok (Nat.le_refl _)), _, _, sm3.trans (m4.sm.trans (m5.sm.trans m6.sm)), m6.mr, q5⟩
  · rintro H' ⟨μ', acc, sm, mr, q'⟩
    rw [List.drop_length] at q'
    exact kQ _ _ H' _ (m1.trans ⟨sm, mr⟩) (.obj A) q'.2.2
/-- what a block's surroundings are -/
theorem Ct.blk {k : Nat} (c : Ct X W k) {s : Shared} {H : Hp} {cenv : Env} {fp : List Addr} : Ct (X.blk s H scope cenv fp) W0 k := ⟨fun _ _ z => by obtain ⟨_, _, _, _, _, _, _, _, _, _, _, _, _, _, _, _, z⟩ := z; exact z.elim, c.gd, c.hr, c.calm, c.sk⟩
theorem pd_lc {k : Nat} {own : List (Str × Nat)} (c : Ct X W k) (hN : X.N.Nodup) (hi : PDI X W tg iter wi di) (ok : BlkOk X.N X.env.scope scope own)
    (hg : ∀ (s : Shared) (H : Hp) (C : Addr) (cl : List (Str × Addr)) (fp : List Addr), PDG (X.blk s H scope (compEnvC scope cl C X.env) fp) tg g dg sl)
    (ht : ∀ (s : Shared) (H : Hp) (C : Addr) (cl : List (Str × Addr)) (fp : List Addr), Ct (X.blk s H scope (compEnvC scope cl C X.env) fp) W0 k → PDTs (X.blk s H scope (compEnvC scope cl C X.env) fp) W0 ifs tt dt)
    (he : ∀ (s : Shared) (H : Hp) (C : Addr) (cl : List (Str × Addr)) (fp : List Addr), Ct (X.blk s H scope (compEnvC scope cl C X.env) fp) W0 k → PD (X.blk s H scope (compEnvC scope cl C X.env) fp) W0 elt te de)
    (hsl : ∀ i, i ∈ sl → i ∈ own.map (·.2) := by decide) (hs : ∀ x, foldedSetIterable iter X.env x = pure x := by intro _; rfl) :
    PD X W (.ListComp elt [⟨tg, iter, ifs, 0⟩] scope pos) (tLc wi g tt te (own.map (·.2))) (wLc di dg dt de (own.map (·.2))) :=
  ⟨pe_lc c.calm hN hi.pi ok (fun s H C cl fp => (hg s H C cl fp).pg) (fun s H C cl fp => (ht s H C cl fp c.blk).pt) (fun s H C cl fp => (he s H C cl fp c.blk).pe) hs,
    le_lc hi.li (hg X.s_0 X.H_0 0 [] []).lg (ht X.s_0 X.H_0 0 [] [] c.blk).lt (he X.s_0 X.H_0 0 [] [] c.blk).le hsl⟩
theorem pd_lcM {k : Nat} {own : List (Str × Nat)} (c : Ct X W k) (hN : X.N.Nodup) (hi : PDI X W tg iter wi di) (ok : BlkOk X.N X.env.scope scope own)
    (hg : ∀ (s : Shared) (H : Hp) (C : Addr) (cl : List (Str × Addr)) (fp : List Addr), PDG (X.blk s H scope (compEnvC scope cl C X.env) fp) tg g dg sl)
    (ht : ∀ (s : Shared) (H : Hp) (C : Addr) (cl : List (Str × Addr)) (fp : List Addr), Ct (X.blk s H scope (compEnvC scope cl C X.env) fp) W0 k → PDTs (X.blk s H scope (compEnvC scope cl C X.env) fp) W0 ifs tt dt)
    (he : ∀ (s : Shared) (H : Hp) (C : Addr) (cl : List (Str × Addr)) (fp : List Addr), Ct (X.blk s H scope (compEnvC scope cl C X.env) fp) W0 k → PD (X.blk s H scope (compEnvC scope cl C X.env) fp) W0 elt te de)
    (hsl : ∀ i, i ∈ sl → i ∈ own.map (·.2) := by decide) (hs : ∀ x, foldedSetIterable iter X.env x = pure x := by intro _; rfl) :
    PD X W (.ListComp elt [⟨tg, iter, ifs, 0⟩] scope pos) (tLc wi g tt te (own.map (·.2))) (wLcM di dg dt de (own.map (·.2))) :=
  ⟨pe_lc c.calm hN hi.pi ok (fun s H C cl fp => (hg s H C cl fp).pg) (fun s H C cl fp => (ht s H C cl fp c.blk).pt) (fun s H C cl fp => (he s H C cl fp c.blk).pe) hs,
    le_lcM hi.li (hg X.s_0 X.H_0 0 [] []).lg (ht X.s_0 X.H_0 0 [] [] c.blk).lt (he X.s_0 X.H_0 0 [] [] c.blk).le hsl⟩
end
end DL

set_option maxHeartbeats 2000000
namespace DL
open PySem PySem.Spec PyProof.Rows L2
/-! ### enumerate of a tuple -/
section
open PySem.AutoSeq1 (wpAny_loadPart')
theorem enum_newT (l : Addr) (items : Array Value) :
    Meets (Builtin.«enumerate.__new__» ⟨[.type "enumerate", .ref l], []⟩) (fun _ R s => s.heap.IsTuple l items ∧
      R (.ok (.ret (.ref (s.heap.push { cls := .type "tuple_iterator", data := .fields #[.ref l, .int 0 0] }).objs.size)))
        { s with heap := (s.heap.push { cls := .type "tuple_iterator", data := .fields #[.ref l, .int 0 0] }).push { cls := .type "enumerate", data := .fields #[.none, .bool false, .ref s.heap.objs.size, rawInt 0, .none, .none] } }) :=
  .of_wp fun prog w A R s z => by
    obtain ⟨hp, gs, dr, tk, os⟩ := s
    obtain ⟨hT, z⟩ := z
    have hsub := sub_enumerate
    have it : ∀ {A' : Around} {E : Value → Shared → Prop} {Q : Value → Shared → Prop}, Q (.ref hp.objs.size) ⟨hp.push { cls := .type "tuple_iterator", data := .fields #[.ref l, .int 0 0] }, gs, dr, tk, os⟩ → wpAny (model prog w) A' (pyIter (.ref l)) Q E ⟨hp, gs, dr, tk, os⟩ :=
      fun q => wpAny_pyIter_tuple hT q
    wp_walk using it
    refine wpAny_stack_any fun st => wpAny_pure ?_
    split
    · rename_i c0 _ _ _ _ _
      cases (c0 == Value.type "enumerate") <;> (wp_walk using it; exact ⟨_, rfl, z⟩)
    · wp_walk using it
      exact ⟨_, rfl, z⟩
theorem enum_callT {prog : Program} {w : World} {A : Around} {E : Value → Shared → Prop} {s : Shared} {l : Addr} {items : Array Value} {Q : Value → Shared → Prop} (hT : s.heap.IsTuple l items)
    (k : ∀ h', IsEnum h' (s.heap.objs.size + 1) s.heap.objs.size 0 .none → h'.IsTupleIter s.heap.objs.size l 0 → h'.objs.size = s.heap.objs.size + 2 → (∀ b o, s.heap.get? b = some o → h'.get? b = some o) → Q (.ref (s.heap.objs.size + 1)) { s with heap := h' }) :
    wpAny (model prog w) A (call (.type "enumerate") [.ref l]) Q E s := by
  have sz : (s.heap.push { cls := .type "tuple_iterator", data := .fields #[.ref l, .int 0 0] }).objs.size = s.heap.objs.size + 1 := Heap.size_push ..
  refine callType_new F.called_enumerate (by decide) (F.typeCall_enumerate_1 _) (F.newCall_enumerate_1 _) (fun obj => F.args_object_init_2 obj _) F.entry_enumerate_new (enum_newT l items) ⟨hT, ?_⟩
  have e1 : IsEnum ((s.heap.push { cls := .type "tuple_iterator", data := .fields #[.ref l, .int 0 0] }).push { cls := .type "enumerate", data := .fields #[.none, .bool false, .ref s.heap.objs.size, rawInt 0, .none, .none] }) (s.heap.objs.size + 1) s.heap.objs.size 0 .none := by
    rw [← sz]
    exact Heap.get?_push_size _ rfl
  rw [sz]
  refine ⟨⟨_, e1, rfl⟩, k _ e1 ⟨_, Heap.get?_push_of_some _ (Heap.get?_push_size _ rfl), rfl, rfl⟩ (by rw [Heap.size_push, sz]) fun b o z => Heap.get?_push_of_some _ (Heap.get?_push_of_some _ z)⟩
end
def IteT (K : PySem.W.Frag) (a : Addr) : It :=
  ⟨fun i H => ∃ (xs : List V) (x : V), SqT K H a xs ∧ xs[i]? = some x, fun i H v H' => ∃ T x, v = .ref T ∧ H T = none ∧ H' = upd H T (.tup [.int (i : Nat), x]) ∧ ∀ xs, SqT K H a xs → xs[i]? = some x, fun i H => ∃ xs : List V, SqT K H a xs ∧ xs.length ≤ i⟩
theorem turn_enumT {P : Program} {w : World} {K : PySem.W.Frag} {elts : List Expr} {kk : Nat} {tpos : Pos} {a e it : Addr} (n1 : e ≠ it) (n2 : a ≠ it) (n3 : a ≠ e) :
    Turn P w K (.Tuple elts kk tpos) (IteT K a) [e, it] e (fun i h => (∃ old, IsEnum h e it ((i : Nat) : Int) old) ∧ h.IsTupleIter it a i) where
  mem := by simp
  obj := fun i h ⟨⟨old, he⟩, o, ho, hc, hd⟩ b hb => by
    rcases (show b = e ∨ b = it by simpa using hb) with rfl | rfl
    · exact ⟨_, he, nofun⟩
    · exact ⟨o, ho, fun v q => by rw [hd] at q; cases q⟩
  keep := fun i h h' ⟨⟨old, he⟩, hi⟩ k => ⟨⟨old, k e (by simp) _ he⟩, hi.at fun o q => k it (by simp) o q⟩
  item := by
    intro X hP hw hK hc i pins s σ H E I hf ⟨⟨old, he⟩, hit⟩ ⟨xs, x, hq, hx⟩
    subst hP hw hK
    obtain ⟨its, rv, p, hz⟩ := I.tuple hq
    obtain ⟨u, hu, ru⟩ := rv.get hx
    have pT : s.heap.IsTuple a its.toArray := p
    have el : e < s.heap.objs.size := Heap.lt_size he
    have il : it < s.heap.objs.size := by obtain ⟨_, q, _⟩ := hit; exact Heap.lt_size q
    have hlt : i < its.toArray.size := by
      obtain ⟨z, _⟩ := List.getElem?_eq_some_iff.mp hu
      simpa using z
    refine wpAny_pyNext_enum_itemD (Draws.tuple (A := X.A.in1) (show X.A.in1.handled = none from I.ok.hd hc) it a n2 its.toArray) he ⟨hit, pT⟩ hlt n1 (by simp [n1, Ne.symm n3]) fun y h' tk hy ho st' hT sz hk => ?_
    have eu : y = u := by
      have : its[i]? = some y := by simpa using hy
      rw [hu] at this
      exact (Option.some.inj this).symm
    subst eu
    refine ⟨_, rfl, wpAny_letOwnedTupleGo_enum (s := { s with heap := h', toks := tk + 1 }) ho fun h'' he' sb => ?_⟩
    have hT2 : h''.get? s.heap.objs.size = some { cls := .type "tuple", data := .seq #[.int i tk, y] } := (sb.2 _ (Nat.ne_of_gt el)).trans hT
    have new : ObjOk X.prog X.w (upd H s.heap.objs.size (.tup [.int (i : Nat), x])) h'' s.heap.objs.size (.tup [.int (i : Nat), x]) := ⟨by show 2 ≤ sizeLine; decide, [.int i tk, y], .cons ⟨_, rfl⟩ (.cons ru .nil), ⟨_, hT2, rfl, _, rfl⟩⟩
    have I1 : Inv X pins σ (upd H s.heap.objs.size (.tup [.int (i : Nat), x])) { s with heap := h'', toks := tk + 1 } :=
      I.turnedNew (ch := [e, it]) (fun b ob hb q => (sb.2 b (fun z => hb (by simp [z]))).trans (hk b ob (fun z => hb (by simp [z])) (fun z => hb (by simp [z])) q)) hf (Nat.le_refl _) new
    refine ⟨.ref s.heap.objs.size, _, I1, rfl, ⟨_, x, rfl, I.hok.fresh (Nat.le_refl _), rfl, fun ys hy => by rw [I.tuple_inj hy hq]; exact hx⟩, ⟨⟨y, ?_⟩, st'.1.at fun o q => (sb.2 it (Ne.symm n1)).trans q⟩, fun b hb => ?_⟩
    · rw [show ((i + 1 : Nat) : Int) = (i : Int) + 1 by omega]
      exact he'
    · have hb' : b < s.heap.objs.size := by rcases (show b = e ∨ b = it by simpa using hb) with rfl | rfl <;> assumption
      rw [upd_ne (Nat.ne_of_lt hb')]
      exact (hf b hb).1
  done := by
    intro X hP hw hK hc i pins s σ H E I hf ⟨⟨old, he⟩, hit⟩ ⟨xs, hq, hx⟩
    subst hP hw hK
    obtain ⟨its, rv, p, hz⟩ := I.tuple hq
    obtain ⟨f0, f1, f2, f3, f4, f5⟩ := hf it (by simp)
    have pT : s.heap.IsTuple a its.toArray := p
    have hl := rv.length
    have no : its.toArray[i]? = none := by simp; omega
    have D : Draws X.prog X.w X.A.in1 it [it, a] i (fun _ _ => True) (fun j h => j = i ∧ h.IsTupleIter it a i ∧ h.IsTuple a its.toArray) :=
      ⟨fun _ _ st => let ⟨o, ho, _⟩ := st.2.1; ⟨o, ho⟩, fun _ _ _ st hk => ⟨st.1, st.2.1.at fun o e => hk it (by simp) o e, st.2.2.at fun o e => hk a (by simp) o e⟩, fun j _ _ _ hj st _ => absurd st.1 (by omega),
        fun s1 Q1 E1 st hE => RZ.nextOf_tuple_end (show X.A.in1.handled = none from I.ok.hd hc) st.2.1 st.2.2 no hE⟩
    exact wpAny_pyNext_enum_endD D he ⟨rfl, hit, pT⟩ fun h' eb => ⟨rfl, I.turned (t' := s.toks) (fun b o hb q => eb b o hb q) f0 f1 f3 f4 f5⟩
  self := fun A i s Q E st h => let ⟨⟨_, he⟩, _⟩ := st; wpAny_pyIter_enum he h
def iEnumA (K : PySem.W.Frag) (ta : TA) : TI := fun σ H R => ta σ H fun vs H1 => ∃ a xs, vs = [.ref a] ∧ ((SqL K H1 a xs ∧ R (Ite K a) H1) ∨ (SqT K H1 a xs ∧ R (IteT K a) H1))
theorem pi_enumA {X : Cx} {e : Expr} {ta : TA} {p pos tpos : Pos} {elts : List Expr} {kk : Nat} (hg : Gl X "enumerate") (hm : X.mg "enumerate" = none) (ha : PA X [e] ta) (hs : starEach [e] X.env = [(false, eval e X.env)]) : PI X (.Tuple elts kk tpos) (.Call (.Name "enumerate" p) [e] [] pos) (iEnumA X.K ta) := by
  refine ⟨fun pins s σ H R I h => ?_⟩
  refine Call_ (ld_blt I hg hm boot_enumerate (PyProof.Rows.callWith_type1 (thn (ha.run pos pins s σ H _ I h) fun us s1 ⟨vs, H1, I1, r1, q1⟩ => ?_) hs rfl))
  obtain ⟨a, xs, rfl, q⟩ := q1
  obtain ⟨u, rfl, ru⟩ := vals1 r1
  cases (show u = Value.ref a from ru)
  have fp : ∀ b ∈ [s1.heap.objs.size + 1, s1.heap.objs.size], FpOk X pins H1 b := fun b hb => by
    have hle : s1.heap.objs.size ≤ b := by rcases (show b = s1.heap.objs.size + 1 ∨ b = s1.heap.objs.size by simpa using hb) with rfl | rfl <;> omega
    exact I1.fpOk hle (I1.hok.fresh hle)
  rcases q with ⟨hq, q⟩ | ⟨hq, q⟩
  · obtain ⟨its, rv, pl, hz⟩ := I1.list hq
    refine call_enumerate_list pl.isList fun h' he hit hsz hk => wpAny_pyIter_enum he ?_
    exact ⟨_, [s1.heap.objs.size + 1, s1.heap.objs.size], _, _, H1, rfl, I1.kept (t' := s1.toks) hk, turn_enum a _ _, ⟨⟨.none, he⟩, hit, Nat.succ_ne_self _⟩, fp, q⟩
  · obtain ⟨its, rv, pl, hz⟩ := I1.tuple hq
    have pT : s1.heap.IsTuple a its.toArray := pl
    have al : a < s1.heap.objs.size := by obtain ⟨_, z, _⟩ := pT; exact Heap.lt_size z
    refine enum_callT pT fun h' he hit hsz hk => wpAny_pyIter_enum he ?_
    exact ⟨_, [s1.heap.objs.size + 1, s1.heap.objs.size], _, _, H1, rfl, I1.kept (t' := s1.toks) hk, turn_enumT (a := a) (Nat.succ_ne_self _) (Nat.ne_of_lt al) (Nat.ne_of_lt (Nat.lt_succ_of_lt al)), ⟨⟨.none, he⟩, hit⟩, fp, q⟩
/-! ### enumerate, zip of lists and tuples, over data -/
section
variable {K : PySem.W.Frag} {H : Hp} {μ : M} {a b : Addr} {vs ws : List V} {ds es : List D}
theorem walk_enumT {xs : List V} : Walk (IteT K a) xs.length (fun H => SqT K H a xs) (YPair (fun i => some (.int (i : Nat))) (fun i => xs[i]?)) := by
  refine ⟨fun i _ hi q => ⟨xs, xs[i], q, by simp [hi]⟩, fun _ q => ⟨xs, q, Nat.le_refl _⟩, fun i H v H' _ q y => ?_⟩
  obtain ⟨T, x, h1, h2, h3, h4⟩ := y
  exact ⟨T, .int (i : Nat), x, h1, h2, h3, rfl, h4 xs q⟩
theorem itd_enumT (hs : SqT K (hid H μ) a vs) (r : RA K (hid H μ) vs ds) : ItD K H μ (IteT K a) (enum ds) Any := by
  have hl : (enum ds).length = vs.length := by rw [r.length]; simp [enum]
  refine ⟨_, _, by rw [hl]; exact walk_enumT, fun H1 μ1 m _ _ => same_t hid_sub (same_t m hs), fun i x H1 μ1 H2 _ m mr _ y => ?_⟩
  obtain ⟨T, x1, x2, e0, e1, e2, e3, e4⟩ := y
  subst e0 e2
  obtain ⟨d, h1, h2⟩ := r.get' e4
  cases e3
  obtain ⟨m2, r2⟩ := pair_of mr e1 (.int (i : Nat)) (h2.mono m)
  exact ⟨_, by simp [enum, h1], m2, r2⟩
theorem itd_enumO (m : MR K H μ) (h : μ a = some (.lst ds)) : ItD K H μ (Ite K a) (enum ds) (fun μ' => μ' a = some (.lst ds)) := by
  have hl : (enum ds).length = ds.length := by simp [enum]
  refine ⟨fun H1 => ∃ vs1, H1 a = some (.lst vs1) ∧ vs1.length = ds.length, fun i H1 v H2 => ∃ T x vs1, v = .ref T ∧ H1 T = none ∧ H2 = upd H1 T (.tup [.int (i : Nat), x]) ∧ H1 a = some (.lst vs1) ∧ vs1[i]? = some x, ⟨fun i H1 hi ⟨vs1, e1, el⟩ => ?_, fun H1 ⟨vs1, e1, el⟩ => ?_, fun i H1 x H2 hi ⟨vs1, e1, el⟩ y => ?_⟩, fun H1 μ1 _ mr g => ?_, fun i x H1 μ1 H2 hi _ mr g y => ?_⟩
  · exact ⟨vs1, vs1[i]'(by omega), SqL.of e1, by simp [show i < vs1.length by omega]⟩
  · exact ⟨vs1, SqL.of e1, by omega⟩
  · obtain ⟨T, x, h1, h2, h3, h4⟩ := y
    exact ⟨T, x, vs1, h1, h2, h3, e1, h4 vs1 (SqL.of e1)⟩
  · obtain ⟨vs1, e1, r1⟩ := mr a _ g
    exact ⟨vs1, e1, r1.length⟩
  · obtain ⟨T, x, vs1, e0, e1, e2, e3, e4⟩ := y
    subst e0 e2
    obtain ⟨vs2, e5, r2⟩ := mr a _ g
    rw [e3] at e5
    cases e5
    obtain ⟨d, h1, h2⟩ := r2.get' e4
    obtain ⟨m2, r3⟩ := pair_of mr e1 (.int (i : Nat)) h2
    exact ⟨_, by simp [enum, h1], m2, r3⟩
theorem walk_zipT {xs ys : List V} {n : Nat} (hn : n = min xs.length ys.length) : Walk (RZ.ItzT K a b) n (fun H => SqT K H a xs ∧ SqT K H b ys) (YPair (fun i => xs[i]?) (fun i => ys[i]?)) := by
  subst hn
  refine ⟨fun i _ hi q => ?_, fun _ q => ⟨xs, ys, q.1, q.2, by omega⟩, fun i H v H' _ q y => ?_⟩
  · have h1 : i < xs.length := by omega
    have h2 : i < ys.length := by omega
    exact ⟨xs, ys, xs[i], ys[i], q.1, q.2, by simp [h1], by simp [h2]⟩
  · obtain ⟨T, x, z, h1, h2, h3, h4, h5⟩ := y
    exact ⟨T, x, z, h1, h2, h3, h4 xs q.1, h5 ys q.2⟩
theorem itd_zipT (hs : SqT K (hid H μ) a vs) (r : RA K (hid H μ) vs ds) (hs2 : SqT K (hid H μ) b ws) (r2 : RA K (hid H μ) ws es) : ItD K H μ (RZ.ItzT K a b) (pairs ds es) Any := by
  have hl : (pairs ds es).length = min vs.length ws.length := by rw [r.length, r2.length]; simp [pairs]
  refine ⟨fun H => SqT K H a vs ∧ SqT K H b ws, YPair (fun i => vs[i]?) (fun i => ws[i]?), by rw [hl]; exact walk_zipT rfl, fun H1 μ1 m _ _ => ⟨same_t hid_sub (same_t m hs), same_t hid_sub (same_t m hs2)⟩, fun i x H1 μ1 H2 _ m mr _ y => ?_⟩
  obtain ⟨T, x1, x2, e0, e1, e2, e3, e4⟩ := y
  subst e0 e2
  obtain ⟨d, h1, h2⟩ := r.get' e3
  obtain ⟨d2, h3, h4⟩ := r2.get' e4
  obtain ⟨m2, rr⟩ := pair_of mr e1 (h2.mono m) (h4.mono m)
  refine ⟨.tup [d, d2], ?_, m2, rr⟩
  have hz : (ds.zip es)[i]? = some (d, d2) := List.getElem?_zip_eq_some.mpr ⟨h1, h3⟩
  simp only [pairs, List.getElem?_map, hz, Option.map_some]
def intsC (lo c : Int) (n : Nat) : List D := (List.range n).map fun i => .int (lo + (i : Nat) * c)
theorem intsC_len (lo c : Int) (n : Nat) : (intsC lo c n).length = n := by simp [intsC]
theorem itd_rangeC {lo c : Int} {n : Nat} : ItD K H μ (Itc lo c n) (intsC lo c n) Any := by
  refine ⟨_, _, by rw [intsC_len]; exact walk_rangeC, fun _ _ _ _ _ => True.intro, fun i x H1 μ1 H2 hi m mr _ y => ?_⟩
  obtain ⟨e1, e2⟩ := y
  subst e1 e2
  rw [intsC_len] at hi
  exact ⟨_, by simp [intsC, hi], .refl mr, .int _⟩
def signsD (z : Str) : List D := z.cps.toList.map fun c => .str ⟨#[c]⟩
theorem itd_str {z : Str} : ItD K H μ (Its z) (signsD z) Any := by
  have hl : (signsD z).length = z.cps.size := by simp [signsD]
  refine ⟨_, _, by rw [hl]; exact walk_str, fun _ _ _ _ _ => True.intro, fun i x H1 μ1 H2 hi m mr _ y => ?_⟩
  obtain ⟨e1, c, e2, e3⟩ := y
  subst e1 e3
  refine ⟨_, ?_, .refl mr, .str _⟩
  simp only [signsD, List.getElem?_map, Array.getElem?_toList, e2, Option.map_some]
end
section
variable {X : Cx} {W : WX} {tg e : Expr} {te : TE} {we : DW} {p pos : Pos}
/-- enumerate of a list (written, or behind a handle) or a tuple -/
def wIEnumA (wa : DA) : DI := fun δ μ Q F => wa δ μ (fun ds μ1 => (∃ xs, (ds = [.lst xs] ∨ ds = [.ro xs] ∨ ds = [.tup xs]) ∧ Q (enum xs) Any μ1) ∨ ∃ a xs, ds = [.obj a] ∧ μ1 a = some (.lst xs) ∧ Q (enum xs) (fun μ' => μ' a = some (.lst xs)) μ1) F
def wIZipA (wa : DA) : DI := fun δ μ Q F => wa δ μ (fun ds μ1 => ∃ xs ys, (ds = [.lst xs, .lst ys] ∨ ds = [.tup xs, .tup ys]) ∧ Q (pairs xs ys) Any μ1) F
def wIRng3 (wa : DA) : DI := fun δ μ Q F => wa δ μ (fun ds μ1 => ∃ (i j c : Int) (n : Nat), ds = [.int i, .int j, .int c] ∧ RgC i j c n ∧ Q (intsC i c n) Any μ1) F
def wIStr (we : DW) : DI := fun δ μ Q F => we δ μ (fun d μ1 => ∃ z, d = .str z ∧ Q (signsD z) Any μ1) F
theorem pdi_enumA {a : Expr} {ta : TA} {wa : DA} {tpos : Pos} {elts : List Expr} {kk : Nat} (hm : X.mg "enumerate" = none) (ha : PDA X W [a] ta wa) (hg : Gl X "enumerate" := by rfl) (hs : starEach [a] X.env = [(false, eval a X.env)] := by rfl) : PDI X W (.Tuple elts kk tpos) (.Call (.Name "enumerate" p) [a] [] pos) (iEnumA X.K ta) (wIEnumA wa) := by
  refine ⟨pi_enumA hg hm ha.pa hs, fun σ δ H μ Q Qd F S q kQ kF => ha.la σ δ H μ _ _ F S q (fun vs ds H1 μ1 m1 r1 q1 => ?_) kF⟩
  rcases q1 with ⟨xs, h, q1⟩ | ⟨b, xs, rfl, hb, q1⟩
  · rcases h with rfl | rfl | rfl
    · obtain ⟨v, rfl, r⟩ := ra1 r1
      cases r with
      | lst h ra => exact ⟨_, _, rfl, .inl ⟨hid_sub.seq (SqL.of h), kQ _ _ _ H1 μ1 m1 (itd_enum (SqL.of h) ra) q1⟩⟩
    · obtain ⟨v, rfl, r⟩ := ra1 r1
      cases r with
      | ro h ra => exact ⟨_, _, rfl, .inl ⟨hid_sub.seq h, kQ _ _ _ H1 μ1 m1 (itd_enum h ra) q1⟩⟩
    · obtain ⟨v, rfl, r⟩ := ra1 r1
      cases r with
      | tup h ra => exact ⟨_, _, rfl, .inr ⟨same_t hid_sub h, kQ _ _ _ H1 μ1 m1 (itd_enumT h ra) q1⟩⟩
  · obtain ⟨v, rfl, r⟩ := ra1 r1
    obtain rfl := r.obj_inv
    obtain ⟨vs1, e1, _⟩ := m1.mr b _ hb
    exact ⟨_, _, rfl, .inl ⟨SqL.of e1, kQ _ _ _ H1 μ1 m1 (itd_enumO m1.mr hb) q1⟩⟩
theorem pdi_zipA {a b : Expr} {ta : TA} {wa : DA} {tpos : Pos} {elts : List Expr} {kk : Nat} (hm : X.mg "zip" = none) (ha : PDA X W [a, b] ta wa) (hg : Gl X "zip" := by rfl) (hs : starEach [a, b] X.env = (false, eval a X.env) :: starEach [b] X.env := by rfl) (hpl : (backTo pos (starEach [b] X.env)).any (·.1) = false := by rfl) :
    PDI X W (.Tuple elts kk tpos) (.Call (.Name "zip" p) [a, b] [] pos) (RZ.iZipA X.K ta) (wIZipA wa) := by
  refine ⟨RZ.pi_zipA hg hm ha.pa hs hpl, fun σ δ H μ Q Qd F S q kQ kF => ha.la σ δ H μ _ _ F S q (fun vs ds H1 μ1 m1 r1 q1 => ?_) kF⟩
  obtain ⟨xs, ys, h, q1⟩ := q1
  rcases h with rfl | rfl
  · obtain ⟨v, w, rfl, r, r'⟩ := ra2 r1
    cases r with
    | lst h ra =>
      cases r' with
      | lst h' ra' => exact ⟨_, _, _, _, rfl, .inl ⟨hid_sub.seq (SqL.of h), hid_sub.seq (SqL.of h'), kQ _ _ _ H1 μ1 m1 (itd_zip (SqL.of h) ra (SqL.of h') ra') q1⟩⟩
  · obtain ⟨v, w, rfl, r, r'⟩ := ra2 r1
    cases r with
    | tup h ra =>
      cases r' with
      | tup h' ra' => exact ⟨_, _, _, _, rfl, .inr ⟨same_t hid_sub h, same_t hid_sub h', kQ _ _ _ H1 μ1 m1 (itd_zipT h ra h' ra') q1⟩⟩
theorem pdi_range3 {a b c : Expr} {ta : TA} {wa : DA} (hm : X.mg "range" = none) (ha : PDA X W [a, b, c] ta wa) (hg : Gl X "range" := by rfl) (hs : starEach [a, b, c] X.env = (false, eval a X.env) :: starEach [b, c] X.env := by rfl) (hpl : (backTo pos (starEach [b, c] X.env)).any (·.1) = false := by rfl) :
    PDI X W tg (.Call (.Name "range" p) [a, b, c] [] pos) (iRng3 ta) (wIRng3 wa) := by
  refine ⟨pi_range3 hg hm ha.pa hs hpl, fun σ δ H μ Q Qd F S q kQ kF => ha.la σ δ H μ _ _ F S q (fun vs ds H1 μ1 m1 r1 q1 => ?_) kF⟩
  obtain ⟨i, j, c, n, rfl, hr, q1⟩ := q1
  obtain ⟨u, v, w, rfl, r, r', r''⟩ := ra3 r1
  exact ⟨i, j, c, n, by rw [r.int_inv, r'.int_inv, r''.int_inv], hr, kQ _ _ _ H1 μ1 m1 itd_rangeC q1⟩
theorem pdi_str (h : PD X W e te we) : PDI X W tg e (iStr te) (wIStr we) := by
  refine ⟨pi_str h.pe, fun σ δ H μ Q Qd F S q kQ kF => h.le σ δ H μ _ _ F S q (fun v d H1 μ1 m1 r1 q1 => ?_) kF⟩
  obtain ⟨z, rfl, q1⟩ := q1
  exact ⟨z, r1.str_inv, kQ _ _ _ H1 μ1 m1 itd_str q1⟩
end
end DL

set_option maxHeartbeats 2000000
namespace LL
open PySem PySem.Spec PyProof.Rows L2 HT
open AutoSeq1 (wpAny_loadPart')
section
variable {prog : Program} {w : World} {A : Around} {E : Value → Shared → Prop} {s : Shared}
theorem sliceApplied_rev {sl : Addr} {vl vu vs : Value} {n : Nat} {Q : Int × Int × Nat → Shared → Prop} (hs : s.heap.IsSliceOf sl vl vu vs) (pl : IsPart vl none) (pu : IsPart vu none) (ps : IsPart vs (some (-1)))
    (h : Q ((n : Int) - 1, -1, n) s) : wpAny (model prog w) A (Builtin.Slice.sliceApplied (.ref sl) (pure (n : Int))) Q E s := by
  obtain ⟨os, hos, hcs, hds⟩ := id hs
  unfold Builtin.Slice.sliceApplied Builtin.Slice.sliceFields
  refine wpAny_bind (wpAny_bind (wpAny_field hos hds (x := vl) rfl (wpAny_bind (wpAny_field hos hds (x := vu) rfl (wpAny_bind (wpAny_field hos hds (x := vs) rfl (wpAny_pure ?_)))))))
  refine wpAny_bind (slicePart_ ps ?_)
  show wpAny _ _ (if ((-1 : Int) == 0) = true then _ else _) _ _ s
  rw [if_neg (by decide)]
  refine wpAny_bind (slicePart_ pl (wpAny_bind (slicePart_ pu (wpAny_bind (wpAny_pure ?_)))))
  have e1 : Builtin.Slice.sliceAdjust none none (-1) (n : Int) = ((n : Int) - 1, -1) := by
    unfold Builtin.Slice.sliceAdjust
    simp only [show ((-1 : Int) < 0) from by decide, if_true]
  have e2 : Builtin.Slice.slicePlaces ((n : Int) - 1) (-1) (-1) = n := by
    unfold Builtin.Slice.slicePlaces
    rw [if_neg (by decide)]
    by_cases hn : (n : Int) - 1 > -1
    · rw [if_pos hn]
      simp only [Int.neg_neg, Int.ediv_one]
      omega
    · rw [if_neg hn]
      omega
  show wpAny _ _ (match Builtin.Slice.sliceAdjust none none (-1) (n : Int) with | (lo, hi) => pure (lo, (-1 : Int), Builtin.Slice.slicePlaces lo hi (-1))) _ _ s
  rw [e1]
  show wpAny _ _ (pure ((n : Int) - 1, (-1 : Int), Builtin.Slice.slicePlaces ((n : Int) - 1) (-1) (-1))) _ _ s
  rw [e2]
  exact wpAny_pure h
theorem fm_congr {α β : Type} {f g : α → Option β} : ∀ {l : List α}, (∀ x ∈ l, f x = g x) → l.filterMap f = l.filterMap g
  | [], _ => rfl
  | x :: l, h => by
    rw [List.filterMap_cons, List.filterMap_cons, h x (List.mem_cons_self ..), fm_congr fun y hy => h y (List.mem_cons_of_mem _ hy)]
theorem pick_rev (items : Array Value) : ((List.range items.size).filterMap fun (k : Nat) => items[(((items.size : Nat) : Int) - 1 + (k : Int) * (-1)).toNat]?).toArray = items.toList.reverse.toArray := by
  congr 1
  have e : ∀ k ∈ List.range items.size, items[(((items.size : Nat) : Int) - 1 + (k : Int) * (-1)).toNat]? = some (items.toList.reverse[k]?.getD .none) := fun k hk => by
    have hk' : k < items.size := by simpa using hk
    have : (((items.size : Nat) : Int) - 1 + (k : Int) * (-1)).toNat = items.size - 1 - k := by omega
    rw [this]
    have h1 : items.size - 1 - k < items.size := by omega
    rw [List.getElem?_reverse (by simpa using hk')]
    simp [h1]
  rw [fm_congr e]
  apply List.ext_getElem?
  intro i
  simp only [List.filterMap_eq_map', List.getElem?_map]
  by_cases hi : i < items.size
  · rw [List.getElem?_range hi]
    simp only [Option.map_some]
    have : i < items.toList.reverse.length := by simpa using hi
    rw [List.getElem?_eq_getElem this]
    rfl
  · rw [List.getElem?_eq_none (by simpa using hi), List.getElem?_eq_none (by simpa using hi)]
    rfl
theorem getItem_tuple_rev {t sl : Addr} {items : Array Value} {vl vu vs : Value} {Q : Value → Shared → Prop} (ht : IsTup s.heap t items) (hs : s.heap.IsSliceOf sl vl vu vs) (pl : IsPart vl none) (pu : IsPart vu none) (ps : IsPart vs (some (-1)))
    (h : Q (.ref s.heap.objs.size) { s with heap := s.heap.push { cls := .type "tuple", data := .seq items.toList.reverse.toArray } })
    (hsz : items.size ≤ sizeLine) : wpAny (model prog w) A (getItem (.ref t) (.ref sl)) Q E s := by
  have htake : sizeOk (.seq items.toList.reverse.toArray) := by
    show items.toList.reverse.toArray.size ≤ sizeLine
    rw [List.size_toArray, List.length_reverse, Array.length_toList]
    exact hsz
  obtain ⟨os, hos, hcs, hds⟩ := id hs
  have hTs : s.TypeIs (.ref sl) "slice" := ⟨os, hos, hcs⟩
  unfold getItem
  try with_reducible refine wpAny_holding ?_
  first | refine wpAny_bind (wpAny_pure ?_) | skip
  refine wpAny_bind (wpAny_sequenceKey ht.typeIs (by decide) ?_)
  refine wpAny_bind (wpAny_callSpecial?_slot (name := Str.ofString "__getitem__") ht.typeIs PyProof.Rows.slot_tuple_getitem
    (wpAny_call_entry PyProof.Rows.slot_tuple_getitem ht.typeIs entry_tuple_getitem ?_ (args_tuple_getitem _ _)))
  show wpAny _ _ (Builtin.Tuple.tupleItemsOf (.ref t) >>= _) _ _ s
  refine wpAny_bind (tupleItemsOf_ ht ?_)
  refine wpAny_bind (wpAny_typeOf hTs ?_)
  rw [if_pos (by decide)]
  refine wpAny_bind (sliceApplied_rev hs pl pu ps ?_)
  have hno : ¬ ((((items.size : Nat) : Int) - 1 == 0 && (-1 : Int) == 1 && items.size == items.size) = true) := by
    intro q
    rw [Bool.and_eq_true, Bool.and_eq_true] at q
    exact absurd q.1.2 (by decide)
  show wpAny _ _ (if (((items.size : Nat) : Int) - 1 == 0 && (-1 : Int) == 1 && items.size == items.size) = true then _ else _) _ _ s
  rw [if_neg hno, pick_rev]
  first
    | exact wpAny_bind (m := Builtin.Tuple.tupleExact _) (wpAny_newObj_type (wpAny_pure ⟨_, rfl, wpAny_pure h⟩) htake)
    | exact wpAny_bind (m := Builtin.Tuple.tupleExact _) (wpAny_newObj_type (wpAny_bind (wpAny_pure (wpAny_pure ⟨_, rfl, wpAny_pure h⟩))) htake)
    | exact wpAny_bind (wpAny_bind (m := Builtin.Tuple.tupleExact _) (wpAny_newObj_type (wpAny_pure (wpAny_pure ⟨_, rfl, wpAny_pure h⟩)) htake))
    | exact wpAny_bind (wpAny_bind (m := Builtin.Tuple.tupleExact _) (wpAny_newObj_type (wpAny_pure ⟨_, rfl, wpAny_pure h⟩) htake))
end
/-- xs[::-1] of a list or a tuple -/
def tRev (K : PySem.W.Frag) (te : TE) : TE := fun σ H Q => te σ H fun x H1 => ∃ a xs, x = .ref a ∧ ((SqL K H1 a xs ∧ ∀ p, H1 p = none → Q (.ref p) (upd H1 p (.lst xs.reverse))) ∨ (SqT K H1 a xs ∧ ∀ p, H1 p = none → Q (.ref p) (upd H1 p (.tup xs.reverse))))
theorem pe_rev {X : Cx} {e : Expr} {te : TE} {k : Nat} {p1 p2 p3 pos : Pos} (he : PE X e te) : PE X (.Subscript e (.Slice none none (some (.UnaryOp .USub (.Constant (.int 1) k p1) p2)) p3) pos) (tRev X.K te) := by
  refine ⟨fun pins s σ H Q I h => ?_⟩
  refine Subscript_ (thn (he.run pins s σ H _ I h) fun v s1 ⟨x, H1, I1, r1, q1⟩ => ?_)
  obtain ⟨a, xs, ex, q⟩ := q1
  subst ex
  cases r1
  have hst : PO X (some (.UnaryOp .USub (.Constant (.int 1) k p1) p2)) (tPart (tUn (rU fun i => .int (-i)) (tC (.int 1)))) := po_some (pe_un un_neg pe_int)
  refine wpAny_Slice (thn (po_none.run pins s1 σ H1 (fun o H2 => o = none ∧ H2 = H1) I1 ⟨rfl, rfl⟩) fun vl s2 ⟨l, H2, I2, pl, el, e2⟩ => ?_)
  subst el e2
  refine thn (po_none.run pins s2 σ H2 (fun o H3 => o = none ∧ H3 = H2) I2 ⟨rfl, rfl⟩) fun vu s3 ⟨u, H3, I3, pu, eu, e3⟩ => ?_
  subst eu e3
  refine thn (hst.run pins s3 σ H3 (fun o H4 => o = some (-1) ∧ H4 = H3) I3 ⟨1, rfl, -1, rfl, rfl, rfl⟩) fun vs s4 ⟨o, H4, I4, ps, eo, e4⟩ => ?_
  subst eo e4
  have I5 : Inv X pins σ H4 { s4 with heap := s4.heap.push { cls := .type "slice", data := .fields #[vl, vu, vs] } } := I4.kept (t' := s4.toks) fun b ob q => Heap.get?_push_of_some _ q
  rcases q with ⟨hx, q⟩ | ⟨hx, q⟩
  · obtain ⟨its, r, ht, hz⟩ := I5.list hx
    have hlen := r.length
    show wpAny (model X.prog X.w) X.A (subscriptTail e (.Slice none none (some (.UnaryOp .USub (.Constant (.int 1) k p1) p2)) p3) (.ref a) (.ref s4.heap.objs.size)) (EP X pins σ Q) X.xe { s4 with heap := s4.heap.push { cls := .type "slice", data := .fields #[vl, vu, vs] } }
    refine tail_any (ops := [.ref a, .ref s4.heap.objs.size]) ht.isList.typeIs (PySem.slot_list_getitem.lookup) ?_ (by with_unfolding_all rfl)
    refine wpAny_getItem_list_slice ht.isList (Heap.IsSliceOf.new _ vl vu vs) pl pu ps (by decide) ?_ (by rw [List.size_toArray]; omega)
    rw [PySem.W.krv_pick]
    refine ⟨.ref _, _, I5.laid (t' := s4.toks) (o := .lst xs.reverse) (fun b ob q => Heap.get?_push_of_some _ q) (Nat.le_refl _) ?_, rfl, q _ (I5.hok.fresh (Nat.le_refl _))⟩
    exact ⟨by rw [List.length_reverse]; exact hz, _, 0, r.reverse, Heap.get?_push_size _ rfl⟩
  · obtain ⟨its, r, ht, hz⟩ := I5.tuple hx
    have hlen := r.length
    show wpAny (model X.prog X.w) X.A (subscriptTail e (.Slice none none (some (.UnaryOp .USub (.Constant (.int 1) k p1) p2)) p3) (.ref a) (.ref s4.heap.objs.size)) (EP X pins σ Q) X.xe { s4 with heap := s4.heap.push { cls := .type "slice", data := .fields #[vl, vu, vs] } }
    refine tail_any (ops := [.ref a, .ref s4.heap.objs.size]) ht.typeIs (PyProof.Rows.slot_tuple_getitem.lookup) ?_ (by with_unfolding_all rfl)
    refine getItem_tuple_rev ht (Heap.IsSliceOf.new _ vl vu vs) pl pu ps ?_ (by rw [List.size_toArray]; omega)
    refine ⟨.ref _, _, I5.laid (t' := s4.toks) (o := .tup xs.reverse) (fun b ob q => Heap.get?_push_of_some _ q) (Nat.le_refl _) ?_, rfl, q _ (I5.hok.fresh (Nat.le_refl _))⟩
    exact ⟨by rw [List.length_reverse]; exact hz, _, r.reverse, IsTup.new _ _⟩
/-! ### t * k for k up to 1 -/
theorem tuple_mul1 (l : Addr) (items : Array Value) (n : Nat) (dd : Option Addr) (sl : Array (Option Value)) (u : Tok) :
    Meets (Builtin.«tuple.__mul__» ⟨[.ref l, .int 1 u], []⟩) (fun _ R s => s.heap.get? l = some { cls := .type "tuple", dict := dd, data := .seq items n, slots := sl } ∧ R (.ok (.ret (Value.ref l))) s) :=
  .of_wp fun prog w A R s h => by
    obtain ⟨hp, g, d, tk, os⟩ := s
    obtain ⟨hl, h⟩ := h
    have f1 := AutoSeq1.idx_int
    wp_walk using wpAny_loadPart' hl
    exact ⟨_, rfl, h⟩
theorem tuple_mul0 (l : Addr) (items : Array Value) (n : Nat) (dd : Option Addr) (sl : Array (Option Value)) (x : Int) (u : Tok) (c0 : (decide (x < -(2 ^ 63)) || decide (x ≥ 2 ^ 63)) = false) (c1 : (items.isEmpty || x == 1) = false) (c2 : (decide (x ≤ 0) || items.isEmpty) = true) :
    Meets (Builtin.«tuple.__mul__» ⟨[.ref l, .int x u], []⟩) (fun _ R s => s.heap.get? l = some { cls := .type "tuple", dict := dd, data := .seq items n, slots := sl } ∧
      R (.ok (.ret (Value.ref s.heap.objs.size))) { s with heap := s.heap.push { cls := Value.type "tuple", data := Data.seq #[] }, toks := s.toks }) :=
  .of_wp fun prog w A R s h => by
    obtain ⟨hp, g, d, tk, os⟩ := s
    obtain ⟨hl, h⟩ := h
    have f1 := AutoSeq1.idx_int
    wp_walk using wpAny_loadPart' hl
    repeat (first
      | (refine wpAny_ite_false (decide_eq_false (by rw [c0]; exact Bool.false_ne_true)) ?_; wp_walk using wpAny_loadPart' hl)
      | (refine wpAny_ite_false (decide_eq_false (by rw [c1]; exact Bool.false_ne_true)) ?_; wp_walk using wpAny_loadPart' hl)
      | (refine wpAny_ite_true (decide_eq_true c2) ?_; wp_walk using wpAny_loadPart' hl))
    exact ⟨_, rfl, h⟩
def rRepT1 (K : PySem.W.Frag) : R2 := fun x y H Q => ∃ l k xs, x = .ref l ∧ y = .int k ∧ SqT K H l xs ∧ xs ≠ [] ∧ -(2 ^ 63) ≤ k ∧ k ≤ 1 ∧ (k = 1 → Q (.ref l) H) ∧ (k < 1 → ∀ p, H p = none → Q (.ref p) (upd H p (.tup [])))
theorem op_repT1 {X : Cx} : OpR X (binaryOp .Mult) (rRepT1 X.K) := by
  intro pins s σ H x y v u Q I rx ry h
  obtain ⟨l, k, xs, rfl, rfl, hT, hne, h1, h2, q1, q0⟩ := h
  cases rx
  obtain ⟨t, rfl⟩ := ry
  obtain ⟨its, r, ⟨⟨cls, dd, data, sl⟩, ho, hc, n, hd⟩, hs⟩ := I.tuple hT
  simp only at hc hd
  subst hc hd
  have hle : its.length = xs.length := r.length.symm
  have hn : its ≠ [] := fun e => hne (by
    rw [e] at hle
    exact List.eq_nil_of_length_eq_zero hle.symm)
  have hi : its.toArray.isEmpty = false := by
    cases its with
    | nil => exact absurd rfl hn
    | cons a b => rfl
  by_cases hk : k = 1
  · subst hk
    refine wpAny_binaryOp_repeat_ref (T := "tuple") (U := "int") (by decide) ⟨_, ho, rfl⟩ (fun s' => typeIs_int s' 1 t) noFill_tuple_mul F.fills_int_mul F.slot_int_rmul repeat_tuple F.slot_int_index.lookup
      (call_meets F.slot_int_rmul (typeIs_int s 1 t) F.entry_int_rmul (F.args_int_rmul_2 _ _) (int_rmul_tuple 1 t l its.toArray n dd sl)
        ⟨ho, rfl, ⟨_, ho, rfl⟩, call_meets F.slot_tuple_mul ⟨_, ho, rfl⟩ F.entry_tuple_mul (F.args_tuple_mul_2 _ _) (tuple_mul1 l its.toArray n dd sl t) ⟨ho, ?_⟩⟩)
    exact ⟨.ref l, H, I, rfl, q1 rfl⟩
  · have c0 : (decide (k < -(2 ^ 63)) || decide (k ≥ 2 ^ 63)) = false := by
      rw [decide_eq_false (by omega), decide_eq_false (by omega)] <;> rfl
    have c1 : (its.toArray.isEmpty || k == 1) = false := by
      rw [hi, Bool.false_or]
      exact beq_eq_false_iff_ne.mpr hk
    have c2 : (decide (k ≤ 0) || its.toArray.isEmpty) = true := by
      rw [decide_eq_true (by omega)] <;> rfl
    refine wpAny_binaryOp_repeat_ref (T := "tuple") (U := "int") (by decide) ⟨_, ho, rfl⟩ (fun s' => typeIs_int s' k t) noFill_tuple_mul F.fills_int_mul F.slot_int_rmul repeat_tuple F.slot_int_index.lookup
      (call_meets F.slot_int_rmul (typeIs_int s k t) F.entry_int_rmul (F.args_int_rmul_2 _ _) (int_rmul_tuple k t l its.toArray n dd sl)
        ⟨ho, rfl, ⟨_, ho, rfl⟩, call_meets F.slot_tuple_mul ⟨_, ho, rfl⟩ F.entry_tuple_mul (F.args_tuple_mul_2 _ _) (tuple_mul0 l its.toArray n dd sl k t c0 c1 c2) ⟨ho, ?_⟩⟩)
    refine ⟨.ref s.heap.objs.size, _, I.laid (t' := s.toks) (o := .tup []) (fun b ob q => Heap.get?_push_of_some _ q) (Nat.le_refl _) ?_, rfl, q0 (by omega) _ (I.hok.fresh (Nat.le_refl _))⟩
    exact ⟨by show 0 ≤ sizeLine; exact Nat.zero_le _, [], .nil, IsTup.new _ _⟩
end LL

set_option maxHeartbeats 2000000
namespace LL
open PySem PySem.W PySem.Calls PyProof.Rows
open AutoSeq1 (wpAny_loadPart')
/-! ### own operators, by the machine -/
theorem looks_typ {M : Model} {s : Shared} {v : Value} {T : String} (h : s.TypeIs v T) : Looks M s.heap (typeOf v) (.type T) := by
  intro A Q E s' k q
  refine wpAny_typeOf (T := T) ?_ q
  cases v with
  | ref a =>
    obtain ⟨o, e, c⟩ := h
    exact ⟨o, k _ _ e, c⟩
  | _ => exact h
section
variable {prog : Program} {w : World} {A : Around} {E : Value → Shared → Prop} {s : Shared} {K : PySem.W.Frag} {x y C L f g : Addr} {h₀ : Heap} {m : Str → Option Value} {ox oy : Obj} {od ody : Option Obj} {T : String}
/-- both of one own class -/
theorem bin_cc {op : Operator} {Q : Value → Shared → Prop} (F : Fr h₀ L s.heap m) (X₀ : K.In h₀) (I : InstAt s.heap x ox C od) (J : InstAt s.heap y oy C ody) (hc : selfFirst K C = true)
    (hs : findIn K (.ref C) (PySem.dunder op.info.2) = some (some (.ref f))) (hf : isFn K (.ref f) = true)
    (h : wpAny (model prog w) A (call (.ref f) [.ref x, .ref y]) (PySem.W.CmpBack Q) E s) : wpAny (model prog w) A (binaryOp op (.ref x) (.ref y)) Q E s := by
  have X := X₀.keeps F.keep
  obtain ⟨cd, rest, hcd, hm⟩ := ksp_first hc
  rcases hi : op.info with ⟨sym, nm'⟩
  rw [hi] at hs
  dsimp only at hs
  have one := ksp_try X I hs hf h
  obtain ⟨hh, gg, d, tt, os⟩ := s
  have L1 : Looks (model prog w) hh (typeOf (.ref x)) (.ref C) := I.type
  have L2 : Looks (model prog w) hh (typeOf (.ref y)) (.ref C) := J.type
  have L3 : Looks (model prog w) hh (fillsNumberSlot (.ref C) nm') true := fills_K X hcd hm hs
  have hne : (Value.ref C == Value.ref C) = true := beq_self_eq_true _
  simp only [binaryOp, hi]
  refine wpAny_holding (wpAny_bind ?_)
  unfold binaryOp1
  refine wpAny_bind (L1.at (wpAny_bind (L2.at (wpAny_bind (L3.at ?_)))))
  simp only [hne, if_true]
  ksp_lk
  refine wpAny_mono one (fun r s' hr' => ?_) fun _ _ e => e
  obtain ⟨v, rfl, hq⟩ := hr'
  ksp_lk
  exact hq
/-- the left one of an own class, the right one of a built-in type -/
theorem bin_ct {op : Operator} {b : Value} {fo ro rc : Option Value} {Q : Value → Shared → Prop} (F : Fr h₀ L s.heap m) (X₀ : K.In h₀) (I : InstAt s.heap x ox C od) (hb : Looks (model prog w) s.heap (typeOf b) (.type T)) (hc : selfFirst K C = true)
    (hs : findIn K (.ref C) (PySem.dunder op.info.2) = some (some (.ref f))) (hf : isFn K (.ref f) = true) (hr : findIn K (.ref C) (dunderR op.info.2) = some rc) (hp : rc = none ∨ ∃ g : Addr, rc = some (.ref g))
    (h1 : findIn K (.type T) (PySem.dunder op.info.2) = some fo) (h2 : findIn K (.type T) (dunderR op.info.2) = some ro) (hsub : subIn K (.type T) (.ref C) = some false)
    (h : wpAny (model prog w) A (call (.ref f) [.ref x, b]) (PySem.W.CmpBack Q) E s) : wpAny (model prog w) A (binaryOp op (.ref x) b) Q E s := by
  have X := X₀.keeps F.keep
  obtain ⟨cd, rest, hcd, hm⟩ := ksp_first hc
  rcases hi : op.info with ⟨sym, nm'⟩
  rw [hi] at hs hr h1 h2
  dsimp only at hs hr h1 h2
  have one := ksp_try X I hs hf h
  obtain ⟨hh, gg, d, tt, os⟩ := s
  have L1 : Looks (model prog w) hh (typeOf (.ref x)) (.ref C) := I.type
  have L2 : Looks (model prog w) hh (typeOf b) (.type T) := hb
  have L3 : Looks (model prog w) hh (fillsNumberSlot (.ref C) nm') true := fills_K X hcd hm hs
  have L4 : Looks (model prog w) hh (fillsNumberSlot (.type T) nm') ((fo.isSome && !isSeqSlot fo) || (ro.isSome && !isSeqSlot ro)) := ksp_fillsT X h1 h2
  have L5 : Looks (model prog w) hh (isSubtype (.type T) (.ref C)) false := looks_subIn X hsub
  have L6 : Looks (model prog w) hh (numberSlotInPython (.ref C) nm') true := ksp_inPy X hs hr hp
  have L7 : Looks (model prog w) hh (numberSlotInPython (.type T) nm') false := Looks.of_pure rfl
  have L8 : Looks (model prog w) hh (typeLookup (.type T) (dunderR nm')) ro := looks_findIn X h2
  generalize ((fo.isSome && !isSeqSlot fo) || (ro.isSome && !isSeqSlot ro)) = right at L4
  have hne : (Value.ref C == Value.type T) = false := Bool.eq_false_iff.mpr fun q => by cases beq_iff_eq.mp q
  simp only [binaryOp, hi]
  refine wpAny_holding (wpAny_bind ?_)
  unfold binaryOp1
  refine wpAny_bind (L1.at (wpAny_bind (L2.at (wpAny_bind (L3.at ?_)))))
  simp only [hne, Bool.false_eq_true, if_false]
  cases right with
  | false =>
    ksp_lk
    refine wpAny_mono one (fun r s' hr' => ?_) fun _ _ e => e
    obtain ⟨v, rfl, hq⟩ := hr'
    ksp_lk
    exact hq
  | true =>
    ksp_lk
    refine wpAny_mono one (fun r s' hr' => ?_) fun _ _ e => e
    obtain ⟨v, rfl, hq⟩ := hr'
    ksp_lk
    exact hq
/-- the left one of a built-in type that fills no number's slot, the right one own -/
theorem bin_tc {op : Operator} {a : Value} {fo ro : Option Value} {Q : Value → Shared → Prop} (F : Fr h₀ L s.heap m) (X₀ : K.In h₀) (J : InstAt s.heap y oy C ody) (ha : Looks (model prog w) s.heap (typeOf a) (.type T)) (hc : selfFirst K C = true)
    (hs : findIn K (.ref C) (PySem.dunder op.info.2) = some (some (.ref f))) (hr : findIn K (.ref C) (dunderR op.info.2) = some (some (.ref g))) (hg : isFn K (.ref g) = true)
    (h1 : findIn K (.type T) (PySem.dunder op.info.2) = some fo) (h2 : findIn K (.type T) (dunderR op.info.2) = some ro) (hno : ((fo.isSome && !isSeqSlot fo) || (ro.isSome && !isSeqSlot ro)) = false)
    (h : wpAny (model prog w) A (call (.ref g) [.ref y, a]) (PySem.W.CmpBack Q) E s) : wpAny (model prog w) A (binaryOp op a (.ref y)) Q E s := by
  have X := X₀.keeps F.keep
  obtain ⟨cd, rest, hcd, hm⟩ := ksp_first hc
  rcases hi : op.info with ⟨sym, nm'⟩
  rw [hi] at hs hr h1 h2
  dsimp only at hs hr h1 h2
  have one := ksp_try X J hr hg h
  obtain ⟨hh, gg, d, tt, os⟩ := s
  have L1 : Looks (model prog w) hh (typeOf a) (.type T) := ha
  have L2 : Looks (model prog w) hh (typeOf (.ref y)) (.ref C) := J.type
  have L3 : Looks (model prog w) hh (fillsNumberSlot (.ref C) nm') true := fills_K X hcd hm hs
  have L4 : Looks (model prog w) hh (fillsNumberSlot (.type T) nm') false := by
    have := ksp_fillsT (M := model prog w) X h1 h2
    rw [hno] at this
    exact this
  have hne : (Value.type T == Value.ref C) = false := Bool.eq_false_iff.mpr fun q => by cases beq_iff_eq.mp q
  simp only [binaryOp, hi]
  refine wpAny_holding (wpAny_bind ?_)
  unfold binaryOp1
  refine wpAny_bind (L1.at (wpAny_bind (L2.at (wpAny_bind (L4.at ?_)))))
  simp only [hne, Bool.false_eq_true, if_false]
  ksp_lk
  refine wpAny_mono one (fun r s' hr' => ?_) fun _ _ e => e
  obtain ⟨v, rfl, hq⟩ := hr'
  repeat lk
  exact hq
/-- an int on the left, the right one own -/
theorem bin_ic {op : Operator} {i : Int} {t : Tok} {idl : String} {B : Builtin} {Q : Value → Shared → Prop} (F : Fr h₀ L s.heap m) (X₀ : K.In h₀) (J : InstAt s.heap y oy C ody) (hc : selfFirst K C = true)
    (hs : findIn K (.ref C) (PySem.dunder op.info.2) = some (some (.ref f))) (hr : findIn K (.ref C) (dunderR op.info.2) = some (some (.ref g))) (hg : isFn K (.ref g) = true)
    (hsub : subIn K (.ref C) (.type "int") = some false) (fills : fillsNumberSlot (.type "int") op.info.2 = pure true) (slot : Slot "int" (PySem.dunder op.info.2) idl) (entry : entryFor table idl = some B) (args : argsOk idl ⟨[.int i t, .ref y], []⟩)
    (hB : Meets (B ⟨[.int i t, .ref y], []⟩) (fun _ R s => s.heap.get? y = some oy ∧ R (.ok (.ret Value.notImplemented)) s))
    (h : wpAny (model prog w) A (call (.ref g) [.ref y, .int i t]) (PySem.W.CmpBack Q) E s) : wpAny (model prog w) A (binaryOp op (.int i t) (.ref y)) Q E s := by
  have X := X₀.keeps F.keep
  obtain ⟨cd, rest, hcd, hm⟩ := ksp_first hc
  rcases hi : op.info with ⟨sym, nm'⟩
  rw [hi] at hs hr fills slot
  dsimp only at hs hr fills slot
  have one := ksp_try X J hr hg h
  have dec : wpAny (model prog w) A (tryMethod (.int i t) (PySem.dunder nm') (.ref y)) (fun r s' => r = none ∧ s' = s) E s :=
    wpAny_tryMethod_declines (typeIs_int s i t) slot (call_meets slot (typeIs_int s i t) entry args hB ⟨J.at_, rfl, rfl, rfl⟩)
  obtain ⟨hh, gg, d, tt, os⟩ := s
  have L1 : Looks (model prog w) hh (typeOf (.int i t)) (.type "int") := Looks.of_pure rfl
  have L2 : Looks (model prog w) hh (typeOf (.ref y)) (.ref C) := J.type
  have L3 : Looks (model prog w) hh (fillsNumberSlot (.ref C) nm') true := fills_K X hcd hm hs
  have L4 : Looks (model prog w) hh (fillsNumberSlot (.type "int") nm') true := Looks.of_pure fills
  have L5 : Looks (model prog w) hh (isSubtype (.ref C) (.type "int")) false := looks_subIn X hsub
  have L7 : Looks (model prog w) hh (numberSlotInPython (.type "int") nm') false := Looks.of_pure rfl
  have hne : (Value.type "int" == Value.ref C) = false := Bool.eq_false_iff.mpr fun q => by cases beq_iff_eq.mp q
  simp only [binaryOp, hi]
  refine wpAny_holding (wpAny_bind ?_)
  unfold binaryOp1
  refine wpAny_bind (L1.at (wpAny_bind (L2.at (wpAny_bind (L4.at ?_)))))
  simp only [hne, Bool.false_eq_true, if_false]
  ksp_lk
  refine wpAny_mono dec (fun r s' hr' => ?_) fun _ _ e => e
  obtain ⟨rfl, rfl⟩ := hr'
  ksp_lk
  refine wpAny_mono one (fun r s' hr' => ?_) fun _ _ e => e
  obtain ⟨v, rfl, hq⟩ := hr'
  repeat lk
  exact hq
end
theorem int_add_ins (a : Int) (t : Tok) (x C dx : Addr) :
    Meets (Builtin.«int.__add__» ⟨[.int a t, .ref x], []⟩) (fun _ R s => s.heap.get? x = some (PySem.W.instObj C dx) ∧ R (.ok (.ret Value.notImplemented)) s) :=
  .of_wp fun prog w A R s h => by
    obtain ⟨hp, g, d, tk, os⟩ := s; obtain ⟨hl, h⟩ := h
    wp_walk using wpAny_loadPart' hl
    exact ⟨_, rfl, h⟩
theorem int_sub_ins (a : Int) (t : Tok) (x C dx : Addr) :
    Meets (Builtin.«int.__sub__» ⟨[.int a t, .ref x], []⟩) (fun _ R s => s.heap.get? x = some (PySem.W.instObj C dx) ∧ R (.ok (.ret Value.notImplemented)) s) :=
  .of_wp fun prog w A R s h => by
    obtain ⟨hp, g, d, tk, os⟩ := s; obtain ⟨hl, h⟩ := h
    wp_walk using wpAny_loadPart' hl
    exact ⟨_, rfl, h⟩
theorem int_mul_ins (a : Int) (t : Tok) (x C dx : Addr) :
    Meets (Builtin.«int.__mul__» ⟨[.int a t, .ref x], []⟩) (fun _ R s => s.heap.get? x = some (PySem.W.instObj C dx) ∧ R (.ok (.ret Value.notImplemented)) s) :=
  .of_wp fun prog w A R s h => by
    obtain ⟨hp, g, d, tk, os⟩ := s; obtain ⟨hl, h⟩ := h
    wp_walk using wpAny_loadPart' hl
    exact ⟨_, rfl, h⟩
end LL

set_option maxHeartbeats 2000000
namespace DL
open PySem PySem.Spec PyProof.Rows L2 LL
/-! ### own operators over data -/
/-- what is known of an operator beside ints and tuples -/
structure OpI (op : Operator) : Prop where
  it : ∃ idl B, fillsNumberSlot (.type "int") op.info.2 = pure true ∧ Slot "int" (PySem.dunder op.info.2) idl ∧ entryFor table idl = some B ∧ (∀ (i : Int) (t : Tok) (y : Addr), argsOk idl ⟨[.int i t, .ref y], []⟩) ∧
    ∀ (i : Int) (t : Tok) (y C dx : Addr), Meets (B ⟨[.int i t, .ref y], []⟩) (fun _ R s => s.heap.get? y = some (PySem.W.instObj C dx) ∧ R (.ok (.ret Value.notImplemented)) s)
  tt : ∃ fo ro, fastLookup "tuple" (PySem.dunder op.info.2) = some fo ∧ fastLookup "tuple" (dunderR op.info.2) = some ro ∧ ((fo.isSome && !isSeqSlot fo) || (ro.isSome && !isSeqSlot ro)) = false
  ti : ∃ fo ro, fastLookup "int" (PySem.dunder op.info.2) = some fo ∧ fastLookup "int" (dunderR op.info.2) = some ro
theorem opi_add : OpI .Add := ⟨⟨_, _, F.fills_int_add, F.slot_int_add, F.entry_int_add, fun _ _ _ => F.args_int_add_2 _ _, fun i t y C dx => int_add_ins i t y C dx⟩, ⟨_, _, rfl, rfl, by decide +kernel⟩, ⟨_, _, rfl, rfl⟩⟩
theorem opi_sub : OpI .Sub := ⟨⟨_, _, F.fills_int_sub, F.slot_int_sub, F.entry_int_sub, fun _ _ _ => F.args_int_sub_2 _ _, fun i t y C dx => int_sub_ins i t y C dx⟩, ⟨_, _, rfl, rfl, by decide +kernel⟩, ⟨_, _, rfl, rfl⟩⟩
theorem opi_mul : OpI .Mult := ⟨⟨_, _, F.fills_int_mul, F.slot_int_mul, F.entry_int_mul, fun _ _ _ => F.args_int_mul_2 _ _, fun i t y C dx => int_mul_ins i t y C dx⟩, ⟨_, _, rfl, rfl, by decide +kernel⟩, ⟨_, _, rfl, rfl⟩⟩
structure OwnOp (P : Program) (w : World) (K : PySem.W.Frag) (mg : Str → Option Value) (base : Heap) (k : Nat) (op : Operator) (C : Addr) (wa wr : DF) : Prop where
  oi : OpI op
  sf : PySem.W.selfFirst K C = true
  si : PySem.W.subIn K (.ref C) (.type "int") = some false
  ma : MetD P w K mg base k C (PySem.dunder op.info.2) wa
  mr : MetD P w K mg base k C (dunderR op.info.2) wr
theorem OwnOp.mono {P : Program} {w : World} {K : PySem.W.Frag} {mg : Str → Option Value} {base : Heap} {j k : Nat} {op : Operator} {C : Addr} {wa wr : DF} (h : OwnOp P w K mg base j op C wa wr) (hk : j ≤ k) : OwnOp P w K mg base k op C wa wr :=
  ⟨h.oi, h.sf, h.si, h.ma.mono hk, h.mr.mono hk⟩
def gOwn (C : Addr) (wa wr : DF) : D → D → M → DK → FK → Prop := fun x y μ Q F =>
  (∃ fs, insOf μ C fs x ∧ ((∃ gs, insOf μ C gs y) ∨ (∃ i, y = .int i) ∨ ∃ ys, y = .tup ys) ∧ wa [x, y] μ Q F) ∨
  ∃ fs, insOf μ C fs y ∧ ((∃ i, x = .int i) ∨ ∃ xs, x = .tup xs) ∧ wr [y, x] μ Q F
def wBinO (g : G2) (o : D → D → M → DK → FK → Prop) (wa wb : DW) : DW := fun δ μ Q F => wa δ μ (fun x μ1 => wb δ μ1 (fun y μ2 => g x y μ2 Q ∨ o x y μ2 Q F) F) F
def ownV (K : PySem.W.Frag) (C : Addr) (wa wr : DF) (x y : V) (H : Hp) (Q : VK) (E : XK) : Prop :=
  (∃ a dx fs, x = .ref a ∧ H a = some (.ins C dx fs) ∧ ((∃ b dy gs, y = .ref b ∧ H b = some (.ins C dy gs)) ∨ (∃ i, y = .int i) ∨ ∃ b ys, y = .ref b ∧ SqT K H b ys) ∧ spD K wa [x, y] H Q E) ∨
  ∃ b dy gs, y = .ref b ∧ H b = some (.ins C dy gs) ∧ ((∃ i, x = .int i) ∨ ∃ a xs, x = .ref a ∧ SqT K H a xs) ∧ spD K wr [y, x] H Q E
def tBinO (K : PySem.W.Frag) (W : WX) (C : Addr) (wa wr : DF) (r : R2) (ta tb : TE) : TE := fun σ H Q => ta σ H fun x H1 => tb σ H1 fun y H2 => r x y H2 Q ∨ ownV K C wa wr x y H2 Q (WE W σ)
theorem cmpBack_of {X : Cx} {pins : List (Addr × Obj)} {σ : St} {Q : VK} {v : Value} {s : Shared} (h : EP X pins σ Q v s) : PySem.W.CmpBack (EP X pins σ Q) v s := by
  obtain ⟨x, H, I, r, q⟩ := h
  cases v <;> first | exact ⟨x, H, I, r, q⟩ | skip
  exfalso
  cases x <;> first | (cases r; done) | (obtain ⟨_, r⟩ := r; cases r)
theorem sub_type_ref {K : PySem.W.Frag} {T : String} {l : List Value} (C : Addr) (h : fastBuiltinMro T = some l) (hl : l.all (fun v => match v with | .ref _ => false | _ => true) = true) : PySem.W.subIn K (.type T) (.ref C) = some false := by
  show (fastBuiltinMro T).map (·.contains (.ref C)) = some false
  rw [h]
  simp only [Option.map_some, Option.some.injEq]
  rw [List.contains_eq_any_beq, List.any_eq_false]
  intro v hv e
  have := List.all_eq_true.mp hl v hv
  rw [← beq_iff_eq.mp e] at this
  cases this
theorem sub_int (K : PySem.W.Frag) (C : Addr) : PySem.W.subIn K (.type "int") (.ref C) = some false := sub_type_ref C rfl rfl
theorem sub_tuple (K : PySem.W.Frag) (C : Addr) : PySem.W.subIn K (.type "tuple") (.ref C) = some false := sub_type_ref C rfl rfl
section
variable {X : Cx} {W : WX} {a b : Expr} {ta tb : TE} {wa wb : DW} {pos : Pos} {j k : Nat} {C : Addr} {wf wr : DF}
theorem own_run {op : Operator} (c : Ct X W j) (O : OwnOp X.prog X.w X.K X.mg X.base k op C wf wr) (hk : k ≤ j) {pins : List (Addr × Obj)} {σ : St} {H : Hp} {s : Shared} {Q : VK} {x y : V} {u v : Value} (I : Inv X pins σ H s) (rx : RelV x u) (ry : RelV y v)
    (h : ownV X.K C wf wr x y H Q (WE W σ)) : wpAny (model X.prog X.w) X.A (binaryOp op u v) (EP X pins σ Q) X.xe s := by
  obtain ⟨f, hm, Ff⟩ := O.ma.ex
  obtain ⟨g, hg, Fg⟩ := O.mr.ex
  obtain ⟨m, hF⟩ := I.fr
  have run : ∀ {f : Addr} {wp : DF} {vs : List V} {us : List Value}, FnD X.prog X.w X.K X.mg X.base k f wp → Vals vs us → spD X.K wp vs H Q (WE W σ) → wpAny (model X.prog X.w) X.A (call (.ref f) us) (PySem.W.CmpBack (EP X pins σ Q)) X.xe s := fun F r z =>
    wpAny_mono (run_fnD F c.gd (c.hr.mono hk) (passAt c.tk σ) I r z) (fun _ _ => cmpBack_of) fun _ _ e => e
  rcases h with ⟨p, dx, fs, rfl, hp, hy, z⟩ | ⟨p, dy, gs, rfl, hp, hx, z⟩
  · cases rx
    obtain ⟨mA, J, _⟩ := ins_get I.hok hp
    obtain ⟨od, J, _⟩ := J.look
    have R := run Ff (us := [.ref p, v]) (vs := [.ref p, y]) (.cons rfl (.cons ry .nil)) z
    rcases hy with ⟨q, dy, gs, rfl, hq⟩ | ⟨i, rfl⟩ | ⟨q, ys, rfl, hT⟩
    · cases ry
      obtain ⟨mB, J', _⟩ := ins_get I.hok hq
      obtain ⟨od', J', _⟩ := J'.look
      exact bin_cc hF I.ok.mod.kin J J' O.sf hm.at_ hm.fn R
    · obtain ⟨t, rfl⟩ := ry
      obtain ⟨fo, ro, e1, e2⟩ := O.oi.ti
      exact bin_ct hF I.ok.mod.kin J (looks_typ (typeIs_int s i t)) O.sf hm.at_ hm.fn hg.at_ (.inr ⟨_, rfl⟩) e1 e2 (sub_int _ _) R
    · cases ry
      obtain ⟨its, _, p, _⟩ := I.tuple hT
      obtain ⟨fo, ro, e1, e2, _⟩ := O.oi.tt
      exact bin_ct hF I.ok.mod.kin J (looks_typ p.typeIs) O.sf hm.at_ hm.fn hg.at_ (.inr ⟨_, rfl⟩) e1 e2 (sub_tuple _ _) R
  · cases ry
    obtain ⟨mA, J, _⟩ := ins_get I.hok hp
    obtain ⟨od, J, _⟩ := J.look
    have R := run Fg (us := [.ref p, u]) (vs := [.ref p, x]) (.cons rfl (.cons rx .nil)) z
    rcases hx with ⟨i, rfl⟩ | ⟨q, xs, rfl, hT⟩
    · obtain ⟨t, rfl⟩ := rx
      obtain ⟨idl, B, h1, h2, h3, h4, h5⟩ := O.oi.it
      exact bin_ic hF I.ok.mod.kin J O.sf hm.at_ hg.at_ hg.fn O.si h1 h2 h3 (h4 _ _ _) (h5 _ _ _ _ _) R
    · cases rx
      obtain ⟨its, _, p, _⟩ := I.tuple hT
      obtain ⟨fo, ro, e1, e2, e3⟩ := O.oi.tt
      exact bin_tc hF I.ok.mod.kin J (looks_typ p.typeIs) O.sf hm.at_ hg.at_ hg.fn e1 e2 e3 R
theorem own_of {K : PySem.W.Frag} {H : Hp} {μ : M} {x y : D} {u v : V} {Q : VK} {Qd : DK} {F : FK} {E : XK} (m : MR K H μ) (rx : R K (hid H μ) u x) (ry : R K (hid H μ) v y) (h : gOwn C wf wr x y μ Qd F)
    (kQ : ∀ v d H' μ', Mv K H μ H' μ' → R K (hid H' μ') v d → Qd d μ' → Q v H') (kF : ∀ cls dd er H' μ', Mv K H μ H' μ' → ErR K (hid H' μ') cls dd er → F er μ' → E cls dd H') : ownV K C wf wr u v H Q E := by
  rcases h with ⟨fs, hi, hy, z⟩ | ⟨fs, hi, hx, z⟩
  · obtain ⟨p, dx, fvs, rfl, hp, rf⟩ := ins_of m rx hi
    refine .inl ⟨p, dx, fvs, rfl, hp, ?_, _, μ, Qd, F, .cons rx (.cons ry .nil), m, z, kQ, kF⟩
    rcases hy with ⟨gs, hj⟩ | ⟨i, rfl⟩ | ⟨ys, rfl⟩
    · obtain ⟨q, dy, gvs, rfl, hq, _⟩ := ins_of m ry hj
      exact .inl ⟨q, dy, gvs, rfl, hq⟩
    · exact .inr (.inl ⟨i, ry.int_inv⟩)
    · cases ry with
      | tup h ra => exact .inr (.inr ⟨_, _, rfl, same_t hid_sub h⟩)
  · obtain ⟨p, dx, fvs, rfl, hp, rf⟩ := ins_of m ry hi
    refine .inr ⟨p, dx, fvs, rfl, hp, ?_, _, μ, Qd, F, .cons ry (.cons rx .nil), m, z, kQ, kF⟩
    rcases hx with ⟨i, rfl⟩ | ⟨xs, rfl⟩
    · exact .inl ⟨i, rx.int_inv⟩
    · cases rx with
      | tup h ra => exact .inr ⟨_, _, rfl, same_t hid_sub h⟩
theorem pd_binO {op : Operator} {r : R2} {g : G2} (K : PySem.W.Frag) (hK : X.K = K) (c : Ct X W j) (O : OwnOp X.prog X.w X.K X.mg X.base k op C wf wr) (o : OpR X (binaryOp op) r ∧ OL X.K r g) (ha : PD X W a ta wa) (hb : PD X W b tb wb) (hk : k ≤ j := by decide) :
    PD X W (.BinOp a op b pos) (tBinO K W C wf wr r ta tb) (wBinO g (gOwn C wf wr) wa wb) := by
  subst hK
  refine ⟨⟨fun pins s σ H Q I h => ?_⟩, fun σ δ H μ Q Qd F S q kQ kF => ?_⟩
  · refine wpAny_BinOp (binT ha.pe hb.pe I h fun v u s2 x y H2 I2 rx ry q => ?_)
    rcases q with q | q
    · exact o.1 pins s2 σ H2 x y v u Q I2 rx ry q
    · exact own_run c O hk I2 rx ry q
  · refine ha.le σ δ H μ _ _ F S q (fun x dx H1 μ1 m1 r1 q1 => ?_) kF
    refine hb.le σ δ H1 μ1 _ _ F (S.step m1) q1 (fun y dy H2 μ2 m2 r2 q2 => ?_) (kF.step m1)
    rcases q2 with q2 | q2
    · exact .inl (o.2 H2 μ2 x y dx dy _ _ m2.mr (r1.mono m2.sm) r2 q2 fun v d H' μ' m' r' q' => kQ v d H' μ' (m1.trans (m2.trans m')) r' q')
    · exact .inr (own_of m2.mr (r1.mono m2.sm) r2 q2 (fun v d H' μ' m' r' q' => kQ v d H' μ' (m1.trans (m2.trans m')) r' q') fun cls dd er H' μ' m' r' f => kF cls dd er H' μ' (m1.trans (m2.trans m')) r' f)
end
end DL

set_option maxHeartbeats 2000000
namespace DL
open PySem PySem.Spec PyProof.Rows L2 LL
/-! ### own ==, own - over data -/
structure OwnEq (P : Program) (w : World) (K : PySem.W.Frag) (mg : Str → Option Value) (base : Heap) (k : Nat) (C : Addr) (we : DF) : Prop where
  me : MetD P w K mg base k C "__eq__" we
def eqT (μ : M) (C : Addr) (y : D) : Prop := (∃ gs, insOf μ C gs y) ∨ (∃ i, y = .int i) ∨ (∃ ys, y = .tup ys) ∨ (∃ ys, lstOf μ y = some ys) ∨ y = .non
def gOwnEq (C : Addr) (we : DF) : D → D → M → DK → FK → Prop := fun x y μ Q F => ∃ fs, insOf μ C fs x ∧ eqT μ C y ∧ we [x, y] μ Q F
def eqTV (K : PySem.W.Frag) (C : Addr) (y : V) (H : Hp) : Prop := (∃ b dy gs, y = .ref b ∧ H b = some (.ins C dy gs)) ∨ (∃ i, y = .int i) ∨ (∃ b ys, y = .ref b ∧ SqT K H b ys) ∨ (∃ b ys, y = .ref b ∧ SqL K H b ys) ∨ y = .non
def ownEqV (K : PySem.W.Frag) (C : Addr) (we : DF) (x y : V) (H : Hp) (Q : VK) (E : XK) : Prop := ∃ a dx fs, x = .ref a ∧ H a = some (.ins C dx fs) ∧ eqTV K C y H ∧ spD K we [x, y] H Q E
def tEqO (K : PySem.W.Frag) (W : WX) (C : Addr) (we : DF) (r : R2) (ta tb : TE) : TE := fun σ H Q => ta σ H fun x H1 => tb σ H1 fun y H2 => r x y H2 Q ∨ ownEqV K C we x y H2 Q (WE W σ)
def wUnO (g : G1) (o : D → M → DK → FK → Prop) (wa : DW) : DW := fun δ μ Q F => wa δ μ (fun x μ1 => g x μ1 Q ∨ o x μ1 Q F) F
def gOwnN (C : Addr) (wn : DF) : D → M → DK → FK → Prop := fun x μ Q F => ∃ fs, insOf μ C fs x ∧ wn [x] μ Q F
def tUnO (K : PySem.W.Frag) (W : WX) (C : Addr) (wn : DF) (r : V → Hp → VK → Prop) (ta : TE) : TE := fun σ H Q => ta σ H fun x H1 => r x H1 Q ∨ ∃ a dx fs, x = .ref a ∧ H1 a = some (.ins C dx fs) ∧ spD K wn [x] H1 Q (WE W σ)
theorem notFirst_T {K : PySem.W.Frag} {C : Addr} {T : String} (h : PySem.W.subIn K (.type T) (.ref C) = some false) : PySem.W.notFirst K C (.type T) = true := by
  unfold PySem.W.notFirst
  rw [h]
  simp
section
variable {X : Cx} {W : WX} {a b : Expr} {ta tb : TE} {wa wb : DW} {pos : Pos} {j k : Nat} {C : Addr} {wf : DF}
theorem ownEq_run (c : Ct X W j) (O : OwnEq X.prog X.w X.K X.mg X.base k C wf) (hk : k ≤ j) {pins : List (Addr × Obj)} {σ : St} {H : Hp} {s : Shared} {Q : VK} {x y : V} {u v : Value} (I : Inv X pins σ H s) (rx : RelV x u) (ry : RelV y v)
    (h : ownEqV X.K C wf x y H Q (WE W σ)) : wpAny (model X.prog X.w) X.A (compareOp .Eq u v) (EP X pins σ Q) X.xe s := by
  obtain ⟨f, hm, Ff⟩ := O.me.ex
  obtain ⟨m, hF⟩ := I.fr
  obtain ⟨p, dx, fs, rfl, hp, hy, z⟩ := h
  cases rx
  obtain ⟨mA, J, _⟩ := ins_get I.hok hp
  obtain ⟨od, J, _⟩ := J.look
  have R : wpAny (model X.prog X.w) X.A (call (.ref f) [.ref p, v]) (PySem.W.CmpBack (EP X pins σ Q)) X.xe s :=
    wpAny_mono (run_fnD (us := [.ref p, v]) (vs := [.ref p, y]) Ff c.gd (c.hr.mono hk) (passAt c.tk σ) I (.cons rfl (.cons ry .nil)) z) (fun _ _ => cmpBack_of) fun _ _ e => e
  have hu : X.A.units < cLine := c.hr.units0
  show wpAny (model X.prog X.w) X.A (richCompare .Eq (.ref p) v) (EP X pins σ Q) X.xe s
  rcases hy with ⟨q, dy, gs, rfl, hq⟩ | ⟨i, rfl⟩ | ⟨q, ys, rfl, hT⟩ | ⟨q, ys, rfl, hT⟩ | rfl
  · cases ry
    obtain ⟨mB, J', _⟩ := ins_get I.hok hq
    obtain ⟨od', J', _⟩ := J'.look
    exact PySem.W.cmp_K (op := .Eq) (tb := .ref C) hu hF I.ok.mod.kin J J'.type (by simp [PySem.W.notFirst]) hm.at_ hm.fn R
  · obtain ⟨t, rfl⟩ := ry
    exact PySem.W.cmp_K (op := .Eq) (tb := .type "int") hu hF I.ok.mod.kin J (looks_typ (typeIs_int s i t)) (notFirst_T (sub_int _ _)) hm.at_ hm.fn R
  · cases ry
    obtain ⟨its, _, p, _⟩ := I.tuple hT
    exact PySem.W.cmp_K (op := .Eq) (tb := .type "tuple") hu hF I.ok.mod.kin J (looks_typ p.typeIs) (notFirst_T (sub_tuple _ _)) hm.at_ hm.fn R
  · cases ry
    obtain ⟨its, _, p, _⟩ := I.list hT
    exact PySem.W.cmp_K (op := .Eq) (tb := .type "list") hu hF I.ok.mod.kin J (looks_typ p.isList.typeIs) (notFirst_T (sub_type_ref _ rfl rfl)) hm.at_ hm.fn R
  · cases ry
    exact PySem.W.cmp_K (op := .Eq) (tb := .type "NoneType") hu hF I.ok.mod.kin J (PySem.W.Looks.of_pure rfl) (notFirst_T (sub_type_ref _ rfl rfl)) hm.at_ hm.fn R
theorem ownEq_of {K : PySem.W.Frag} {H : Hp} {μ : M} {x y : D} {u v : V} {Q : VK} {Qd : DK} {F : FK} {E : XK} (m : MR K H μ) (rx : R K (hid H μ) u x) (ry : R K (hid H μ) v y) (h : gOwnEq C wf x y μ Qd F)
    (kQ : ∀ v d H' μ', Mv K H μ H' μ' → R K (hid H' μ') v d → Qd d μ' → Q v H') (kF : ∀ cls dd er H' μ', Mv K H μ H' μ' → ErR K (hid H' μ') cls dd er → F er μ' → E cls dd H') : ownEqV K C wf u v H Q E := by
  obtain ⟨fs, hi, hy, z⟩ := h
  obtain ⟨p, dx, fvs, rfl, hp, rf⟩ := ins_of m rx hi
  refine ⟨p, dx, fvs, rfl, hp, ?_, _, μ, Qd, F, .cons rx (.cons ry .nil), m, z, kQ, kF⟩
  rcases hy with ⟨gs, hj⟩ | ⟨i, rfl⟩ | ⟨ys, rfl⟩ | ⟨ys, hl⟩ | rfl
  · obtain ⟨q, dy, gvs, rfl, hq, _⟩ := ins_of m ry hj
    exact .inl ⟨q, dy, gvs, rfl, hq⟩
  · exact .inr (.inl ⟨i, ry.int_inv⟩)
  · cases ry with
    | tup h ra => exact .inr (.inr (.inl ⟨_, _, rfl, same_t hid_sub h⟩))
  · obtain ⟨q, vs, rfl, e, _⟩ := lst_of m ry hl
    exact .inr (.inr (.inr (.inl ⟨_, _, rfl, SqL.of e⟩)))
  · exact .inr (.inr (.inr (.inr ry.non_inv)))
theorem le_eqO {K : PySem.W.Frag} {r : R2} {g : G2} (ha : LE K W ta wa) (hb : LE K W tb wb) (o : OL K r g) : LE K W (tEqO K W C wf r ta tb) (wBinO g (gOwnEq C wf) wa wb) := fun σ δ H μ Q Qd F S q kQ kF => by
  refine ha σ δ H μ _ _ F S q (fun x dx H1 μ1 m1 r1 q1 => ?_) kF
  refine hb σ δ H1 μ1 _ _ F (S.step m1) q1 (fun y dy H2 μ2 m2 r2 q2 => ?_) (kF.step m1)
  rcases q2 with q2 | q2
  · exact .inl (o H2 μ2 x y dx dy _ _ m2.mr (r1.mono m2.sm) r2 q2 fun v d H' μ' m' r' q' => kQ v d H' μ' (m1.trans (m2.trans m')) r' q')
  · exact .inr (ownEq_of m2.mr (r1.mono m2.sm) r2 q2 (fun v d H' μ' m' r' q' => kQ v d H' μ' (m1.trans (m2.trans m')) r' q') fun cls dd er H' μ' m' r' f => kF cls dd er H' μ' (m1.trans (m2.trans m')) r' f)
theorem pd_eqO {r : R2} {g : G2} (K : PySem.W.Frag) (hK : X.K = K) (c : Ct X W j) (O : OwnEq X.prog X.w X.K X.mg X.base k C wf) (o : OpR X (compareOp .Eq) r ∧ OL X.K r g) (ha : PD X W a ta wa) (hb : PD X W b tb wb) (hk : k ≤ j := by decide) (hm : behindInMarks .Eq b = false := by first | exact nomark _ | rfl) :
    PD X W (.Compare a [.Eq] [b] pos) (tEqO K W C wf r ta tb) (wBinO g (gOwnEq C wf) wa wb) := by
  subst hK
  refine ⟨⟨fun pins s σ H Q I h => ?_⟩, le_eqO ha.le hb.le o.2⟩
  refine wpAny_Compare1 (binT ha.pe hb.pe (R := fun x y H2 => r x y H2 Q ∨ ownEqV X.K C wf x y H2 Q (WE W σ)) I h fun v u s2 x y H2 I2 rx ry q => ?_) hm
  rcases q with q | q
  · exact o.1 pins s2 σ H2 x y v u Q I2 rx ry q
  · exact ownEq_run c O hk I2 rx ry q
theorem pdt_eqO {r : R2} {g : G2} (K : PySem.W.Frag) (hK : X.K = K) (c : Ct X W j) (O : OwnEq X.prog X.w X.K X.mg X.base k C wf) (o : OpR X (compareOp .Eq) r ∧ OL X.K r g) (ha : PD X W a ta wa) (hb : PD X W b tb wb) (hk : k ≤ j := by decide) (hm : behindInMarks .Eq b = false := by first | exact nomark _ | rfl) :
    PDT X W (.Compare a [.Eq] [b] pos) (tTest (tEqO K W C wf r ta tb)) (wTst (wBinO g (gOwnEq C wf) wa wb)) := by
  subst hK
  refine ⟨⟨fun pins s σ H Q I h => ?_⟩, lt_tst (le_eqO ha.le hb.le o.2)⟩
  refine wpAny_isTrue_Compare1 (thn (ha.pe.run pins s σ H _ I h) fun v s1 ⟨x, H1, I1, r1, q1⟩ => thn (hb.pe.run pins s1 σ H1 _ I1 q1) fun u s2 ⟨y, H2, I2, r2, q2⟩ => ?_) hm
  have key : wpAny (model X.prog X.w) X.A (compareOp .Eq v u) (EP X pins σ fun x H' => ∃ k, x = .bl k ∧ Q k H') X.xe s2 := by
    rcases q2 with q2 | q2
    · exact o.1 pins s2 σ H2 x y v u _ I2 r1 r2 q2
    · exact ownEq_run c O hk I2 r1 r2 q2
  refine thn key fun c' s3 ⟨z, H3, I3, r3, k, e, q3⟩ => ?_
  subst e
  cases r3
  exact wpAny_truthy_bool ⟨H3, I3, q3⟩
theorem pd_negO {r : V → Hp → VK → Prop} {g : G1} (K : PySem.W.Frag) (hK : X.K = K) (c : Ct X W j) (O : MetD X.prog X.w X.K X.mg X.base k C "__neg__" wf) (o : UnR X (unaryOp .USub) r ∧ UL X.K r g) (ha : PD X W a ta wa) (hk : k ≤ j := by decide) :
    PD X W (.UnaryOp .USub a pos) (tUnO K W C wf r ta) (wUnO g (gOwnN C wf) wa) := by
  subst hK
  refine ⟨⟨fun pins s σ H Q I h => ?_⟩, fun σ δ H μ Q Qd F S q kQ kF => ?_⟩
  · refine UnaryOp_ (thn (ha.pe.run pins s σ H _ I h) fun v s1 ⟨x, H1, I1, r1, q1⟩ => ?_)
    rcases q1 with q1 | ⟨p, dx, fs, rfl, hp, z⟩
    · exact o.1 pins s1 σ H1 x v Q I1 r1 q1
    · cases r1
      obtain ⟨f, hm, Ff⟩ := O.ex
      obtain ⟨m, hF⟩ := I1.fr
      obtain ⟨mA, J, _⟩ := ins_get I1.hok hp
      obtain ⟨od, J, _⟩ := J.look
      exact PySem.W.ksp_neg hF I1.ok.mod.kin J hm.at_ hm.fn (run_fnD (us := [.ref p]) (vs := [.ref p]) Ff c.gd (c.hr.mono hk) (passAt c.tk σ) I1 (.cons rfl .nil) z)
  · refine ha.le σ δ H μ _ _ F S q (fun x dx H1 μ1 m1 r1 q1 => ?_) kF
    rcases q1 with q1 | ⟨fs, hi, z⟩
    · exact .inl (o.2 H1 μ1 x dx _ _ m1.mr r1 q1 fun v d H' μ' m' r' q' => kQ v d H' μ' (m1.trans m') r' q')
    · obtain ⟨p, dy, fvs, rfl, hp, rf⟩ := ins_of m1.mr r1 hi
      exact .inr ⟨p, dy, fvs, rfl, hp, _, μ1, Qd, F, .cons r1 .nil, m1.mr, z, fun v d H' μ' m' r' q' => kQ v d H' μ' (m1.trans m') r' q', fun cls dd er H' μ' m' r' f => kF cls dd er H' μ' (m1.trans m') r' f⟩
end
end DL

set_option maxHeartbeats 2000000
namespace DL
open PySem PySem.Spec PyProof.Rows L2 LL
/-! ### xs[i] = v, pop, insert -/
def wSubG (wo wi : DW) : DG := fun d δ μ Q => wo δ μ (fun o μ1 => wi δ μ1 (fun i μ2 => ∃ a xs k j, o = .obj a ∧ i = .int k ∧ μ2 a = some (.lst xs) ∧ ixN xs.length k = some j ∧ Q δ (mput μ2 a (.lst (xs.set j d)))) FF) FF
section
variable {X : Cx} {W : WX} {a b : Expr} {ta tb : TE} {wa wb : DW} {pos : Pos} {j k : Nat}
theorem pdg_sub {o i : Expr} {to ti : TE} {wo wi : DW} (ho : PD X W o to wo) (hi : PD X W i ti wi)
    (ha : ∀ v, assign (.Subscript o i pos) X.env v = (do
      let ov ← holding [v] (eval o X.env)
      let iv ← holding [v, ov] (eval i X.env)
      standAt pos
      holding [v, ov, iv] (setItem ov iv v)
      release [v, ov, iv] []) := by intro _; rfl) : PDG X (.Subscript o i pos) (L2.gSub to ti rSetL) (wSubG wo wi) [] := by
  refine ⟨pg_sub ho.pe hi.pe set_list ha, fun σ δ H μ v d Q Qd S r q k => ?_⟩
  refine ho.le σ δ H μ _ _ FF S q (fun x dx H1 μ1 m1 r1 q1 => ?_) (ex_ff (W := W))
  refine hi.le σ δ H1 μ1 _ _ FF (S.step m1) q1 (fun y dy H2 μ2 m2 r2 q2 => ?_) (ex_ff (W := W))
  obtain ⟨p, xs, n, jj, rfl, rfl, hm, hj, q2⟩ := q2
  obtain ⟨vs, e, ra⟩ := m2.mr p _ hm
  refine ⟨p, vs, n, jj, r1.obj_inv, r2.int_inv, e, by rw [ra.length]; exact hj, ?_⟩
  have m3 : Mv X.K H2 μ2 (upd H2 p (.lst (vs.set jj v))) (mput μ2 p (.lst (xs.set jj d))) := Mv.put m2.mr (.inr ⟨_, hm⟩) fun sm eq => ⟨_, upd_same, by rw [eq]; exact (ra.mono sm).set ((r.mono (m1.trans m2).sm).mono sm) jj⟩
  have m := m1.trans (m2.trans m3)
  exact k σ δ _ _ m.sm (S.step m) ⟨fun _ _ => rfl, rfl⟩ q2
def wPop (wo : DW) : DW := fun δ μ Q F => wo δ μ (fun d μ1 => ∃ a xs y, d = .obj a ∧ μ1 a = some (.lst xs) ∧ xs[xs.length - 1]? = some y ∧ Q y (mput μ1 a (.lst xs.dropLast))) F
theorem RA.dropLast {K : PySem.W.Frag} {G : Hp} {vs : List V} {ds : List D} (r : RA K G vs ds) : RA K G vs.dropLast ds.dropLast := by
  rw [List.dropLast_eq_take, List.dropLast_eq_take, r.length]
  exact r.take _
theorem pd_pop {o : Expr} {apos cpos : Pos} {to : TE} {wo : DW} (ho : PD X W o to wo) (hbase : attributeBase o "pop" X.env (eval o X.env) = eval o X.env := by rfl) (hline : (apos.endLine == cpos.line) = true := by rfl) :
    PD X W (.Call (.Attribute o "pop" apos) [] [] cpos) (tBM0 X.K "list" rPop to) (wPop wo) := by
  refine ⟨pe_bm0 PySem.F.plainAttrs_list PySem.F.slot_list_pop PySem.F.type_list_pop mt_pop ho.pe hbase hline, fun σ δ H μ Q Qd F S q kQ kF => ?_⟩
  refine ho.le σ δ H μ _ _ F S q (fun v d H1 μ1 m1 r1 q1 => ?_) kF
  obtain ⟨a, xs, y, rfl, hm, hy, q1⟩ := q1
  rw [r1.obj_inv]
  obtain ⟨vs, e, ra⟩ := m1.mr a _ hm
  obtain ⟨u, hu, ru⟩ := ra.get hy
  refine ⟨.inl ⟨rfl, _, .inl (.inl e)⟩, a, vs, u, rfl, rfl, e, by rw [ra.length]; exact hu, ?_⟩
  have m3 : Mv X.K H1 μ1 (upd H1 a (.lst vs.dropLast)) (mput μ1 a (.lst xs.dropLast)) := Mv.put m1.mr (.inr ⟨_, hm⟩) fun sm eq => ⟨_, upd_same, by rw [eq]; exact (RA.dropLast ra).mono sm⟩
  exact kQ _ _ _ _ (m1.trans m3) (ru.mono m3.sm) q1
def wPopAt (wo wi : DW) : DW := fun δ μ Q F => wo δ μ (fun d μ1 => ∃ a, d = .obj a ∧ (∃ ds0, μ1 a = some (.lst ds0)) ∧ wi δ μ1 (fun i μ2 => ∃ xs n k y, i = .int n ∧ μ2 a = some (.lst xs) ∧ -(2 ^ 63) ≤ n ∧ n < 2 ^ 63 ∧ seqIndex? n xs.length = some k ∧ xs[k]? = some y ∧ Q y (mput μ2 a (.lst (xs.eraseIdx k)))) F) F
theorem RA.erase {K : PySem.W.Frag} {G : Hp} : ∀ {vs : List V} {ds : List D} (n : Nat), RA K G vs ds → RA K G (vs.eraseIdx n) (ds.eraseIdx n)
  | _, _, _, .nil => .nil
  | _, _, 0, .cons _ r => r
  | _, _, n + 1, .cons h r => .cons h (r.erase n)
theorem pd_popAt {o e : Expr} {apos cpos : Pos} {to te : TE} {wo we : DW} (ho : PD X W o to wo) (he : PD X W e te we) (hs : starEach [e] X.env = (false, eval e X.env) :: starEach [] X.env := by rfl)
    (hbase : attributeBase o "pop" X.env (eval o X.env) = eval o X.env := by rfl)
    (hfew : ((backTo cpos (starEach [e] X.env)).all (fun x => !x.1) && (backToKw cpos (keywordEach [] X.env)).all (fun x => x.1.isSome) && decide ([e].length + ([] : List Keyword).length + (if ([] : List Keyword).isEmpty then 0 else 1) < 30)) = true := by rfl)
    (hline : (apos.endLine == cpos.line) = true := by rfl) :
    PD X W (.Call (.Attribute o "pop" apos) [e] [] cpos) (tBM X.K "list" rPopAt to (tCons te tNil)) (wPopAt wo we) := by
  refine ⟨pe_bm PySem.F.plainAttrs_list PySem.F.slot_list_pop PySem.F.type_list_pop mt_popAt ho.pe (pa_cons he.pe pa_nil hs) hbase hfew hline hs, fun σ δ H μ Q Qd F S q kQ kF => ?_⟩
  refine ho.le σ δ H μ _ _ F S q (fun v d H1 μ1 m1 r1 q1 => ?_) kF
  obtain ⟨a, rfl, ⟨ds0, e0⟩, q1⟩ := q1
  rw [r1.obj_inv]
  obtain ⟨vs0, e2, ra0⟩ := m1.mr a _ e0
  refine ⟨.inl ⟨rfl, _, .inl (.inl e2)⟩, ?_⟩
  refine he.le σ δ H1 μ1 _ _ F (S.step m1) q1 (fun w dw H2 μ2 m2 r2 q2 => ?_) (kF.step m1)
  obtain ⟨xs, n, kk, y, rfl, hm, n1, n2, hk, hy, q2⟩ := q2
  obtain ⟨vs, e, ra⟩ := m2.mr a _ hm
  obtain ⟨u, hu, ru⟩ := ra.get hy
  rw [r2.int_inv]
  refine ⟨a, vs, n, kk, u, rfl, rfl, e, n1, n2, by rw [ra.length]; exact hk, hu, ?_⟩
  have m3 : Mv X.K H2 μ2 (upd H2 a (.lst (vs.eraseIdx kk))) (mput μ2 a (.lst (xs.eraseIdx kk))) := Mv.put m2.mr (.inr ⟨_, hm⟩) fun sm eq => ⟨_, upd_same, by rw [eq]; exact (ra.erase kk).mono sm⟩
  exact kQ _ _ _ _ (m1.trans (m2.trans m3)) (ru.mono m3.sm) q2
def wIns (wo wi we : DW) : DW := fun δ μ Q F => wo δ μ (fun d μ1 => ∃ a, d = .obj a ∧ (∃ ds0, μ1 a = some (.lst ds0)) ∧ wi δ μ1 (fun i μ2 => we δ μ2 (fun y μ3 => ∃ xs n, i = .int n ∧ μ3 a = some (.lst xs) ∧ xs.length < 1000000 ∧ 0 ≤ n ∧ n < 2 ^ 63 ∧ Q .non (mput μ3 a (.lst (xs.take n.toNat ++ [y] ++ xs.drop n.toNat)))) F) F) F
theorem pd_insert {o e e2 : Expr} {apos cpos : Pos} {to te te2 : TE} {wo we we2 : DW} (ho : PD X W o to wo) (he : PD X W e te we) (he2 : PD X W e2 te2 we2) (hs : starEach [e, e2] X.env = (false, eval e X.env) :: starEach [e2] X.env := by rfl) (hs2 : starEach [e2] X.env = (false, eval e2 X.env) :: starEach [] X.env := by rfl)
    (hbase : attributeBase o "insert" X.env (eval o X.env) = eval o X.env := by rfl)
    (hfew : ((backTo cpos (starEach [e, e2] X.env)).all (fun x => !x.1) && (backToKw cpos (keywordEach [] X.env)).all (fun x => x.1.isSome) && decide ([e, e2].length + ([] : List Keyword).length + (if ([] : List Keyword).isEmpty then 0 else 1) < 30)) = true := by rfl)
    (hline : (apos.endLine == cpos.line) = true := by rfl) (hpl : (backTo cpos (starEach [e2] X.env)).any (·.1) = false := by rfl) :
    PD X W (.Call (.Attribute o "insert" apos) [e, e2] [] cpos) (tBM X.K "list" (fun x vs H Q => ∃ (l : Addr) (xs : List V) (i : Int) (y : V), x = .ref l ∧ vs = [.int i, y] ∧ H l = some (.lst xs) ∧ xs.length < sizeLine ∧ 0 ≤ i ∧ i < 2 ^ 63 ∧
    Q .non (upd H l (.lst (xs.take i.toNat ++ [y] ++ xs.drop i.toNat)))) to (tCons te (tCons te2 tNil))) (wIns wo we we2) := by
  refine ⟨pe_bm PySem.F.plainAttrs_list PySem.F.slot_list_insert PySem.F.type_list_insert mt_insert ho.pe (pa_cons he.pe (pa_cons he2.pe pa_nil hs2) hs) hbase hfew hline hs hpl, fun σ δ H μ Q Qd F S q kQ kF => ?_⟩
  refine ho.le σ δ H μ _ _ F S q (fun v d H1 μ1 m1 r1 q1 => ?_) kF
  obtain ⟨a, rfl, ⟨ds0, e0⟩, q1⟩ := q1
  rw [r1.obj_inv]
  obtain ⟨vs0, e2, ra0⟩ := m1.mr a _ e0
  refine ⟨.inl ⟨rfl, _, .inl (.inl e2)⟩, ?_⟩
  refine he.le σ δ H1 μ1 _ _ F (S.step m1) q1 (fun w dw H2 μ2 m2 r2 q2 => ?_) (kF.step m1)
  refine he2.le σ δ H2 μ2 _ _ F ((S.step m1).step m2) q2 (fun u du H3 μ3 m3 r3 q3 => ?_) ((kF.step m1).step m2)
  obtain ⟨xs, n, rfl, hm, hz, n1, n2, q3⟩ := q3
  obtain ⟨vs, e, ra⟩ := m3.mr a _ hm
  rw [r2.int_inv]
  refine ⟨a, vs, n, u, rfl, rfl, e, Nat.lt_of_lt_of_le (by rw [ra.length]; exact hz) (by decide), n1, n2, ?_⟩
  have m4 : Mv X.K H3 μ3 (upd H3 a (.lst (vs.take n.toNat ++ [u] ++ vs.drop n.toNat))) (mput μ3 a (.lst (xs.take n.toNat ++ [du] ++ xs.drop n.toNat))) :=
    Mv.put m3.mr (.inr ⟨_, hm⟩) fun sm eq => ⟨_, upd_same, by rw [eq]; exact (((ra.take _).append (.cons r3 .nil)).append (ra.drop _)).mono sm⟩
  exact kQ _ _ _ _ (m1.trans (m2.trans (m3.trans m4))) .non q3
/-! ### xs * n, t * n; xs[::-1] -/
def gRep : G2 := fun x y μ Q => ∃ n, y = .int n ∧ ((∃ xs, lstOf μ x = some xs ∧ -(2 ^ 63) ≤ n ∧ n < 2 ^ 63 ∧ xs.length * n.toNat ≤ 1000000 ∧ Q (.lst (List.replicate n.toNat xs).flatten) μ) ∨
  ∃ xs, x = .tup xs ∧ xs ≠ [] ∧ -(2 ^ 63) ≤ n ∧ n ≤ 1000 ∧ xs.length ≤ 1000 ∧ Q (.tup (List.replicate n.toNat xs).flatten) μ)
/-- as gRep, the new list behind a handle -/
def gRepM : G2 := fun x y μ Q => ∃ n xs, y = .int n ∧ lstOf μ x = some xs ∧ -(2 ^ 63) ≤ n ∧ n < 2 ^ 63 ∧ xs.length * n.toNat ≤ 1000000 ∧ ∀ p, μ p = none → Q (.obj p) (mput μ p (.lst (List.replicate n.toNat xs).flatten))
theorem RA.rep {K : PySem.W.Frag} {G : Hp} {vs : List V} {ds : List D} (r : RA K G vs ds) : ∀ n : Nat, RA K G (List.replicate n vs).flatten (List.replicate n ds).flatten
  | 0 => .nil
  | n + 1 => by
    rw [List.replicate_succ, List.replicate_succ, List.flatten_cons, List.flatten_cons]
    exact r.append (RA.rep r n)
theorem o_rep : OpR X (binaryOp .Mult) (fun x y H Q => rRep x y H Q ∨ (rRepT X.K x y H Q ∨ rRepT1 X.K x y H Q)) ∧ OL X.K (fun x y H Q => rRep x y H Q ∨ (rRepT X.K x y H Q ∨ rRepT1 X.K x y H Q)) gRep := by
  refine ⟨OpR.or op_rep (OpR.or op_repT op_repT1), fun H μ x y dx dy Q Qd m rx ry h k => ?_⟩
  obtain ⟨n, rfl, h⟩ := h
  rw [ry.int_inv]
  rcases h with ⟨xs, hl, n1, n2, hz, q⟩ | ⟨xs, rfl, hne, n1, n2, hz, q⟩
  · obtain ⟨a, vs, rfl, e, ra⟩ := lst_of m rx hl
    refine .inl ⟨a, n, vs, rfl, rfl, e, n1, n2, sz_ok (by rw [ra.length]; exact hz), fun p hp => ?_⟩
    have m2 := Mv.new (o := .lst (List.replicate n.toNat vs).flatten) m hp
    exact k _ _ _ _ m2 (.lst (hid_new (m.fresh hp)) ((ra.rep _).mono m2.sm)) q
  · cases rx with
    | @tup a vs _ h1 ra =>
      have t1 := same_t hid_sub h1
      have hv : vs ≠ [] := fun e => hne (by
        have := ra.length
        rw [e] at this
        exact List.eq_nil_of_length_eq_zero this.symm)
      by_cases hn : 2 ≤ n
      · refine .inr (.inl ⟨a, n, vs, rfl, rfl, t1, hv, hn, n2, by rw [ra.length]; exact hz, fun p hp => ?_⟩)
        have m2 := Mv.new (o := .tup (List.replicate n.toNat vs).flatten) m hp
        exact k _ _ _ _ m2 (.tup (SqT.of (hid_new (m.fresh hp))) ((ra.rep _).mono m2.sm)) q
      · refine .inr (.inr ⟨a, n, vs, rfl, rfl, t1, hv, n1, by omega, fun e => ?_, fun e p hp => ?_⟩)
        · subst e
          refine k _ _ H μ (.refl m) (.tup h1 ?_) q
          show RA X.K _ vs (List.replicate 1 xs).flatten
          simpa using ra
        · have m2 := Mv.new (o := .tup []) m hp
          have e0 : n.toNat = 0 := by omega
          rw [e0] at q
          exact k _ _ _ _ m2 (.tup (SqT.of (hid_new (m.fresh hp))) .nil) q
theorem o_repM : OpR X (binaryOp .Mult) rRep ∧ OL X.K rRep gRepM := by
  refine ⟨op_rep, fun H μ x y dx dy Q Qd m rx ry h k => ?_⟩
  obtain ⟨n, xs, rfl, hl, n1, n2, hz, q⟩ := h
  rw [ry.int_inv]
  obtain ⟨a, vs, rfl, e, ra⟩ := lst_of m rx hl
  refine ⟨a, n, vs, rfl, rfl, e, n1, n2, sz_ok (by rw [ra.length]; exact hz), fun p hp => ?_⟩
  have m2 := Mv.newL m hp (ra.rep n.toNat)
  exact k _ _ _ _ m2 (.obj p) (q p (m.fresh hp))
def wRev (we : DW) : DW := fun δ μ Q F => we δ μ (fun x μ1 => (∃ xs, (lstOf μ1 x = some xs ∨ x = .ro xs) ∧ Q (.lst xs.reverse) μ1) ∨ ∃ xs, x = .tup xs ∧ Q (.tup xs.reverse) μ1) F
theorem pd_rev {e : Expr} {te : TE} {we : DW} {k : Nat} {p1 p2 p3 pos : Pos} (he : PD X W e te we) : PD X W (.Subscript e (.Slice none none (some (.UnaryOp .USub (.Constant (.int 1) k p1) p2)) p3) pos) (tRev X.K te) (wRev we) := by
  refine ⟨pe_rev he.pe, fun σ δ H μ Q Qd F S q kQ kF => he.le σ δ H μ _ _ F S q (fun v d H1 μ1 m1 r1 q1 => ?_) kF⟩
  rcases q1 with ⟨xs, hl, q1⟩ | ⟨xs, rfl, q1⟩
  · obtain ⟨a, vs, rfl, hs, ra⟩ := lro_of m1.mr r1 hl
    refine ⟨a, vs, rfl, .inl ⟨hs, fun p hp => ?_⟩⟩
    have m2 := Mv.new (o := .lst vs.reverse) m1.mr hp
    exact kQ _ _ _ _ (m1.trans m2) (.lst (hid_new (m1.mr.fresh hp)) (ra.rev.mono m2.sm)) q1
  · cases r1 with
    | @tup a vs _ h1 ra =>
      refine ⟨a, vs, rfl, .inr ⟨same_t hid_sub h1, fun p hp => ?_⟩⟩
      have m2 := Mv.new (o := .tup vs.reverse) m1.mr hp
      exact kQ _ _ _ _ (m1.trans m2) (.tup (SqT.of (hid_new (m1.mr.fresh hp))) (ra.rev.mono m2.sm)) q1
/-! ### sum, max, min, any, all of a list -/
theorem ra_ints {K : PySem.W.Frag} {G : Hp} : ∀ {vs : List V} {ns : List Int}, RA K G vs (ns.map .int) → vs = ns.map .int
  | [], [], _ => rfl
  | [], n :: ns, h => by cases h
  | v :: vs, [], h => by cases h
  | v :: vs, n :: ns, h => by
    cases h with
    | cons h1 h2 => rw [h1.int_inv, ra_ints h2]; rfl
theorem ra_bls {K : PySem.W.Frag} {G : Hp} : ∀ {vs : List V} {ns : List Bool}, RA K G vs (ns.map .bl) → vs = ns.map .bl
  | [], [], _ => rfl
  | [], n :: ns, h => by cases h
  | v :: vs, [], h => by cases h
  | v :: vs, n :: ns, h => by
    cases h with
    | cons h1 h2 => rw [h1.bl_inv, ra_bls h2]; rfl
def gMaxL : G1 := fun x μ Q => ∃ ns : List Int, (lstOf μ x = some (ns.map .int) ∨ x = .ro (ns.map .int)) ∧ 0 < ns.length ∧ ∀ m, m ∈ ns → (∀ y, y ∈ ns → y ≤ m) → Q (.int m) μ
def gMinL : G1 := fun x μ Q => ∃ ns : List Int, (lstOf μ x = some (ns.map .int) ∨ x = .ro (ns.map .int)) ∧ 0 < ns.length ∧ ∀ m, m ∈ ns → (∀ y, y ∈ ns → m ≤ y) → Q (.int m) μ
def gSumL : G1 := fun x μ Q => ∃ ns : List Int, (lstOf μ x = some (ns.map .int) ∨ x = .ro (ns.map .int)) ∧ Q (.int ns.sum) μ
def gAllL : G1 := fun x μ Q => ∃ bs : List Bool, (lstOf μ x = some (bs.map .bl) ∨ x = .ro (bs.map .bl)) ∧ Q (.bl (bs.all id)) μ
def gAnyL : G1 := fun x μ Q => ∃ bs : List Bool, (lstOf μ x = some (bs.map .bl) ∨ x = .ro (bs.map .bl)) ∧ Q (.bl (bs.any id)) μ
theorem c_maxL (hc : X.calm = true) : CallR X (.builtin "max") (rMax X.K) ∧ CL X.K (rMax X.K) (gOne gMaxL) := by
  refine ⟨cr_max hc, fun H μ xs ds Q Qd m rx h k => ?_⟩
  obtain ⟨d, rfl, ns, hl, hp, q⟩ := h
  obtain ⟨v, rfl, r⟩ := ra1 rx
  obtain ⟨a, vs, rfl, hs, ra⟩ := lro_of m r hl
  obtain rfl := ra_ints ra
  exact ⟨a, ns, rfl, hs, hp, fun y h1 h2 => k _ _ H μ (.refl m) (.int y) (q y h1 h2)⟩
theorem c_minL (hc : X.calm = true) : CallR X (.builtin "min") (rMin X.K) ∧ CL X.K (rMin X.K) (gOne gMinL) := by
  refine ⟨cr_min hc, fun H μ xs ds Q Qd m rx h k => ?_⟩
  obtain ⟨d, rfl, ns, hl, hp, q⟩ := h
  obtain ⟨v, rfl, r⟩ := ra1 rx
  obtain ⟨a, vs, rfl, hs, ra⟩ := lro_of m r hl
  obtain rfl := ra_ints ra
  exact ⟨a, ns, rfl, hs, hp, fun y h1 h2 => k _ _ H μ (.refl m) (.int y) (q y h1 h2)⟩
theorem c_sumL (hc : X.calm = true) : CallR X (.builtin "sum") (rSum X.K) ∧ CL X.K (rSum X.K) (gOne gSumL) := by
  refine ⟨cr_sum hc, fun H μ xs ds Q Qd m rx h k => ?_⟩
  obtain ⟨d, rfl, ns, hl, q⟩ := h
  obtain ⟨v, rfl, r⟩ := ra1 rx
  obtain ⟨a, vs, rfl, hs, ra⟩ := lro_of m r hl
  obtain rfl := ra_ints ra
  exact ⟨a, ns, rfl, hs, k _ _ H μ (.refl m) (.int _) q⟩
theorem c_allL (hc : X.calm = true) : CallR X (.builtin "all") (rAll X.K) ∧ CL X.K (rAll X.K) (gOne gAllL) := by
  refine ⟨cr_all hc, fun H μ xs ds Q Qd m rx h k => ?_⟩
  obtain ⟨d, rfl, ns, hl, q⟩ := h
  obtain ⟨v, rfl, r⟩ := ra1 rx
  obtain ⟨a, vs, rfl, hs, ra⟩ := lro_of m r hl
  obtain rfl := ra_bls ra
  exact ⟨a, ns, rfl, hs, k _ _ H μ (.refl m) (.bl _) q⟩
theorem c_anyL (hc : X.calm = true) : CallR X (.builtin "any") (rAny X.K) ∧ CL X.K (rAny X.K) (gOne gAnyL) := by
  refine ⟨cr_any hc, fun H μ xs ds Q Qd m rx h k => ?_⟩
  obtain ⟨d, rfl, ns, hl, q⟩ := h
  obtain ⟨v, rfl, r⟩ := ra1 rx
  obtain ⟨a, vs, rfl, hs, ra⟩ := lro_of m r hl
  obtain rfl := ra_bls ra
  exact ⟨a, ns, rfl, hs, k _ _ H μ (.refl m) (.bl _) q⟩
end
end DL

set_option maxHeartbeats 2000000
namespace DL
open PySem PySem.Spec PyProof.Rows L2 LL
/-! ### handles are let go -/
def Drp (μ : M) (d : D) (μ' : M) (d' : D) : Prop := ∀ (K : PySem.W.Frag) (H : Hp) (v : V), MR K H μ → R K (hid H μ) v d → Mv K H μ H μ' ∧ R K (hid H μ') v d'
theorem Drp.refl {μ : M} {d : D} : Drp μ d μ d := fun K H v m r => ⟨.refl m, r⟩
theorem Drp.trans {μ μ1 μ2 : M} {d d1 d2 : D} (a : Drp μ d μ1 d1) (b : Drp μ1 d1 μ2 d2) : Drp μ d μ2 d2 := fun K H v m r => by
  obtain ⟨m1, r1⟩ := a K H v m r
  obtain ⟨m2, r2⟩ := b K H v m1.mr r1
  exact ⟨m1.trans m2, r2⟩
theorem Drp.del {μ : M} {d : D} (a : Addr) : Drp μ d (mdel μ a) d := fun K H v m r => by
  have md := Mv.drop m a
  exact ⟨md, r.mono md.sm⟩
theorem Drp.lst {μ : M} {a : Addr} {xs : List D} (h : μ a = some (.lst xs)) : Drp μ (.obj a) (mdel μ a) (.lst xs) := fun K H v m r => by
  have md := Mv.drop m a
  obtain ⟨vs, e, ra⟩ := m a _ h
  rw [r.obj_inv]
  exact ⟨md, .lst (hid_some.mpr ⟨⟨mdel_same, rfl⟩, e⟩) (ra.mono md.sm)⟩
theorem Drp.ins {μ : M} {a C : Addr} {fs : List (Str × D)} (h : μ a = some (.ins C fs)) : Drp μ (.obj a) (mdel μ a) (.ins C fs) := fun K H v m r => by
  have md := Mv.drop m a
  obtain ⟨dx, vs, e, ra⟩ := m a _ h
  rw [r.obj_inv]
  exact ⟨md, .ins (hid_some.mpr ⟨⟨mdel_same, rfl⟩, e⟩) (ra.mono md.sm)⟩
/-- Q of what remains when some handles are let go -/
def dn (Q : DK) : DK := fun d μ => ∃ d' μ', Drp μ d μ' d' ∧ Q d' μ'
def dnF (F : FK) : FK := fun er μ => ∃ μ', (∀ K H, MR K H μ → Mv K H μ H μ') ∧ F er μ'
theorem dn_i {Q : DK} {d : D} {μ : M} (q : Q d μ) : dn Q d μ := ⟨d, μ, Drp.refl, q⟩
theorem dnF_i {F : FK} {er : Er} {μ : M} (q : F er μ) : dnF F er μ := ⟨μ, fun _ _ m => .refl m, q⟩
theorem dn_lst {Q : DK} {a : Addr} {xs : List D} {μ : M} (h : μ a = some (.lst xs)) (q : Q (.lst xs) (mdel μ a)) : dn Q (.obj a) μ := ⟨_, _, Drp.lst h, q⟩
theorem dn_del {Q : DK} {d : D} {μ : M} (a : Addr) (q : dn Q d (mdel μ a)) : dn Q d μ := by
  obtain ⟨d', μ', h, q⟩ := q
  exact ⟨d', μ', (Drp.del a).trans h, q⟩
theorem dnF_del {F : FK} {er : Er} {μ : M} (a : Addr) (q : dnF F er (mdel μ a)) : dnF F er μ := by
  obtain ⟨μ', h, q⟩ := q
  exact ⟨μ', fun K H m => (Mv.drop m a).trans (h K H (Mv.drop m a).mr), q⟩
theorem mdel_put' {μ : M} {b : Addr} {m : MO} (h : μ b = none) : mdel (mput μ b m) b = μ := by
  funext c
  by_cases e : c = b
  · rw [e, mdel_same, h]
  · rw [mdel_ne e, mput_ne e]
section
variable {P : Program} {w : World} {K : PySem.W.Frag} {mg : Str → Option Value} {base : Heap} {k : Nat} {x : Str} {f : Addr} {wp : DF}
theorem spD.dn {vs : List V} {H : Hp} {Q : VK} {E : XK} (h : spD K (fun ds μ Q F => wp ds μ (dn Q) (dnF F)) vs H Q E) : spD K wp vs H Q E := by
  obtain ⟨ds, μ, Qd, F, ra, mr, z, kQ, kF⟩ := h
  refine ⟨ds, μ, _, _, ra, mr, z, fun v d H' μ' m r q => ?_, fun cls dd er H' μ' m r q => ?_⟩
  · obtain ⟨d', μ'', hd, q⟩ := q
    obtain ⟨m2, r2⟩ := hd K H' v m.mr r
    exact kQ v d' H' μ'' (m.trans m2) r2 q
  · obtain ⟨μ'', hd, q⟩ := q
    have m2 := hd K H' m.mr
    exact kF cls dd er H' μ'' (m.trans m2) (r.mono m2.sm) q
theorem FnD.dn (F : FnD P w K mg base k f wp) : FnD P w K mg base k f (fun ds μ Q F => wp ds μ (dn Q) (dnF F)) := fun A outer s H us vs Q E g r e v z => F A outer s H us vs Q E g r e v z.dn
theorem CalD.dn (C : CalD P w K mg base k x wp) : CalD P w K mg base k x (fun ds μ Q F => wp ds μ (dn Q) (dnF F)) := by
  obtain ⟨f, h1, h2, h3⟩ := C
  exact ⟨f, h1, h2, h3.dn⟩
end
/-! ### name = [..] -/
section
variable {X : Cx} {W : WX} {elt tg iter : Expr} {ifs : List Expr} {scope : Scope} {pos spos py : Pos} {y : Str} {wi : TI} {di : DI} {g : TG} {dg : DG} {sl vs : List Nat} {tt : TT} {dt : DT} {te : TE} {de : DW}
theorem pds_setLc {k : Nat} {own : List (Str × Nat)} (i : Nat) (c : Ct X W k) (hN : X.N.Nodup) (hi : PDI X W tg iter wi di) (ok : BlkOk X.N X.env.scope scope own)
    (hg : ∀ (s : Shared) (H : Hp) (C : Addr) (cl : List (Str × Addr)) (fp : List Addr), PDG (X.blk s H scope (compEnvC scope cl C X.env) fp) tg g dg sl)
    (ht : ∀ (s : Shared) (H : Hp) (C : Addr) (cl : List (Str × Addr)) (fp : List Addr), Ct (X.blk s H scope (compEnvC scope cl C X.env) fp) W0 k → PDTs (X.blk s H scope (compEnvC scope cl C X.env) fp) W0 ifs tt dt)
    (he : ∀ (s : Shared) (H : Hp) (C : Addr) (cl : List (Str × Addr)) (fp : List Addr), Ct (X.blk s H scope (compEnvC scope cl C X.env) fp) W0 k → PD (X.blk s H scope (compEnvC scope cl C X.env) fp) W0 elt te de)
    (hy : X.N[i]? = some y := by rfl) (hyl : X.env.scope.names.lookup y = some .local := by rfl) (hsw : swapsWith (.ListComp elt [⟨tg, iter, ifs, 0⟩] scope pos) (some (.Name y py)) spos.line X.env = pure true := by exact sw_true rfl rfl rfl rfl)
    (hsl : ∀ i, i ∈ sl → i ∈ own.map (·.2) := by decide) (hs : ∀ x, foldedSetIterable iter X.env x = pure x := by intro _; rfl) :
    PDS X W (.Assign [.Name y py] (.ListComp elt [⟨tg, iter, ifs, 0⟩] scope pos) spos) (tAsg (tLc wi g tt te (own.map (·.2))) (gName i)) (wAsg (wLc di dg dt de (own.map (·.2))) (wName i)) :=
  ⟨ps_setLc c.calm hN hy hyl hsw hi.pi ok (fun s H C cl fp => (hg s H C cl fp).pg) (fun s H C cl fp => (ht s H C cl fp c.blk).pt) (fun s H C cl fp => (he s H C cl fp c.blk).pe) hs,
    ls_asg (le_lc hi.li (hg X.s_0 X.H_0 0 [] []).lg (ht X.s_0 X.H_0 0 [] [] c.blk).lt (he X.s_0 X.H_0 0 [] [] c.blk).le hsl) (pdg_name (X := X) (x := y) (pos := py) i hN hy (.inl hyl) (.inr hyl)).lg⟩
theorem pds_setLcM {k : Nat} {own : List (Str × Nat)} (i : Nat) (c : Ct X W k) (hN : X.N.Nodup) (hi : PDI X W tg iter wi di) (ok : BlkOk X.N X.env.scope scope own)
    (hg : ∀ (s : Shared) (H : Hp) (C : Addr) (cl : List (Str × Addr)) (fp : List Addr), PDG (X.blk s H scope (compEnvC scope cl C X.env) fp) tg g dg sl)
    (ht : ∀ (s : Shared) (H : Hp) (C : Addr) (cl : List (Str × Addr)) (fp : List Addr), Ct (X.blk s H scope (compEnvC scope cl C X.env) fp) W0 k → PDTs (X.blk s H scope (compEnvC scope cl C X.env) fp) W0 ifs tt dt)
    (he : ∀ (s : Shared) (H : Hp) (C : Addr) (cl : List (Str × Addr)) (fp : List Addr), Ct (X.blk s H scope (compEnvC scope cl C X.env) fp) W0 k → PD (X.blk s H scope (compEnvC scope cl C X.env) fp) W0 elt te de)
    (hy : X.N[i]? = some y := by rfl) (hyl : X.env.scope.names.lookup y = some .local := by rfl) (hsw : swapsWith (.ListComp elt [⟨tg, iter, ifs, 0⟩] scope pos) (some (.Name y py)) spos.line X.env = pure true := by exact sw_true rfl rfl rfl rfl)
    (hsl : ∀ i, i ∈ sl → i ∈ own.map (·.2) := by decide) (hs : ∀ x, foldedSetIterable iter X.env x = pure x := by intro _; rfl) :
    PDS X W (.Assign [.Name y py] (.ListComp elt [⟨tg, iter, ifs, 0⟩] scope pos) spos) (tAsg (tLc wi g tt te (own.map (·.2))) (gName i)) (wAsg (wLcM di dg dt de (own.map (·.2))) (wName i)) :=
  ⟨ps_setLc c.calm hN hy hyl hsw hi.pi ok (fun s H C cl fp => (hg s H C cl fp).pg) (fun s H C cl fp => (ht s H C cl fp c.blk).pt) (fun s H C cl fp => (he s H C cl fp c.blk).pe) hs,
    ls_asg (le_lcM hi.li (hg X.s_0 X.H_0 0 [] []).lg (ht X.s_0 X.H_0 0 [] [] c.blk).lt (he X.s_0 X.H_0 0 [] [] c.blk).le hsl) (pdg_name (X := X) (x := y) (pos := py) i hN hy (.inl hyl) (.inr hyl)).lg⟩
end
/-! ### x op= e, o.f op= e; while True -/
def wAug (i : Nat) (g : G2) (we : DW) : DS := fun D F δ μ => ∃ d, δ[i]? = some (some d) ∧ we δ μ (fun y μ1 => g d y μ1 fun r μ2 => D.nx (δ.set i (some r)) μ2) F
def gIAdd : G2 := fun x y μ Q => (∃ i j, x = .int i ∧ y = .int j ∧ Q (.int (i + j)) μ) ∨ ∃ i j, x = .str i ∧ y = .str j ∧ i.length + j.length ≤ 1000000 ∧ Q (.str (i ++ j)) μ
section
variable {X : Cx} {W : WX} {e o value : Expr} {te to tv : TE} {we wo wv : DW} {pos pos' tpos : Pos} {x : Str}
theorem o_iadd : OpR X (inplaceOp .Add) (fun x y H Q => rI0 (fun i j => .int (i + j)) x y H Q ∨ ∃ i j, x = .str i ∧ y = .str j ∧ i.length + j.length ≤ sizeLine ∧ Q (.str (i ++ j)) H) ∧
    OL X.K (fun x y H Q => rI0 (fun i j => .int (i + j)) x y H Q ∨ ∃ i j, x = .str i ∧ y = .str j ∧ i.length + j.length ≤ sizeLine ∧ Q (.str (i ++ j)) H) gIAdd := by
  refine ⟨OpR.or iop_add iop_add_str, fun H μ x y dx dy Q Qd m rx ry h k => ?_⟩
  rcases h with ⟨i, j, rfl, rfl, q⟩ | ⟨i, j, rfl, rfl, z, q⟩
  · exact .inl ⟨i, j, rx.int_inv, ry.int_inv, k _ _ H μ (.refl m) (.int _) q⟩
  · exact .inr ⟨i, j, rx.str_inv, ry.str_inv, sz_ok z, k _ _ H μ (.refl m) (.str _) q⟩
theorem o_isub : OpR X (inplaceOp .Sub) (rI0 fun i j => .int (i - j)) ∧ OL X.K (rI0 fun i j => .int (i - j)) (gI (fun _ _ => True) fun i j => .int (i - j)) := ⟨iop_sub, ol_int0⟩
theorem pds_aug {op : Operator} {r : R2} {g : G2} (i : Nat) (hN : X.N.Nodup) (he : PD X W e te we) (o : OpR X (inplaceOp op) r ∧ OL X.K r g) (hi : X.N[i]? = some x := by rfl) (hx : Loc X.env.scope x := by first | exact Or.inl rfl | exact Or.inr rfl)
    (hf : X.fn x = true ∨ X.env.scope.names.lookup x = some .local := by first | exact .inl rfl | exact .inr rfl) : PDS X W (.AugAssign (.Name x pos') op e pos) (tAug i te r) (wAug i g we) := by
  refine ⟨ps_aug hN hi hx he.pe o.1 hf, fun G0 σ δ H μ D Dd F g0 S q k => ?_⟩
  obtain ⟨d, e1, q⟩ := q
  obtain ⟨v, e2, r1⟩ := S.sl i d e1
  refine ⟨v, e2, he.le σ δ H μ _ _ F S q (fun y dy H1 μ1 m1 r2 q1 => ?_) (k.ex1 g0)⟩
  exact o.2 H1 μ1 v y d dy _ _ m1.mr (r1.mono m1.sm) r2 q1 fun z dz H2 μ2 m2 r3 q2 => k.nx _ _ H2 μ2 (g0.trans (m1.trans m2).sm) ((S.step (m1.trans m2)).set i r3) q2
/-- o.f op= e, o behind a handle -/
def wFAug (Cs : List Addr) (f : Str) (g : G2) (wo we : DW) : DS := fun D F δ μ => wo δ μ (fun x μ1 => ∃ a, ∃ C ∈ Cs, ∃ fs d, x = .obj a ∧ μ1 a = some (.ins C fs) ∧ fs.lookup f = some d ∧ we δ μ1 (fun y μ2 => g d y μ2 fun r μ3 =>
  ∃ gs, μ3 a = some (.ins C gs) ∧ gs.length < 1000 ∧ D.nx δ (mput μ3 a (.ins C (putFD f r gs)))) F) F
theorem pds_faug {op : Operator} {r : R2} {g : G2} {f : Str} {Cs : List Addr} (hC : Flds X.K f Cs) (ho : PD X W o to wo) (hv : PD X W value tv wv) (oo : OpR X (inplaceOp op) r ∧ OL X.K r g) : PDS X W (.AugAssign (.Attribute o f tpos) op value pos) (sFldAug X.K to tv r f) (wFAug Cs f g wo wv) := by
  refine ⟨ps_fldaug ho.pe hv.pe (fun pins s σ H x y u v Q I rx ry q => oo.1 pins s σ H x y u v Q I rx ry q), fun G0 σ δ H μ D Dd F g0 S q k => ho.le σ δ H μ _ _ F S q (fun x dx H1 μ1 m1 r1 q1 => ?_) (k.ex1 g0)⟩
  obtain ⟨a, C, hc, fs, d, rfl, hm, hl, q1⟩ := q1
  obtain ⟨dx, fvs, e, rf⟩ := m1.mr a _ hm
  obtain ⟨v, hv', rv⟩ := rf.val hl
  refine ⟨a, C, dx, fvs, v, r1.obj_inv, e, (hC C hc).1, (hC C hc).2, hv', ?_⟩
  refine hv.le σ δ H1 μ1 _ _ F (S.step m1) q1 (fun y dy H2 μ2 m2 r2 q2 => ?_) ((k.ex1 g0).step m1)
  refine oo.2 H2 μ2 v y d dy _ _ m2.mr (rv.mono m2.sm) r2 q2 fun z dz H3 μ3 m3 r3 q3 => ?_
  obtain ⟨gs, hm3, hl3, q3⟩ := q3
  obtain ⟨dx', gvs, e3, rf3⟩ := m3.mr a _ hm3
  refine ⟨dx', gvs, e3, by rw [rf3.length]; exact hl3, ?_⟩
  have m4 : Mv X.K H3 μ3 (upd H3 a (.ins C dx' (putF f z gvs))) (mput μ3 a (.ins C (putFD f dz gs))) :=
    Mv.put m3.mr (.inr ⟨_, hm3⟩) fun sm eq => ⟨dx', _, upd_same, by rw [eq]; exact (rf3.put r3).mono sm⟩
  have m := m1.trans (m2.trans (m3.trans m4))
  exact k.nx σ δ _ _ (g0.trans m.sm) (S.step m) q3
theorem pdt_true {j} : PDT X W (.Constant (.bool true) j pos) (tB (tC (.bl true))) (wTst (wC (.bl true))) := pdt_val pd_bl
/-- x in text, a sign or any text -/
def gInS (neg : Bool) : G2 := fun x y μ Q => ∃ c z, x = .str ⟨#[c]⟩ ∧ y = .str z ∧ Q (.bl (if neg = true then !decide (c ∈ z.cps.toList) else decide (c ∈ z.cps.toList))) μ
theorem o_inS : OpR X (compareOp .In) (fun x y H Q => ∃ (c : Nat) (z : Str), x = .str ⟨#[c]⟩ ∧ y = .str z ∧ Q (.bl (decide (c ∈ z.cps.toList))) H) ∧ OL X.K (fun x y H Q => ∃ (c : Nat) (z : Str), x = .str ⟨#[c]⟩ ∧ y = .str z ∧ Q (.bl (decide (c ∈ z.cps.toList))) H) (gInS false) :=
  ⟨op_in_sign, fun H μ x y dx dy Q Qd m rx ry ⟨c, z, e1, e2, q⟩ k => by
    subst e1 e2
    exact ⟨c, z, rx.str_inv, ry.str_inv, k _ _ H μ (.refl m) (.bl _) q⟩⟩
theorem o_notInS : OpR X (compareOp .NotIn) (fun x y H Q => ∃ (c : Nat) (z : Str), x = .str ⟨#[c]⟩ ∧ y = .str z ∧ Q (.bl (!decide (c ∈ z.cps.toList))) H) ∧ OL X.K (fun x y H Q => ∃ (c : Nat) (z : Str), x = .str ⟨#[c]⟩ ∧ y = .str z ∧ Q (.bl (!decide (c ∈ z.cps.toList))) H) (gInS true) :=
  ⟨op_notIn_sign, fun H μ x y dx dy Q Qd m rx ry ⟨c, z, e1, e2, q⟩ k => by
    subst e1 e2
    exact ⟨c, z, rx.str_inv, ry.str_inv, k _ _ H μ (.refl m) (.bl _) q⟩⟩
end
end DL

set_option maxHeartbeats 2000000
namespace DL
open PySem PySem.Spec PyProof.Rows L2 LL
/-! ### isinstance of own classes -/
theorem isi_own {K : PySem.W.Frag} {μ : M} {C : Addr} {fs : List (Str × D)} {Q : DK} (h : IsiC K C) (q : Q (.bl true) μ) : gIsi K [.ins C fs, .raw (.ref C)] μ Q :=
  .inl ⟨_, _, _, _, true, rfl, .own C, .insD fs h.ty, by unfold PySem.W.kitOne; rw [if_pos (beq_self_eq_true _)], q⟩
theorem isi_ownO {K : PySem.W.Frag} {μ : M} {a C : Addr} {fs : List (Str × D)} {Q : DK} (h : IsiC K C) (e : μ a = some (.ins C fs)) (q : Q (.bl true) μ) : gIsi K [.obj a, .raw (.ref C)] μ Q :=
  .inl ⟨_, _, _, _, true, rfl, .own C, .ins e h.ty, by unfold PySem.W.kitOne; rw [if_pos (beq_self_eq_true _)], q⟩
theorem isi_other {K : PySem.W.Frag} {μ : M} {C C' : Addr} {fs : List (Str × D)} {Q : DK} (h : IsiC K C) (e : PySem.W.kitOne K (.ref C) (.ref C') = some false) (q : Q (.bl false) μ) : gIsi K [.ins C fs, .raw (.ref C')] μ Q :=
  .inl ⟨_, _, _, _, false, rfl, .own C', .insD fs h.ty, e, q⟩
theorem isi_no {K : PySem.W.Frag} {μ : M} {d : D} {t : String} {C : Addr} {Q : DK} (h : IsiC K C) (e : tyN d = some t) (ht : t ∈ (["int", "bool", "NoneType", "str", "tuple", "list", "dict"] : List String)) (q : Q (.bl false) μ) : gIsi K [d, .raw (.ref C)] μ Q :=
  .inl ⟨_, _, _, _, false, rfl, .own C, tyN_ok e, h.no t ht, q⟩
/-! ### a class's call as a promise -/
structure NewD (P : Program) (w : World) (K : PySem.W.Frag) (mg : Str → Option Value) (base : Heap) (k : Nat) (x : Str) (C : Addr) (wi wn : DF) : Prop where
  mak : MakD P w K mg base k x C wi
  im : ∀ ds μ Q F, wn ds μ Q F → ∀ p, μ p = none → wi (.obj p :: ds) (mput μ p (.ins C [])) (fun d μ2 => d = .non ∧ dn Q (.obj p) μ2) (dnF F)
section
variable {X : Cx} {W : WX} {x : Str} {e : Expr} {es : List Expr} {ta : TA} {wa : DA} {pos p : Pos} {j k : Nat} {C : Addr} {wi wn : DF}
theorem MakD.mono {P : Program} {w : World} {K : PySem.W.Frag} {mg : Str → Option Value} {base : Heap} {k j : Nat} {wp : DF} (h : MakD P w K mg base j x C wp) (hk : j ≤ k) : MakD P w K mg base k x C wp :=
  ⟨h.gC, let ⟨f, a, b⟩ := h.ex; ⟨f, a, b.mono hk⟩⟩
theorem NewD.mono {P : Program} {w : World} {K : PySem.W.Frag} {mg : Str → Option Value} {base : Heap} {k j : Nat} (h : NewD P w K mg base j x C wi wn) (hk : j ≤ k) : NewD P w K mg base k x C wi wn := ⟨h.mak.mono hk, h.im⟩
theorem le_new {K : PySem.W.Frag} (im : ∀ ds μ Q F, wn ds μ Q F → ∀ p, μ p = none → wi (.obj p :: ds) (mput μ p (.ins C [])) (fun d μ2 => d = .non ∧ dn Q (.obj p) μ2) (dnF F)) (ha : LA K W ta wa) : LE K W (tMakD K W C wi ta) (wCall wn wa) := fun σ δ H μ Q Qd F S q kQ kF => by
  refine ha σ δ H μ _ _ F S q (fun vs ds H1 μ1 m1 r1 q1 y dy hy hdy ne => ?_) kF
  have mi := Mv.inst (C := C) m1.mr hy hdy ne
  refine ⟨.obj y :: ds, _, _, dnF F, .cons (.obj y) (r1.mono mi.sm), mi.mr, im ds μ1 Qd F q1 y (m1.mr.fresh hy), fun v d H' μ' mm r q' => ?_, fun cls dd er H' μ' mm r f => ?_⟩
  rotate_left
  · obtain ⟨μ'', hd, f⟩ := f
    have m2 := hd K H' mm.mr
    exact kF cls dd er H' μ'' (m1.trans (mi.trans (mm.trans m2))) (r.mono m2.sm) f
  obtain ⟨rfl, d', μ'', hd, q'⟩ := q'
  obtain ⟨m2, r2⟩ := hd K H' (.ref y) mm.mr (.obj y)
  exact ⟨r.non_inv, kQ _ _ H' _ (m1.trans (mi.trans (mm.trans m2))) r2 q'⟩
theorem pd_new (K : PySem.W.Frag) (hK : X.K = K) (c : Ct X W j) (N : NewD X.prog X.w X.K X.mg X.base k x C wi wn) (ha : PDA X W (e :: es) ta wa) (hk : k + 1 ≤ j := by decide) (hg : Gl X x := by rfl) (hdb : (x == ("__debug__" : Str)) = false := by decide)
    (he : starEach (e :: es) X.env = (false, eval e X.env) :: starEach es X.env := by rfl) (hpl : (backTo pos (starEach es X.env)).any (·.1) = false := by rfl) : PD X W (.Call (.Name x p) (e :: es) [] pos) (tMakD K W C wi ta) (wCall wn wa) := by
  subst hK
  exact ⟨pe_mak c N.mak ha.pa hk hg hdb he hpl, le_new N.im ha.la⟩
end
/-! ### evaluation of own things -/
section
variable {μ : M} {Q : DK} {F : FK}
theorem gSl_tup {xs : List D} {lo hi : Option Int} : gSl (.tup xs) lo hi μ Q ↔ Q (.tup (cutD xs lo hi)) μ := by
  constructor
  · rintro (⟨ds, h | h, q⟩ | ⟨ds, h, q⟩ | ⟨z, h, _⟩)
    · cases h
    · cases h
    · cases h
      exact q
    · cases h
  · exact fun q => .inr (.inl ⟨xs, rfl, q⟩)
theorem gSl_lst {xs : List D} {lo hi : Option Int} : gSl (.lst xs) lo hi μ Q ↔ Q (.lst (cutD xs lo hi)) μ := by
  constructor
  · rintro (⟨ds, h | h, q⟩ | ⟨ds, h, q⟩ | ⟨z, h, _⟩)
    · cases h
      exact q
    · cases h
    · cases h
    · cases h
  · exact fun q => .inl ⟨xs, .inl rfl, q⟩
theorem lstOf_lst {xs : List D} : lstOf μ (.lst xs) = some xs := rfl
theorem lstOf_obj {a : Addr} {xs : List D} (h : μ a = some (.lst xs)) : lstOf μ (.obj a) = some xs := by
  simp only [lstOf, h]
theorem seqOf_obj {a : Addr} {xs : List D} (h : μ a = some (.lst xs)) : seqOf μ (.obj a) = some xs := by
  simp only [seqOf, h]
theorem gLen_obj {a : Addr} {xs : List D} (h : μ a = some (.lst xs)) (q : Q (.int xs.length) μ) : gLen (.obj a) μ Q := .inl ⟨xs, seqOf_obj h, q⟩
theorem gIx_obj {a : Addr} {xs : List D} {i : Int} {d : D} (h : μ a = some (.lst xs)) (e : atI xs i = some d) (q : Q d μ) : gIx (.obj a) (.int i) μ Q := .inl ⟨xs, i, d, seqOf_obj h, rfl, e, q⟩
end
end DL

set_option maxHeartbeats 2000000
/-! the rules with the written part named: so they stand within blocks, too -/
namespace DL
open PySem PySem.Spec PyProof.Rows L2 LL
section
variable {X : Cx} {W : WX} {a b e : Expr} {ta tb te : TE} {wa wb we : DW} {pos : Pos} (K : PySem.W.Frag) (hK : X.K = K)
include hK
theorem o_addK : OpR X (binaryOp .Add) (rAddA K) ∧ OL X.K (rAddA K) gAdd := by subst hK; exact o_add
theorem o_eqK (hu : X.A.units + 64 < cLine) : OpR X (compareOp .Eq) (rEqD K) ∧ OL X.K (rEqD K) (gEq false) := by subst hK; exact o_eq hu
theorem o_neK (hu : X.A.units + 64 < cLine) : OpR X (compareOp .NotEq) (rNeD K) ∧ OL X.K (rNeD K) (gEq true) := by subst hK; exact o_ne hu
theorem o_repK : OpR X (binaryOp .Mult) (fun x y H Q => rRep x y H Q ∨ (rRepT K x y H Q ∨ rRepT1 K x y H Q)) ∧ OL X.K (fun x y H Q => rRep x y H Q ∨ (rRepT K x y H Q ∨ rRepT1 K x y H Q)) gRep := by subst hK; exact o_rep
theorem pd_ixK (ha : PD X W a ta wa) (hb : PD X W b tb wb) (hs : PlainIx b := by exact fun _ _ => rfl) : PD X W (.Subscript a b pos) (tOp (rIx K) ta tb) (wBin gIx wa wb) := by subst hK; exact pd_ix ha hb hs
theorem pd_sliceK {p2 : Pos} {lo hi : Option Expr} {tl th : TO} {wl wh : DSt → M → (Option Int → M → Prop) → FK → Prop} (he : PD X W e te we) (hl : PDO X W lo tl wl) (hh : PDO X W hi th wh) : PD X W (.Subscript e (.Slice lo hi none p2) pos) (tSl (rSlAny K) te tl th) (wSl we wl wh) := by subst hK; exact pd_slice he hl hh
theorem pd_revK {k : Nat} {p1 p2 p3 : Pos} (he : PD X W e te we) : PD X W (.Subscript e (.Slice none none (some (.UnaryOp .USub (.Constant (.int 1) k p1) p2)) p3) pos) (tRev K te) (wRev we) := by subst hK; exact pd_rev he
theorem pd_fldK {Cs : List Addr} {f : Str} (hC : Flds K f Cs) (ho : PD X W e te we) (hb : attributeBase e f X.env (eval e X.env) = eval e X.env := by rfl) : PD X W (.Attribute e f pos) (tFld K te f) (wFld Cs f we) := by subst hK; exact pd_fld hC ho hb
theorem c_lenK : CallR X (.builtin "len") (fun xs H Q => (∃ x n, xs = [x] ∧ LenV K x H n ∧ Q (.int n) H) ∨ ∃ a kvs, xs = [V.ref a] ∧ H a = some (.dK kvs) ∧ Q (.int kvs.length) H) ∧
    CL X.K (fun xs H Q => (∃ x n, xs = [x] ∧ LenV K x H n ∧ Q (.int n) H) ∨ ∃ a kvs, xs = [V.ref a] ∧ H a = some (.dK kvs) ∧ Q (.int kvs.length) H) (gOne gLen) := by subst hK; exact c_len
theorem c_listK : CallR X (.type "list") (fun xs H Q => ∃ p ys, xs = [.ref p] ∧ (SqL K H p ys ∨ SqT K H p ys) ∧ ∀ l, H l = none → Q (.ref l) (upd H l (.lst ys))) ∧
    CL X.K (fun xs H Q => ∃ p ys, xs = [.ref p] ∧ (SqL K H p ys ∨ SqT K H p ys) ∧ ∀ l, H l = none → Q (.ref l) (upd H l (.lst ys))) (gOne gList) := by subst hK; exact c_list
theorem c_listMK : CallR X (.type "list") (fun xs H Q => ∃ p ys, xs = [.ref p] ∧ (SqL K H p ys ∨ SqT K H p ys) ∧ ∀ l, H l = none → Q (.ref l) (upd H l (.lst ys))) ∧
    CL X.K (fun xs H Q => ∃ p ys, xs = [.ref p] ∧ (SqL K H p ys ∨ SqT K H p ys) ∧ ∀ l, H l = none → Q (.ref l) (upd H l (.lst ys))) (gOne gListM) := by subst hK; exact c_listM
theorem c_tupleK : CallR X (.type "tuple") (fun xs H Q => ∃ p ys, xs = [.ref p] ∧ ((SqL K H p ys ∧ ∀ l, H l = none → Q (.ref l) (upd H l (.tup ys))) ∨ (SqT K H p ys ∧ Q (.ref p) H))) ∧
    CL X.K (fun xs H Q => ∃ p ys, xs = [.ref p] ∧ ((SqL K H p ys ∧ ∀ l, H l = none → Q (.ref l) (upd H l (.tup ys))) ∨ (SqT K H p ys ∧ Q (.ref p) H))) (gOne gTuple) := by subst hK; exact c_tuple
theorem c_maxLK (hc : X.calm = true) : CallR X (.builtin "max") (rMax K) ∧ CL X.K (rMax K) (gOne gMaxL) := by subst hK; exact c_maxL hc
theorem c_minLK (hc : X.calm = true) : CallR X (.builtin "min") (rMin K) ∧ CL X.K (rMin K) (gOne gMinL) := by subst hK; exact c_minL hc
theorem c_sumLK (hc : X.calm = true) : CallR X (.builtin "sum") (rSum K) ∧ CL X.K (rSum K) (gOne gSumL) := by subst hK; exact c_sumL hc
theorem c_allLK (hc : X.calm = true) : CallR X (.builtin "all") (rAll K) ∧ CL X.K (rAll K) (gOne gAllL) := by subst hK; exact c_allL hc
theorem c_anyLK (hc : X.calm = true) : CallR X (.builtin "any") (rAny K) ∧ CL X.K (rAny K) (gOne gAnyL) := by subst hK; exact c_anyL hc
theorem pdg_tupK {es : List Expr} {us : TGs} {wus : DGs} {n : Nat} {kk : Nat} {sl : List Nat} (hc : X.calm = true) (h : PDGs X es us wus sl) (hn : (assignEach es X.env).length = n := by rfl) (hst : (assignEach es X.env).findIdx? (·.1) = none := by rfl) : PDG X (.Tuple es kk pos) (gTup K n us) (wGTup n wus) sl := by subst hK; exact pdg_tup hc h hn hst
end
end DL

set_option maxHeartbeats 2000000
/-! zip of a list or a tuple beside a list or a tuple -/
namespace MZ
open PySem
/-- which of the two -/
inductive Kd | l | t
def Kd.nm : Kd → String
  | .l => "list_iterator"
  | .t => "tuple_iterator"
def At (k : Kd) (g : Heap) (i a : Addr) (n : Nat) : Prop := match k with
  | .l => g.IsListIter i a n
  | .t => g.IsTupleIter i a n
def Sq (k : Kd) (g : Heap) (a : Addr) (us : Array Value) : Prop := match k with
  | .l => g.IsList a us
  | .t => g.IsTuple a us
section
variable {k : Kd} {g g' : Heap} {i a b : Addr} {n : Nat} {us : Array Value}
theorem At.but (x : At k g i a n) (e : Heap.ExtBut b g g') (ne : i ≠ b) : At k g' i a n := by
  cases k with
  | l => exact Heap.IsListIter.extBut x e ne
  | t => exact Heap.IsTupleIter.extBut x e ne
theorem At.up (x : At k g i a n) (e : ∀ o, g.get? i = some o → g'.get? i = some o) : At k g' i a n := by
  cases k with
  | l => exact Heap.IsListIter.at x e
  | t => exact Heap.IsTupleIter.at x e
theorem At.ob (x : At k g i a n) : ∃ o, g.get? i = some o ∧ ∀ v, o.data ≠ .cell v := by
  cases k with
  | l => obtain ⟨o, e, _, d⟩ := x; exact ⟨o, e, fun v q => by rw [d] at q; cases q⟩
  | t => obtain ⟨o, e, _, d⟩ := x; exact ⟨o, e, fun v q => by rw [d] at q; cases q⟩
theorem At.sz (x : At k g i a n) : i < g.objs.size := by
  obtain ⟨o, e, _⟩ := x.ob
  exact Heap.lt_size e
theorem Sq.but (x : Sq k g a us) (e : Heap.ExtBut b g g') (ne : a ≠ b) : Sq k g' a us := by
  cases k with
  | l => exact Heap.IsList.extBut x e ne
  | t => exact Heap.IsTuple.extBut x e ne
theorem Sq.sz (x : Sq k g a us) : a < g.objs.size := by
  cases k with
  | l => obtain ⟨o, e, _⟩ := x; exact Heap.lt_size e
  | t => obtain ⟨o, e, _⟩ := x; exact Heap.lt_size e
theorem Sq.push (x : Sq k g a us) (o : Obj) : Sq k (g.push o) a us := by
  cases k with
  | l => exact Heap.IsList.push x o
  | t => exact Heap.IsTuple.push x o
end
section
variable {pr : Program} {w : World} {A : Around} {E : Value → Shared → Prop} {s : Shared} {k k' : Kd}
theorem next1 {i a : Addr} {n : Nat} {us : Array Value} {u : Value} {Q : Value → Shared → Prop} (x : At k s.heap i a n) (y : Sq k s.heap a us) (hu : us[n]? = some u)
    (q : ∀ g, At k g i a (n + 1) → Heap.SameBut i s.heap g → Q u { s with heap := g }) : wpAny (model pr w) A (Builtin.SmallTypes.nextOf (.ref i)) Q E s := by
  cases k with
  | l => exact wpAny_nextOf_list_item x y hu q
  | t => exact RZ.nextOf_tuple_item x y hu q
theorem next0 {i a : Addr} {n : Nat} {us : Array Value} {Q : Value → Shared → Prop} (hh : A.handled = none) (x : At k s.heap i a n) (y : Sq k s.heap a us) (hu : us[n]? = none)
    (q : ∀ g e, Heap.ExtBut i s.heap g → (∃ o, g.get? e = some o ∧ o.cls = .type "StopIteration") → E (.ref e) { s with heap := g }) : wpAny (model pr w) A (Builtin.SmallTypes.nextOf (.ref i)) Q E s := by
  cases k with
  | l => exact wpAny_nextOf_list_end hh x y hu q
  | t => exact RZ.nextOf_tuple_end hh x y hu q
end
end MZ

set_option maxHeartbeats 2000000
/-! ratios: plain laws -/
namespace PL
theorem fm_lt {a b : Int} (h : b ≠ 0) : (a.fmod b).natAbs < b.natAbs := by
  rcases Int.lt_or_gt_of_ne h with h | h
  · have e : a.fmod b = -((-a).fmod (-b)) := by
      have h1 := Int.fmod_def a b
      have h2 := Int.fmod_def (-a) (-b)
      have h3 : (-a).fdiv (-b) = a.fdiv b := by rw [Int.neg_fdiv_neg]
      rw [h3] at h2
      rw [h1, h2, Int.neg_mul]
      omega
    have h1 := Int.fmod_lt_of_pos (-a) (b := -b) (by omega)
    have h2 := Int.fmod_nonneg_of_pos (-a) (b := -b) (by omega)
    omega
  · have h1 := Int.fmod_lt_of_pos a h
    have h2 := Int.fmod_nonneg_of_pos a h
    omega
theorem gcd_fm (a b : Int) : Int.gcd b (a.fmod b) = Int.gcd a b := by
  rw [Int.fmod_def, Int.gcd_sub_mul_left_right, Int.gcd_comm]
theorem log_half {a b : Int} (hb : 0 < b) (hab : b ≤ a) : 2 * (b * (a.fmod b)) < a * b := by
  have h1 := Int.fmod_lt_of_pos a hb
  have h0 := Int.fmod_nonneg_of_pos a hb
  have e := Int.mul_fdiv_add_fmod a b
  have hq : 1 ≤ a.fdiv b := by
    rcases Int.lt_or_le 0 (a.fdiv b) with h | h
    · omega
    · have : b * a.fdiv b ≤ 0 := Int.mul_nonpos_of_nonneg_of_nonpos (by omega) h
      omega
  have h2 : b * 1 ≤ b * a.fdiv b := Int.mul_le_mul_of_nonneg_left hq (by omega)
  have h3 : 2 * a.fmod b < a := by omega
  have h4 : (2 * a.fmod b) * b < a * b := Int.mul_lt_mul_of_pos_right h3 hb
  rw [Int.mul_comm b (a.fmod b), ← Int.mul_assoc]
  exact h4
/-- the divisor, with the bottom's sign -/
def qB (t b : Int) : Int := if 0 < b then (Int.gcd t b : Int) else -(Int.gcd t b : Int)
theorem gcd_pos {t b : Int} (h : b ≠ 0) : 0 < Int.gcd t b := Int.gcd_pos_iff.mpr (.inr h)
theorem qB_ne {t b : Int} (h : b ≠ 0) : qB t b ≠ 0 := by
  have := gcd_pos (t := t) h
  unfold qB
  split <;> omega
theorem qB_abs (t b : Int) : (qB t b).natAbs = Int.gcd t b := by
  unfold qB
  split <;> omega
theorem qB_le {t b : Int} (h : b ≠ 0) : (qB t b).natAbs ≤ b.natAbs := by
  rw [qB_abs]
  exact Nat.le_of_dvd (by omega) (by simpa using Int.natAbs_dvd_natAbs.mpr (Int.gcd_dvd_right t b))
theorem q_num {t b : Int} (h : b ≠ 0) : t.fdiv (qB t b) = (Rat.divInt t b).num := by
  rw [Rat.num_divInt, Int.gcd_comm]
  have hd := Int.gcd_dvd_left t b
  unfold qB
  by_cases hb : 0 < b
  · rw [if_pos hb, Int.sign_eq_one_of_pos hb, Int.one_mul, Int.fdiv_eq_ediv_of_dvd hd]
  · rw [if_neg hb, Int.sign_eq_neg_one_of_neg (by omega), Int.fdiv_eq_ediv_of_dvd (Int.neg_dvd.mpr hd), Int.ediv_neg, Int.neg_one_mul, Int.neg_ediv_of_dvd hd]
theorem q_den {t b : Int} (h : b ≠ 0) : b.fdiv (qB t b) = ((Rat.divInt t b).den : Int) := by
  rw [Rat.den_divInt, if_neg h, Int.gcd_comm]
  have hd := Int.gcd_dvd_right t b
  have hp := gcd_pos (t := t) h
  have hn : ((b.natAbs / Int.gcd t b : Nat) : Int) = (b.natAbs : Int) / (Int.gcd t b : Int) := Int.natCast_ediv _ _
  rw [hn]
  unfold qB
  by_cases hb : 0 < b
  · rw [if_pos hb, Int.fdiv_eq_ediv_of_dvd hd, show ((b.natAbs : Nat) : Int) = b by omega]
  · rw [if_neg hb, Int.fdiv_eq_ediv_of_dvd (Int.neg_dvd.mpr hd), Int.ediv_neg, show ((b.natAbs : Nat) : Int) = -b by omega, Int.neg_ediv_of_dvd hd]
/-- told sizes -/
def Sz (q : Rat) : Prop := q.num.natAbs < 2 ^ 12000 ∧ q.den < 2 ^ 12000
theorem den_pos (q : Rat) : 0 < q.den := Nat.pos_of_ne_zero q.den_nz
theorem Sz.neg {q : Rat} (h : Sz q) : Sz (-q) := ⟨by simpa using h.1, by simpa using h.2⟩
theorem divInt_nd (q : Rat) : Rat.divInt q.num q.den = q := Rat.num_divInt_den q
theorem add_nd (p q : Rat) : Rat.divInt (p.num * q.den + q.num * p.den) (p.den * q.den) = p + q := by
  have hp : (p.den : Int) ≠ 0 := by exact_mod_cast p.den_nz
  have hq : (q.den : Int) ≠ 0 := by exact_mod_cast q.den_nz
  rw [← Rat.divInt_add_divInt _ _ hp hq, divInt_nd, divInt_nd]
theorem sub_nd (p q : Rat) : Rat.divInt (p.num * q.den - q.num * p.den) (p.den * q.den) = p - q := by
  have hp : (p.den : Int) ≠ 0 := by exact_mod_cast p.den_nz
  have hq : (q.den : Int) ≠ 0 := by exact_mod_cast q.den_nz
  rw [← Rat.divInt_sub_divInt _ _ hp hq, divInt_nd, divInt_nd]
theorem mul_nd (p q : Rat) : Rat.divInt (p.num * q.num) (p.den * q.den) = p * q := by
  rw [← Rat.divInt_mul_divInt, divInt_nd, divInt_nd]
theorem div_nd (p q : Rat) (h : q ≠ 0) : Rat.divInt (p.num * q.den) (p.den * q.num) = p / q := by
  have e : q⁻¹ = Rat.divInt q.den q.num := Rat.inv_def q
  rw [Rat.div_def, e]
  conv => rhs; lhs; rw [← divInt_nd p]
  rw [Rat.divInt_mul_divInt]
theorem lt_nd (p q : Rat) : p.num * q.den < q.num * p.den ↔ p < q := (Rat.lt_iff p q).symm
end PL

namespace NC
open PySem PySem.Spec PyProof.Rows L2 DL LL PL
/-- a ratio as a pair -/
def qd (q : Rat) : D := .tup [.int q.num, .int q.den]
theorem qd_tup {q : Rat} {ds : List D} : qd q = .tup ds ↔ ds = [.int q.num, .int q.den] := by
  unfold qd
  rw [D.tup.injEq]
  exact eq_comm
theorem qd_inj {p q : Rat} : qd p = qd q ↔ p = q := by
  constructor
  · intro h
    unfold qd at h
    simp only [D.tup.injEq, List.cons.injEq, D.int.injEq, and_true] at h
    exact Rat.ext h.1 (by exact_mod_cast h.2)
  · rintro rfl
    rfl
theorem gIx_q0 {q : Rat} {μ : M} {Q : DK} : gIx (qd q) (.int 0) μ Q ↔ Q (.int q.num) μ := by
  unfold qd
  rw [gIx_tup]
  simp only [atI_0, Option.some.injEq, exists_eq_left']
theorem gIx_q1 {q : Rat} {μ : M} {Q : DK} : gIx (qd q) (.int 1) μ Q ↔ Q (.int q.den) μ := by
  unfold qd
  rw [gIx_tup]
  simp only [atI_1, Option.some.injEq, exists_eq_left']
theorem qd_obj {q : Rat} {a : Addr} : qd q ≠ .obj a := nofun
theorem log_lt {x : Int} {n : Nat} (h : x.natAbs < 2 ^ n) (hn : 0 < n) : x.natAbs.log2 < n := PySem.Flt.log2_lt_of hn h
theorem mul_w {x y : Int} {a b : Nat} (h1 : x.natAbs < 2 ^ a) (h2 : y.natAbs < 2 ^ b) (ha : a ≤ 60000000 := by decide) (hb : b ≤ 60000000 := by decide) : CMulX x y := by
  have p : ∀ {x : Int} {n : Nat}, x.natAbs < 2 ^ n → x.natAbs.log2 ≤ n := fun {x n} h => by
    by_cases e : x.natAbs = 0
    · rw [e]; exact Nat.zero_le _
    · exact Nat.le_of_lt ((Nat.log2_lt e).mpr h)
  have l1 := p h1
  have l2 := p h2
  show x.natAbs.log2 + y.natAbs.log2 < 130000000
  omega
theorem mul_sz {x y : Int} {a b : Nat} (h1 : x.natAbs < 2 ^ a) (h2 : y.natAbs < 2 ^ b) : (x * y).natAbs < 2 ^ (a + b) := by
  rw [Int.natAbs_mul, Nat.pow_add]
  exact Nat.mul_lt_mul'' h1 h2
theorem add_sz {x y : Int} {a : Nat} (h1 : x.natAbs < 2 ^ a) (h2 : y.natAbs < 2 ^ a) : (x + y).natAbs < 2 ^ (a + 1) := by
  have := Int.natAbs_add_le x y
  rw [Nat.pow_succ]
  omega
theorem sub_sz {x y : Int} {a : Nat} (h1 : x.natAbs < 2 ^ a) (h2 : y.natAbs < 2 ^ a) : (x - y).natAbs < 2 ^ (a + 1) := by
  have := Int.natAbs_sub_le x y
  rw [Nat.pow_succ]
  omega
theorem up {x a b : Nat} (h : x < 2 ^ a) (hab : a ≤ b := by decide) : x < 2 ^ b := Nat.lt_of_lt_of_le h (Nat.pow_le_pow_right (by decide) hab)
def w_is_whole_0 (K : PySem.W.Frag)  : DS := (wRet (wAndV (wCB (gIsi K) (wCons (wVar 0) (wCons (wC (.raw (.ty "int"))) wNil))) (wNotV (wCB (gIsi K) (wCons (wVar 0) (wCons (wC (.raw (.ty "bool"))) wNil))))))
def w_is_whole (K : PySem.W.Frag)  : DS := (w_is_whole_0 K)
def w_is_ratio_0 (K : PySem.W.Frag) (s_is_whole : DF) : DS := (wIfS (wTst (wCall s_is_whole (wCons (wVar 0) wNil))) (wRet (wC (.bl true))) wNext)
def w_is_ratio_1 (K : PySem.W.Frag) (s_is_whole : DF) : DS := (wIfS (wOr (wNot (wTst (wCB (gIsi K) (wCons (wVar 0) (wCons (wTup (wCons (wC (.raw (.ty "tuple"))) (wCons (wC (.raw (.ty "list"))) wNil))) wNil))))) (wTst (wBin (gEq true) (wCB (gOne gLen) (wCons (wVar 0) wNil)) (wC (.int 2))))) (wRet (wC (.bl false))) wNext)
def w_is_ratio_2 (K : PySem.W.Frag) (s_is_whole : DF) : DS := (wRet (wAndV (wCall s_is_whole (wCons (wBin gIx (wVar 0) (wC (.int 0))) wNil)) (wAndV (wCall s_is_whole (wCons (wBin gIx (wVar 0) (wC (.int 1))) wNil)) (wBin gGt (wBin gIx (wVar 0) (wC (.int 1))) (wC (.int 0))))))
def w_is_ratio (K : PySem.W.Frag) (s_is_whole : DF) : DS := (wSeq (w_is_ratio_0 K s_is_whole) (wSeq (w_is_ratio_1 K s_is_whole) (w_is_ratio_2 K s_is_whole)))
def w_divisor_0_0 (K : PySem.W.Frag)  : DS := (wPar 0 1 (wCons (wVar 1) (wCons (wBin gMod (wVar 0) (wVar 1)) wNil)))
def w_divisor_0 (K : PySem.W.Frag)  : DS := (wWhile (wTst (wBin (gEq true) (wVar 1) (wC (.int 0)))) (w_divisor_0_0 K))
def w_divisor_1 (K : PySem.W.Frag)  : DS := (wRet (wCB gAbs (wCons (wVar 0) wNil)))
def w_divisor (K : PySem.W.Frag)  : DS := (wSeq (w_divisor_0 K) (w_divisor_1 K))
def w_lowest_0 (K : PySem.W.Frag) (s_divisor : DF) : DS := (wAsg (wIf (wTst (wBin gGt (wVar 1) (wC (.int 0)))) (wCall s_divisor (wCons (wVar 0) (wCons (wVar 1) wNil))) (wUn gNeg (wCall s_divisor (wCons (wVar 0) (wCons (wVar 1) wNil))))) (wName 2))
def w_lowest_1 (K : PySem.W.Frag) (s_divisor : DF) : DS := (wRet (wTup (wCons (wBin gDiv (wVar 0) (wVar 2)) (wCons (wBin gDiv (wVar 1) (wVar 2)) wNil))))
def w_lowest (K : PySem.W.Frag) (s_divisor : DF) : DS := (wSeq (w_lowest_0 K s_divisor) (w_lowest_1 K s_divisor))
def w_told_0 (K : PySem.W.Frag) (a_BadNumber : Addr) (s_is_ratio s_is_whole s_lowest : DF) : DS := (wIfS (wNot (wTst (wCall s_is_ratio (wCons (wVar 0) wNil)))) (wRaise a_BadNumber ["what", "number"] (wCons (wVar 1) (wCons (wVar 0) wNil))) wNext)
def w_told_1 (K : PySem.W.Frag) (a_BadNumber : Addr) (s_is_ratio s_is_whole s_lowest : DF) : DS := (wRet (wIf (wTst (wCall s_is_whole (wCons (wVar 0) wNil))) (wTup (wCons (wVar 0) (wCons (wC (.int 1)) wNil))) (wCall s_lowest (wCons (wBin gIx (wVar 0) (wC (.int 0))) (wCons (wBin gIx (wVar 0) (wC (.int 1))) wNil)))))
def w_told (K : PySem.W.Frag) (a_BadNumber : Addr) (s_is_ratio s_is_whole s_lowest : DF) : DS := (wSeq (w_told_0 K a_BadNumber s_is_ratio s_is_whole s_lowest) (w_told_1 K a_BadNumber s_is_ratio s_is_whole s_lowest))
def w_plus_0 (K : PySem.W.Frag) (s_told s_lowest : DF) : DS := (wPar 2 3 (wCons (wCall s_told (wCons (wVar 0) (wCons (wC (.str "ratio")) wNil))) (wCons (wCall s_told (wCons (wVar 1) (wCons (wC (.str "ratio")) wNil))) wNil)))
def w_plus_1 (K : PySem.W.Frag) (s_told s_lowest : DF) : DS := (wRet (wCall s_lowest (wCons (wBin gAdd (wBin gMul (wBin gIx (wVar 2) (wC (.int 0))) (wBin gIx (wVar 3) (wC (.int 1)))) (wBin gMul (wBin gIx (wVar 3) (wC (.int 0))) (wBin gIx (wVar 2) (wC (.int 1))))) (wCons (wBin gMul (wBin gIx (wVar 2) (wC (.int 1))) (wBin gIx (wVar 3) (wC (.int 1)))) wNil))))
def w_plus (K : PySem.W.Frag) (s_told s_lowest : DF) : DS := (wSeq (w_plus_0 K s_told s_lowest) (w_plus_1 K s_told s_lowest))
def w_minus_0 (K : PySem.W.Frag) (s_told s_lowest : DF) : DS := (wPar 2 3 (wCons (wCall s_told (wCons (wVar 0) (wCons (wC (.str "ratio")) wNil))) (wCons (wCall s_told (wCons (wVar 1) (wCons (wC (.str "ratio")) wNil))) wNil)))
def w_minus_1 (K : PySem.W.Frag) (s_told s_lowest : DF) : DS := (wRet (wCall s_lowest (wCons (wBin gSub (wBin gMul (wBin gIx (wVar 2) (wC (.int 0))) (wBin gIx (wVar 3) (wC (.int 1)))) (wBin gMul (wBin gIx (wVar 3) (wC (.int 0))) (wBin gIx (wVar 2) (wC (.int 1))))) (wCons (wBin gMul (wBin gIx (wVar 2) (wC (.int 1))) (wBin gIx (wVar 3) (wC (.int 1)))) wNil))))
def w_minus (K : PySem.W.Frag) (s_told s_lowest : DF) : DS := (wSeq (w_minus_0 K s_told s_lowest) (w_minus_1 K s_told s_lowest))
def w_times_0 (K : PySem.W.Frag) (s_told s_lowest : DF) : DS := (wPar 2 3 (wCons (wCall s_told (wCons (wVar 0) (wCons (wC (.str "ratio")) wNil))) (wCons (wCall s_told (wCons (wVar 1) (wCons (wC (.str "ratio")) wNil))) wNil)))
def w_times_1 (K : PySem.W.Frag) (s_told s_lowest : DF) : DS := (wRet (wCall s_lowest (wCons (wBin gMul (wBin gIx (wVar 2) (wC (.int 0))) (wBin gIx (wVar 3) (wC (.int 0)))) (wCons (wBin gMul (wBin gIx (wVar 2) (wC (.int 1))) (wBin gIx (wVar 3) (wC (.int 1)))) wNil))))
def w_times (K : PySem.W.Frag) (s_told s_lowest : DF) : DS := (wSeq (w_times_0 K s_told s_lowest) (w_times_1 K s_told s_lowest))
def w_share_0 (K : PySem.W.Frag) (a_BadNumber : Addr) (s_told s_lowest : DF) : DS := (wPar 2 3 (wCons (wCall s_told (wCons (wVar 0) (wCons (wC (.str "ratio")) wNil))) (wCons (wCall s_told (wCons (wVar 1) (wCons (wC (.str "ratio")) wNil))) wNil)))
def w_share_1 (K : PySem.W.Frag) (a_BadNumber : Addr) (s_told s_lowest : DF) : DS := (wIfS (wTst (wBin (gEq false) (wBin gIx (wVar 3) (wC (.int 0))) (wC (.int 0)))) (wRaise a_BadNumber ["what", "number"] (wCons (wC (.str "divisor")) (wCons (wVar 1) wNil))) wNext)
def w_share_2 (K : PySem.W.Frag) (a_BadNumber : Addr) (s_told s_lowest : DF) : DS := (wRet (wCall s_lowest (wCons (wBin gMul (wBin gIx (wVar 2) (wC (.int 0))) (wBin gIx (wVar 3) (wC (.int 1)))) (wCons (wBin gMul (wBin gIx (wVar 2) (wC (.int 1))) (wBin gIx (wVar 3) (wC (.int 0)))) wNil))))
def w_share (K : PySem.W.Frag) (a_BadNumber : Addr) (s_told s_lowest : DF) : DS := (wSeq (w_share_0 K a_BadNumber s_told s_lowest) (wSeq (w_share_1 K a_BadNumber s_told s_lowest) (w_share_2 K a_BadNumber s_told s_lowest)))
def w_lower_0 (K : PySem.W.Frag) (s_told : DF) : DS := (wPar 2 3 (wCons (wCall s_told (wCons (wVar 0) (wCons (wC (.str "ratio")) wNil))) (wCons (wCall s_told (wCons (wVar 1) (wCons (wC (.str "ratio")) wNil))) wNil)))
def w_lower_1 (K : PySem.W.Frag) (s_told : DF) : DS := (wRet (wBin gLt (wBin gMul (wBin gIx (wVar 2) (wC (.int 0))) (wBin gIx (wVar 3) (wC (.int 1)))) (wBin gMul (wBin gIx (wVar 3) (wC (.int 0))) (wBin gIx (wVar 2) (wC (.int 1))))))
def w_lower (K : PySem.W.Frag) (s_told : DF) : DS := (wSeq (w_lower_0 K s_told) (w_lower_1 K s_told))
/-! ### is_whole -/
def s_is_whole : DF := fun ds μ Q _ => ∃ d t, ds = [d] ∧ tyN d = some t ∧ Q (.bl (isW d)) μ
theorem p_is_whole (K : PySem.W.Frag) : ∀ ds μ Q F, s_is_whole ds μ Q F → ds.length = 1 ∧ w_is_whole K { nx := fun _ μ' => Q .non μ', rt := Q } F (dstart ["value"] ds) μ := by
  rintro _ μ Q F ⟨d, t, rfl, ht, q⟩
  refine ⟨rfl, ?_⟩
  simp only [w_is_whole, w_is_whole_0, wRet, wRetN, wSeq, wNext, wIfS, wAsg, wName, wPar, wDrop, wDPut, wFor, wISeq, wIRng1, wIRng2, wVar, wC, wNil, wCons, wBin, wUn, wCB, wTst, wAnd, wOr, DL.wNot, wAndV, wOrV, wNotV, wIf, wTup, wLst, wLstM, wCall, wGTup, wGCons, wGNil, wBrk, wCnt, wRaise, gI, gU, gOne , DL.gSub, gMul, gMod, gDiv, gPow, gLt, gLe, gGt, gGe, gNeg, gAbs, gMax2, gMin2, gInt2, wChain, wPar3, wSl, wNoPart, wPart, wIEnumA, wIZipA, wIRng3, wLc, wLcM, wYes, wFld, wAug, wApp, wPop, wRev, wSubG, wMet, wBinO, wUnO, dstart, List.map_cons, List.map_nil, List.length_cons, List.length_nil, List.replicate, List.cons_append, List.nil_append, List.append_nil, List.getElem?_cons_zero, List.getElem?_cons_succ, List.set_cons_zero, List.set_cons_succ, Option.some.injEq, exists_eq_left', exists_eq_left, D.int.injEq, D.bl.injEq, D.str.injEq, D.tup.injEq, D.lst.injEq, D.obj.injEq, List.cons.injEq, and_true, true_and, Nat.zero_add, Nat.reduceAdd, Nat.reduceSub, decide_eq_true_eq, Bool.not_eq_true', decide_eq_false_iff_not, exists_and_left, exists_and_right, and_assoc, Bool.true_eq_false, Bool.false_eq_true, if_true, if_false, ne_eq]
  refine isi_int ht ⟨_, rfl, ?_⟩
  by_cases h : isW d = true
  · have hb : isB d = false := by cases d <;> first | rfl | cases h
    simp only [h, Bool.true_or, if_true]
    refine isi_bool ht ⟨_, rfl, ?_⟩
    simp only [hb, Bool.not_false]
    rw [h] at q
    exact q
  · have h' : isW d = false := by simpa using h
    rw [h'] at q ⊢
    by_cases hb : isB d = true
    · simp only [hb, Bool.or_true, if_true]
      refine isi_bool ht ⟨_, rfl, ?_⟩
      simp only [hb, Bool.not_true]
      exact q
    · have hb' : isB d = false := by simpa using hb
      simp only [hb', Bool.or_false, Bool.false_eq_true, if_false]
      exact q
/-! ### divisor, lowest -/
def s_divisor : DF := fun ds μ Q _ => ∃ a b, ds = [.int a, .int b] ∧ Q (.int (Int.gcd a b)) μ
theorem p_divisor (K : PySem.W.Frag) : ∀ ds μ Q F, s_divisor ds μ Q F → ds.length = 2 ∧ w_divisor K { nx := fun _ μ' => Q .non μ', rt := Q } F (dstart ["one", "other"] ds) μ := by
  rintro _ μ Q F ⟨a, b, rfl, q⟩
  refine ⟨rfl, ?_⟩
  simp only [w_divisor, w_divisor_0_0, w_divisor_0, w_divisor_1, wRet, wRetN, wSeq, wNext, wIfS, wAsg, wName, wPar, wDrop, wDPut, wFor, wISeq, wIRng1, wIRng2, wVar, wC, wNil, wCons, wBin, wUn, wCB, wTst, wAnd, wOr, DL.wNot, wAndV, wOrV, wNotV, wIf, wTup, wLst, wLstM, wCall, wGTup, wGCons, wGNil, wBrk, wCnt, wRaise, gI, gU, gOne , DL.gSub, gMul, gMod, gDiv, gPow, gLt, gLe, gGt, gGe, gNeg, gAbs, gMax2, gMin2, gInt2, wChain, wPar3, wSl, wNoPart, wPart, wIEnumA, wIZipA, wIRng3, wLc, wLcM, wYes, wFld, wAug, wApp, wPop, wRev, wSubG, wMet, wBinO, wUnO, dstart, List.map_cons, List.map_nil, List.length_cons, List.length_nil, List.replicate, List.cons_append, List.nil_append, List.append_nil, List.getElem?_cons_zero, List.getElem?_cons_succ, List.set_cons_zero, List.set_cons_succ, Option.some.injEq, exists_eq_left', exists_eq_left, D.int.injEq, D.bl.injEq, D.str.injEq, D.tup.injEq, D.lst.injEq, D.obj.injEq, List.cons.injEq, and_true, true_and, Nat.zero_add, Nat.reduceAdd, Nat.reduceSub, decide_eq_true_eq, Bool.not_eq_true', decide_eq_false_iff_not, exists_and_left, exists_and_right, and_assoc, Bool.true_eq_false, Bool.false_eq_true, if_true, if_false, ne_eq, wWhile]
  have key : ∀ (n : Nat) (a b : Int), b.natAbs < n → Q (.int (Int.gcd a b)) μ → wRun (wTst (wBin (gEq true) (wVar 1) (wC (D.int 0)))) (wPar 0 1 (wCons (wVar 1) (wCons (wBin (gI (fun x j => ¬j = 0) fun i j => D.int (i.fmod j)) (wVar 0) (wVar 1)) wNil))) n
      { nx := fun δ' μ' => ∃ d, δ'[0]? = some (some d) ∧ ∃ i, d = D.int i ∧ Q (D.int (if i < 0 then -i else i)) μ', rt := Q } F [some (D.int a), some (D.int b)] μ := by
    intro n
    induction n with
    | zero => intro a b h; omega
    | succ n ih =>
      intro a b h q
      simp only [wRun, wRet, wRetN, wSeq, wNext, wIfS, wAsg, wName, wPar, wDrop, wDPut, wFor, wISeq, wIRng1, wIRng2, wVar, wC, wNil, wCons, wBin, wUn, wCB, wTst, wAnd, wOr, DL.wNot, wAndV, wOrV, wNotV, wIf, wTup, wLst, wLstM, wCall, wGTup, wGCons, wGNil, wBrk, wCnt, wRaise, gI, gU, gOne , DL.gSub, gMul, gMod, gDiv, gPow, gLt, gLe, gGt, gGe, gNeg, gAbs, gMax2, gMin2, gInt2, wChain, wPar3, wSl, wNoPart, wPart, wIEnumA, wIZipA, wIRng3, wLc, wLcM, wYes, wFld, wAug, wApp, wPop, wRev, wSubG, wMet, wBinO, wUnO, dstart, List.map_cons, List.map_nil, List.length_cons, List.length_nil, List.replicate, List.cons_append, List.nil_append, List.append_nil, List.getElem?_cons_zero, List.getElem?_cons_succ, List.set_cons_zero, List.set_cons_succ, Option.some.injEq, exists_eq_left', exists_eq_left, D.int.injEq, D.bl.injEq, D.str.injEq, D.tup.injEq, D.lst.injEq, D.obj.injEq, List.cons.injEq, and_true, true_and, Nat.zero_add, Nat.reduceAdd, Nat.reduceSub, decide_eq_true_eq, Bool.not_eq_true', decide_eq_false_iff_not, exists_and_left, exists_and_right, and_assoc, Bool.true_eq_false, Bool.false_eq_true, if_true, if_false, ne_eq, gEq_int]
      by_cases e : b = 0
      · subst e
        rw [Int.gcd_zero_right] at q
        have e2 : (if a < 0 then -a else a) = (a.natAbs : Int) := by split <;> omega
        rw [if_neg (by decide), e2]
        exact q
      · have e2 : (b == 0) = false := by simpa using e
        rw [if_pos e2]
        exact ⟨e, ih b (a.fmod b) (by have := fm_lt (a := a) e; omega) (by rw [gcd_fm]; exact q)⟩
  exact ⟨b.natAbs + 1, key _ a b (Nat.lt_succ_self _) q⟩
def s_lowest : DF := fun ds μ Q _ => ∃ t b, ds = [.int t, .int b] ∧ b ≠ 0 ∧ b.natAbs < 2 ^ 24998 ∧ Q (qd (Rat.divInt t b)) μ
theorem div_ok {t b : Int} (hb : b ≠ 0) (h : b.natAbs < 2 ^ 24998) : CDivG t (qB t b) :=
  ⟨qB_ne hb, Nat.lt_trans (log_lt (Nat.lt_of_le_of_lt (qB_le hb) h) (by decide)) (by decide)⟩
theorem p_lowest (K : PySem.W.Frag) : ∀ ds μ Q F, s_lowest ds μ Q F → ds.length = 2 ∧ w_lowest K s_divisor { nx := fun _ μ' => Q .non μ', rt := Q } F (dstart ["top", "bottom", "by"] ds) μ := by
  rintro _ μ Q F ⟨t, b, rfl, hb, hz, q⟩
  refine ⟨rfl, ?_⟩
  simp only [w_lowest, w_lowest_0, w_lowest_1, s_divisor, wRet, wRetN, wSeq, wNext, wIfS, wAsg, wName, wPar, wDrop, wDPut, wFor, wISeq, wIRng1, wIRng2, wVar, wC, wNil, wCons, wBin, wUn, wCB, wTst, wAnd, wOr, DL.wNot, wAndV, wOrV, wNotV, wIf, wTup, wLst, wLstM, wCall, wGTup, wGCons, wGNil, wBrk, wCnt, wRaise, gI, gU, gOne , DL.gSub, gMul, gMod, gDiv, gPow, gLt, gLe, gGt, gGe, gNeg, gAbs, gMax2, gMin2, gInt2, wChain, wPar3, wSl, wNoPart, wPart, wIEnumA, wIZipA, wIRng3, wLc, wLcM, wYes, wFld, wAug, wApp, wPop, wRev, wSubG, wMet, wBinO, wUnO, dstart, List.map_cons, List.map_nil, List.length_cons, List.length_nil, List.replicate, List.cons_append, List.nil_append, List.append_nil, List.getElem?_cons_zero, List.getElem?_cons_succ, List.set_cons_zero, List.set_cons_succ, Option.some.injEq, exists_eq_left', exists_eq_left, D.int.injEq, D.bl.injEq, D.str.injEq, D.tup.injEq, D.lst.injEq, D.obj.injEq, List.cons.injEq, and_true, true_and, Nat.zero_add, Nat.reduceAdd, Nat.reduceSub, decide_eq_true_eq, Bool.not_eq_true', decide_eq_false_iff_not, exists_and_left, exists_and_right, and_assoc, Bool.true_eq_false, Bool.false_eq_true, if_true, if_false, ne_eq]
  have c := div_ok (t := t) hb hz
  have c2 : CDivG b (qB t b) := c
  have q' : Q (.tup [.int (t.fdiv (qB t b)), .int (b.fdiv (qB t b))]) μ := by
    rw [q_num hb, q_den hb]
    exact q
  by_cases h : 0 < b
  · have e : qB t b = (Int.gcd t b : Int) := if_pos h
    rw [e] at c c2 q'
    rw [if_pos h]
    exact ⟨c, c2, by decide, q'⟩
  · have e : qB t b = -(Int.gcd t b : Int) := if_neg h
    rw [e] at c c2 q'
    rw [if_neg h]
    exact ⟨c, c2, by decide, q'⟩

/-! ### is_ratio: a value, as it stands -/
/-- a value's items, where it is a list or a tuple that may be told of; handles are read -/
def view (μ : M) : D → D
  | .obj a => match μ a with
    | some (.lst xs) => .lst xs
    | _ => .obj a
  | d => d
def ratV : D → Option Rat
  | .int i => some i
  | .tup [.int n, .int d] => if 0 < d then some (Rat.divInt n d) else none
  | .lst [.int n, .int d] => if 0 < d then some (Rat.divInt n d) else none
  | _ => none
/-- may be asked -/
def okD : D → Prop
  | .tup [x, y] => (tyN x).isSome ∧ (tyN y).isSome ∧ (∀ e, y = .int e → e.natAbs < 2 ^ 24998)
  | .lst [x, y] => (tyN x).isSome ∧ (tyN y).isSome ∧ (∀ e, y = .int e → e.natAbs < 2 ^ 24998)
  | .ro _ => False
  | d => (tyN d).isSome
theorem ratV_qd {q : Rat} : ratV (qd q) = some q := by
  have h := den_pos q
  show (if (0 : Int) < (q.den : Int) then some (Rat.divInt q.num q.den) else none) = some q
  rw [if_pos (by omega), divInt_nd]
theorem ratV_int {i : Int} : ratV (.int i) = some (i : Rat) := rfl
theorem okD_qd {q : Rat} (h : Sz q) : okD (qd q) := ⟨rfl, rfl, fun e he => by cases he; exact up (show ((q.den : Nat) : Int).natAbs < 2 ^ 12000 from h.2)⟩
theorem view_qd {μ : M} {q : Rat} : view μ (qd q) = qd q := rfl
theorem view_int {μ : M} {i : Int} : view μ (.int i) = .int i := rfl
def isRV (d : D) : Bool := (ratV d).isSome
/-- of a list or a tuple, by its items -/
theorem sq_cases {d : D} (h : okD d) : (∃ xs, (d = .lst xs ∨ d = .tup xs)) ∨ (isSq d = false ∧ ∃ t, tyN d = some t) := by
  cases d with
  | lst xs => exact .inl ⟨xs, .inl rfl⟩
  | tup xs => exact .inl ⟨xs, .inr rfl⟩
  | ro xs => exact h.elim
  | obj a => cases h
  | raw v => cases h
  | exc _ _ _ => cases h
  | lam _ _ => cases h
  | ins _ _ => cases h
  | non => exact .inr ⟨rfl, _, rfl⟩
  | bl b => exact .inr ⟨rfl, _, rfl⟩
  | int i => exact .inr ⟨rfl, _, rfl⟩
  | str x => exact .inr ⟨rfl, _, rfl⟩
  | dct ks => exact .inr ⟨rfl, _, rfl⟩
/-- what a value is read as: itself, or what its handle stands for -/
theorem view_cases {μ : M} {v : D} (h : okD (view μ v)) : (view μ v = v ∧ ∀ a, v ≠ .obj a) ∨ ∃ a xs, v = .obj a ∧ μ a = some (.lst xs) ∧ view μ v = .lst xs := by
  cases v with
  | obj a =>
    unfold view at h ⊢
    cases e : μ a with
    | none => simp only [e] at h; cases h
    | some m =>
      cases m with
      | lst xs => exact .inr ⟨a, xs, rfl, e, by simp only [e]⟩
      | _ => simp only [e] at h; cases h
  | _ => exact .inl ⟨rfl, nofun⟩
section
variable {K : PySem.W.Frag} {μ : M} {v : D} {Q : DK}
theorem vw_len {xs : List D} (h : view μ v = .lst xs ∨ view μ v = .tup xs) (q : Q (.int xs.length) μ) : gLen v μ Q := by
  cases v with
  | obj a =>
    unfold view at h
    cases e : μ a with
    | none => simp only [e] at h; rcases h with h | h <;> cases h
    | some m =>
      cases m with
      | lst ys =>
        simp only [e] at h
        rcases h with h | h <;> cases h
        exact gLen_obj e q
      | _ => simp only [e] at h; rcases h with h | h <;> cases h
  | lst ys => rcases h with h | h <;> cases h; exact gLen_lst.mpr q
  | tup ys => rcases h with h | h <;> cases h; exact gLen_tup.mpr q
  | _ => rcases h with h | h <;> cases h
theorem vw_ix {xs : List D} {i : Int} {d : D} (h : view μ v = .lst xs ∨ view μ v = .tup xs) (e : atI xs i = some d) (q : Q d μ) : gIx v (.int i) μ Q := by
  cases v with
  | obj a =>
    unfold view at h
    cases e2 : μ a with
    | none => simp only [e2] at h; rcases h with h | h <;> cases h
    | some m =>
      cases m with
      | lst ys =>
        simp only [e2] at h
        rcases h with h | h <;> cases h
        exact gIx_obj e2 e q
      | _ => simp only [e2] at h; rcases h with h | h <;> cases h
  | lst ys => rcases h with h | h <;> cases h; exact gIx_lst.mpr ⟨d, e, q⟩
  | tup ys => rcases h with h | h <;> cases h; exact gIx_tup.mpr ⟨d, e, q⟩
  | _ => rcases h with h | h <;> cases h
/-- a value's type -/
theorem vw_ty (h : okD (view μ v)) : ∃ t, TyD K μ v (.type t) ∧ tyN (view μ v) = some t := by
  rcases view_cases h with ⟨e, hn⟩ | ⟨a, xs, rfl, e, e2⟩
  · rw [e] at h ⊢
    rcases sq_cases h with ⟨xs, rfl | rfl⟩ | ⟨_, t, ht⟩
    · exact ⟨_, .lst xs, rfl⟩
    · exact ⟨_, .tup xs, rfl⟩
    · exact ⟨t, tyN_ok ht, ht⟩
  · rw [e2]
    exact ⟨_, .olst e, rfl⟩
theorem kit_int {t : String} {d : D} (h : tyN d = some t) : PySem.W.kitOne K (.type t) (.type "int") = some (isW d || isB d) := by cases d <;> first | (cases h <;> rfl) | cases h
theorem kit_bool {t : String} {d : D} (h : tyN d = some t) : PySem.W.kitOne K (.type t) (.type "bool") = some (isB d) := by cases d <;> first | (cases h <;> rfl) | cases h
theorem kit_str {t : String} {d : D} (h : tyN d = some t) : PySem.W.kitOne K (.type t) (.type "str") = some (isSt d) := by cases d <;> first | (cases h <;> rfl) | cases h
theorem kit_tl {t : String} {d : D} (h : tyN d = some t) : PySem.W.kitAny K (.type t) [.type "tuple", .type "list"] = some (isSq d) := by cases d <;> first | (cases h <;> rfl) | cases h
theorem vw_int (h : okD (view μ v)) (q : Q (.bl (isW (view μ v) || isB (view μ v))) μ) : gIsi K [v, .raw (.ty "int")] μ Q := by
  obtain ⟨t, ty, e⟩ := vw_ty (K := K) h
  exact .inl ⟨v, _, _, _, _, rfl, .ty "int", ty, kit_int e, q⟩
theorem vw_bool (h : okD (view μ v)) (q : Q (.bl (isB (view μ v))) μ) : gIsi K [v, .raw (.ty "bool")] μ Q := by
  obtain ⟨t, ty, e⟩ := vw_ty (K := K) h
  exact .inl ⟨v, _, _, _, _, rfl, .ty "bool", ty, kit_bool e, q⟩
theorem vw_tl (h : okD (view μ v)) (q : Q (.bl (isSq (view μ v))) μ) : gIsi K [v, .tup [.raw (.ty "tuple"), .raw (.ty "list")]] μ Q := by
  obtain ⟨t, ty, e⟩ := vw_ty (K := K) h
  exact .inr ⟨v, _, _, _, _, rfl, .cons (.ty "tuple") (.cons (.ty "list") .nil), ty, kit_tl e, q⟩
end
def s_is_wholeV : DF := fun ds μ Q _ => ∃ d, ds = [d] ∧ okD (view μ d) ∧ Q (.bl (isW (view μ d))) μ
theorem isB_of_W {d : D} (h : isW d = true) : isB d = false := by cases d <;> first | rfl | cases h
theorem p_is_wholeV (K : PySem.W.Frag) : ∀ ds μ Q F, s_is_wholeV ds μ Q F → ds.length = 1 ∧ w_is_whole K { nx := fun _ μ' => Q .non μ', rt := Q } F (dstart ["value"] ds) μ := by
  rintro _ μ Q F ⟨d, rfl, ht, q⟩
  refine ⟨rfl, ?_⟩
  simp only [w_is_whole, w_is_whole_0, wRet, wRetN, wSeq, wNext, wIfS, wAsg, wName, wPar, wDrop, wDPut, wFor, wISeq, wIRng1, wIRng2, wVar, wC, wNil, wCons, wBin, wUn, wCB, wTst, wAnd, wOr, DL.wNot, wAndV, wOrV, wNotV, wIf, wTup, wLst, wLstM, wCall, wGTup, wGCons, wGNil, wBrk, wCnt, wRaise, gI, gU, gOne , DL.gSub, gMul, gMod, gDiv, gPow, gLt, gLe, gGt, gGe, gNeg, gAbs, gMax2, gMin2, gInt2, wChain, wPar3, wSl, wNoPart, wPart, wIEnumA, wIZipA, wIRng3, wLc, wLcM, wYes, wFld, wAug, wApp, wPop, wRev, wSubG, wMet, wBinO, wUnO, dstart, List.map_cons, List.map_nil, List.length_cons, List.length_nil, List.replicate, List.cons_append, List.nil_append, List.append_nil, List.getElem?_cons_zero, List.getElem?_cons_succ, List.set_cons_zero, List.set_cons_succ, Option.some.injEq, exists_eq_left', exists_eq_left, D.int.injEq, D.bl.injEq, D.str.injEq, D.tup.injEq, D.lst.injEq, D.obj.injEq, List.cons.injEq, and_true, true_and, Nat.zero_add, Nat.reduceAdd, Nat.reduceSub, decide_eq_true_eq, Bool.not_eq_true', decide_eq_false_iff_not, exists_and_left, exists_and_right, and_assoc, Bool.true_eq_false, Bool.false_eq_true, if_true, if_false, ne_eq]
  refine vw_int ht ⟨_, rfl, ?_⟩
  by_cases h : isW (view μ d) = true
  · have hb := isB_of_W h
    simp only [h, Bool.true_or, if_true]
    refine vw_bool ht ⟨_, rfl, ?_⟩
    simp only [hb, Bool.not_false]
    rw [h] at q
    exact q
  · have h' : isW (view μ d) = false := by simpa using h
    rw [h'] at q ⊢
    by_cases hb : isB (view μ d) = true
    · simp only [hb, Bool.or_true, if_true]
      refine vw_bool ht ⟨_, rfl, ?_⟩
      simp only [hb, Bool.not_true]
      exact q
    · have hb' : isB (view μ d) = false := by simpa using hb
      simp only [hb', Bool.or_false, Bool.false_eq_true, if_false]
      exact q
theorem okD_of_ty {d : D} (h : (tyN d).isSome) (n : isSq d = false) : okD d := by
  cases d <;> first | exact h | cases n
/-- is_whole is asked of anything typed -/
def s_is_wholeA : DF := fun ds μ Q _ => ∃ d, ds = [d] ∧ ((tyN d).isSome ∨ okD (view μ d)) ∧ Q (.bl (isW (view μ d))) μ
theorem isW_view {μ : M} {d : D} (h : (tyN d).isSome) : view μ d = d := by cases d <;> first | rfl | cases h
theorem p_is_wholeA (K : PySem.W.Frag) : ∀ ds μ Q F, s_is_wholeA ds μ Q F → ds.length = 1 ∧ w_is_whole K { nx := fun _ μ' => Q .non μ', rt := Q } F (dstart ["value"] ds) μ := by
  rintro ds μ Q F ⟨d, rfl, ht | ht, q⟩
  · rw [isW_view ht] at q
    obtain ⟨t, e⟩ := Option.isSome_iff_exists.mp ht
    exact p_is_whole K _ μ Q F ⟨d, t, rfl, e, q⟩
  · exact p_is_wholeV K _ μ Q F ⟨d, rfl, ht, q⟩
def s_is_ratio : DF := fun ds μ Q _ => ∃ d, ds = [d] ∧ okD (view μ d) ∧ Q (.bl (isRV (view μ d))) μ
theorem p_is_ratio (K : PySem.W.Frag) : ∀ ds μ Q F, s_is_ratio ds μ Q F → ds.length = 1 ∧ w_is_ratio K s_is_wholeA { nx := fun _ μ' => Q .non μ', rt := Q } F (dstart ["value"] ds) μ := by
  rintro _ μ Q F ⟨d, rfl, ht, q⟩
  refine ⟨rfl, ?_⟩
  simp only [w_is_ratio, w_is_ratio_0, w_is_ratio_1, w_is_ratio_2, s_is_wholeA, wRet, wRetN, wSeq, wNext, wIfS, wAsg, wName, wPar, wDrop, wDPut, wFor, wISeq, wIRng1, wIRng2, wVar, wC, wNil, wCons, wBin, wUn, wCB, wTst, wAnd, wOr, DL.wNot, wAndV, wOrV, wNotV, wIf, wTup, wLst, wLstM, wCall, wGTup, wGCons, wGNil, wBrk, wCnt, wRaise, gI, gU, gOne , DL.gSub, gMul, gMod, gDiv, gPow, gLt, gLe, gGt, gGe, gNeg, gAbs, gMax2, gMin2, gInt2, wChain, wPar3, wSl, wNoPart, wPart, wIEnumA, wIZipA, wIRng3, wLc, wLcM, wYes, wFld, wAug, wApp, wPop, wRev, wSubG, wMet, wBinO, wUnO, dstart, List.map_cons, List.map_nil, List.length_cons, List.length_nil, List.replicate, List.cons_append, List.nil_append, List.append_nil, List.getElem?_cons_zero, List.getElem?_cons_succ, List.set_cons_zero, List.set_cons_succ, Option.some.injEq, exists_eq_left', exists_eq_left, D.int.injEq, D.bl.injEq, D.str.injEq, D.tup.injEq, D.lst.injEq, D.obj.injEq, List.cons.injEq, and_true, true_and, Nat.zero_add, Nat.reduceAdd, Nat.reduceSub, decide_eq_true_eq, Bool.not_eq_true', decide_eq_false_iff_not, exists_and_left, exists_and_right, and_assoc, Bool.true_eq_false, Bool.false_eq_true, if_true, if_false, ne_eq]
  refine ⟨.inr ht, ?_⟩
  by_cases hw : isW (view μ d) = true
  · rw [if_pos hw]
    have e : isRV (view μ d) = true := by
      generalize view μ d = v at hw
      cases v <;> first | rfl | cases hw
    rw [e] at q
    exact q
  · rw [if_neg hw]
    refine ⟨by decide, vw_tl ht ⟨_, rfl, ?_⟩⟩
    have sq : ∀ xs, (view μ d = .lst xs ∨ view μ d = .tup xs) → _ := fun xs hx => vw_len (Q := fun x μ1 => gEq true x (D.int 2) μ1 fun d_2 μ1 => ∃ k, d_2 = D.bl k ∧ if k = true then Q (D.bl false) μ1 else
          gIx d (D.int 0) μ1 fun d_3 μ1 => ((tyN d_3).isSome = true ∨ okD (view μ1 d_3)) ∧ if isW (view μ1 d_3) = true then gIx d (D.int 1) μ1 fun d_4 μ1 => ((tyN d_4).isSome = true ∨ okD (view μ1 d_4)) ∧ if isW (view μ1 d_4) = true then gIx d (D.int 1) μ1 fun x μ1 => ∃ i, x = D.int i ∧ Q (D.bl (decide (0 < i))) μ1 else Q (D.bl false) μ1 else Q (D.bl false) μ1) hx
    by_cases hs : isSq (view μ d) = true
    · rw [if_neg (by rw [hs]; decide)]
      obtain ⟨xs, hx⟩ : ∃ xs, view μ d = .lst xs ∨ view μ d = .tup xs := by
        rcases sq_cases ht with h | ⟨h, _⟩
        · exact h
        · rw [h] at hs; cases hs
      refine sq xs hx ?_
      rw [gEq_int]
      refine ⟨_, rfl, ?_⟩
      by_cases e : xs.length = 2
      · match xs, e with
        | [x, y], _ =>
          have hi : (tyN x).isSome = true ∧ (tyN y).isSome = true := by
            rcases hx with hx | hx <;> rw [hx] at ht <;> exact ⟨ht.1, ht.2.1⟩
          rw [if_neg (by simp)]
          refine vw_ix hx atI_0 ⟨.inl hi.1, ?_⟩
          rw [isW_view hi.1]
          by_cases h1 : isW x = true
          · rw [if_pos h1]
            refine vw_ix hx atI_1 ⟨.inl hi.2, ?_⟩
            rw [isW_view hi.2]
            by_cases h2 : isW y = true
            · rw [if_pos h2]
              cases x with
              | int i =>
                cases y with
                | int j =>
                  refine vw_ix hx atI_1 ⟨j, rfl, ?_⟩
                  have e2 : isRV (view μ d) = decide (0 < j) := by
                    rcases hx with hx | hx <;> rw [hx] <;> unfold isRV ratV <;> by_cases hj : 0 < j <;> simp [hj]
                  rw [e2] at q
                  exact q
                | _ => cases h2
              | _ => cases h1
            · rw [if_neg h2]
              have e2 : isRV (view μ d) = false := by
                rcases hx with hx | hx <;> rw [hx] <;> cases x <;> first | rfl | (cases y <;> first | rfl | exact absurd rfl h2)
              rw [e2] at q
              exact q
          · rw [if_neg h1]
            have e2 : isRV (view μ d) = false := by
              rcases hx with hx | hx <;> rw [hx] <;> cases x <;> first | rfl | exact absurd rfl h1
            rw [e2] at q
            exact q
      · have e2 : (!((xs.length : Int) == 2)) = true := by simp; omega
        rw [if_pos (by simpa using e2)]
        have e3 : isRV (view μ d) = false := by
          rcases hx with hx | hx <;> rw [hx] <;>
            (match xs, e with
              | [], _ => rfl
              | [x], _ => cases x <;> rfl
              | x :: y :: z :: r, _ => cases x <;> first | rfl | (cases y <;> rfl))
        rw [e3] at q
        exact q
    · have hs' : isSq (view μ d) = false := by simpa using hs
      rw [if_pos hs']
      have e3 : isRV (view μ d) = false := by
        rcases sq_cases ht with ⟨xs, h | h⟩ | ⟨_, t, h⟩
        · rw [h] at hs; exact absurd rfl hs
        · rw [h] at hs; exact absurd rfl hs
        · generalize view μ d = v at hw hs' h
          cases v <;> first | rfl | exact absurd rfl hw | cases hs' | cases h
      rw [e3] at q
      exact q
end NC

set_option maxHeartbeats 2000000
namespace NC
open PySem PySem.Spec PyProof.Rows L2 DL LL PL
/-- what follows for a value that tells a ratio, for one that tells none -/
def onR (o : Option Rat) (f : Rat → Prop) (g : Prop) : Prop := match o with
  | some q => f q
  | none => g
theorem onR_some {q : Rat} {f : Rat → Prop} {g : Prop} : onR (some q) f g ↔ f q := Iff.rfl
theorem onR_none {f : Rat → Prop} {g : Prop} : onR none f g ↔ g := Iff.rfl
theorem onR.imp {o : Option Rat} {f f' : Rat → Prop} {g g' : Prop} (h : onR o f g) (hf : ∀ q, o = some q → f q → f' q) (hg : g → g') : onR o f' g' := by
  cases o with
  | none => exact hg h
  | some q => exact hf q rfl h
/-! ### told -/
def s_told (CB : Addr) : DF := fun ds μ Q F => ∃ v w, ds = [v, w] ∧ okD (view μ v) ∧ onR (ratV (view μ v)) (fun q => Q (qd q) μ) (F ⟨.ref CB, [("number", v), ("what", w)]⟩ μ)
theorem qd_one (i : Int) : qd (i : Rat) = .tup [.int i, .int 1] := rfl
theorem p_told (K : PySem.W.Frag) (CB : Addr) : ∀ ds μ Q F, s_told CB ds μ Q F → ds.length = 2 ∧ w_told K CB s_is_ratio s_is_wholeA s_lowest { nx := fun _ μ' => Q .non μ', rt := Q } F (dstart ["value", "what"] ds) μ := by
  rintro _ μ Q F ⟨v, w, rfl, h, q⟩
  refine ⟨rfl, ?_⟩
  simp only [w_told, w_told_0, w_told_1, s_is_ratio, s_is_wholeA, s_lowest, wRet, wRetN, wSeq, wNext, wIfS, wAsg, wName, wPar, wDrop, wDPut, wFor, wISeq, wIRng1, wIRng2, wVar, wC, wNil, wCons, wBin, wUn, wCB, wTst, wAnd, wOr, DL.wNot, wAndV, wOrV, wNotV, wIf, wTup, wLst, wLstM, wCall, wGTup, wGCons, wGNil, wBrk, wCnt, wRaise, gI, gU, gOne , DL.gSub, gMul, gMod, gDiv, gPow, gLt, gLe, gGt, gGe, gNeg, gAbs, gMax2, gMin2, gInt2, wChain, wPar3, wSl, wNoPart, wPart, wIEnumA, wIZipA, wIRng3, wLc, wLcM, wYes, wFld, wAug, wApp, wPop, wRev, wSubG, wMet, wBinO, wUnO, dstart, List.map_cons, List.map_nil, List.length_cons, List.length_nil, List.replicate, List.cons_append, List.nil_append, List.append_nil, List.getElem?_cons_zero, List.getElem?_cons_succ, List.set_cons_zero, List.set_cons_succ, Option.some.injEq, exists_eq_left', exists_eq_left, D.int.injEq, D.bl.injEq, D.str.injEq, D.tup.injEq, D.lst.injEq, D.obj.injEq, List.cons.injEq, and_true, true_and, Nat.zero_add, Nat.reduceAdd, Nat.reduceSub, decide_eq_true_eq, Bool.not_eq_true', decide_eq_false_iff_not, exists_and_left, exists_and_right, and_assoc, Bool.true_eq_false, Bool.false_eq_true, if_true, if_false, ne_eq]
  refine ⟨h, ?_⟩
  cases e : ratV (view μ v) with
  | none =>
    rw [e] at q
    rw [if_pos (by unfold isRV; rw [e]; rfl)]
    exact q
  | some r =>
    rw [e] at q
    rw [if_neg (by unfold isRV; rw [e]; simp)]
    refine ⟨.inr h, ?_⟩
    by_cases hw : isW (view μ v) = true
    · rw [if_pos hw]
      rcases view_cases h with ⟨e1, hn⟩ | ⟨a, xs, _, _, e1⟩
      · rw [e1] at hw e
        cases v with
        | int i =>
          cases e
          exact ⟨by decide, q⟩
        | _ => cases hw
      · rw [e1] at hw; cases hw
    · rw [if_neg hw]
      obtain ⟨n, d, hx, hd, rfl⟩ : ∃ n d, (view μ v = .lst [.int n, .int d] ∨ view μ v = .tup [.int n, .int d]) ∧ 0 < d ∧ r = Rat.divInt n d := by
        generalize view μ v = u at hw e
        unfold ratV at e
        split at e
        · exact absurd rfl hw
        · rename_i n d
          split at e
          · cases e; exact ⟨n, d, .inr rfl, by assumption, rfl⟩
          · cases e
        · rename_i n d
          split at e
          · cases e; exact ⟨n, d, .inl rfl, by assumption, rfl⟩
          · cases e
        · cases e
      refine vw_ix hx atI_0 (vw_ix hx atI_1 ⟨n, rfl, d, rfl, by omega, ?_, q⟩)
      rcases hx with hx | hx <;> rw [hx] at h <;> exact h.2.2 d rfl
/-! ### plus, minus, times, lower, share -/
def s_two (CB : Addr) (g : Rat → Rat → D) : DF := fun ds μ Q F => ∃ a b, ds = [a, b] ∧ okD (view μ a) ∧ onR (ratV (view μ a)) (fun p => okD (view μ b) ∧ onR (ratV (view μ b)) (fun q => Sz p ∧ Sz q ∧ Q (g p q) μ)
  (F ⟨.ref CB, [("number", b), ("what", .str "ratio")]⟩ μ)) (F ⟨.ref CB, [("number", a), ("what", .str "ratio")]⟩ μ)
theorem two_imp {CB : Addr} {a b : D} {μ : M} {F : FK} {f f' : Rat → Rat → Prop}
    (q : okD (view μ a) ∧ onR (ratV (view μ a)) (fun p => okD (view μ b) ∧ onR (ratV (view μ b)) (f p) (F ⟨.ref CB, [("number", b), ("what", .str "ratio")]⟩ μ)) (F ⟨.ref CB, [("number", a), ("what", .str "ratio")]⟩ μ))
    (h : ∀ p r, f p r → f' p r) : okD (view μ a) ∧ onR (ratV (view μ a)) (fun p => okD (view μ b) ∧ onR (ratV (view μ b)) (f' p) (F ⟨.ref CB, [("number", b), ("what", .str "ratio")]⟩ μ)) (F ⟨.ref CB, [("number", a), ("what", .str "ratio")]⟩ μ) :=
  ⟨q.1, q.2.imp (fun p _ z => ⟨z.1, z.2.imp (fun r _ z => h p r z) id⟩) id⟩
theorem nz {q : Rat} : (q.den : Int) ≠ 0 := by exact_mod_cast q.den_nz
theorem den_sz {q : Rat} (h : Sz q) : ((q.den : Nat) : Int).natAbs < 2 ^ 12000 := h.2
theorem dd_nz (p q : Rat) : (p.den : Int) * q.den ≠ 0 := Int.mul_ne_zero nz nz
theorem dd_sz {p q : Rat} (hp : Sz p) (hq : Sz q) : ((p.den : Int) * q.den).natAbs < 2 ^ 24998 := up (mul_sz (den_sz hp) (den_sz hq))
theorem p_plus (K : PySem.W.Frag) (CB : Addr) : ∀ ds μ Q F, s_two CB (fun p q => qd (p + q)) ds μ Q F → ds.length = 2 ∧ w_plus K (s_told CB) s_lowest { nx := fun _ μ' => Q .non μ', rt := Q } F (dstart ["one", "other", "first", "second"] ds) μ := by
  rintro _ μ Q F ⟨a, b, rfl, q⟩
  refine ⟨rfl, ?_⟩
  simp only [w_plus, w_plus_0, w_plus_1, s_told, s_lowest, wRet, wRetN, wSeq, wNext, wIfS, wAsg, wName, wPar, wDrop, wDPut, wFor, wISeq, wIRng1, wIRng2, wVar, wC, wNil, wCons, wBin, wUn, wCB, wTst, wAnd, wOr, DL.wNot, wAndV, wOrV, wNotV, wIf, wTup, wLst, wLstM, wCall, wGTup, wGCons, wGNil, wBrk, wCnt, wRaise, gI, gU, gOne , DL.gSub, gMul, gMod, gDiv, gPow, gLt, gLe, gGt, gGe, gNeg, gAbs, gMax2, gMin2, gInt2, wChain, wPar3, wSl, wNoPart, wPart, wIEnumA, wIZipA, wIRng3, wLc, wLcM, wYes, wFld, wAug, wApp, wPop, wRev, wSubG, wMet, wBinO, wUnO, dstart, List.map_cons, List.map_nil, List.length_cons, List.length_nil, List.replicate, List.cons_append, List.nil_append, List.append_nil, List.getElem?_cons_zero, List.getElem?_cons_succ, List.set_cons_zero, List.set_cons_succ, Option.some.injEq, exists_eq_left', exists_eq_left, D.int.injEq, D.bl.injEq, D.str.injEq, D.tup.injEq, D.lst.injEq, D.obj.injEq, List.cons.injEq, and_true, true_and, Nat.zero_add, Nat.reduceAdd, Nat.reduceSub, decide_eq_true_eq, Bool.not_eq_true', decide_eq_false_iff_not, exists_and_left, exists_and_right, and_assoc, Bool.true_eq_false, Bool.false_eq_true, if_true, if_false, ne_eq, gIx_q0, gIx_q1, gAdd_int, add_nd]
  exact two_imp q fun p r ⟨h1, h2, q⟩ => ⟨mul_w h1.1 (den_sz h2), mul_w h2.1 (den_sz h1), mul_w (den_sz h1) (den_sz h2), dd_nz p r, dd_sz h1 h2, q⟩
theorem p_minus (K : PySem.W.Frag) (CB : Addr) : ∀ ds μ Q F, s_two CB (fun p q => qd (p - q)) ds μ Q F → ds.length = 2 ∧ w_minus K (s_told CB) s_lowest { nx := fun _ μ' => Q .non μ', rt := Q } F (dstart ["one", "other", "first", "second"] ds) μ := by
  rintro _ μ Q F ⟨a, b, rfl, q⟩
  refine ⟨rfl, ?_⟩
  simp only [w_minus, w_minus_0, w_minus_1, s_told, s_lowest, wRet, wRetN, wSeq, wNext, wIfS, wAsg, wName, wPar, wDrop, wDPut, wFor, wISeq, wIRng1, wIRng2, wVar, wC, wNil, wCons, wBin, wUn, wCB, wTst, wAnd, wOr, DL.wNot, wAndV, wOrV, wNotV, wIf, wTup, wLst, wLstM, wCall, wGTup, wGCons, wGNil, wBrk, wCnt, wRaise, gI, gU, gOne , DL.gSub, gMul, gMod, gDiv, gPow, gLt, gLe, gGt, gGe, gNeg, gAbs, gMax2, gMin2, gInt2, wChain, wPar3, wSl, wNoPart, wPart, wIEnumA, wIZipA, wIRng3, wLc, wLcM, wYes, wFld, wAug, wApp, wPop, wRev, wSubG, wMet, wBinO, wUnO, dstart, List.map_cons, List.map_nil, List.length_cons, List.length_nil, List.replicate, List.cons_append, List.nil_append, List.append_nil, List.getElem?_cons_zero, List.getElem?_cons_succ, List.set_cons_zero, List.set_cons_succ, Option.some.injEq, exists_eq_left', exists_eq_left, D.int.injEq, D.bl.injEq, D.str.injEq, D.tup.injEq, D.lst.injEq, D.obj.injEq, List.cons.injEq, and_true, true_and, Nat.zero_add, Nat.reduceAdd, Nat.reduceSub, decide_eq_true_eq, Bool.not_eq_true', decide_eq_false_iff_not, exists_and_left, exists_and_right, and_assoc, Bool.true_eq_false, Bool.false_eq_true, if_true, if_false, ne_eq, gIx_q0, gIx_q1, gAdd_int, sub_nd]
  exact two_imp q fun p r ⟨h1, h2, q⟩ => ⟨mul_w h1.1 (den_sz h2), mul_w h2.1 (den_sz h1), mul_w (den_sz h1) (den_sz h2), dd_nz p r, dd_sz h1 h2, q⟩
theorem p_times (K : PySem.W.Frag) (CB : Addr) : ∀ ds μ Q F, s_two CB (fun p q => qd (p * q)) ds μ Q F → ds.length = 2 ∧ w_times K (s_told CB) s_lowest { nx := fun _ μ' => Q .non μ', rt := Q } F (dstart ["one", "other", "first", "second"] ds) μ := by
  rintro _ μ Q F ⟨a, b, rfl, q⟩
  refine ⟨rfl, ?_⟩
  simp only [w_times, w_times_0, w_times_1, s_told, s_lowest, wRet, wRetN, wSeq, wNext, wIfS, wAsg, wName, wPar, wDrop, wDPut, wFor, wISeq, wIRng1, wIRng2, wVar, wC, wNil, wCons, wBin, wUn, wCB, wTst, wAnd, wOr, DL.wNot, wAndV, wOrV, wNotV, wIf, wTup, wLst, wLstM, wCall, wGTup, wGCons, wGNil, wBrk, wCnt, wRaise, gI, gU, gOne , DL.gSub, gMul, gMod, gDiv, gPow, gLt, gLe, gGt, gGe, gNeg, gAbs, gMax2, gMin2, gInt2, wChain, wPar3, wSl, wNoPart, wPart, wIEnumA, wIZipA, wIRng3, wLc, wLcM, wYes, wFld, wAug, wApp, wPop, wRev, wSubG, wMet, wBinO, wUnO, dstart, List.map_cons, List.map_nil, List.length_cons, List.length_nil, List.replicate, List.cons_append, List.nil_append, List.append_nil, List.getElem?_cons_zero, List.getElem?_cons_succ, List.set_cons_zero, List.set_cons_succ, Option.some.injEq, exists_eq_left', exists_eq_left, D.int.injEq, D.bl.injEq, D.str.injEq, D.tup.injEq, D.lst.injEq, D.obj.injEq, List.cons.injEq, and_true, true_and, Nat.zero_add, Nat.reduceAdd, Nat.reduceSub, decide_eq_true_eq, Bool.not_eq_true', decide_eq_false_iff_not, exists_and_left, exists_and_right, and_assoc, Bool.true_eq_false, Bool.false_eq_true, if_true, if_false, ne_eq, gIx_q0, gIx_q1, gAdd_int, mul_nd]
  exact two_imp q fun p r ⟨h1, h2, q⟩ => ⟨mul_w h1.1 h2.1, mul_w (den_sz h1) (den_sz h2), dd_nz p r, dd_sz h1 h2, q⟩
theorem p_lower (K : PySem.W.Frag) (CB : Addr) : ∀ ds μ Q F, s_two CB (fun p q => .bl (decide (p < q))) ds μ Q F → ds.length = 2 ∧ w_lower K (s_told CB) { nx := fun _ μ' => Q .non μ', rt := Q } F (dstart ["one", "other", "first", "second"] ds) μ := by
  rintro _ μ Q F ⟨a, b, rfl, q⟩
  refine ⟨rfl, ?_⟩
  simp only [w_lower, w_lower_0, w_lower_1, s_told, s_lowest, wRet, wRetN, wSeq, wNext, wIfS, wAsg, wName, wPar, wDrop, wDPut, wFor, wISeq, wIRng1, wIRng2, wVar, wC, wNil, wCons, wBin, wUn, wCB, wTst, wAnd, wOr, DL.wNot, wAndV, wOrV, wNotV, wIf, wTup, wLst, wLstM, wCall, wGTup, wGCons, wGNil, wBrk, wCnt, wRaise, gI, gU, gOne , DL.gSub, gMul, gMod, gDiv, gPow, gLt, gLe, gGt, gGe, gNeg, gAbs, gMax2, gMin2, gInt2, wChain, wPar3, wSl, wNoPart, wPart, wIEnumA, wIZipA, wIRng3, wLc, wLcM, wYes, wFld, wAug, wApp, wPop, wRev, wSubG, wMet, wBinO, wUnO, dstart, List.map_cons, List.map_nil, List.length_cons, List.length_nil, List.replicate, List.cons_append, List.nil_append, List.append_nil, List.getElem?_cons_zero, List.getElem?_cons_succ, List.set_cons_zero, List.set_cons_succ, Option.some.injEq, exists_eq_left', exists_eq_left, D.int.injEq, D.bl.injEq, D.str.injEq, D.tup.injEq, D.lst.injEq, D.obj.injEq, List.cons.injEq, and_true, true_and, Nat.zero_add, Nat.reduceAdd, Nat.reduceSub, decide_eq_true_eq, Bool.not_eq_true', decide_eq_false_iff_not, exists_and_left, exists_and_right, and_assoc, Bool.true_eq_false, Bool.false_eq_true, if_true, if_false, ne_eq, gIx_q0, gIx_q1, gAdd_int, lt_nd]
  exact two_imp q fun p r ⟨h1, h2, q⟩ => ⟨mul_w h1.1 (den_sz h2), mul_w h2.1 (den_sz h1), q⟩
def s_share (CB : Addr) : DF := fun ds μ Q F => ∃ a b, ds = [a, b] ∧ okD (view μ a) ∧ onR (ratV (view μ a)) (fun p => okD (view μ b) ∧ onR (ratV (view μ b)) (fun q => Sz p ∧ Sz q ∧ if q = 0 then F ⟨.ref CB, [("number", b), ("what", .str "divisor")]⟩ μ else Q (qd (p / q)) μ)
  (F ⟨.ref CB, [("number", b), ("what", .str "ratio")]⟩ μ)) (F ⟨.ref CB, [("number", a), ("what", .str "ratio")]⟩ μ)
theorem p_share (K : PySem.W.Frag) (CB : Addr) : ∀ ds μ Q F, s_share CB ds μ Q F → ds.length = 2 ∧ w_share K CB (s_told CB) s_lowest { nx := fun _ μ' => Q .non μ', rt := Q } F (dstart ["one", "other", "first", "second"] ds) μ := by
  rintro _ μ Q F ⟨a, b, rfl, q⟩
  refine ⟨rfl, ?_⟩
  simp only [w_share, w_share_0, w_share_1, w_share_2, s_told, s_lowest, wRet, wRetN, wSeq, wNext, wIfS, wAsg, wName, wPar, wDrop, wDPut, wFor, wISeq, wIRng1, wIRng2, wVar, wC, wNil, wCons, wBin, wUn, wCB, wTst, wAnd, wOr, DL.wNot, wAndV, wOrV, wNotV, wIf, wTup, wLst, wLstM, wCall, wGTup, wGCons, wGNil, wBrk, wCnt, wRaise, gI, gU, gOne , DL.gSub, gMul, gMod, gDiv, gPow, gLt, gLe, gGt, gGe, gNeg, gAbs, gMax2, gMin2, gInt2, wChain, wPar3, wSl, wNoPart, wPart, wIEnumA, wIZipA, wIRng3, wLc, wLcM, wYes, wFld, wAug, wApp, wPop, wRev, wSubG, wMet, wBinO, wUnO, dstart, List.map_cons, List.map_nil, List.length_cons, List.length_nil, List.replicate, List.cons_append, List.nil_append, List.append_nil, List.getElem?_cons_zero, List.getElem?_cons_succ, List.set_cons_zero, List.set_cons_succ, Option.some.injEq, exists_eq_left', exists_eq_left, D.int.injEq, D.bl.injEq, D.str.injEq, D.tup.injEq, D.lst.injEq, D.obj.injEq, List.cons.injEq, and_true, true_and, Nat.zero_add, Nat.reduceAdd, Nat.reduceSub, decide_eq_true_eq, Bool.not_eq_true', decide_eq_false_iff_not, exists_and_left, exists_and_right, and_assoc, Bool.true_eq_false, Bool.false_eq_true, if_true, if_false, ne_eq, gIx_q0, gIx_q1, gAdd_int, gEq_int]
  refine two_imp q fun p r ⟨h1, h2, q⟩ => ?_
  by_cases h0 : r = 0
  · rw [if_pos h0] at q
    rw [if_pos (by simpa using (Rat.num_eq_zero (q := r)).mpr h0)]
    exact q
  · rw [if_neg h0] at q
    have hn : r.num ≠ 0 := fun e => h0 (Rat.num_eq_zero.mp e)
    rw [if_neg (by simpa using hn)]
    refine ⟨mul_w h1.1 (den_sz h2), mul_w (den_sz h1) h2.1, Int.mul_ne_zero nz hn, up (mul_sz (den_sz h1) h2.1), ?_⟩
    rw [div_nd p r h0]
    exact q
end NC

set_option maxHeartbeats 2000000
namespace NC
open PySem PySem.Spec PyProof.Rows L2 DL LL PL
def w__law_pen_0 (K : PySem.W.Frag)  : DS := (wAsg (wC (.int 0)) (wName 1))
def w__law_pen_1_0 (K : PySem.W.Frag)  : DS := (wAsg (wBin gMod (wCB (gOne gInt) (wCons (wBin gAdd (wBin gMul (wVar 1) (wC (.int 47))) (wVar 2)) wNil)) (wC (.int 1000000007))) (wName 1))
def w__law_pen_1 (K : PySem.W.Frag)  : DS := (wFor (wISeq (wVar 0)) (wName 2) (w__law_pen_1_0 K))
def w__law_pen_2 (K : PySem.W.Frag)  : DS := (wRet (wDctM (((wC (.str "cells")), (wCB (gOne gList) (wCons (wVar 0) wNil))) :: (((wC (.str "at")), (wC (.int 0))) :: (((wC (.str "digits")), (wC (.int 0))) :: (((wC (.str "count")), (wC (.int 0))) :: (((wC (.str "fold")), (wVar 1)) :: [])))))))
def w__law_pen (K : PySem.W.Frag)  : DS := (wSeq (w__law_pen_0 K) (wSeq (w__law_pen_1 K) (w__law_pen_2 K)))
def w__law_draw_0 (K : PySem.W.Frag)  : DS := (wDPut (wVar 0) (wC (.str "count")) (wBin gAdd (wBin gDGet (wVar 0) (wC (.str "count"))) (wC (.int 1))))
def w__law_draw_1 (K : PySem.W.Frag)  : DS := (wIfS (wAnd (wTst (wBin (gEq false) (wBin gDGet (wVar 0) (wC (.str "digits"))) (wC (.int 0)))) (wTst (wBin gLt (wBin gDGet (wVar 0) (wC (.str "at"))) (wCB (gOne gLen) (wCons (wBin gDGet (wVar 0) (wC (.str "cells"))) wNil))))) (wSeq (wAsg (wBin gIx (wBin gDGet (wVar 0) (wC (.str "cells"))) (wBin gDGet (wVar 0) (wC (.str "at")))) (wName 2)) (wSeq (wDPut (wVar 0) (wC (.str "at")) (wBin gAdd (wBin gDGet (wVar 0) (wC (.str "at"))) (wC (.int 1)))) (wIfS (wTst (wBin gGe (wVar 2) (wBin gPow (wC (.int 10)) (wC (.int 18))))) (wDPut (wVar 0) (wC (.str "digits")) (wBin gSub (wVar 2) (wBin gPow (wC (.int 10)) (wC (.int 18))))) (wDPut (wVar 0) (wC (.str "fold")) (wBin gMod (wCB (gOne gInt) (wCons (wBin gAdd (wBin gMul (wBin gDGet (wVar 0) (wC (.str "fold"))) (wC (.int 69069))) (wVar 2)) wNil)) (wC (.int 2147483587))))))) wNext)
def w__law_draw_2 (K : PySem.W.Frag)  : DS := (wIfS (wTst (wBin gGt (wBin gDGet (wVar 0) (wC (.str "digits"))) (wC (.int 0)))) (wSeq (wAsg (wBin gMod (wCB (gOne gInt) (wCons (wBin gDGet (wVar 0) (wC (.str "digits"))) wNil)) (wVar 1)) (wName 3)) (wSeq (wDPut (wVar 0) (wC (.str "digits")) (wBin gDiv (wBin gDGet (wVar 0) (wC (.str "digits"))) (wVar 1))) (wRet (wVar 3)))) wNext)
def w__law_draw_3 (K : PySem.W.Frag)  : DS := (wAsg (wBin gAdd (wBin gAdd (wBin gDGet (wVar 0) (wC (.str "fold"))) (wBin gMul (wBin gDGet (wVar 0) (wC (.str "count"))) (wC (.int 7907)))) (wC (.int 43))) (wName 4))
def w__law_draw_4 (K : PySem.W.Frag)  : DS := (wRet (wBin gMod (wBin gDiv (wCB (gOne gInt) (wCons (wBin gMod (wBin gPow (wVar 4) (wC (.int 17))) (wC (.int 2305843009213693951))) wNil)) (wC (.int 128))) (wVar 1)))
def w__law_draw (K : PySem.W.Frag)  : DS := (wSeq (w__law_draw_0 K) (wSeq (w__law_draw_1 K) (wSeq (w__law_draw_2 K) (wSeq (w__law_draw_3 K) (w__law_draw_4 K)))))
def w__law_pick_0 (K : PySem.W.Frag) (s__law_draw : DF) : DS := (wRet (wBin gIx (wVar 1) (wCall s__law_draw (wCons (wVar 0) (wCons (wCB (gOne gLen) (wCons (wVar 1) wNil)) wNil)))))
def w__law_pick (K : PySem.W.Frag) (s__law_draw : DF) : DS := (w__law_pick_0 K s__law_draw)
def w__law_far_0 (K : PySem.W.Frag) (s__law_pick s__law_draw : DF) : DS := (wAsg (wC (.int 0)) (wName 1))
def w__law_far_1_0 (K : PySem.W.Frag) (s__law_pick s__law_draw : DF) : DS := (wAsg (wBin gAdd (wBin gMul (wVar 1) (wC (.int 1000))) (wCall s__law_draw (wCons (wVar 0) (wCons (wC (.int 1000)) wNil)))) (wName 1))
def w__law_far_1 (K : PySem.W.Frag) (s__law_pick s__law_draw : DF) : DS := (wFor (wIRng1 (wCons (wCall s__law_pick (wCons (wVar 0) (wCons (wLst (wCons (wC (.int 0)) (wCons (wC (.int 1)) (wCons (wC (.int 1)) (wCons (wC (.int 2)) (wCons (wC (.int 6)) wNil)))))) wNil))) wNil)) (wName 2) (w__law_far_1_0 K s__law_pick s__law_draw))
def w__law_far_2 (K : PySem.W.Frag) (s__law_pick s__law_draw : DF) : DS := (wRet (wIf (wTst (wBin gGt (wCall s__law_draw (wCons (wVar 0) (wCons (wC (.int 3)) wNil))) (wC (.int 0)))) (wVar 1) (wUn gNeg (wVar 1))))
def w__law_far (K : PySem.W.Frag) (s__law_pick s__law_draw : DF) : DS := (wSeq (w__law_far_0 K s__law_pick s__law_draw) (wSeq (w__law_far_1 K s__law_pick s__law_draw) (w__law_far_2 K s__law_pick s__law_draw)))
theorem mput_self {μ : M} {p : Addr} {m : MO} (h : μ p = some m) : mput μ p m = μ := by
  funext b
  by_cases e : b = p
  · rw [e, mput_same, h]
  · rw [mput_ne e]
theorem gDGet_put {μ : M} {p : Addr} {ks : List (Key × D)} {z : Str} {Q : DK} : gDGet (.obj p) (.str z) (mput μ p (.dct ks)) Q ↔ ∃ d, valD ks (.inr z) = some d ∧ Q d (mput μ p (.dct ks)) := gDGet_obj mput_same
theorem pen_len {cs : List Int} {a d n f : Int} : (penD cs a d n f).length ≤ 1000000 := by show 5 ≤ 1000000; decide
theorem mul_small {i j : Int} (h1 : i.natAbs < 2 ^ 400) (h2 : j.natAbs < 2 ^ 400) : CMulX i j := mul_w h1 h2

/-! ### _law_pen -/
def s__law_pen : DF := fun ds μ Q _ => ∃ ns : List Int, ds = [.ro (ns.map .int)] ∧ ns.length ≤ 63 ∧ ∀ p μ', μ p = none → Only p μ μ' → Pen p μ' 0 → Q (.obj p) μ'
theorem p__law_pen (K : PySem.W.Frag) : ∀ ds μ Q F, s__law_pen ds μ Q F → ds.length = 1 ∧ w__law_pen K { nx := fun _ μ' => Q .non μ', rt := Q } F (dstart ["_law_script", "_law_fold", "_law_cell"] ds) μ := by
  rintro _ μ Q F ⟨ns, rfl, hl, q⟩
  refine ⟨rfl, ?_⟩
  simp only [w__law_pen, w__law_pen_0, w__law_pen_1_0, w__law_pen_1, w__law_pen_2, wRet, wRetN, wSeq, wNext, wIfS, wAsg, wName, wPar, wDrop, wDPut, wFor, wISeq, wIRng1, wIRng2, wVar, wC, wNil, wCons, wBin, wUn, wCB, wTst, wAnd, wOr, DL.wNot, wAndV, wOrV, wNotV, wIf, wTup, wLst, wLstM, wCall, wGTup, wGCons, wGNil, wBrk, wCnt, wRaise, gI, gU, gOne , DL.gSub, gMul, gMod, gDiv, gPow, gLt, gLe, gGt, gGe, gNeg, gAbs, gMax2, gMin2, gInt2, wChain, wPar3, wSl, wNoPart, wPart, wIEnumA, wIZipA, wIRng3, wLc, wLcM, wYes, wFld, wAug, wApp, wPop, wRev, wSubG, wMet, wBinO, wUnO, dstart, List.map_cons, List.map_nil, List.length_cons, List.length_nil, List.replicate, List.cons_append, List.nil_append, List.append_nil, List.getElem?_cons_zero, List.getElem?_cons_succ, List.set_cons_zero, List.set_cons_succ, Option.some.injEq, exists_eq_left', exists_eq_left, D.int.injEq, D.bl.injEq, D.str.injEq, D.tup.injEq, D.lst.injEq, D.obj.injEq, List.cons.injEq, and_true, true_and, Nat.zero_add, Nat.reduceAdd, Nat.reduceSub, decide_eq_true_eq, Bool.not_eq_true', decide_eq_false_iff_not, exists_and_left, exists_and_right, and_assoc, Bool.true_eq_false, Bool.false_eq_true, if_true, if_false, ne_eq]
  refine Or.inl ⟨ns.map .int, .inr (.inl rfl), ?_⟩
  have key : ∀ (cs : List Int) (f : Int) (c : Option D), 0 ≤ f → f < 1000000007 → wLoop Any (wName 2) (wAsg (wBin (gI (fun x j => ¬j = 0) fun i j => D.int (i.fmod j)) (wCB (gOne gInt) (wCons (wBin gAdd (wBin (gI CMulX fun i j => D.int (i * j)) (wVar 1) (wC (D.int 47))) (wVar 2)) wNil)) (wC (D.int 1000000007))) (wName 1)) (cs.map .int)
      { nx := fun δ' μ' => wDctM [(wC (D.str (Str.ofString "cells")), wCB (gOne gList) (wCons (wVar 0) wNil)), (wC (D.str (Str.ofString "at")), wC (D.int 0)), (wC (D.str (Str.ofString "digits")), wC (D.int 0)), (wC (D.str (Str.ofString "count")), wC (D.int 0)), (wC (D.str (Str.ofString "fold")), wVar 1)] δ' μ' Q F, rt := Q } F [some (.ro (ns.map .int)), some (D.int f), c] μ := by
    intro cs
    induction cs with
    | nil =>
      intro f c h1 h2
      refine ⟨trivial, fun p hp => ?_⟩
      simp only [wPairs, wRet, wRetN, wSeq, wNext, wIfS, wAsg, wName, wPar, wDrop, wDPut, wFor, wISeq, wIRng1, wIRng2, wVar, wC, wNil, wCons, wBin, wUn, wCB, wTst, wAnd, wOr, DL.wNot, wAndV, wOrV, wNotV, wIf, wTup, wLst, wLstM, wCall, wGTup, wGCons, wGNil, wBrk, wCnt, wRaise, gI, gU, gOne , DL.gSub, gMul, gMod, gDiv, gPow, gLt, gLe, gGt, gGe, gNeg, gAbs, gMax2, gMin2, gInt2, wChain, wPar3, wSl, wNoPart, wPart, wIEnumA, wIZipA, wIRng3, wLc, wLcM, wYes, wFld, wAug, wApp, wPop, wRev, wSubG, wMet, wBinO, wUnO, dstart, List.map_cons, List.map_nil, List.length_cons, List.length_nil, List.replicate, List.cons_append, List.nil_append, List.append_nil, List.getElem?_cons_zero, List.getElem?_cons_succ, List.set_cons_zero, List.set_cons_succ, Option.some.injEq, exists_eq_left', exists_eq_left, D.int.injEq, D.bl.injEq, D.str.injEq, D.tup.injEq, D.lst.injEq, D.obj.injEq, List.cons.injEq, and_true, true_and, Nat.zero_add, Nat.reduceAdd, Nat.reduceSub, decide_eq_true_eq, Bool.not_eq_true', decide_eq_false_iff_not, exists_and_left, exists_and_right, and_assoc, Bool.true_eq_false, Bool.false_eq_true, if_true, if_false, ne_eq, gList, seqOf]
      refine ⟨mput_same, by decide, _, rfl, ?_⟩
      rw [mput_mput]
      exact q p _ hp Only.put ⟨ns, 0, 0, 0, f, mput_same, by decide, by omega, by omega, by decide, by decide, by decide, h1, by omega⟩
    | cons c cs ih =>
      intro f c0 h1 h2
      refine ⟨trivial, ?_⟩
      simp only [wRet, wRetN, wSeq, wNext, wIfS, wAsg, wName, wPar, wDrop, wDPut, wFor, wISeq, wIRng1, wIRng2, wVar, wC, wNil, wCons, wBin, wUn, wCB, wTst, wAnd, wOr, DL.wNot, wAndV, wOrV, wNotV, wIf, wTup, wLst, wLstM, wCall, wGTup, wGCons, wGNil, wBrk, wCnt, wRaise, gI, gU, gOne , DL.gSub, gMul, gMod, gDiv, gPow, gLt, gLe, gGt, gGe, gNeg, gAbs, gMax2, gMin2, gInt2, wChain, wPar3, wSl, wNoPart, wPart, wIEnumA, wIZipA, wIRng3, wLc, wLcM, wYes, wFld, wAug, wApp, wPop, wRev, wSubG, wMet, wBinO, wUnO, dstart, List.map_cons, List.map_nil, List.length_cons, List.length_nil, List.replicate, List.cons_append, List.nil_append, List.append_nil, List.getElem?_cons_zero, List.getElem?_cons_succ, List.set_cons_zero, List.set_cons_succ, Option.some.injEq, exists_eq_left', exists_eq_left, D.int.injEq, D.bl.injEq, D.str.injEq, D.tup.injEq, D.lst.injEq, D.obj.injEq, List.cons.injEq, and_true, true_and, Nat.zero_add, Nat.reduceAdd, Nat.reduceSub, decide_eq_true_eq, Bool.not_eq_true', decide_eq_false_iff_not, exists_and_left, exists_and_right, and_assoc, Bool.true_eq_false, Bool.false_eq_true, if_true, if_false, ne_eq, gAdd_int, gInt_int]
      refine ⟨mul_small (by omega) (by decide), by decide, ih _ _ ?_ ?_⟩
      · exact Int.fmod_nonneg_of_pos _ (by decide)
      · exact Int.fmod_lt_of_pos _ (by decide)
  exact key ns 0 none (by decide) (by decide)

/-! ### _law_draw -/
def s__law_draw : DF := fun ds μ Q _ => ∃ p many m, ds = [.obj p, .int many] ∧ 0 < many ∧ many < 2 ^ 60 ∧ Pen p μ m ∧ m ≤ 1000000 ∧ ∀ v μ', 0 ≤ v → v < many → Only p μ μ' → Pen p μ' (m + 1) → Q (.int v) μ'
theorem draw_tail (K : PySem.W.Frag) {p : Addr} {many : Int} {m : Nat} {μ : M} {Q : DK} {F : FK} {R : DSt → M → Prop} (h1 : 0 < many) (h2 : many < 2 ^ 60) (hm : m ≤ 1000000) (q : ∀ v μ', 0 ≤ v → v < many → Only p μ μ' → Pen p μ' (m + 1) → Q (.int v) μ')
    {cs : List Int} {a d n f : Int} {c : Option D} (p1 : 0 ≤ a) (p2 : a ≤ cs.length) (p3 : cs.length ≤ 1000000) (p4 : 0 ≤ d) (p5 : 0 ≤ n) (p6 : n ≤ (m + 1 : Nat)) (p7 : 0 ≤ f) (p8 : f < 2147483648) :
    wSeq (w__law_draw_2 K) (wSeq (w__law_draw_3 K) (w__law_draw_4 K)) { nx := R, rt := Q } F [some (.obj p), some (.int many), c, none, none] (mput μ p (.dct (penD cs a d n f))) := by
  simp only [w__law_draw_2, w__law_draw_3, w__law_draw_4, wRet, wRetN, wSeq, wNext, wIfS, wAsg, wName, wPar, wDrop, wDPut, wFor, wISeq, wIRng1, wIRng2, wVar, wC, wNil, wCons, wBin, wUn, wCB, wTst, wAnd, wOr, DL.wNot, wAndV, wOrV, wNotV, wIf, wTup, wLst, wLstM, wCall, wGTup, wGCons, wGNil, wBrk, wCnt, wRaise, gI, gU, gOne , DL.gSub, gMul, gMod, gDiv, gPow, gLt, gLe, gGt, gGe, gNeg, gAbs, gMax2, gMin2, gInt2, wChain, wPar3, wSl, wNoPart, wPart, wIEnumA, wIZipA, wIRng3, wLc, wLcM, wYes, wFld, wAug, wApp, wPop, wRev, wSubG, wMet, wBinO, wUnO, dstart, List.map_cons, List.map_nil, List.length_cons, List.length_nil, List.replicate, List.cons_append, List.nil_append, List.append_nil, List.getElem?_cons_zero, List.getElem?_cons_succ, List.set_cons_zero, List.set_cons_succ, Option.some.injEq, exists_eq_left', exists_eq_left, D.int.injEq, D.bl.injEq, D.str.injEq, D.tup.injEq, D.lst.injEq, D.obj.injEq, List.cons.injEq, and_true, true_and, Nat.zero_add, Nat.reduceAdd, Nat.reduceSub, decide_eq_true_eq, Bool.not_eq_true', decide_eq_false_iff_not, exists_and_left, exists_and_right, and_assoc, Bool.true_eq_false, Bool.false_eq_true, if_true, if_false, ne_eq, gDGet_put, pen_cells, pen_at, pen_digits, pen_count, pen_fold, put_at, put_digits, put_count, put_fold, mput_same, mput_mput, MO.dct.injEq, keyOf, gAdd_int, gEq_int, pen_len, gLen_lst, gInt_int]
  have cm : ∀ x : Int, CDivG x many := fun x => ⟨by omega, Nat.lt_of_lt_of_le (Nat.log2_lt (by omega) |>.mpr (show many.natAbs < 2 ^ 60 by omega)) (by decide)⟩
  by_cases hd : 0 < d
  · rw [if_pos hd]
    refine ⟨by omega, cm d, q _ _ (Int.fmod_nonneg_of_pos _ h1) (Int.fmod_lt_of_pos _ h1) Only.put ⟨cs, a, _, n, f, mput_same, p1, p2, p3, ?_, p5, p6, p7, p8⟩⟩
    rw [Int.fdiv_eq_ediv_of_nonneg _ (by omega)]
    exact Int.ediv_nonneg p4 (by omega)
  · rw [if_neg hd]
    refine ⟨mul_small (by omega) (by decide), ⟨by decide, by decide, by omega⟩, by decide, ⟨by decide, by decide⟩, by omega, q _ _ (Int.fmod_nonneg_of_pos _ h1) (Int.fmod_lt_of_pos _ h1) Only.put ⟨cs, a, d, n, f, mput_same, p1, p2, p3, p4, p5, p6, p7, p8⟩⟩
theorem p__law_draw (K : PySem.W.Frag) : ∀ ds μ Q F, s__law_draw ds μ Q F → ds.length = 2 ∧ w__law_draw K { nx := fun _ μ' => Q .non μ', rt := Q } F (dstart ["_law_pen_here", "_law_many", "_law_cell", "_law_digit", "_law_mixed"] ds) μ := by
  rintro _ μ Q F ⟨p, many, m, rfl, h1, h2, pen, hm, q⟩
  refine ⟨rfl, ?_⟩
  obtain ⟨cs, a, d, n, f, h0, p1, p2, p3, p4, p5, p6, p7, p8⟩ := pen
  have e0 := mput_self h0
  rw [← e0]
  have tail : ∀ (cs : List Int) (a d n f : Int) (c : Option D), 0 ≤ a → a ≤ cs.length → cs.length ≤ 1000000 → 0 ≤ d → 0 ≤ n → n ≤ (m + 1 : Nat) → 0 ≤ f → f < 2147483648 → _ := fun cs a d n f c => @draw_tail K p many m μ Q F (fun _ μ' => Q .non μ') h1 h2 hm q cs a d n f c
  show w__law_draw_0 K { nx := fun δ μ => w__law_draw_1 K { nx := fun δ μ => wSeq (w__law_draw_2 K) (wSeq (w__law_draw_3 K) (w__law_draw_4 K)) { nx := fun _ μ' => Q .non μ', rt := Q } F δ μ, rt := Q } F δ μ, rt := Q } F _ _
  generalize wSeq (w__law_draw_2 K) (wSeq (w__law_draw_3 K) (w__law_draw_4 K)) = tl at tail ⊢
  simp only [w__law_draw_0, w__law_draw_1, wRet, wRetN, wSeq, wNext, wIfS, wAsg, wName, wPar, wDrop, wDPut, wFor, wISeq, wIRng1, wIRng2, wVar, wC, wNil, wCons, wBin, wUn, wCB, wTst, wAnd, wOr, DL.wNot, wAndV, wOrV, wNotV, wIf, wTup, wLst, wLstM, wCall, wGTup, wGCons, wGNil, wBrk, wCnt, wRaise, gI, gU, gOne , DL.gSub, gMul, gMod, gDiv, gPow, gLt, gLe, gGt, gGe, gNeg, gAbs, gMax2, gMin2, gInt2, wChain, wPar3, wSl, wNoPart, wPart, wIEnumA, wIZipA, wIRng3, wLc, wLcM, wYes, wFld, wAug, wApp, wPop, wRev, wSubG, wMet, wBinO, wUnO, dstart, List.map_cons, List.map_nil, List.length_cons, List.length_nil, List.replicate, List.cons_append, List.nil_append, List.append_nil, List.getElem?_cons_zero, List.getElem?_cons_succ, List.set_cons_zero, List.set_cons_succ, Option.some.injEq, exists_eq_left', exists_eq_left, D.int.injEq, D.bl.injEq, D.str.injEq, D.tup.injEq, D.lst.injEq, D.obj.injEq, List.cons.injEq, and_true, true_and, Nat.zero_add, Nat.reduceAdd, Nat.reduceSub, decide_eq_true_eq, Bool.not_eq_true', decide_eq_false_iff_not, exists_and_left, exists_and_right, and_assoc, Bool.true_eq_false, Bool.false_eq_true, if_true, if_false, ne_eq, gDGet_put, pen_cells, pen_at, pen_digits, pen_count, pen_fold, put_at, put_digits, put_count, put_fold, mput_same, mput_mput, MO.dct.injEq, keyOf, gAdd_int, gEq_int, pen_len, gLen_lst, gInt_int]
  by_cases hd : (d == 0) = true
  · rw [if_pos hd]
    by_cases ha : a < (List.map D.int cs).length
    · rw [if_pos ha]
      have ha' : a < cs.length := by simpa using ha
      have hx : a.toNat < cs.length := by omega
      rw [gIx_lst]
      refine ⟨.int cs[a.toNat], ?_, ?_⟩
      · unfold atI ixN
        simp only [List.length_map]
        rw [if_pos p1, if_pos ha']
        simp [hx]
      simp only [gDGet_put, pen_cells, pen_at, pen_digits, pen_count, pen_fold, put_at, put_digits, put_count, put_fold, mput_same, mput_mput, MO.dct.injEq, keyOf, gAdd_int, gEq_int, pen_len, gLen_lst, gInt_int, dstart, List.map_cons, List.map_nil, List.length_cons, List.length_nil, List.replicate, List.cons_append, List.nil_append, List.append_nil, List.getElem?_cons_zero, List.getElem?_cons_succ, List.set_cons_zero, List.set_cons_succ, Option.some.injEq, exists_eq_left', exists_eq_left, D.int.injEq, D.bl.injEq, D.str.injEq, D.tup.injEq, D.lst.injEq, D.obj.injEq, List.cons.injEq, and_true, true_and, Nat.zero_add, Nat.reduceAdd, Nat.reduceSub, decide_eq_true_eq, Bool.not_eq_true', decide_eq_false_iff_not, exists_and_left, exists_and_right, and_assoc, Bool.true_eq_false, Bool.false_eq_true, if_true, if_false, ne_eq]
      refine ⟨⟨by decide, by decide, by decide⟩, ?_⟩
      by_cases hc : 10 ^ Int.toNat 18 ≤ cs[a.toNat]
      · rw [if_pos hc]
        exact ⟨⟨by decide, by decide, by decide⟩, tail _ _ _ _ _ _ (by omega) (by omega) p3 (by omega) (by omega) (by omega) p7 p8⟩
      · rw [if_neg hc]
        refine ⟨mul_small (by omega) (by decide), by decide, tail _ _ _ _ _ _ (by omega) (by omega) p3 p4 (by omega) (by omega) (Int.fmod_nonneg_of_pos _ (by decide)) (Int.lt_trans (Int.fmod_lt_of_pos _ (by decide)) (by decide))⟩
    · rw [if_neg ha]
      exact tail _ _ _ _ _ _ p1 p2 p3 p4 (by omega) (by omega) p7 p8
  · rw [if_neg hd]
    exact tail _ _ _ _ _ _ p1 p2 p3 p4 (by omega) (by omega) p7 p8

/-! ### _law_pick, _law_far -/
def s__law_pick : DF := fun ds μ Q _ => ∃ p xs m, (ds = [.obj p, .lst xs] ∨ ds = [.obj p, .tup xs]) ∧ 0 < xs.length ∧ xs.length ≤ 1000000 ∧ Pen p μ m ∧ m ≤ 1000000 ∧ ∀ v ∈ xs, ∀ μ', Only p μ μ' → Pen p μ' (m + 1) → Q v μ'
theorem at_nn {α : Type} {xs : List α} {i : Int} (h1 : 0 ≤ i) (h2 : i < xs.length) : ∃ h : i.toNat < xs.length, atI xs i = some xs[i.toNat] := by
  have h : i.toNat < xs.length := by omega
  refine ⟨h, ?_⟩
  unfold atI ixN
  rw [if_pos h1, if_pos h2]
  simp [h]
theorem p__law_pick (K : PySem.W.Frag) : ∀ ds μ Q F, s__law_pick ds μ Q F → ds.length = 2 ∧ w__law_pick K s__law_draw { nx := fun _ μ' => Q .non μ', rt := Q } F (dstart ["_law_pen_here", "_law_some"] ds) μ := by
  rintro _ μ Q F ⟨p, xs, m, e, h1, h2, pen, hm, q⟩
  have fin : ∀ x1 : D, (x1 = .lst xs ∨ x1 = .tup xs) → gLen x1 μ fun d μ1 => s__law_draw [.obj p, d] μ1 (fun y μ2 => gIx x1 y μ2 Q) F := by
    rintro x1 (rfl | rfl)
    · rw [gLen_lst]
      refine ⟨p, _, m, rfl, by omega, by omega, pen, hm, fun v μ' v1 v2 o pn => ?_⟩
      refine gIx_lst.mpr ?_
      obtain ⟨h, e⟩ := at_nn v1 v2
      exact ⟨_, e, q _ (List.getElem_mem h) μ' o pn⟩
    · rw [gLen_tup]
      refine ⟨p, _, m, rfl, by omega, by omega, pen, hm, fun v μ' v1 v2 o pn => ?_⟩
      refine gIx_tup.mpr ?_
      obtain ⟨h, e⟩ := at_nn v1 v2
      exact ⟨_, e, q _ (List.getElem_mem h) μ' o pn⟩
  rcases e with rfl | rfl
  · refine ⟨rfl, ?_⟩
    simp only [w__law_pick, w__law_pick_0, wRet, wRetN, wSeq, wNext, wIfS, wAsg, wName, wPar, wDrop, wDPut, wFor, wISeq, wIRng1, wIRng2, wVar, wC, wNil, wCons, wBin, wUn, wCB, wTst, wAnd, wOr, DL.wNot, wAndV, wOrV, wNotV, wIf, wTup, wLst, wLstM, wCall, wGTup, wGCons, wGNil, wBrk, wCnt, wRaise, gI, gU, gOne , DL.gSub, gMul, gMod, gDiv, gPow, gLt, gLe, gGt, gGe, gNeg, gAbs, gMax2, gMin2, gInt2, wChain, wPar3, wSl, wNoPart, wPart, wIEnumA, wIZipA, wIRng3, wLc, wLcM, wYes, wFld, wAug, wApp, wPop, wRev, wSubG, wMet, wBinO, wUnO, dstart, List.map_cons, List.map_nil, List.length_cons, List.length_nil, List.replicate, List.cons_append, List.nil_append, List.append_nil, List.getElem?_cons_zero, List.getElem?_cons_succ, List.set_cons_zero, List.set_cons_succ, Option.some.injEq, exists_eq_left', exists_eq_left, D.int.injEq, D.bl.injEq, D.str.injEq, D.tup.injEq, D.lst.injEq, D.obj.injEq, List.cons.injEq, and_true, true_and, Nat.zero_add, Nat.reduceAdd, Nat.reduceSub, decide_eq_true_eq, Bool.not_eq_true', decide_eq_false_iff_not, exists_and_left, exists_and_right, and_assoc, Bool.true_eq_false, Bool.false_eq_true, if_true, if_false, ne_eq]
    exact fin _ (.inl rfl)
  · refine ⟨rfl, ?_⟩
    simp only [w__law_pick, w__law_pick_0, wRet, wRetN, wSeq, wNext, wIfS, wAsg, wName, wPar, wDrop, wDPut, wFor, wISeq, wIRng1, wIRng2, wVar, wC, wNil, wCons, wBin, wUn, wCB, wTst, wAnd, wOr, DL.wNot, wAndV, wOrV, wNotV, wIf, wTup, wLst, wLstM, wCall, wGTup, wGCons, wGNil, wBrk, wCnt, wRaise, gI, gU, gOne , DL.gSub, gMul, gMod, gDiv, gPow, gLt, gLe, gGt, gGe, gNeg, gAbs, gMax2, gMin2, gInt2, wChain, wPar3, wSl, wNoPart, wPart, wIEnumA, wIZipA, wIRng3, wLc, wLcM, wYes, wFld, wAug, wApp, wPop, wRev, wSubG, wMet, wBinO, wUnO, dstart, List.map_cons, List.map_nil, List.length_cons, List.length_nil, List.replicate, List.cons_append, List.nil_append, List.append_nil, List.getElem?_cons_zero, List.getElem?_cons_succ, List.set_cons_zero, List.set_cons_succ, Option.some.injEq, exists_eq_left', exists_eq_left, D.int.injEq, D.bl.injEq, D.str.injEq, D.tup.injEq, D.lst.injEq, D.obj.injEq, List.cons.injEq, and_true, true_and, Nat.zero_add, Nat.reduceAdd, Nat.reduceSub, decide_eq_true_eq, Bool.not_eq_true', decide_eq_false_iff_not, exists_and_left, exists_and_right, and_assoc, Bool.true_eq_false, Bool.false_eq_true, if_true, if_false, ne_eq]
    exact fin _ (.inr rfl)
def s__law_far : DF := fun ds μ Q _ => ∃ p m, ds = [.obj p] ∧ Pen p μ m ∧ m + 10 ≤ 1000000 ∧ ∀ v μ', v.natAbs < 10 ^ 18 → Only p μ μ' → Pen p μ' (m + 10) → Q (.int v) μ'
theorem p__law_far (K : PySem.W.Frag) : ∀ ds μ Q F, s__law_far ds μ Q F → ds.length = 1 ∧ w__law_far K s__law_pick s__law_draw { nx := fun _ μ' => Q .non μ', rt := Q } F (dstart ["_law_pen_here", "_law_found", "_law_k"] ds) μ := by
  rintro _ μ Q F ⟨p, m, rfl, pen, hm, q⟩
  refine ⟨rfl, ?_⟩
  simp only [w__law_far, w__law_far_0, w__law_far_1_0, w__law_far_1, w__law_far_2, wRet, wRetN, wSeq, wNext, wIfS, wAsg, wName, wPar, wDrop, wDPut, wFor, wISeq, wIRng1, wIRng2, wVar, wC, wNil, wCons, wBin, wUn, wCB, wTst, wAnd, wOr, DL.wNot, wAndV, wOrV, wNotV, wIf, wTup, wLst, wLstM, wCall, wGTup, wGCons, wGNil, wBrk, wCnt, wRaise, gI, gU, gOne , DL.gSub, gMul, gMod, gDiv, gPow, gLt, gLe, gGt, gGe, gNeg, gAbs, gMax2, gMin2, gInt2, wChain, wPar3, wSl, wNoPart, wPart, wIEnumA, wIZipA, wIRng3, wLc, wLcM, wYes, wFld, wAug, wApp, wPop, wRev, wSubG, wMet, wBinO, wUnO, dstart, List.map_cons, List.map_nil, List.length_cons, List.length_nil, List.replicate, List.cons_append, List.nil_append, List.append_nil, List.getElem?_cons_zero, List.getElem?_cons_succ, List.set_cons_zero, List.set_cons_succ, Option.some.injEq, exists_eq_left', exists_eq_left, D.int.injEq, D.bl.injEq, D.str.injEq, D.tup.injEq, D.lst.injEq, D.obj.injEq, List.cons.injEq, and_true, true_and, Nat.zero_add, Nat.reduceAdd, Nat.reduceSub, decide_eq_true_eq, Bool.not_eq_true', decide_eq_false_iff_not, exists_and_left, exists_and_right, and_assoc, Bool.true_eq_false, Bool.false_eq_true, if_true, if_false, ne_eq]
  refine ⟨by decide, p, _, m, .inl rfl, by decide, by decide, pen, by omega, fun v hv μ1 o1 pen1 => ?_⟩
  obtain ⟨j, rfl, j0, j6⟩ : ∃ j : Nat, v = .int j ∧ 0 ≤ j ∧ j ≤ 6 := by
    simp only [List.mem_cons, List.not_mem_nil, or_false] at hv
    rcases hv with rfl | rfl | rfl | rfl | rfl
    · exact ⟨0, rfl, by decide, by decide⟩
    · exact ⟨1, rfl, by decide, by decide⟩
    · exact ⟨1, rfl, by decide, by decide⟩
    · exact ⟨2, rfl, by decide, by decide⟩
    · exact ⟨6, rfl, by decide, by decide⟩
  refine ⟨j, rfl, by omega, by omega, ?_⟩
  have key : ∀ (js : List D) (g : Int) (n : Nat) (c : Option D) (μ2 : M), js.length + n = j → 0 ≤ g → g < 1000 ^ n → Only p μ μ2 → Pen p μ2 (m + 1 + n) → wLoop Any (wName 2)
                  (wAsg
                    (wBin gAdd (wBin (gI CMulX fun i j => D.int (i * j)) (wVar 1) (wC (D.int 1000)))
                      (wCall s__law_draw (wCons (wVar 0) (wCons (wC (D.int 1000)) wNil))))
                    (wName 1)) js
                  {
                    nx := fun δ' μ' =>
                      ∃ d,
                        δ'[0]? = some (some d) ∧
                          s__law_draw [d, D.int 3] μ'
                            (fun x μ1 =>
                              ∃ i,
                                x = D.int i ∧
                                  if 0 < i then ∃ d, δ'[1]? = some (some d) ∧ Q d μ1
                                  else ∃ d, δ'[1]? = some (some d) ∧ ∃ i, d = D.int i ∧ Q (D.int (-i)) μ1)
                            F,
                    rt := Q }
                  F [some (.obj p), some (D.int g), c] μ2 := by
    intro js
    induction js with
    | nil =>
      intro g n c μ2 e g0 g1 o2 pen2
      have hn : n = j := by simpa using e
      subst hn
      have g18 : g < 10 ^ 18 := Int.lt_of_lt_of_le g1 (by
        rcases (by omega : n = 0 ∨ n = 1 ∨ n = 2 ∨ n = 3 ∨ n = 4 ∨ n = 5 ∨ n = 6) with h | h | h | h | h | h | h <;> subst h <;> decide)
      refine ⟨trivial, .obj p, rfl, p, 3, m + 1 + n, rfl, by decide, by decide, pen2, by omega, fun v μ3 v1 v2 o3 pen3 => ⟨v, rfl, ?_⟩⟩
      have o : Only p μ μ3 := o2.trans o3
      have pn : Pen p μ3 (m + 10) := pen3.mono (by omega)
      split
      · exact ⟨_, rfl, q _ _ (by omega) o pn⟩
      · exact ⟨_, rfl, _, rfl, q _ _ (by omega) o pn⟩
    | cons x js ih =>
      intro g n c μ2 e g0 g1 o2 pen2
      have hlen : js.length + (n + 1) = j := by simp only [List.length_cons] at e; omega
      refine ⟨trivial, ?_⟩
      have g18 : g < 10 ^ 18 := Int.lt_of_lt_of_le g1 (by
        rcases (by omega : n = 0 ∨ n = 1 ∨ n = 2 ∨ n = 3 ∨ n = 4 ∨ n = 5 ∨ n = 6) with h | h | h | h | h | h | h <;> subst h <;> decide)
      simp only [wRet, wRetN, wSeq, wNext, wIfS, wAsg, wName, wPar, wDrop, wDPut, wFor, wISeq, wIRng1, wIRng2, wVar, wC, wNil, wCons, wBin, wUn, wCB, wTst, wAnd, wOr, DL.wNot, wAndV, wOrV, wNotV, wIf, wTup, wLst, wLstM, wCall, wGTup, wGCons, wGNil, wBrk, wCnt, wRaise, gI, gU, gOne , DL.gSub, gMul, gMod, gDiv, gPow, gLt, gLe, gGt, gGe, gNeg, gAbs, gMax2, gMin2, gInt2, wChain, wPar3, wSl, wNoPart, wPart, wIEnumA, wIZipA, wIRng3, wLc, wLcM, wYes, wFld, wAug, wApp, wPop, wRev, wSubG, wMet, wBinO, wUnO, dstart, List.map_cons, List.map_nil, List.length_cons, List.length_nil, List.replicate, List.cons_append, List.nil_append, List.append_nil, List.getElem?_cons_zero, List.getElem?_cons_succ, List.set_cons_zero, List.set_cons_succ, Option.some.injEq, exists_eq_left', exists_eq_left, D.int.injEq, D.bl.injEq, D.str.injEq, D.tup.injEq, D.lst.injEq, D.obj.injEq, List.cons.injEq, and_true, true_and, Nat.zero_add, Nat.reduceAdd, Nat.reduceSub, decide_eq_true_eq, Bool.not_eq_true', decide_eq_false_iff_not, exists_and_left, exists_and_right, and_assoc, Bool.true_eq_false, Bool.false_eq_true, if_true, if_false, ne_eq, gAdd_int]
      refine ⟨mul_small (by omega) (by decide), p, 1000, m + 1 + n, rfl, by decide, by decide, pen2, by omega, fun v μ3 v1 v2 o3 pen3 => ?_⟩
      simp only [wRet, wRetN, wSeq, wNext, wIfS, wAsg, wName, wPar, wDrop, wDPut, wFor, wISeq, wIRng1, wIRng2, wVar, wC, wNil, wCons, wBin, wUn, wCB, wTst, wAnd, wOr, DL.wNot, wAndV, wOrV, wNotV, wIf, wTup, wLst, wLstM, wCall, wGTup, wGCons, wGNil, wBrk, wCnt, wRaise, gI, gU, gOne , DL.gSub, gMul, gMod, gDiv, gPow, gLt, gLe, gGt, gGe, gNeg, gAbs, gMax2, gMin2, gInt2, wChain, wPar3, wSl, wNoPart, wPart, wIEnumA, wIZipA, wIRng3, wLc, wLcM, wYes, wFld, wAug, wApp, wPop, wRev, wSubG, wMet, wBinO, wUnO, dstart, List.map_cons, List.map_nil, List.length_cons, List.length_nil, List.replicate, List.cons_append, List.nil_append, List.append_nil, List.getElem?_cons_zero, List.getElem?_cons_succ, List.set_cons_zero, List.set_cons_succ, Option.some.injEq, exists_eq_left', exists_eq_left, D.int.injEq, D.bl.injEq, D.str.injEq, D.tup.injEq, D.lst.injEq, D.obj.injEq, List.cons.injEq, and_true, true_and, Nat.zero_add, Nat.reduceAdd, Nat.reduceSub, decide_eq_true_eq, Bool.not_eq_true', decide_eq_false_iff_not, exists_and_left, exists_and_right, and_assoc, Bool.true_eq_false, Bool.false_eq_true, if_true, if_false, ne_eq, gAdd_int]
      refine ih _ (n + 1) _ _ hlen (by omega) ?_ (o2.trans o3) pen3
      rw [Int.pow_succ]
      omega
  refine key _ 0 0 _ _ ?_ (by decide) (by decide) o1 pen1
  simp [intsD]
end NC

set_option maxHeartbeats 2000000
namespace NC
open PySem PySem.Spec PyProof.Rows L2 DL LL PL
def w__law_gcd_0 (K : PySem.W.Frag)  : DS := (wPar 0 1 (wCons (wCB gAbs (wCons (wVar 0) wNil)) (wCons (wCB gAbs (wCons (wVar 1) wNil)) wNil)))
def w__law_gcd_1_0 (K : PySem.W.Frag)  : DS := (wIfS (wTst (wBin (gEq false) (wVar 1) (wC (.int 0)))) wBrk wNext)
def w__law_gcd_1_1 (K : PySem.W.Frag)  : DS := (wPar 0 1 (wCons (wVar 1) (wCons (wBin gMod (wCB (gOne gInt) (wCons (wVar 0) wNil)) (wVar 1)) wNil)))
def w__law_gcd_1 (K : PySem.W.Frag)  : DS := (wFor (wIRng1 (wCons (wC (.int 50000)) wNil)) (wName 2) (wSeq (w__law_gcd_1_0 K) (w__law_gcd_1_1 K)))
def w__law_gcd_2 (K : PySem.W.Frag)  : DS := (wRet (wVar 0))
def w__law_gcd (K : PySem.W.Frag)  : DS := (wSeq (w__law_gcd_0 K) (wSeq (w__law_gcd_1 K) (w__law_gcd_2 K)))
def w__law_q_0 (K : PySem.W.Frag) (s__law_gcd : DF) : DS := (wAsg (wCall s__law_gcd (wCons (wVar 0) (wCons (wVar 1) wNil))) (wName 2))
def w__law_q_1 (K : PySem.W.Frag) (s__law_gcd : DF) : DS := (wAsg (wIf (wTst (wBin gLt (wVar 1) (wC (.int 0)))) (wUn gNeg (wVar 2)) (wVar 2)) (wName 2))
def w__law_q_2 (K : PySem.W.Frag) (s__law_gcd : DF) : DS := (wRet (wTup (wCons (wBin gDiv (wVar 0) (wVar 2)) (wCons (wBin gDiv (wVar 1) (wVar 2)) wNil))))
def w__law_q (K : PySem.W.Frag) (s__law_gcd : DF) : DS := (wSeq (w__law_q_0 K s__law_gcd) (wSeq (w__law_q_1 K s__law_gcd) (w__law_q_2 K s__law_gcd)))
def w__law_plus_0 (K : PySem.W.Frag) (s__law_q : DF) : DS := (wRet (wCall s__law_q (wCons (wBin gAdd (wBin gMul (wBin gIx (wVar 0) (wC (.int 0))) (wBin gIx (wVar 1) (wC (.int 1)))) (wBin gMul (wBin gIx (wVar 1) (wC (.int 0))) (wBin gIx (wVar 0) (wC (.int 1))))) (wCons (wBin gMul (wBin gIx (wVar 0) (wC (.int 1))) (wBin gIx (wVar 1) (wC (.int 1)))) wNil))))
def w__law_plus (K : PySem.W.Frag) (s__law_q : DF) : DS := (w__law_plus_0 K s__law_q)
def w__law_minus_0 (K : PySem.W.Frag) (s__law_q : DF) : DS := (wRet (wCall s__law_q (wCons (wBin gSub (wBin gMul (wBin gIx (wVar 0) (wC (.int 0))) (wBin gIx (wVar 1) (wC (.int 1)))) (wBin gMul (wBin gIx (wVar 1) (wC (.int 0))) (wBin gIx (wVar 0) (wC (.int 1))))) (wCons (wBin gMul (wBin gIx (wVar 0) (wC (.int 1))) (wBin gIx (wVar 1) (wC (.int 1)))) wNil))))
def w__law_minus (K : PySem.W.Frag) (s__law_q : DF) : DS := (w__law_minus_0 K s__law_q)
def w__law_times_0 (K : PySem.W.Frag) (s__law_q : DF) : DS := (wRet (wCall s__law_q (wCons (wBin gMul (wBin gIx (wVar 0) (wC (.int 0))) (wBin gIx (wVar 1) (wC (.int 0)))) (wCons (wBin gMul (wBin gIx (wVar 0) (wC (.int 1))) (wBin gIx (wVar 1) (wC (.int 1)))) wNil))))
def w__law_times (K : PySem.W.Frag) (s__law_q : DF) : DS := (w__law_times_0 K s__law_q)
def w__law_share_0 (K : PySem.W.Frag) (s__law_q : DF) : DS := (wRet (wCall s__law_q (wCons (wBin gMul (wBin gIx (wVar 0) (wC (.int 0))) (wBin gIx (wVar 1) (wC (.int 1)))) (wCons (wBin gMul (wBin gIx (wVar 0) (wC (.int 1))) (wBin gIx (wVar 1) (wC (.int 0)))) wNil))))
def w__law_share (K : PySem.W.Frag) (s__law_q : DF) : DS := (w__law_share_0 K s__law_q)
def w__law_less_0 (K : PySem.W.Frag)  : DS := (wRet (wBin gLt (wBin gMul (wBin gIx (wVar 0) (wC (.int 0))) (wBin gIx (wVar 1) (wC (.int 1)))) (wBin gMul (wBin gIx (wVar 1) (wC (.int 0))) (wBin gIx (wVar 0) (wC (.int 1))))))
def w__law_less (K : PySem.W.Frag)  : DS := (w__law_less_0 K)
/-! ### _law_gcd -/
def s__law_gcd : DF := fun ds μ Q _ => ∃ a b, ds = [.int a, .int b] ∧ a.natAbs < 2 ^ 24998 ∧ b.natAbs < 2 ^ 24998 ∧ Q (.int (Int.gcd a b)) μ
theorem p__law_gcd (K : PySem.W.Frag) : ∀ ds μ Q F, s__law_gcd ds μ Q F → ds.length = 2 ∧ w__law_gcd K { nx := fun _ μ' => Q .non μ', rt := Q } F (dstart ["_law_one", "_law_two", "_law_lap"] ds) μ := by
  rintro _ μ Q F ⟨a, b, rfl, ha, hb, q⟩
  refine ⟨rfl, ?_⟩
  simp only [w__law_gcd, w__law_gcd_0, w__law_gcd_1_0, w__law_gcd_1_1, w__law_gcd_1, w__law_gcd_2, wRet, wRetN, wSeq, wNext, wIfS, wAsg, wName, wPar, wDrop, wDPut, wFor, wISeq, wIRng1, wIRng2, wVar, wC, wNil, wCons, wBin, wUn, wCB, wTst, wAnd, wOr, DL.wNot, wAndV, wOrV, wNotV, wIf, wTup, wLst, wLstM, wCall, wGTup, wGCons, wGNil, wBrk, wCnt, wRaise, gI, gU, gOne , DL.gSub, gMul, gMod, gDiv, gPow, gLt, gLe, gGt, gGe, gNeg, gAbs, gMax2, gMin2, gInt2, wChain, wPar3, wSl, wNoPart, wPart, wIEnumA, wIZipA, wIRng3, wLc, wLcM, wYes, wFld, wAug, wApp, wPop, wRev, wSubG, wMet, wBinO, wUnO, dstart, List.map_cons, List.map_nil, List.length_cons, List.length_nil, List.replicate, List.cons_append, List.nil_append, List.append_nil, List.getElem?_cons_zero, List.getElem?_cons_succ, List.set_cons_zero, List.set_cons_succ, Option.some.injEq, exists_eq_left', exists_eq_left, D.int.injEq, D.bl.injEq, D.str.injEq, D.tup.injEq, D.lst.injEq, D.obj.injEq, List.cons.injEq, and_true, true_and, Nat.zero_add, Nat.reduceAdd, Nat.reduceSub, decide_eq_true_eq, Bool.not_eq_true', decide_eq_false_iff_not, exists_and_left, exists_and_right, and_assoc, Bool.true_eq_false, Bool.false_eq_true, if_true, if_false, ne_eq]
  refine ⟨by decide, by decide, ?_⟩
  rw [show (if a < 0 then -a else a) = (a.natAbs : Int) by split <;> omega, show (if b < 0 then -b else b) = (b.natAbs : Int) by split <;> omega]
  have e0 : (Int.gcd a b : Int) = Int.gcd (a.natAbs : Int) (b.natAbs : Int) := by simp [Int.gcd]
  rw [e0] at q
  have key : ∀ (js : List D) (n : Nat) (x y : Int) (c : Option D), n + 1 ≤ js.length → 0 ≤ y → y ≤ x → x * y < 2 ^ n → Q (.int (Int.gcd x y)) μ → wLoop Any (wName 2)
                (wSeq (wIfS (wTst (wBin (gEq false) (wVar 1) (wC (D.int 0)))) wBrk wNext)
                  (wPar 0 1
                    (wCons (wVar 1)
                      (wCons
                        (wBin (gI (fun x j => ¬j = 0) fun i j => D.int (i.fmod j))
                          (wCB (gOne gInt) (wCons (wVar 0) wNil)) (wVar 1))
                        wNil)))) js { nx := fun δ' μ' => ∃ d, δ'[0]? = some (some d) ∧ Q d μ', rt := Q } F
                [some (D.int x), some (D.int y), c] μ := by
    intro js
    induction js with
    | nil => intro n x y c h; simp at h
    | cons j js ih =>
      intro n x y c h y0 yx xy q
      refine ⟨trivial, ?_⟩
      simp only [wRet, wRetN, wSeq, wNext, wIfS, wAsg, wName, wPar, wDrop, wDPut, wFor, wISeq, wIRng1, wIRng2, wVar, wC, wNil, wCons, wBin, wUn, wCB, wTst, wAnd, wOr, DL.wNot, wAndV, wOrV, wNotV, wIf, wTup, wLst, wLstM, wCall, wGTup, wGCons, wGNil, wBrk, wCnt, wRaise, gI, gU, gOne , DL.gSub, gMul, gMod, gDiv, gPow, gLt, gLe, gGt, gGe, gNeg, gAbs, gMax2, gMin2, gInt2, wChain, wPar3, wSl, wNoPart, wPart, wIEnumA, wIZipA, wIRng3, wLc, wLcM, wYes, wFld, wAug, wApp, wPop, wRev, wSubG, wMet, wBinO, wUnO, dstart, List.map_cons, List.map_nil, List.length_cons, List.length_nil, List.replicate, List.cons_append, List.nil_append, List.append_nil, List.getElem?_cons_zero, List.getElem?_cons_succ, List.set_cons_zero, List.set_cons_succ, Option.some.injEq, exists_eq_left', exists_eq_left, D.int.injEq, D.bl.injEq, D.str.injEq, D.tup.injEq, D.lst.injEq, D.obj.injEq, List.cons.injEq, and_true, true_and, Nat.zero_add, Nat.reduceAdd, Nat.reduceSub, decide_eq_true_eq, Bool.not_eq_true', decide_eq_false_iff_not, exists_and_left, exists_and_right, and_assoc, Bool.true_eq_false, Bool.false_eq_true, if_true, if_false, ne_eq, gEq_int, gInt_int]
      by_cases e : (y == 0) = true
      · rw [if_pos e]
        have e' : y = 0 := by simpa using e
        subst e'
        rw [Int.gcd_zero_right] at q
        rw [show ((x.natAbs : Nat) : Int) = x by omega] at q
        exact q
      · rw [if_neg e]
        have e' : y ≠ 0 := by simpa using e
        have yp : 0 < y := by omega
        refine ⟨e', ?_⟩
        have hh := log_half yp yx
        match n, xy with
        | 0, xy =>
          have : 1 * 1 ≤ x * y := Int.mul_le_mul (by omega) (by omega) (by omega) (by omega)
          omega
        | n + 1, xy =>
          refine ih n y _ _ (by simp only [List.length_cons] at h; omega) (Int.fmod_nonneg_of_pos _ yp) (Int.le_of_lt (Int.fmod_lt_of_pos _ yp)) ?_ ?_
          · rw [Int.pow_succ] at xy
            omega
          · rw [gcd_fm]
            exact q
  have hl : (intsD 0 (Int.toNat 50000)).length = 50000 := by simp [intsD]
  have xy : (a.natAbs : Int) * (b.natAbs : Int) < 2 ^ 49996 := by
    have h := Nat.mul_lt_mul'' ha hb
    rw [← Nat.pow_add] at h
    exact_mod_cast h
  by_cases hab : b.natAbs ≤ a.natAbs
  · exact key _ 49996 _ _ _ (by rw [hl]; decide) (by omega) (by omega) xy q
  · -- the first lap turns them
    generalize hjs : intsD 0 (Int.toNat 50000) = js at hl ⊢
    match js, hl with
    | j :: js, hl =>
      refine ⟨trivial, ?_⟩
      simp only [wRet, wRetN, wSeq, wNext, wIfS, wAsg, wName, wPar, wDrop, wDPut, wFor, wISeq, wIRng1, wIRng2, wVar, wC, wNil, wCons, wBin, wUn, wCB, wTst, wAnd, wOr, DL.wNot, wAndV, wOrV, wNotV, wIf, wTup, wLst, wLstM, wCall, wGTup, wGCons, wGNil, wBrk, wCnt, wRaise, gI, gU, gOne , DL.gSub, gMul, gMod, gDiv, gPow, gLt, gLe, gGt, gGe, gNeg, gAbs, gMax2, gMin2, gInt2, wChain, wPar3, wSl, wNoPart, wPart, wIEnumA, wIZipA, wIRng3, wLc, wLcM, wYes, wFld, wAug, wApp, wPop, wRev, wSubG, wMet, wBinO, wUnO, dstart, List.map_cons, List.map_nil, List.length_cons, List.length_nil, List.replicate, List.cons_append, List.nil_append, List.append_nil, List.getElem?_cons_zero, List.getElem?_cons_succ, List.set_cons_zero, List.set_cons_succ, Option.some.injEq, exists_eq_left', exists_eq_left, D.int.injEq, D.bl.injEq, D.str.injEq, D.tup.injEq, D.lst.injEq, D.obj.injEq, List.cons.injEq, and_true, true_and, Nat.zero_add, Nat.reduceAdd, Nat.reduceSub, decide_eq_true_eq, Bool.not_eq_true', decide_eq_false_iff_not, exists_and_left, exists_and_right, and_assoc, Bool.true_eq_false, Bool.false_eq_true, if_true, if_false, ne_eq, gEq_int, gInt_int]
      rw [if_neg (by simp; omega)]
      have ef : (a.natAbs : Int).fmod (b.natAbs : Int) = (a.natAbs : Int) := by
        rw [Int.fmod_eq_emod_of_nonneg _ (by omega)]
        exact Int.emod_eq_of_lt (by omega) (by omega)
      refine ⟨by omega, ?_⟩
      rw [ef]
      exact key js 49996 _ _ _ (by simp only [List.length_cons] at hl; omega) (by omega) (by omega) (by rw [Int.mul_comm]; exact xy) (by rw [Int.gcd_comm]; exact q)
/-! ### _law_q -/
def s__law_q : DF := fun ds μ Q _ => ∃ t b, ds = [.int t, .int b] ∧ b ≠ 0 ∧ t.natAbs < 2 ^ 24998 ∧ b.natAbs < 2 ^ 24998 ∧ Q (qd (Rat.divInt t b)) μ
theorem p__law_q (K : PySem.W.Frag) : ∀ ds μ Q F, s__law_q ds μ Q F → ds.length = 2 ∧ w__law_q K s__law_gcd { nx := fun _ μ' => Q .non μ', rt := Q } F (dstart ["_law_top", "_law_bottom", "_law_by"] ds) μ := by
  rintro _ μ Q F ⟨t, b, rfl, hb, ht, hz, q⟩
  refine ⟨rfl, ?_⟩
  simp only [w__law_q, w__law_q_0, w__law_q_1, w__law_q_2, s__law_gcd, wRet, wRetN, wSeq, wNext, wIfS, wAsg, wName, wPar, wDrop, wDPut, wFor, wISeq, wIRng1, wIRng2, wVar, wC, wNil, wCons, wBin, wUn, wCB, wTst, wAnd, wOr, DL.wNot, wAndV, wOrV, wNotV, wIf, wTup, wLst, wLstM, wCall, wGTup, wGCons, wGNil, wBrk, wCnt, wRaise, gI, gU, gOne , DL.gSub, gMul, gMod, gDiv, gPow, gLt, gLe, gGt, gGe, gNeg, gAbs, gMax2, gMin2, gInt2, wChain, wPar3, wSl, wNoPart, wPart, wIEnumA, wIZipA, wIRng3, wLc, wLcM, wYes, wFld, wAug, wApp, wPop, wRev, wSubG, wMet, wBinO, wUnO, dstart, List.map_cons, List.map_nil, List.length_cons, List.length_nil, List.replicate, List.cons_append, List.nil_append, List.append_nil, List.getElem?_cons_zero, List.getElem?_cons_succ, List.set_cons_zero, List.set_cons_succ, Option.some.injEq, exists_eq_left', exists_eq_left, D.int.injEq, D.bl.injEq, D.str.injEq, D.tup.injEq, D.lst.injEq, D.obj.injEq, List.cons.injEq, and_true, true_and, Nat.zero_add, Nat.reduceAdd, Nat.reduceSub, decide_eq_true_eq, Bool.not_eq_true', decide_eq_false_iff_not, exists_and_left, exists_and_right, and_assoc, Bool.true_eq_false, Bool.false_eq_true, if_true, if_false, ne_eq]
  refine ⟨ht, hz, ?_⟩
  have c := div_ok (t := t) hb hz
  have c2 : CDivG b (qB t b) := c
  have q' : Q (.tup [.int (t.fdiv (qB t b)), .int (b.fdiv (qB t b))]) μ := by
    rw [q_num hb, q_den hb]
    exact q
  by_cases h : b < 0
  · have e : qB t b = -(Int.gcd t b : Int) := if_neg (by omega)
    rw [e] at c c2 q'
    rw [if_pos h]
    exact ⟨c, c2, by decide, q'⟩
  · have e : qB t b = (Int.gcd t b : Int) := if_pos (by omega)
    rw [e] at c c2 q'
    rw [if_neg h]
    exact ⟨c, c2, by decide, q'⟩
/-! ### sums, products of the law's ratios -/
def s__law_two (g : Rat → Rat → D) : DF := fun ds μ Q _ => ∃ p q, ds = [qd p, qd q] ∧ Sz p ∧ Sz q ∧ Q (g p q) μ
theorem nn_sz {p q : Rat} (hp : Sz p) (hq : Sz q) : (p.num * q.den + q.num * p.den).natAbs < 2 ^ 24998 ∧ (p.num * q.den - q.num * p.den).natAbs < 2 ^ 24998 :=
  ⟨up (add_sz (mul_sz hp.1 (den_sz hq)) (mul_sz hq.1 (den_sz hp))), up (sub_sz (mul_sz hp.1 (den_sz hq)) (mul_sz hq.1 (den_sz hp)))⟩
theorem p__law_plus (K : PySem.W.Frag) : ∀ ds μ Q F, s__law_two (fun p q => qd (p + q)) ds μ Q F → ds.length = 2 ∧ w__law_plus K s__law_q { nx := fun _ μ' => Q .non μ', rt := Q } F (dstart ["_law_one", "_law_two"] ds) μ := by
  rintro _ μ Q F ⟨p, r, rfl, h1, h2, q⟩
  refine ⟨rfl, ?_⟩
  simp only [w__law_plus, w__law_plus_0, s__law_q, wRet, wRetN, wSeq, wNext, wIfS, wAsg, wName, wPar, wDrop, wDPut, wFor, wISeq, wIRng1, wIRng2, wVar, wC, wNil, wCons, wBin, wUn, wCB, wTst, wAnd, wOr, DL.wNot, wAndV, wOrV, wNotV, wIf, wTup, wLst, wLstM, wCall, wGTup, wGCons, wGNil, wBrk, wCnt, wRaise, gI, gU, gOne , DL.gSub, gMul, gMod, gDiv, gPow, gLt, gLe, gGt, gGe, gNeg, gAbs, gMax2, gMin2, gInt2, wChain, wPar3, wSl, wNoPart, wPart, wIEnumA, wIZipA, wIRng3, wLc, wLcM, wYes, wFld, wAug, wApp, wPop, wRev, wSubG, wMet, wBinO, wUnO, dstart, List.map_cons, List.map_nil, List.length_cons, List.length_nil, List.replicate, List.cons_append, List.nil_append, List.append_nil, List.getElem?_cons_zero, List.getElem?_cons_succ, List.set_cons_zero, List.set_cons_succ, Option.some.injEq, exists_eq_left', exists_eq_left, D.int.injEq, D.bl.injEq, D.str.injEq, D.tup.injEq, D.lst.injEq, D.obj.injEq, List.cons.injEq, and_true, true_and, Nat.zero_add, Nat.reduceAdd, Nat.reduceSub, decide_eq_true_eq, Bool.not_eq_true', decide_eq_false_iff_not, exists_and_left, exists_and_right, and_assoc, Bool.true_eq_false, Bool.false_eq_true, if_true, if_false, ne_eq, gIx_q0, gIx_q1, gAdd_int, add_nd]
  exact ⟨mul_w h1.1 (den_sz h2), mul_w h2.1 (den_sz h1), mul_w (den_sz h1) (den_sz h2), dd_nz p r, (nn_sz h1 h2).1, dd_sz h1 h2, q⟩
theorem p__law_minus (K : PySem.W.Frag) : ∀ ds μ Q F, s__law_two (fun p q => qd (p - q)) ds μ Q F → ds.length = 2 ∧ w__law_minus K s__law_q { nx := fun _ μ' => Q .non μ', rt := Q } F (dstart ["_law_one", "_law_two"] ds) μ := by
  rintro _ μ Q F ⟨p, r, rfl, h1, h2, q⟩
  refine ⟨rfl, ?_⟩
  simp only [w__law_minus, w__law_minus_0, s__law_q, wRet, wRetN, wSeq, wNext, wIfS, wAsg, wName, wPar, wDrop, wDPut, wFor, wISeq, wIRng1, wIRng2, wVar, wC, wNil, wCons, wBin, wUn, wCB, wTst, wAnd, wOr, DL.wNot, wAndV, wOrV, wNotV, wIf, wTup, wLst, wLstM, wCall, wGTup, wGCons, wGNil, wBrk, wCnt, wRaise, gI, gU, gOne , DL.gSub, gMul, gMod, gDiv, gPow, gLt, gLe, gGt, gGe, gNeg, gAbs, gMax2, gMin2, gInt2, wChain, wPar3, wSl, wNoPart, wPart, wIEnumA, wIZipA, wIRng3, wLc, wLcM, wYes, wFld, wAug, wApp, wPop, wRev, wSubG, wMet, wBinO, wUnO, dstart, List.map_cons, List.map_nil, List.length_cons, List.length_nil, List.replicate, List.cons_append, List.nil_append, List.append_nil, List.getElem?_cons_zero, List.getElem?_cons_succ, List.set_cons_zero, List.set_cons_succ, Option.some.injEq, exists_eq_left', exists_eq_left, D.int.injEq, D.bl.injEq, D.str.injEq, D.tup.injEq, D.lst.injEq, D.obj.injEq, List.cons.injEq, and_true, true_and, Nat.zero_add, Nat.reduceAdd, Nat.reduceSub, decide_eq_true_eq, Bool.not_eq_true', decide_eq_false_iff_not, exists_and_left, exists_and_right, and_assoc, Bool.true_eq_false, Bool.false_eq_true, if_true, if_false, ne_eq, gIx_q0, gIx_q1, gAdd_int, sub_nd]
  exact ⟨mul_w h1.1 (den_sz h2), mul_w h2.1 (den_sz h1), mul_w (den_sz h1) (den_sz h2), dd_nz p r, (nn_sz h1 h2).2, dd_sz h1 h2, q⟩
theorem p__law_times (K : PySem.W.Frag) : ∀ ds μ Q F, s__law_two (fun p q => qd (p * q)) ds μ Q F → ds.length = 2 ∧ w__law_times K s__law_q { nx := fun _ μ' => Q .non μ', rt := Q } F (dstart ["_law_one", "_law_two"] ds) μ := by
  rintro _ μ Q F ⟨p, r, rfl, h1, h2, q⟩
  refine ⟨rfl, ?_⟩
  simp only [w__law_times, w__law_times_0, s__law_q, wRet, wRetN, wSeq, wNext, wIfS, wAsg, wName, wPar, wDrop, wDPut, wFor, wISeq, wIRng1, wIRng2, wVar, wC, wNil, wCons, wBin, wUn, wCB, wTst, wAnd, wOr, DL.wNot, wAndV, wOrV, wNotV, wIf, wTup, wLst, wLstM, wCall, wGTup, wGCons, wGNil, wBrk, wCnt, wRaise, gI, gU, gOne , DL.gSub, gMul, gMod, gDiv, gPow, gLt, gLe, gGt, gGe, gNeg, gAbs, gMax2, gMin2, gInt2, wChain, wPar3, wSl, wNoPart, wPart, wIEnumA, wIZipA, wIRng3, wLc, wLcM, wYes, wFld, wAug, wApp, wPop, wRev, wSubG, wMet, wBinO, wUnO, dstart, List.map_cons, List.map_nil, List.length_cons, List.length_nil, List.replicate, List.cons_append, List.nil_append, List.append_nil, List.getElem?_cons_zero, List.getElem?_cons_succ, List.set_cons_zero, List.set_cons_succ, Option.some.injEq, exists_eq_left', exists_eq_left, D.int.injEq, D.bl.injEq, D.str.injEq, D.tup.injEq, D.lst.injEq, D.obj.injEq, List.cons.injEq, and_true, true_and, Nat.zero_add, Nat.reduceAdd, Nat.reduceSub, decide_eq_true_eq, Bool.not_eq_true', decide_eq_false_iff_not, exists_and_left, exists_and_right, and_assoc, Bool.true_eq_false, Bool.false_eq_true, if_true, if_false, ne_eq, gIx_q0, gIx_q1, gAdd_int, mul_nd]
  exact ⟨mul_w h1.1 h2.1, mul_w (den_sz h1) (den_sz h2), dd_nz p r, up (mul_sz h1.1 h2.1), dd_sz h1 h2, q⟩
def s__law_share : DF := fun ds μ Q _ => ∃ p q, ds = [qd p, qd q] ∧ Sz p ∧ Sz q ∧ q ≠ 0 ∧ Q (qd (p / q)) μ
theorem p__law_share (K : PySem.W.Frag) : ∀ ds μ Q F, s__law_share ds μ Q F → ds.length = 2 ∧ w__law_share K s__law_q { nx := fun _ μ' => Q .non μ', rt := Q } F (dstart ["_law_one", "_law_two"] ds) μ := by
  rintro _ μ Q F ⟨p, r, rfl, h1, h2, h0, q⟩
  refine ⟨rfl, ?_⟩
  have hn : r.num ≠ 0 := fun e => h0 (Rat.num_eq_zero.mp e)
  simp only [w__law_share, w__law_share_0, s__law_q, wRet, wRetN, wSeq, wNext, wIfS, wAsg, wName, wPar, wDrop, wDPut, wFor, wISeq, wIRng1, wIRng2, wVar, wC, wNil, wCons, wBin, wUn, wCB, wTst, wAnd, wOr, DL.wNot, wAndV, wOrV, wNotV, wIf, wTup, wLst, wLstM, wCall, wGTup, wGCons, wGNil, wBrk, wCnt, wRaise, gI, gU, gOne , DL.gSub, gMul, gMod, gDiv, gPow, gLt, gLe, gGt, gGe, gNeg, gAbs, gMax2, gMin2, gInt2, wChain, wPar3, wSl, wNoPart, wPart, wIEnumA, wIZipA, wIRng3, wLc, wLcM, wYes, wFld, wAug, wApp, wPop, wRev, wSubG, wMet, wBinO, wUnO, dstart, List.map_cons, List.map_nil, List.length_cons, List.length_nil, List.replicate, List.cons_append, List.nil_append, List.append_nil, List.getElem?_cons_zero, List.getElem?_cons_succ, List.set_cons_zero, List.set_cons_succ, Option.some.injEq, exists_eq_left', exists_eq_left, D.int.injEq, D.bl.injEq, D.str.injEq, D.tup.injEq, D.lst.injEq, D.obj.injEq, List.cons.injEq, and_true, true_and, Nat.zero_add, Nat.reduceAdd, Nat.reduceSub, decide_eq_true_eq, Bool.not_eq_true', decide_eq_false_iff_not, exists_and_left, exists_and_right, and_assoc, Bool.true_eq_false, Bool.false_eq_true, if_true, if_false, ne_eq, gIx_q0, gIx_q1, gAdd_int, div_nd p r h0]
  exact ⟨mul_w h1.1 (den_sz h2), mul_w (den_sz h1) h2.1, Int.mul_ne_zero nz hn, up (mul_sz h1.1 (den_sz h2)), up (mul_sz (den_sz h1) h2.1), q⟩
theorem p__law_less (K : PySem.W.Frag) : ∀ ds μ Q F, s__law_two (fun p q => .bl (decide (p < q))) ds μ Q F → ds.length = 2 ∧ w__law_less K { nx := fun _ μ' => Q .non μ', rt := Q } F (dstart ["_law_one", "_law_two"] ds) μ := by
  rintro _ μ Q F ⟨p, r, rfl, h1, h2, q⟩
  refine ⟨rfl, ?_⟩
  simp only [w__law_less, w__law_less_0, wRet, wRetN, wSeq, wNext, wIfS, wAsg, wName, wPar, wDrop, wDPut, wFor, wISeq, wIRng1, wIRng2, wVar, wC, wNil, wCons, wBin, wUn, wCB, wTst, wAnd, wOr, DL.wNot, wAndV, wOrV, wNotV, wIf, wTup, wLst, wLstM, wCall, wGTup, wGCons, wGNil, wBrk, wCnt, wRaise, gI, gU, gOne , DL.gSub, gMul, gMod, gDiv, gPow, gLt, gLe, gGt, gGe, gNeg, gAbs, gMax2, gMin2, gInt2, wChain, wPar3, wSl, wNoPart, wPart, wIEnumA, wIZipA, wIRng3, wLc, wLcM, wYes, wFld, wAug, wApp, wPop, wRev, wSubG, wMet, wBinO, wUnO, dstart, List.map_cons, List.map_nil, List.length_cons, List.length_nil, List.replicate, List.cons_append, List.nil_append, List.append_nil, List.getElem?_cons_zero, List.getElem?_cons_succ, List.set_cons_zero, List.set_cons_succ, Option.some.injEq, exists_eq_left', exists_eq_left, D.int.injEq, D.bl.injEq, D.str.injEq, D.tup.injEq, D.lst.injEq, D.obj.injEq, List.cons.injEq, and_true, true_and, Nat.zero_add, Nat.reduceAdd, Nat.reduceSub, decide_eq_true_eq, Bool.not_eq_true', decide_eq_false_iff_not, exists_and_left, exists_and_right, and_assoc, Bool.true_eq_false, Bool.false_eq_true, if_true, if_false, ne_eq, gIx_q0, gIx_q1, gAdd_int, lt_nd]
  exact ⟨mul_w h1.1 (den_sz h2), mul_w h2.1 (den_sz h1), q⟩
end NC

set_option maxHeartbeats 2000000
namespace NC
open PySem PySem.Spec PyProof.Rows L2 DL LL PL
/-! ### plain data: ==, repr -/
mutual
def plD : D → Bool
  | .non => true
  | .int _ => true
  | .str x => PyData.strOk x
  | .lst xs => plA xs
  | .tup xs => plA xs
  | _ => false
def plA : List D → Bool
  | [] => true
  | d :: ds => plD d && plA ds
end
mutual
def dpD : D → Nat
  | .lst xs => dpA xs + 1
  | .tup xs => dpA xs + 1
  | _ => 0
def dpA : List D → Nat
  | [] => 0
  | d :: ds => max (dpD d) (dpA ds)
end
mutual
theorem pl_py : ∀ {d : D}, plD d = true → ∃ p, d.py = some p ∧ p.canLay0 = true ∧ p.depth = dpD d ∧ p.hasDict = false
  | .non, _ => ⟨_, rfl, rfl, rfl, rfl⟩
  | .int i, _ => ⟨_, rfl, rfl, rfl, rfl⟩
  | .str x, h => ⟨_, rfl, h, rfl, rfl⟩
  | .lst xs, h => by
    obtain ⟨ps, e, c, p, n⟩ := pl_pyA (xs := xs) (by simpa only [plD] using h)
    exact ⟨.list ps, by simp only [D.py, e, Option.map_some], by simpa only [PyData.canLay0] using c, by simp only [PyData.depth, dpD, p], by simpa only [PyData.hasDict] using n⟩
  | .tup xs, h => by
    obtain ⟨ps, e, c, p, n⟩ := pl_pyA (xs := xs) (by simpa only [plD] using h)
    exact ⟨.tuple ps, by simp only [D.py, e, Option.map_some], by simpa only [PyData.canLay0] using c, by simp only [PyData.depth, dpD, p], by simpa only [PyData.hasDict] using n⟩
  | .bl _, h => by cases h
  | .dct _, h => by cases h
  | .ro _, h => by cases h
  | .obj _, h => by cases h
  | .raw _, h => by cases h
  | .exc _ _ _, h => by cases h
  | .lam _ _, h => by cases h
  | .ins _ _, h => by cases h
theorem pl_pyA : ∀ {xs : List D}, plA xs = true → ∃ ps, D.pyA xs = some ps ∧ PyData.canLayAll0 ps = true ∧ PyData.depthAll ps = dpA xs ∧ PyData.hasDictAll ps = false
  | [], _ => ⟨[], rfl, rfl, rfl, rfl⟩
  | x :: xs, h => by
    have h' : plD x = true ∧ plA xs = true := by simpa only [plA, Bool.and_eq_true] using h
    obtain ⟨p, e1, c1, d1, n1⟩ := pl_py h'.1
    obtain ⟨ps, e2, c2, d2, n2⟩ := pl_pyA h'.2
    exact ⟨p :: ps, by simp only [D.pyA, e1, e2], by simp only [PyData.canLayAll0, c1, c2, Bool.and_self], by simp only [PyData.depthAll, dpA, d1, d2], by simp only [PyData.hasDictAll, n1, n2, Bool.or_self]⟩
end
mutual
theorem pl_eqv : ∀ {x y : D} {p q : PyData}, plD x = true → plD y = true → x.py = some p → y.py = some q → (PyData.eqv p q = true ↔ x = y)
  | x, y, p, q, hx, hy, ex, ey => by
    cases x with
    | non =>
      cases ex
      cases y with
      | non => cases ey; simp [PyData.eqv]
      | int j => cases ey; simp [PyData.eqv]
      | str z => cases ey; simp [PyData.eqv]
      | lst ys => obtain ⟨qs, e, _⟩ := pl_pyA (xs := ys) (by simpa only [plD] using hy); simp only [D.py, e, Option.map_some] at ey; cases ey; simp [PyData.eqv]
      | tup ys => obtain ⟨qs, e, _⟩ := pl_pyA (xs := ys) (by simpa only [plD] using hy); simp only [D.py, e, Option.map_some] at ey; cases ey; simp [PyData.eqv]
      | _ => cases hy
    | int i =>
      cases ex
      cases y with
      | non => cases ey; simp [PyData.eqv]
      | int j => cases ey; simp [PyData.eqv]
      | str z => cases ey; simp [PyData.eqv]
      | lst ys => obtain ⟨qs, e, _⟩ := pl_pyA (xs := ys) (by simpa only [plD] using hy); simp only [D.py, e, Option.map_some] at ey; cases ey; simp [PyData.eqv]
      | tup ys => obtain ⟨qs, e, _⟩ := pl_pyA (xs := ys) (by simpa only [plD] using hy); simp only [D.py, e, Option.map_some] at ey; cases ey; simp [PyData.eqv]
      | _ => cases hy
    | str i =>
      cases ex
      cases y with
      | non => cases ey; simp [PyData.eqv]
      | int j => cases ey; simp [PyData.eqv]
      | str z => cases ey; simp [PyData.eqv]
      | lst ys => obtain ⟨qs, e, _⟩ := pl_pyA (xs := ys) (by simpa only [plD] using hy); simp only [D.py, e, Option.map_some] at ey; cases ey; simp [PyData.eqv]
      | tup ys => obtain ⟨qs, e, _⟩ := pl_pyA (xs := ys) (by simpa only [plD] using hy); simp only [D.py, e, Option.map_some] at ey; cases ey; simp [PyData.eqv]
      | _ => cases hy
    | lst xs =>
      have hx' : plA xs = true := by simpa only [plD] using hx
      obtain ⟨ps, e, _⟩ := pl_pyA hx'
      simp only [D.py, e, Option.map_some] at ex
      cases ex
      cases y with
      | non => cases ey; simp [PyData.eqv]
      | int j => cases ey; simp [PyData.eqv]
      | str z => cases ey; simp [PyData.eqv]
      | lst ys =>
        have hy' : plA ys = true := by simpa only [plD] using hy
        obtain ⟨qs, e2, _⟩ := pl_pyA hy'
        simp only [D.py, e2, Option.map_some] at ey
        cases ey
        simp only [PyData.eqv, D.lst.injEq]
        exact pl_eqvA hx' hy' e e2
      | tup ys => obtain ⟨qs, e2, _⟩ := pl_pyA (xs := ys) (by simpa only [plD] using hy); simp only [D.py, e2, Option.map_some] at ey; cases ey; simp [PyData.eqv]
      | _ => cases hy
    | tup xs =>
      have hx' : plA xs = true := by simpa only [plD] using hx
      obtain ⟨ps, e, _⟩ := pl_pyA hx'
      simp only [D.py, e, Option.map_some] at ex
      cases ex
      cases y with
      | non => cases ey; simp [PyData.eqv]
      | int j => cases ey; simp [PyData.eqv]
      | str z => cases ey; simp [PyData.eqv]
      | tup ys =>
        have hy' : plA ys = true := by simpa only [plD] using hy
        obtain ⟨qs, e2, _⟩ := pl_pyA hy'
        simp only [D.py, e2, Option.map_some] at ey
        cases ey
        simp only [PyData.eqv, D.tup.injEq]
        exact pl_eqvA hx' hy' e e2
      | lst ys => obtain ⟨qs, e2, _⟩ := pl_pyA (xs := ys) (by simpa only [plD] using hy); simp only [D.py, e2, Option.map_some] at ey; cases ey; simp [PyData.eqv]
      | _ => cases hy
    | _ => cases hx
theorem pl_eqvA : ∀ {xs ys : List D} {ps qs : List PyData}, plA xs = true → plA ys = true → D.pyA xs = some ps → D.pyA ys = some qs → (PyData.eqvAll ps qs = true ↔ xs = ys)
  | [], ys, ps, qs, hx, hy, ex, ey => by
    cases ex
    cases ys with
    | nil => cases ey; simp [PyData.eqvAll]
    | cons y ys =>
      cases qs with
      | nil =>
        simp only [D.pyA] at ey
        split at ey <;> cases ey
      | cons q r => simp [PyData.eqvAll]
  | x :: xs, ys, ps, qs, hx, hy, ex, ey => by
    have h' : plD x = true ∧ plA xs = true := by simpa only [plA, Bool.and_eq_true] using hx
    obtain ⟨p, e1, _⟩ := pl_py h'.1
    obtain ⟨ps', e2, _⟩ := pl_pyA h'.2
    simp only [D.pyA, e1, e2] at ex
    cases ex
    cases ys with
    | nil => cases ey; simp [PyData.eqvAll]
    | cons y ys =>
      have g' : plD y = true ∧ plA ys = true := by simpa only [plA, Bool.and_eq_true] using hy
      obtain ⟨q, f1, _⟩ := pl_py g'.1
      obtain ⟨qs', f2, _⟩ := pl_pyA g'.2
      simp only [D.pyA, f1, f2] at ey
      cases ey
      simp only [PyData.eqvAll, Bool.and_eq_true, List.cons.injEq]
      rw [pl_eqv h'.1 g'.1 e1 f1, pl_eqvA h'.2 g'.2 e2 f2]
end
theorem pl_obj {d : D} (h : plD d = true) : ∀ μ : M, pyOf μ d = d.py := fun μ => by cases d <;> first | rfl | cases h
/-- plain data told apart -/
theorem eq_pl {neg : Bool} {x y : D} {μ : M} {Q : DK} (hx : plD x = true) (hy : plD y = true) (q1 : x = y → Q (.bl (!neg)) μ) (q2 : x ≠ y → Q (.bl neg) μ) (dx : dpD x ≤ 60 := by decide) (dy : dpD y ≤ 60 := by decide) : gEq neg x y μ Q := by
  obtain ⟨p, e1, c1, d1, _⟩ := pl_py hx
  obtain ⟨q, e2, c2, d2, _⟩ := pl_py hy
  refine ⟨p, q, by rw [pl_obj hx]; exact e1, by rw [pl_obj hy]; exact e2, by simp only [SeqAt.shaped, c1, d1, Bool.true_and, decide_eq_true_eq]; omega, by simp only [SeqAt.shaped, c2, d2, Bool.true_and, decide_eq_true_eq]; omega, ?_⟩
  have k := pl_eqv hx hy e1 e2
  by_cases h : x = y
  · rw [k.mpr h]
    have := q1 h
    cases neg <;> exact this
  · have : PyData.eqv p q = false := by
      rw [Bool.eq_false_iff]
      exact fun z => h (k.mp z)
    rw [this]
    have := q2 h
    cases neg <;> exact this
/-- told apart, when they are the same -/
theorem eq_yes {neg : Bool} {x y : D} {μ : M} {Q : DK} (e : x = y) (hx : plD x = true) (q : Q (.bl (!neg)) μ) (dx : dpD x ≤ 60 := by decide) : gEq neg x y μ Q := by
  subst e
  exact eq_pl hx hx (fun _ => q) (fun h => absurd rfl h) dx dx
/-! ### repr -/
mutual
/-- may be shown: ints below 10 ^ 500 -/
def shD : D → Bool
  | .non => true
  | .bl _ => true
  | .int i => decide (i.natAbs < 10 ^ 500)
  | .str x => PyData.strOk (reprText x)
  | .lst xs => shA xs
  | .tup xs => shA xs
  | _ => false
def shA : List D → Bool
  | [] => true
  | d :: ds => shD d && shA ds
end
mutual
/-- signs at most -/
def lnD : D → Nat
  | .non => 4
  | .bl _ => 5
  | .int _ => 600
  | .str x => (reprText x).length
  | .lst xs => lnA xs + 3
  | .tup xs => lnA xs + 3
  | _ => 0
def lnA : List D → Nat
  | [] => 0
  | d :: ds => lnD d + 2 + lnA ds
end
mutual
theorem sh_py : ∀ {d : D}, shD d = true → ∃ p, d.py = some p ∧ small p = true ∧ bnd p = lnD d ∧ p.depth = dpD d ∧ p.hasDict = false
  | .non, _ => ⟨_, rfl, rfl, rfl, rfl, rfl⟩
  | .bl b, _ => ⟨_, rfl, rfl, rfl, rfl, rfl⟩
  | .int i, h => ⟨_, rfl, h, rfl, rfl, rfl⟩
  | .str x, h => ⟨_, rfl, h, rfl, rfl, rfl⟩
  | .lst xs, h => by
    obtain ⟨ps, e, c, b, p, n⟩ := sh_pyA (xs := xs) (by simpa only [shD] using h)
    exact ⟨.list ps, by simp only [D.py, e, Option.map_some], by simpa only [small] using c, by simp only [bnd, lnD, b], by simp only [PyData.depth, dpD, p], by simpa only [PyData.hasDict] using n⟩
  | .tup xs, h => by
    obtain ⟨ps, e, c, b, p, n⟩ := sh_pyA (xs := xs) (by simpa only [shD] using h)
    exact ⟨.tuple ps, by simp only [D.py, e, Option.map_some], by simpa only [small] using c, by simp only [bnd, lnD, b], by simp only [PyData.depth, dpD, p], by simpa only [PyData.hasDict] using n⟩
  | .dct _, h => by cases h
  | .ro _, h => by cases h
  | .obj _, h => by cases h
  | .raw _, h => by cases h
  | .exc _ _ _, h => by cases h
  | .lam _ _, h => by cases h
  | .ins _ _, h => by cases h
theorem sh_pyA : ∀ {xs : List D}, shA xs = true → ∃ ps, D.pyA xs = some ps ∧ smallA ps = true ∧ bndA ps = lnA xs ∧ PyData.depthAll ps = dpA xs ∧ PyData.hasDictAll ps = false
  | [], _ => ⟨[], rfl, rfl, rfl, rfl, rfl⟩
  | x :: xs, h => by
    have h' : shD x = true ∧ shA xs = true := by simpa only [shA, Bool.and_eq_true] using h
    obtain ⟨p, e1, c1, b1, d1, n1⟩ := sh_py h'.1
    obtain ⟨ps, e2, c2, b2, d2, n2⟩ := sh_pyA h'.2
    exact ⟨p :: ps, by simp only [D.pyA, e1, e2], by simp only [smallA, c1, c2, Bool.and_self], by simp only [bndA, lnA, b1, b2], by simp only [PyData.depthAll, dpA, d1, d2], by simp only [PyData.hasDictAll, n1, n2, Bool.or_self]⟩
end
/-- the text that repr tells -/
def shw (d : D) : Str := match d.py with
  | some p => p.shown
  | none => ""
/-- repr may be asked -/
def showV (d : D) : Prop := ∃ p, d.py = some p ∧ okP p = true ∧ small p = true ∧ p.depth ≤ 60 ∧ bnd p ≤ 1000000
theorem okP_of {p : PyData} (h : p.hasDict = false) : okP p = true := by
  cases p with
  | dict ps => simp [PyData.hasDict] at h
  | _ => simpa [okP] using h
theorem showV_of {d : D} (h : shD d = true) (h1 : lnD d ≤ 1000000) (h2 : dpD d ≤ 60) : showV d := by
  obtain ⟨p, e, c, b, dp, n⟩ := sh_py h
  exact ⟨p, e, okP_of n, c, by omega, by omega⟩
theorem showV.obj {d : D} (h : showV d) : ∀ a, d ≠ .obj a := fun a e => by
  obtain ⟨p, h, _⟩ := h
  rw [e] at h
  cases h
theorem showV.repr {d : D} {μ : M} {Q : DK} (h : showV d) (q : Q (.str (shw d)) μ) : gRepr d μ Q := by
  have ho := h.obj
  obtain ⟨p, h1, h2, h3, h4, h5⟩ := h
  have e : shw d = p.shown := by unfold shw; rw [h1]
  rw [e] at q
  refine repr_ok ?_ h2 h3 h4 h5 q
  cases d with
  | obj a => exact absurd rfl (ho a)
  | _ => exact h1
theorem showV.okT {d : D} (h : showV d) : okT (shw d) := by
  obtain ⟨p, h1, h2, h3, h4, h5⟩ := h
  have e : shw d = p.shown := by unfold shw; rw [h1]
  rw [e]
  exact (shown_small h3).2.2
theorem showV.pl {d : D} (h : showV d) : plD (.str (shw d)) = true := okT_strOk h.okT
/-! ### ratios as data -/
theorem plD_qd {q : Rat} : plD (qd q) = true := rfl
theorem dpD_qd {q : Rat} : dpD (qd q) = 1 := rfl
theorem plA_map {α : Type} {f : α → D} (h : ∀ a, plD (f a) = true) : ∀ l : List α, plA (l.map f) = true
  | [] => rfl
  | a :: l => by simp only [List.map_cons, plA, h a, plA_map h l, Bool.and_self]
theorem dpA_map {α : Type} {f : α → D} {n : Nat} (h : ∀ a, dpD (f a) ≤ n) : ∀ l : List α, dpA (l.map f) ≤ n
  | [] => Nat.zero_le _
  | a :: l => by
    simp only [List.map_cons, dpA]
    exact Nat.max_le.mpr ⟨h a, dpA_map h l⟩
/-- a row of ratios, as a list, as a tuple -/
def ld (p : List Rat) : D := .lst (p.map qd)
def td (p : List Rat) : D := .tup (p.map qd)
theorem pl_ld {p : List Rat} : plD (ld p) = true := plA_map (fun _ => rfl) p
theorem pl_td {p : List Rat} : plD (td p) = true := plA_map (fun _ => rfl) p
theorem dp_ld {p : List Rat} : dpD (ld p) ≤ 60 := Nat.le_trans (Nat.succ_le_succ (dpA_map (n := 1) (fun _ => Nat.le_refl _) p)) (by decide)
theorem dp_td {p : List Rat} : dpD (td p) ≤ 60 := Nat.le_trans (Nat.succ_le_succ (dpA_map (n := 1) (fun _ => Nat.le_refl _) p)) (by decide)
theorem qd_map_inj : ∀ {p r : List Rat}, p.map qd = r.map qd ↔ p = r
  | [], [] => by simp
  | [], b :: r => by simp
  | a :: p, [] => by simp
  | a :: p, b :: r => by simp only [List.map_cons, List.cons.injEq, qd_inj, qd_map_inj]
theorem ld_inj {p r : List Rat} : ld p = ld r ↔ p = r := by unfold ld; rw [D.lst.injEq]; exact qd_map_inj
theorem td_inj {p r : List Rat} : td p = td r ↔ p = r := by unfold td; rw [D.tup.injEq]; exact qd_map_inj
/-- may be shown -/
def Sr (q : Rat) : Prop := q.num.natAbs < 10 ^ 500 ∧ q.den < 10 ^ 500
theorem sh_qd {q : Rat} (h : Sr q) : shD (qd q) = true := by
  simp only [qd, shD, shA, Bool.and_true, Bool.and_eq_true, decide_eq_true_eq]
  exact ⟨h.1, h.2⟩
theorem ln_qd {q : Rat} : lnD (qd q) = 1207 := rfl
theorem shA_qd : ∀ {p : List Rat}, (∀ q ∈ p, Sr q) → shA (p.map qd) = true
  | [], _ => rfl
  | a :: p, h => by simp only [List.map_cons, shA, sh_qd (h a (List.mem_cons_self ..)), shA_qd fun q hq => h q (List.mem_cons_of_mem _ hq), Bool.and_self]
theorem lnA_qd : ∀ (p : List Rat), lnA (p.map qd) = 1209 * p.length
  | [] => rfl
  | a :: p => by
    simp only [List.map_cons, lnA, ln_qd, lnA_qd p, List.length_cons]
    omega
theorem show_qd {q : Rat} (h : Sr q) : showV (qd q) := showV_of (sh_qd h) (by rw [ln_qd]; decide) (by rw [dpD_qd]; decide)
theorem show_ld {p : List Rat} (h : ∀ q ∈ p, Sr q) (hl : p.length ≤ 800) : showV (ld p) := showV_of (shA_qd h) (by show lnA _ + 3 ≤ _; rw [lnA_qd]; omega) dp_ld
theorem show_td {p : List Rat} (h : ∀ q ∈ p, Sr q) (hl : p.length ≤ 800) : showV (td p) := showV_of (shA_qd h) (by show lnA _ + 3 ≤ _; rw [lnA_qd]; omega) dp_td
theorem Sr.sz {q : Rat} (h : Sr q) : Sz q := ⟨Nat.lt_of_lt_of_le h.1 (by decide +kernel), Nat.lt_of_lt_of_le h.2 (by decide +kernel)⟩
end NC

set_option maxHeartbeats 2000000
/-! sizes of ratios by their bottoms and their values -/
namespace PL
theorem q_den_mul (q : Rat) : q * ((q.den : Nat) : Rat) = (q.num : Rat) := by
  have h := Rat.num_divInt_den q
  rw [Rat.divInt_eq_div] at h
  have hd : ((q.den : Nat) : Rat) ≠ 0 := by
    have := q.den_nz
    intro z
    exact this (by exact_mod_cast z)
  have h2 : ((q.den : Int) : Rat) = ((q.den : Nat) : Rat) := by push_cast; rfl
  rw [h2] at h
  conv => lhs; lhs; rw [← h]
  grind
theorem den_dvd {q : Rat} {N : Nat} : q.den ∣ N ↔ ∃ t : Int, q * (N : Rat) = (t : Rat) := by
  constructor
  · rintro ⟨k, rfl⟩
    refine ⟨q.num * k, ?_⟩
    have := q_den_mul q
    push_cast
    grind
  · rintro ⟨t, h⟩
    have h2 : q.num * (N : Int) = t * (q.den : Int) := by
      have e := q_den_mul q
      have : ((q.num * (N : Int) : Int) : Rat) = ((t * (q.den : Int) : Int) : Rat) := by
        push_cast
        grind
      exact_mod_cast this
    have h3 : q.den ∣ q.num.natAbs * N := by
      have h4 : (q.den : Int) ∣ q.num * (N : Int) := ⟨t, by rw [h2, Int.mul_comm]⟩
      have h5 := Int.natAbs_dvd_natAbs.mpr h4
      rwa [Int.natAbs_mul, Int.natAbs_natCast, Int.natAbs_natCast] at h5
    exact Nat.Coprime.dvd_of_dvd_mul_left (Nat.Coprime.symm q.reduced) h3
/-- the bottom divides N, the value is from -V to V -/
structure Bd (N V : Nat) (q : Rat) : Prop where
  dv : q.den ∣ N
  le : q ≤ (V : Rat)
  ge : -(V : Rat) ≤ q
theorem Bd.add {N V W : Nat} {p q : Rat} (a : Bd N V p) (b : Bd N W q) : Bd N (V + W) (p + q) := by
  refine ⟨?_, ?_, ?_⟩
  · obtain ⟨t, ht⟩ := den_dvd.mp a.dv
    obtain ⟨u, hu⟩ := den_dvd.mp b.dv
    exact den_dvd.mpr ⟨t + u, by push_cast; grind⟩
  · have := a.le
    have := b.le
    push_cast
    grind
  · have := a.ge
    have := b.ge
    push_cast
    grind
theorem Bd.neg {N V : Nat} {p : Rat} (a : Bd N V p) : Bd N V (-p) := by
  refine ⟨by simpa using a.dv, ?_, ?_⟩
  · have := a.ge
    grind
  · have := a.le
    grind
theorem Bd.sub {N V W : Nat} {p q : Rat} (a : Bd N V p) (b : Bd N W q) : Bd N (V + W) (p - q) := by
  rw [show p - q = p + -q by grind]
  exact a.add b.neg
theorem mul_le_abs (p q V W : Rat) (h1 : p ≤ V) (h2 : -V ≤ p) (h3 : q ≤ W) (h4 : -W ≤ q) : p * q ≤ V * W := by
  have a := Rat.mul_nonneg (a := V - p) (b := W + q) (by grind) (by grind)
  have b := Rat.mul_nonneg (a := V + p) (b := W - q) (by grind) (by grind)
  grind
theorem Bd.mul {N M V W : Nat} {p q : Rat} (a : Bd N V p) (b : Bd M W q) : Bd (N * M) (V * W) (p * q) := by
  refine ⟨?_, ?_, ?_⟩
  · obtain ⟨t, ht⟩ := den_dvd.mp a.dv
    obtain ⟨u, hu⟩ := den_dvd.mp b.dv
    exact den_dvd.mpr ⟨t * u, by push_cast; grind⟩
  · push_cast
    exact mul_le_abs p q V W a.le a.ge b.le b.ge
  · have := mul_le_abs (-p) q V W (by have := a.ge; grind) (by have := a.le; grind) b.le b.ge
    push_cast
    grind
theorem Bd.mono {N V M W : Nat} {p : Rat} (a : Bd N V p) (h : N ∣ M) (hv : V ≤ W) : Bd M W p := by
  have hc : (V : Rat) ≤ (W : Rat) := by exact_mod_cast hv
  refine ⟨Nat.dvd_trans a.dv h, ?_, ?_⟩
  · have := a.le
    grind
  · have := a.ge
    grind
theorem Bd.int {N : Nat} (i : Int) : Bd N i.natAbs (i : Rat) := by
  refine ⟨by simp, ?_, ?_⟩
  · have : i ≤ ((i.natAbs : Nat) : Int) := by omega
    have := Rat.intCast_le_intCast.mpr this
    push_cast at this
    exact_mod_cast this
  · have : -((i.natAbs : Nat) : Int) ≤ i := by omega
    have := Rat.intCast_le_intCast.mpr this
    push_cast at this
    exact_mod_cast this
theorem Bd.zero {N V : Nat} : Bd N V 0 := (Bd.int (N := N) 0).mono (Nat.dvd_refl _) (by simp)
theorem Bd.num {N V : Nat} {q : Rat} (a : Bd N V q) (hN : 0 < N) : q.num.natAbs ≤ V * N ∧ q.den ≤ N := by
  have hd := Nat.le_of_dvd hN a.dv
  refine ⟨?_, hd⟩
  have e := q_den_mul q
  have hp : (0 : Rat) ≤ ((q.den : Nat) : Rat) := by exact_mod_cast Nat.zero_le _
  have h1 : (q.num : Rat) ≤ ((V * q.den : Nat) : Rat) := by
    have := Rat.mul_nonneg (a := (V : Rat) - q) (b := ((q.den : Nat) : Rat)) (by have := a.le; grind) hp
    push_cast
    grind
  have h2 : -((V * q.den : Nat) : Rat) ≤ (q.num : Rat) := by
    have := Rat.mul_nonneg (a := (V : Rat) + q) (b := ((q.den : Nat) : Rat)) (by have := a.ge; grind) hp
    push_cast
    grind
  have h3 : q.num ≤ ((V * q.den : Nat) : Int) := by exact_mod_cast h1
  have h4 : -((V * q.den : Nat) : Int) ≤ q.num := Rat.intCast_le_intCast.mp (by push_cast; push_cast at h2; exact h2)
  have h5 : V * q.den ≤ V * N := Nat.mul_le_mul_left _ hd
  omega
theorem Bd.sz {N V : Nat} {q : Rat} (a : Bd N V q) (hN : 0 < N) (h1 : N < 2 ^ 6000) (h2 : V < 2 ^ 6000) : Sz q := by
  obtain ⟨b, c⟩ := a.num hN
  refine ⟨Nat.lt_of_le_of_lt b ?_, Nat.lt_of_le_of_lt c (Nat.lt_of_lt_of_le h1 (Nat.pow_le_pow_right (by decide) (by decide)))⟩
  have := Nat.mul_lt_mul'' h2 h1
  rwa [← Nat.pow_add] at this
theorem Bd.of {q : Rat} {N V : Nat} (h1 : q.den ∣ N) (h2 : q.num.natAbs ≤ V * q.den) : Bd N V q := by
  have e := q_den_mul q
  have hp : (0 : Rat) < ((q.den : Nat) : Rat) := by exact_mod_cast den_pos q
  have h3 : (q.num : Rat) ≤ ((V * q.den : Nat) : Rat) := by
    have : q.num ≤ ((V * q.den : Nat) : Int) := by omega
    exact_mod_cast this
  have h4 : -((V * q.den : Nat) : Rat) ≤ (q.num : Rat) := by
    have : -((V * q.den : Nat) : Int) ≤ q.num := by omega
    have := Rat.intCast_le_intCast.mpr this
    push_cast
    push_cast at this
    exact this
  push_cast at h3 h4
  refine ⟨h1, ?_, ?_⟩
  · rcases Rat.le_total (a := q) (b := V) with h | h
    · exact h
    · have := Rat.mul_nonneg (a := q - (V : Rat)) (b := ((q.den : Nat) : Rat)) (by grind) (by grind)
      have z : (q - (V : Rat)) * ((q.den : Nat) : Rat) = 0 := by grind
      rcases Rat.mul_eq_zero.mp z with z | z <;> grind
  · rcases Rat.le_total (a := -(V : Rat)) (b := q) with h | h
    · exact h
    · have := Rat.mul_nonneg (a := -(V : Rat) - q) (b := ((q.den : Nat) : Rat)) (by grind) (by grind)
      have z : (-(V : Rat) - q) * ((q.den : Nat) : Rat) = 0 := by grind
      rcases Rat.mul_eq_zero.mp z with z | z <;> grind
end PL
namespace NC
open PL
theorem Bd.sr {N V : Nat} {q : Rat} (a : Bd N V q) (hN : 0 < N) (h1 : N < 10 ^ 250) (h2 : V < 10 ^ 250) : Sr q := by
  obtain ⟨b, c⟩ := a.num hN
  refine ⟨Nat.lt_of_le_of_lt b ?_, Nat.lt_of_le_of_lt c (Nat.lt_of_lt_of_le h1 (Nat.pow_le_pow_right (by decide) (by decide)))⟩
  have := Nat.mul_lt_mul'' h2 h1
  rwa [← Nat.pow_add] at this
end NC

set_option maxHeartbeats 2000000
namespace NC
open PySem PySem.Spec PyProof.Rows L2 DL LL PL
/-! ### list comprehensions -/
theorem cmp_inv {Gd : M → Prop} {tg : DG} {tt : DT} {we : DW} {p : Addr} {δ : DSt} {Q : DK} (ds : List D) {acc : List D} {μ : M} (I : Nat → List D → M → Prop) (h0 : I 0 acc μ) (gd : ∀ i acc μ, I i acc μ → Gd μ ∧ μ p = some (.lst acc))
    (step : ∀ i d, ds[i]? = some d → ∀ acc μ, I i acc μ → ∀ R : List D → M → Prop, (∀ acc' μ', I (i + 1) acc' μ' → R acc' μ') →
      tg d δ μ fun δ1 μ1 => tt δ1 μ1 (fun b μ2 => if b = true then we δ1 μ2 (fun y μ3 => μ3 p = some (.lst acc) ∧ acc.length < 1000000 ∧ R (acc ++ [y]) (mput μ3 p (.lst (acc ++ [y])))) FF else R acc μ2) FF)
    (last : ∀ acc μ, I ds.length acc μ → Q (.lst acc) (mdel μ p)) : wCmp Gd tg tt we p δ ds acc μ Q := by
  have key : ∀ (es : List D) (i : Nat) (acc : List D) (μ : M), (∀ j, es[j]? = ds[i + j]?) → es.length + i = ds.length → I i acc μ → wCmp Gd tg tt we p δ es acc μ Q := by
    intro es
    induction es with
    | nil =>
      intro i acc μ _ hl hI
      have : i = ds.length := by simpa using hl
      subst this
      exact ⟨(gd _ _ _ hI).1, (gd _ _ _ hI).2, last acc μ hI⟩
    | cons e es ih =>
      intro i acc μ hj hl hI
      refine ⟨(gd _ _ _ hI).1, ?_⟩
      refine step i e ?_ acc μ hI (fun acc' μ' => wCmp Gd tg tt we p δ es acc' μ' Q) fun acc' μ' h' => ih (i + 1) acc' μ' (fun j => ?_) (by simp only [List.length_cons] at hl; omega) h'
      · have := hj 0
        simpa using this.symm
      · have := hj (j + 1)
        simp only [List.getElem?_cons_succ] at this
        rw [this]
        congr 1
        omega
  exact key ds 0 acc μ (fun j => by rw [Nat.zero_add]) (by omega) h0
theorem cmpM_inv {Gd : M → Prop} {tg : DG} {tt : DT} {we : DW} {p : Addr} {δ : DSt} {Q : DK} (ds : List D) {acc : List D} {μ : M} (I : Nat → List D → M → Prop) (h0 : I 0 acc μ) (gd : ∀ i acc μ, I i acc μ → Gd μ ∧ μ p = some (.lst acc))
    (step : ∀ i d, ds[i]? = some d → ∀ acc μ, I i acc μ → ∀ R : List D → M → Prop, (∀ acc' μ', I (i + 1) acc' μ' → R acc' μ') →
      tg d δ μ fun δ1 μ1 => tt δ1 μ1 (fun b μ2 => if b = true then we δ1 μ2 (fun y μ3 => μ3 p = some (.lst acc) ∧ acc.length < 1000000 ∧ R (acc ++ [y]) (mput μ3 p (.lst (acc ++ [y])))) FF else R acc μ2) FF)
    (last : ∀ acc μ, I ds.length acc μ → Q (.obj p) μ) : wCmpM Gd tg tt we p δ ds acc μ Q := by
  have key : ∀ (es : List D) (i : Nat) (acc : List D) (μ : M), (∀ j, es[j]? = ds[i + j]?) → es.length + i = ds.length → I i acc μ → wCmpM Gd tg tt we p δ es acc μ Q := by
    intro es
    induction es with
    | nil =>
      intro i acc μ _ hl hI
      have : i = ds.length := by simpa using hl
      subst this
      exact ⟨(gd _ _ _ hI).1, (gd _ _ _ hI).2, last acc μ hI⟩
    | cons e es ih =>
      intro i acc μ hj hl hI
      refine ⟨(gd _ _ _ hI).1, ?_⟩
      refine step i e ?_ acc μ hI (fun acc' μ' => wCmpM Gd tg tt we p δ es acc' μ' Q) fun acc' μ' h' => ih (i + 1) acc' μ' (fun j => ?_) (by simp only [List.length_cons] at hl; omega) h'
      · have := hj 0
        simpa using this.symm
      · have := hj (j + 1)
        simp only [List.getElem?_cons_succ] at this
        rw [this]
        congr 1
        omega
  exact key ds 0 acc μ (fun j => by rw [Nat.zero_add]) (by omega) h0
/-- as μ, but for a list at p -/
def Beside (p : Addr) (μ μ' : M) : Prop := (∀ b, b ≠ p → μ' b = μ b) ∧ ∃ acc, μ' p = some (.lst acc)
theorem beside_del {p : Addr} {μ μ' : M} (h : Beside p μ μ') (hp : μ p = none) : mdel μ' p = μ := by
  funext b
  by_cases e : b = p
  · rw [e, mdel_same, hp]
  · rw [mdel_ne e, h.1 b e]
/-- [f d for d in ds], the elements leave all as it is -/
theorem cmp_map {Gd : M → Prop} {tg : DG} {we : DW} {p : Addr} {δ : DSt} {Q : DK} {ds : List D} {μ : M} (f : D → D) (hp : μ p = none) (hl : ds.length ≤ 1000000) (hG : ∀ μ', Beside p μ μ' → Gd μ')
    (el : ∀ d, d ∈ ds → ∀ μ', Beside p μ μ' → ∀ R : D → M → Prop, R (f d) μ' → tg d δ μ' fun δ1 μ1 => we δ1 μ1 R FF)
    (q : Q (.lst (ds.map f)) μ) : wCmp Gd tg wYes we p δ ds [] (mput μ p (.lst [])) Q := by
  refine cmp_inv ds (fun i acc μ' => (∀ b, b ≠ p → μ' b = μ b) ∧ μ' p = some (.lst acc) ∧ acc = (ds.take i).map f) ⟨fun b hb => mput_ne hb, mput_same, rfl⟩ (fun i acc μ' h => ⟨hG μ' ⟨h.1, _, h.2.1⟩, h.2.1⟩) ?_ ?_
  · rintro i d hd acc μ' ⟨h1, h2, h3⟩ R hR
    have hm : d ∈ ds := List.mem_of_getElem? hd
    refine el d hm μ' ⟨h1, _, h2⟩ _ ?_
    have hi : i < ds.length := by
      obtain ⟨h, _⟩ := List.getElem?_eq_some_iff.mp hd
      exact h
    have hlen : acc.length < 1000000 := by
      rw [h3, List.length_map, List.length_take]
      omega
    refine ⟨h2, hlen, hR _ _ ⟨fun b hb => (mput_ne hb).trans (h1 b hb), mput_same, ?_⟩⟩
    rw [h3, List.take_add_one, hd]
    simp
  · rintro acc μ' ⟨h1, h2, h3⟩
    rw [beside_del ⟨h1, _, h2⟩ hp, h3, List.take_length]
    exact q
theorem filt_snoc {α β : Type} {g : α → Bool} {f : α → β} {ds : List α} {i : Nat} {d : α} (hd : ds[i]? = some d) : ((ds.take (i + 1)).filter g).map f = ((ds.take i).filter g).map f ++ if g d = true then [f d] else [] := by
  rw [List.take_add_one, hd, List.filter_append, List.map_append]
  congr 1
  by_cases h : g d = true
  · simp [h]
  · simp [h]
/-- [f d for d in ds if g d] -/
theorem cmp_filt {Gd : M → Prop} {tg : DG} {tt : DT} {we : DW} {p : Addr} {δ : DSt} {Q : DK} {ds : List D} {μ : M} (f : D → D) (g : D → Bool) (hp : μ p = none) (hl : ds.length ≤ 1000000) (hG : ∀ μ', Beside p μ μ' → Gd μ')
    (el : ∀ d, d ∈ ds → ∀ μ', Beside p μ μ' → ∀ (R : D → M → Prop) (S : M → Prop), (g d = true → R (f d) μ') → (g d = false → S μ') → tg d δ μ' fun δ1 μ1 => tt δ1 μ1 (fun b μ2 => if b = true then we δ1 μ2 R FF else S μ2) FF)
    (q : Q (.lst ((ds.filter g).map f)) μ) : wCmp Gd tg tt we p δ ds [] (mput μ p (.lst [])) Q := by
  refine cmp_inv ds (fun i acc μ' => (∀ b, b ≠ p → μ' b = μ b) ∧ μ' p = some (.lst acc) ∧ acc = ((ds.take i).filter g).map f) ⟨fun b hb => mput_ne hb, mput_same, rfl⟩ (fun i acc μ' h => ⟨hG μ' ⟨h.1, _, h.2.1⟩, h.2.1⟩) ?_ ?_
  · rintro i d hd acc μ' ⟨h1, h2, h3⟩ R hR
    have hm : d ∈ ds := List.mem_of_getElem? hd
    have hi : i < ds.length := by
      obtain ⟨h, _⟩ := List.getElem?_eq_some_iff.mp hd
      exact h
    have hlen : acc.length < 1000000 := by
      rw [h3, List.length_map]
      have := List.length_filter_le g (ds.take i)
      rw [List.length_take] at this
      omega
    refine el d hm μ' ⟨h1, _, h2⟩ _ _ (fun hg => ⟨h2, hlen, hR _ _ ⟨fun b hb => (mput_ne hb).trans (h1 b hb), mput_same, ?_⟩⟩) (fun hg => hR _ _ ⟨h1, h2, ?_⟩)
    · rw [filt_snoc hd, hg, h3]
      rfl
    · rw [filt_snoc hd, hg, h3]
      simp
  · rintro acc μ' ⟨h1, h2, h3⟩
    rw [beside_del ⟨h1, _, h2⟩ hp, h3, List.take_length]
    exact q
/-- the elements are drawn -/
theorem cmp_draw {Gd : M → Prop} {tg : DG} {we : DW} {p a : Addr} {δ : DSt} {Q : DK} {ds : List D} {μ : M} {m c : Nat} (E : D → Prop) (hp : μ p = none) (hl : ds.length ≤ 1000000) (pen : Pen a μ m) (hm : m + ds.length * c ≤ 1000000) (hG : ∀ μ', Gd μ')
    (el : ∀ d, d ∈ ds → ∀ μ' k, Pen a μ' k → k + c ≤ 1000000 → ∀ R : D → M → Prop, (∀ y μ2, E y → Only a μ' μ2 → Pen a μ2 (k + c) → R y μ2) → tg d δ μ' fun δ1 μ1 => we δ1 μ1 R FF)
    (q : ∀ ys μ', ys.length = ds.length → (∀ y ∈ ys, E y) → Only a μ μ' → Pen a μ' (m + ds.length * c) → Q (.lst ys) μ') : wCmp Gd tg wYes we p δ ds [] (mput μ p (.lst [])) Q := by
  have hpa : p ≠ a := fun e => by
    obtain ⟨cs, x, d, n, f, h, _⟩ := pen
    rw [← e, hp] at h
    cases h
  have pen_put : ∀ {μ : M} {m : Nat} {o : MO}, Pen a μ m → Pen a (mput μ p o) m := fun {μ m o} h => by
    obtain ⟨cs, x, d, n, f, h, r⟩ := h
    exact ⟨cs, x, d, n, f, by rw [mput_ne (Ne.symm hpa)]; exact h, r⟩
  refine cmp_inv ds (fun i acc μ' => (∀ b, b ≠ p → b ≠ a → μ' b = μ b) ∧ μ' p = some (.lst acc) ∧ Pen a μ' (m + i * c) ∧ i ≤ ds.length ∧ acc.length = i ∧ ∀ y ∈ acc, E y) ⟨fun b hb _ => mput_ne hb, mput_same, by simpa using pen_put pen, Nat.zero_le _, rfl, by simp⟩ (fun i acc μ' h => ⟨hG μ', h.2.1⟩) ?_ ?_
  · rintro i d hd acc μ' ⟨h1, h2, h3, h4, h5, h6⟩ R hR
    have hmm : d ∈ ds := List.mem_of_getElem? hd
    have hi : i < ds.length := by
      obtain ⟨h, _⟩ := List.getElem?_eq_some_iff.mp hd
      exact h
    have hb : (i + 1) * c ≤ ds.length * c := Nat.mul_le_mul_right _ hi
    have hb' : (i + 1) * c = i * c + c := Nat.succ_mul _ _
    refine el d hmm μ' _ h3 (by omega) _ fun y μ2 hy o2 p2 => ?_
    refine ⟨(o2 p hpa).trans h2, by omega, hR _ _ ⟨fun b hb hb2 => (mput_ne hb).trans ((o2 b hb2).trans (h1 b hb hb2)), mput_same, pen_put (by rw [hb', ← Nat.add_assoc]; exact p2), hi, by simp [h5], ?_⟩⟩
    intro z hz
    rcases List.mem_append.mp hz with hz | hz
    · exact h6 z hz
    · rw [List.mem_singleton.mp hz]
      exact hy
  · rintro acc μ' ⟨h1, h2, h3, h4, h5, h6⟩
    refine q acc _ h5 h6 (fun b hb => ?_) ?_
    · by_cases e : b = p
      · rw [e, mdel_same, hp]
      · rw [mdel_ne e]
        exact h1 b e hb
    · obtain ⟨cs, x, d, n, f, h, r⟩ := h3
      exact ⟨cs, x, d, n, f, by rw [mdel_ne (Ne.symm hpa)]; exact h, r⟩
/-! ### loops over a list without a change -/
theorem view_beside {p : Addr} {μ μ' : M} {d : D} (h : Beside p μ μ') (hp : μ p = none) (ho : okD (view μ d)) : view μ' d = view μ d := by
  cases d with
  | obj a =>
    by_cases e : a = p
    · exfalso
      subst e
      simp only [view, hp] at ho
      cases ho
    · simp only [view, h.1 a e]
  | _ => rfl
end NC

set_option maxHeartbeats 2000000
/-! rows of numbers as polynomials -/
namespace PL
def coef (p : List Rat) (k : Nat) : Rat := p[k]?.getD 0
theorem coef_nil (k : Nat) : coef [] k = 0 := rfl
theorem coef_zero (a : Rat) (p : List Rat) : coef (a :: p) 0 = a := rfl
theorem coef_succ (a : Rat) (p : List Rat) (k : Nat) : coef (a :: p) (k + 1) = coef p k := rfl
theorem coef_ge {p : List Rat} {k : Nat} (h : p.length ≤ k) : coef p k = 0 := by
  unfold coef
  rw [List.getElem?_eq_none h]
  rfl
theorem coef_lt {p : List Rat} {k : Nat} (h : k < p.length) : coef p k = p[k] := by
  unfold coef
  rw [List.getElem?_eq_getElem h]
  rfl
/-- without zeros behind -/
def trim : List Rat → List Rat
  | [] => []
  | a :: p => match trim p with
    | [] => if a = 0 then [] else [a]
    | b :: q => a :: b :: q
theorem coef_trim : ∀ (p : List Rat) (k : Nat), coef (trim p) k = coef p k
  | [], _ => rfl
  | a :: p, k => by
    have ih := coef_trim p
    unfold trim
    cases e : trim p with
    | nil =>
      rw [e] at ih
      simp only
      by_cases ha : a = 0
      · rw [if_pos ha]
        cases k with
        | zero => rw [coef_zero, ha]; rfl
        | succ k => rw [coef_succ, ← ih k]; rfl
      · rw [if_neg ha]
        cases k with
        | zero => rfl
        | succ k => rw [coef_succ, coef_succ, ← ih k]
    | cons b q =>
      rw [e] at ih
      simp only
      cases k with
      | zero => rfl
      | succ k => rw [coef_succ, coef_succ, ih k]
/-- no zero behind -/
def canon (p : List Rat) : Prop := trim p = p
theorem canon_nil : canon [] := rfl
theorem trim_canon : ∀ p : List Rat, canon (trim p)
  | [] => rfl
  | a :: p => by
    have ih : trim (trim p) = trim p := trim_canon p
    unfold trim
    cases e : trim p with
    | nil =>
      simp only
      by_cases ha : a = 0
      · rw [if_pos ha]; exact canon_nil
      · rw [if_neg ha]
        unfold canon trim
        simp only [trim, if_neg ha]
    | cons b q =>
      simp only
      rw [e] at ih
      unfold canon
      rw [trim, ih]
theorem canon_tail {a : Rat} {p : List Rat} (h : canon (a :: p)) : canon p := by
  unfold canon at h ⊢
  rw [trim] at h
  cases e : trim p with
  | nil =>
    rw [e] at h
    simp only at h
    by_cases ha : a = 0
    · rw [if_pos ha] at h; cases h
    · rw [if_neg ha] at h
      injection h with _ h
  | cons b q =>
    rw [e] at h
    simp only at h
    injection h with _ h
theorem canon_one {a : Rat} (h : canon [a]) : a ≠ 0 := by
  intro e
  unfold canon at h
  simp only [trim, if_pos e] at h
  cases h
theorem canon_ext : ∀ {p q : List Rat}, canon p → canon q → (∀ k, coef p k = coef q k) → p = q
  | [], [], _, _, _ => rfl
  | [], b :: q, _, hq, h => by
    exfalso
    have : ∀ (q : List Rat) (b : Rat), canon (b :: q) → ∃ k, coef (b :: q) k ≠ 0 := by
      intro q
      induction q with
      | nil => exact fun b hb => ⟨0, canon_one hb⟩
      | cons c q ih =>
        intro b hb
        obtain ⟨k, hk⟩ := ih c (canon_tail hb)
        exact ⟨k + 1, hk⟩
    obtain ⟨k, hk⟩ := this q b hq
    exact hk (h k).symm
  | a :: p, [], hp, _, h => by
    exfalso
    have : ∀ (q : List Rat) (b : Rat), canon (b :: q) → ∃ k, coef (b :: q) k ≠ 0 := by
      intro q
      induction q with
      | nil => exact fun b hb => ⟨0, canon_one hb⟩
      | cons c q ih =>
        intro b hb
        obtain ⟨k, hk⟩ := ih c (canon_tail hb)
        exact ⟨k + 1, hk⟩
    obtain ⟨k, hk⟩ := this p a hp
    exact hk (h k)
  | a :: p, b :: q, hp, hq, h => by
    have h0 := h 0
    rw [coef_zero, coef_zero] at h0
    rw [h0, canon_ext (canon_tail hp) (canon_tail hq) fun k => h (k + 1)]
theorem trim_ext {p q : List Rat} (h : ∀ k, coef p k = coef q k) : trim p = trim q :=
  canon_ext (trim_canon p) (trim_canon q) fun k => by rw [coef_trim, coef_trim, h k]
theorem trim_mem : ∀ {p : List Rat} {c : Rat}, c ∈ trim p → c ∈ p
  | [], _, h => h
  | a :: p, c, h => by
    unfold trim at h
    cases e : trim p with
    | nil =>
      rw [e] at h
      simp only at h
      by_cases ha : a = 0
      · rw [if_pos ha] at h; cases h
      · rw [if_neg ha] at h
        rw [List.mem_singleton.mp h]
        exact List.mem_cons_self ..
    | cons b q =>
      rw [e] at h
      simp only at h
      rcases List.mem_cons.mp h with rfl | h
      · exact List.mem_cons_self ..
      · exact List.mem_cons_of_mem _ (trim_mem (by rw [e]; exact h))
theorem trim_len : ∀ p : List Rat, (trim p).length ≤ p.length
  | [] => Nat.le_refl _
  | a :: p => by
    have := trim_len p
    unfold trim
    cases e : trim p with
    | nil =>
      simp only
      split <;> simp
    | cons b q =>
      rw [e] at this
      simp only [List.length_cons] at this ⊢
      omega
/-- cut behind the last number that is not 0 -/
theorem trim_cut {p : List Rat} {m : Nat} (h1 : m = 0 ∨ ∃ k, k < p.length ∧ m = k + 1 ∧ coef p k ≠ 0) (h2 : ∀ k, k < p.length → coef p k ≠ 0 → k + 1 ≤ m) : p.take m = trim p := by
  have c : canon (p.take m) := by
    rcases h1 with rfl | ⟨k, hk, rfl, hz⟩
    · simp [canon_nil]
    · have : ∀ (p : List Rat) (k : Nat), k < p.length → coef p k ≠ 0 → canon (p.take (k + 1)) := by
        intro p
        induction p with
        | nil => intro k h; simp at h
        | cons a p ih =>
          intro k hk hz
          cases k with
          | zero =>
            have ha : a ≠ 0 := hz
            simp only [List.take_succ_cons, List.take_zero]
            unfold canon
            simp only [trim, if_neg ha]
          | succ k =>
            have h := ih k (by simpa using hk) hz
            rw [List.take_succ_cons]
            unfold canon at h ⊢
            rw [trim, h]
            cases e : p.take (k + 1) with
            | nil =>
              exfalso
              have : (p.take (k + 1)).length = 0 := by rw [e]; rfl
              rw [List.length_take] at this
              simp only [List.length_cons] at hk
              omega
            | cons b q => rfl
      exact this p k hk hz
  refine canon_ext c (trim_canon p) fun k => ?_
  rw [coef_trim]
  by_cases hk : k < m
  · unfold coef
    rw [List.getElem?_take_of_lt hk]
  · have e1 : coef (p.take m) k = 0 := coef_ge (by rw [List.length_take]; omega)
    rw [e1]
    by_cases hp : k < p.length
    · apply Classical.byContradiction
      intro hz
      exact hk (h2 k hp (Ne.symm hz))
    · rw [coef_ge (by omega)]
/-- the row of f 0, .., f (n - 1) -/
def mk (n : Nat) (f : Nat → Rat) : List Rat := trim ((List.range n).map f)
theorem coef_map (n : Nat) (f : Nat → Rat) (k : Nat) : coef ((List.range n).map f) k = if k < n then f k else 0 := by
  unfold coef
  rw [List.getElem?_map]
  by_cases h : k < n
  · rw [List.getElem?_range h, if_pos h]
    rfl
  · rw [List.getElem?_eq_none (by simpa using h), if_neg h]
    rfl
theorem coef_mk (n : Nat) (f : Nat → Rat) (k : Nat) : coef (mk n f) k = if k < n then f k else 0 := by
  unfold mk
  rw [coef_trim, coef_map]
theorem coef_mk' {n : Nat} {f : Nat → Rat} (h : ∀ k, n ≤ k → f k = 0) (k : Nat) : coef (mk n f) k = f k := by
  rw [coef_mk]
  split
  · rfl
  · exact (h k (by omega)).symm
theorem mk_canon (n : Nat) (f : Nat → Rat) : canon (mk n f) := trim_canon _
theorem mk_len (n : Nat) (f : Nat → Rat) : (mk n f).length ≤ n := Nat.le_trans (trim_len _) (by simp)
theorem mk_mem {n : Nat} {f : Nat → Rat} {c : Rat} (h : c ∈ mk n f) : ∃ k, k < n ∧ f k = c := by
  have := trim_mem h
  obtain ⟨k, hk, e⟩ := List.mem_map.mp this
  exact ⟨k, by simpa using hk, e⟩
/-- a canonical row told by its numbers -/
theorem eq_mk {p : List Rat} (hp : canon p) {n : Nat} {f : Nat → Rat} (h : ∀ k, coef p k = if k < n then f k else 0) : p = mk n f :=
  canon_ext hp (mk_canon n f) fun k => by rw [h, coef_mk]
/-- f 0 + .. + f (n - 1) -/
def sm : Nat → (Nat → Rat) → Rat
  | 0, _ => 0
  | n + 1, f => sm n f + f n
theorem sm_congr : ∀ {n : Nat} {f g : Nat → Rat}, (∀ i, i < n → f i = g i) → sm n f = sm n g
  | 0, _, _, _ => rfl
  | n + 1, f, g, h => by
    unfold sm
    rw [sm_congr fun i hi => h i (by omega), h n (by omega)]
theorem sm_zero : ∀ {n : Nat} {f : Nat → Rat}, (∀ i, i < n → f i = 0) → sm n f = 0
  | 0, _, _ => rfl
  | n + 1, f, h => by
    unfold sm
    rw [sm_zero fun i hi => h i (by omega), h n (by omega)]
    grind
theorem sm_add : ∀ (n : Nat) (f g : Nat → Rat), sm n (fun i => f i + g i) = sm n f + sm n g
  | 0, _, _ => by simp only [sm]; grind
  | n + 1, f, g => by
    simp only [sm]
    rw [sm_add n f g]
    grind
theorem sm_mul : ∀ (n : Nat) (c : Rat) (f : Nat → Rat), sm n (fun i => c * f i) = c * sm n f
  | 0, _, _ => by simp only [sm]; grind
  | n + 1, c, f => by
    simp only [sm]
    rw [sm_mul n c f]
    grind
theorem sm_more {f : Nat → Rat} {n : Nat} : ∀ {m : Nat}, n ≤ m → (∀ i, n ≤ i → i < m → f i = 0) → sm m f = sm n f
  | 0, h, _ => by
    have : n = 0 := by omega
    subst this
    rfl
  | m + 1, h, hz => by
    by_cases e : n = m + 1
    · rw [e]
    · simp only [sm]
      rw [sm_more (m := m) (by omega) fun i h1 h2 => hz i h1 (by omega), hz m (by omega) (by omega)]
      grind
theorem sm_front : ∀ (n : Nat) (f : Nat → Rat), sm (n + 1) f = f 0 + sm n fun i => f (i + 1)
  | 0, f => by simp only [sm]; grind
  | n + 1, f => by
    rw [sm, sm_front n f]
    simp only [sm]
    grind
theorem sm_rev : ∀ (n : Nat) (f : Nat → Rat), sm n (fun i => f (n - 1 - i)) = sm n f
  | 0, _ => rfl
  | n + 1, f => by
    rw [sm_front]
    have e : (sm n fun i => f (n + 1 - 1 - (i + 1))) = sm n f := by
      rw [← sm_rev n f]
      exact sm_congr fun i hi => by congr 1; omega
    rw [e]
    simp only [sm]
    have : n + 1 - 1 - 0 = n := by omega
    rw [this]
    grind
/-- sums, products, .. of rows -/
def padd (p q : List Rat) : List Rat := mk (max p.length q.length) fun k => coef p k + coef q k
def psub (p q : List Rat) : List Rat := mk (max p.length q.length) fun k => coef p k - coef q k
def pscale (c : Rat) (p : List Rat) : List Rat := mk p.length fun k => c * coef p k
def conv (p q : List Rat) (k : Nat) : Rat := sm (k + 1) fun i => coef p i * coef q (k - i)
def pmul (p q : List Rat) : List Rat := mk (p.length + q.length) (conv p q)
def pslope (p : List Rat) : List Rat := mk (p.length - 1) fun k => ((k + 1 : Nat) : Rat) * coef p (k + 1)
theorem conv_ge {p q : List Rat} {k : Nat} (h : p.length + q.length ≤ k + 1) : conv p q k = 0 := by
  refine sm_zero fun i hi => ?_
  by_cases h1 : i < p.length
  · rw [coef_ge (p := q) (by omega)]
    grind
  · rw [coef_ge (p := p) (by omega)]
    grind
theorem coef_padd (p q : List Rat) (k : Nat) : coef (padd p q) k = coef p k + coef q k :=
  coef_mk' (fun k hk => by rw [coef_ge (p := p) (by omega), coef_ge (p := q) (by omega)]; grind) k
theorem coef_psub (p q : List Rat) (k : Nat) : coef (psub p q) k = coef p k - coef q k :=
  coef_mk' (fun k hk => by rw [coef_ge (p := p) (by omega), coef_ge (p := q) (by omega)]; grind) k
theorem coef_pscale (c : Rat) (p : List Rat) (k : Nat) : coef (pscale c p) k = c * coef p k :=
  coef_mk' (fun k hk => by rw [coef_ge (p := p) (by omega)]; grind) k
theorem coef_pmul (p q : List Rat) (k : Nat) : coef (pmul p q) k = conv p q k :=
  coef_mk' (fun k hk => conv_ge (by omega)) k
theorem coef_pslope (p : List Rat) (k : Nat) : coef (pslope p) k = ((k + 1 : Nat) : Rat) * coef p (k + 1) :=
  coef_mk' (fun k hk => by rw [coef_ge (p := p) (by omega)]; grind) k
theorem canon_padd (p q : List Rat) : canon (padd p q) := mk_canon _ _
theorem canon_psub (p q : List Rat) : canon (psub p q) := mk_canon _ _
theorem canon_pscale (c : Rat) (p : List Rat) : canon (pscale c p) := mk_canon _ _
theorem canon_pmul (p q : List Rat) : canon (pmul p q) := mk_canon _ _
theorem canon_pslope (p : List Rat) : canon (pslope p) := mk_canon _ _
theorem conv_comm (p q : List Rat) (k : Nat) : conv p q k = conv q p k := by
  unfold conv
  rw [← sm_rev]
  refine sm_congr fun i hi => ?_
  have e1 : k + 1 - 1 - i = k - i := by omega
  have e2 : k - (k - i) = i := by omega
  rw [e1, e2]
  grind
theorem pmul_comm (p q : List Rat) : pmul p q = pmul q p := canon_ext (canon_pmul _ _) (canon_pmul _ _) fun k => by rw [coef_pmul, coef_pmul, conv_comm]
theorem padd_comm (p q : List Rat) : padd p q = padd q p := canon_ext (canon_padd _ _) (canon_padd _ _) fun k => by rw [coef_padd, coef_padd]; grind
/-- numbers of a row: their sizes -/
def PB (N V : Nat) (p : List Rat) : Prop := ∀ c ∈ p, Bd N V c
theorem PB.coef {N V : Nat} {p : List Rat} (h : PB N V p) (k : Nat) : Bd N V (coef p k) := by
  by_cases hk : k < p.length
  · rw [coef_lt hk]
    exact h _ (List.getElem_mem hk)
  · rw [coef_ge (by omega)]
    exact Bd.zero
theorem PB.mono {N V M W : Nat} {p : List Rat} (h : PB N V p) (hd : N ∣ M) (hv : V ≤ W) : PB M W p := fun c hc => (h c hc).mono hd hv
theorem PB.mk {N V n : Nat} {f : Nat → Rat} (h : ∀ k, k < n → Bd N V (f k)) : PB N V (mk n f) := fun c hc => by
  obtain ⟨k, hk, rfl⟩ := mk_mem hc
  exact h k hk
theorem PB.trim {N V : Nat} {p : List Rat} (h : PB N V p) : PB N V (trim p) := fun c hc => h c (trim_mem hc)
theorem PB.add {N V W : Nat} {p q : List Rat} (h1 : PB N V p) (h2 : PB N W q) : PB N (V + W) (padd p q) := PB.mk fun k _ => (h1.coef k).add (h2.coef k)
theorem PB.sub {N V W : Nat} {p q : List Rat} (h1 : PB N V p) (h2 : PB N W q) : PB N (V + W) (psub p q) := PB.mk fun k _ => (h1.coef k).sub (h2.coef k)
theorem PB.scale {N V M W : Nat} {c : Rat} {p : List Rat} (h1 : Bd M W c) (h2 : PB N V p) : PB (M * N) (W * V) (pscale c p) := PB.mk fun k _ => h1.mul (h2.coef k)
theorem Bd.sm {N V : Nat} {f : Nat → Rat} : ∀ {n : Nat}, (∀ i, i < n → Bd N V (f i)) → Bd N (n * V) (sm n f)
  | 0, _ => by simpa [PL.sm] using (Bd.zero (N := N) (V := 0))
  | n + 1, h => by
    rw [Nat.succ_mul]
    exact (Bd.sm fun i hi => h i (by omega)).add (h n (by omega))
/-- a product's number has at most as many terms as the shorter row -/
theorem conv_some (p q : List Rat) (k : Nat) : ∃ (n : Nat) (f : Nat → Nat), n ≤ p.length ∧ conv p q k = sm n fun i => coef p i * coef q (k - i) := by
  refine ⟨min (k + 1) p.length, id, Nat.min_le_right _ _, ?_⟩
  unfold conv
  exact sm_more (Nat.min_le_left _ _) fun i h1 h2 => by rw [coef_ge (p := p) (by omega)]; grind
theorem PB.conv {N V M W n : Nat} {p q : List Rat} (h1 : PB N V p) (h2 : PB M W q) (hn : p.length ≤ n) (k : Nat) : Bd (N * M) (n * (V * W)) (conv p q k) := by
  obtain ⟨m, _, hm, e⟩ := conv_some p q k
  rw [e]
  exact (Bd.sm fun i _ => (h1.coef i).mul (h2.coef (k - i))).mono (Nat.dvd_refl _) (Nat.mul_le_mul_right _ (by omega))
theorem PB.mul {N V M W n : Nat} {p q : List Rat} (h1 : PB N V p) (h2 : PB M W q) (hn : p.length ≤ n) : PB (N * M) (n * (V * W)) (pmul p q) := PB.mk fun k _ => h1.conv h2 hn k
theorem PB.slope {N V n : Nat} {p : List Rat} (h : PB N V p) (hn : p.length ≤ n) : PB N (n * V) (pslope p) := PB.mk fun k hk => by
  have e := ((Bd.int (N := 1) ((k + 1 : Nat) : Int)).mul (h.coef (k + 1)))
  rw [Nat.one_mul] at e
  have e2 : (((k + 1 : Nat) : Int) : Rat) = ((k + 1 : Nat) : Rat) := by push_cast; rfl
  rw [e2] at e
  exact e.mono (Nat.dvd_refl _) (Nat.mul_le_mul_right _ (by omega))
theorem mul_len (p q : List Rat) : (pmul p q).length ≤ p.length + q.length - 1 := by
  rcases Nat.eq_zero_or_pos (pmul p q).length with h | h
  · omega
  · apply Classical.byContradiction
    intro hn
    have hc := canon_pmul p q
    have : ∀ (r : List Rat), canon r → 0 < r.length → coef r (r.length - 1) ≠ 0 := by
      intro r
      induction r with
      | nil => intro _ h; simp at h
      | cons a r ih =>
        intro hr _
        cases r with
        | nil => exact canon_one hr
        | cons b r => exact ih (canon_tail hr) (by simp)
    have hz := this _ hc h
    rw [coef_pmul] at hz
    exact hz (conv_ge (by omega))
theorem add_len (p q : List Rat) : (padd p q).length ≤ max p.length q.length := mk_len _ _
theorem sub_len (p q : List Rat) : (psub p q).length ≤ max p.length q.length := mk_len _ _
theorem scale_len (c : Rat) (p : List Rat) : (pscale c p).length ≤ p.length := mk_len _ _
theorem slope_len (p : List Rat) : (pslope p).length ≤ p.length - 1 := mk_len _ _
theorem canon_last : ∀ {r : List Rat}, canon r → 0 < r.length → coef r (r.length - 1) ≠ 0
  | [], _, h => by simp at h
  | [a], h, _ => canon_one h
  | a :: b :: r, h, _ => by
    have ih := canon_last (r := b :: r) (canon_tail h) (by simp)
    have e : (a :: b :: r).length - 1 = (b :: r).length - 1 + 1 := by simp
    rw [e, coef_succ]
    exact ih
end PL

set_option maxHeartbeats 2000000
/-! values of rows, rows moved -/
namespace PL
def pat (s : Rat) : List Rat → Rat
  | [] => 0
  | c :: p => pat s p * s + c
def hB (W V : Nat) : Nat → Nat
  | 0 => 0
  | j + 1 => hB W V j * W + V
theorem PB.tail {N V : Nat} {c : Rat} {p : List Rat} (h : PB N V (c :: p)) : PB N V p := fun d hd => h d (List.mem_cons_of_mem _ hd)
theorem PB.head {N V : Nat} {c : Rat} {p : List Rat} (h : PB N V (c :: p)) : Bd N V c := h c (List.mem_cons_self ..)
theorem pat_bd {N V M W : Nat} {s : Rat} (hs : Bd M W s) : ∀ {p : List Rat}, PB N V p → Bd (N * M ^ p.length) (hB W V p.length) (pat s p)
  | [], _ => Bd.zero
  | c :: p, h => by
    have h1 := (pat_bd hs h.tail).mul hs
    rw [Nat.mul_assoc, ← Nat.pow_succ] at h1
    exact h1.add (h.head.mono (Nat.dvd_mul_right _ _) (Nat.le_refl _))
theorem pat_scale {s : Rat} : ∀ {p : List Rat} {c : Rat}, pat s (p.map (c * ·)) = c * pat s p
  | [], c => by simp only [List.map_nil, pat]; grind
  | d :: p, c => by
    simp only [List.map_cons, pat, pat_scale (p := p)]
    grind
theorem hB_le {W V : Nat} (hV : 1 ≤ W) : ∀ {i j : Nat}, i ≤ j → hB W V i ≤ hB W V j
  | i, 0, h => by
    have : i = 0 := by omega
    subst this
    exact Nat.le_refl _
  | i, j + 1, h => by
    by_cases e : i = j + 1
    · rw [e]; exact Nat.le_refl _
    · have h1 := hB_le (W := W) (V := V) hV (i := i) (j := j) (by omega)
      have h2 : hB W V j ≤ hB W V j * W := Nat.le_mul_of_pos_right _ hV
      show hB W V i ≤ hB W V j * W + V
      omega
/-- the row of the values at a + b * t -/
def pmoved (a b : Rat) : List Rat → List Rat
  | [] => []
  | c :: p => padd (pmul (pmoved a b p) (trim [a, b])) (trim [c])
theorem canon_pmoved (a b : Rat) : ∀ p : List Rat, canon (pmoved a b p)
  | [] => canon_nil
  | c :: p => canon_padd _ _
theorem trim_one_len (c : Rat) : (trim [c]).length ≤ 1 := trim_len [c]
theorem pmoved_len (a b : Rat) : ∀ p : List Rat, (pmoved a b p).length ≤ p.length
  | [] => Nat.le_refl _
  | c :: p => by
    have h1 := pmoved_len a b p
    have h2 := trim_len [a, b]
    have h3 := trim_len [c]
    have h4 := mul_len (pmoved a b p) (trim [a, b])
    have h5 := add_len (pmul (pmoved a b p) (trim [a, b])) (trim [c])
    have h6 : (pmoved a b p).length = 0 → (pmul (pmoved a b p) (trim [a, b])).length = 0 := fun h => by
      have h7 : pmoved a b p = [] := List.length_eq_zero_iff.mp h
      rw [h7]
      have : pmul [] (trim [a, b]) = [] := by
        refine canon_ext (canon_pmul _ _) canon_nil fun k => ?_
        rw [coef_pmul, coef_nil]
        refine sm_zero fun i _ => ?_
        rw [coef_nil]
        grind
      rw [this]
      rfl
    simp only [pmoved, List.length_cons, List.length_nil] at *
    omega
theorem pmoved_bd {N V M W : Nat} {a b : Rat} (ha : Bd M W a) (hb : Bd M W b) : ∀ {p : List Rat}, PB N V p → PB (N * M ^ p.length) (hB (2 * W) V p.length) (pmoved a b p)
  | [], _ => fun _ h => by cases h
  | c :: p, h => by
    have h1 := pmoved_bd ha hb h.tail
    have hl : PB M W (trim [a, b]) := PB.trim fun d hd => by
      rcases List.mem_cons.mp hd with rfl | hd
      · exact ha
      · rw [List.mem_singleton.mp hd]
        exact hb
    have h2 : PB (N * M ^ p.length * M) (2 * (W * hB (2 * W) V p.length)) (pmul (pmoved a b p) (trim [a, b])) := by
      rw [pmul_comm, Nat.mul_comm _ M]
      exact hl.mul h1 (trim_len _)
    rw [Nat.mul_assoc, ← Nat.pow_succ] at h2
    have e : 2 * (W * hB (2 * W) V p.length) = hB (2 * W) V p.length * (2 * W) := by grind
    rw [e] at h2
    have h3 : PB (N * M ^ (p.length + 1)) V (trim [c]) := PB.trim fun d hd => by
      rw [List.mem_singleton.mp hd]
      exact h.head.mono (Nat.dvd_mul_right _ _) (Nat.le_refl _)
    exact h2.add h3
end PL

set_option maxHeartbeats 2000000
namespace NC
open PySem PySem.Spec PyProof.Rows L2 DL LL PL
def w_Poly___init___0 (K : PySem.W.Frag) (a_BadRow a_Poly : Addr) (s_is_ratio s_told : DF) : DS := (wIfS (wOr (wNot (wTst (wCB (gIsi K) (wCons (wVar 1) (wCons (wTup (wCons (wC (.raw (.ty "tuple"))) (wCons (wC (.raw (.ty "list"))) wNil))) wNil))))) (wNot (wTst (wCB (gOne gAllL) (wCons (wLc (wISeq (wVar 1)) (wName 2) wYes (wCall s_is_ratio (wCons (wVar 2) wNil)) [2]) wNil))))) (wRaise a_BadRow ["row"] (wCons (wVar 1) wNil)) wNext)
def w_Poly___init___1 (K : PySem.W.Frag) (a_BadRow a_Poly : Addr) (s_is_ratio s_told : DF) : DS := (wAsg (wCB (gOne gTuple) (wCons (wLc (wISeq (wVar 1)) (wName 2) wYes (wCall s_told (wCons (wVar 2) (wCons (wC (.str "number")) wNil))) [2]) wNil)) (wName 3))
def w_Poly___init___2 (K : PySem.W.Frag) (a_BadRow a_Poly : Addr) (s_is_ratio s_told : DF) : DS := (wAsg (wCB (gOne gMaxL) (wCons (wBin gAdd (wLst (wCons (wC (.int 0)) wNil)) (wLc (wIEnumA (wCons (wVar 3) wNil)) (wGTup 2 (wGCons (wName 5) (wGCons (wName 2) wGNil))) (wTst (wBin (gEq true) (wBin gIx (wVar 2) (wC (.int 0))) (wC (.int 0)))) (wBin gAdd (wVar 5) (wC (.int 1))) [5, 2])) wNil)) (wName 4))
def w_Poly___init___3 (K : PySem.W.Frag) (a_BadRow a_Poly : Addr) (s_is_ratio s_told : DF) : DS := (wFst [a_Poly] "numbers" (wVar 0) (wSl (wVar 3) wNoPart (wPart (wVar 4))))
def w_Poly___init__ (K : PySem.W.Frag) (a_BadRow a_Poly : Addr) (s_is_ratio s_told : DF) : DS := (wSeq (w_Poly___init___0 K a_BadRow a_Poly s_is_ratio s_told) (wSeq (w_Poly___init___1 K a_BadRow a_Poly s_is_ratio s_told) (wSeq (w_Poly___init___2 K a_BadRow a_Poly s_is_ratio s_told) (w_Poly___init___3 K a_BadRow a_Poly s_is_ratio s_told))))
def w_Poly___eq___0 (K : PySem.W.Frag) (a_Poly : Addr) : DS := (wRet (wAndV (wCB (gIsi K) (wCons (wVar 1) (wCons (wC (.raw (.ref a_Poly))) wNil))) (wBin (gEq false) (wFld [a_Poly] "numbers" (wVar 0)) (wFld [a_Poly] "numbers" (wVar 1)))))
def w_Poly___eq__ (K : PySem.W.Frag) (a_Poly : Addr) : DS := (w_Poly___eq___0 K a_Poly)
/-! ### rows as they are handed in -/
def rats (μ : M) : List D → Option (List Rat)
  | [] => some []
  | v :: vs => match ratV (view μ v), rats μ vs with
    | some q, some qs => some (q :: qs)
    | _, _ => none
def rowV (μ : M) (x : D) : Option (List Rat) := match view μ x with
  | .lst vs => rats μ vs
  | .tup vs => rats μ vs
  | _ => none
def okRow (μ : M) (x : D) : Prop := match view μ x with
  | .lst vs => vs.length ≤ 100000 ∧ ∀ v ∈ vs, okD (view μ v)
  | .tup vs => vs.length ≤ 100000 ∧ ∀ v ∈ vs, okD (view μ v)
  | .ro _ => False
  | d => (tyN d).isSome
/-- what follows for a row of ratios, for none -/
def onP (o : Option (List Rat)) (f : List Rat → Prop) (g : Prop) : Prop := match o with
  | some q => f q
  | none => g
theorem onP_some {q : List Rat} {f : List Rat → Prop} {g : Prop} : onP (some q) f g ↔ f q := Iff.rfl
theorem onP_none {f : List Rat → Prop} {g : Prop} : onP none f g ↔ g := Iff.rfl
theorem rats_qd {μ : M} : ∀ (p : List Rat), rats μ (p.map qd) = some p
  | [] => rfl
  | a :: p => by simp only [List.map_cons, rats, view_qd, ratV_qd, rats_qd p]
theorem rowV_td {μ : M} {p : List Rat} : rowV μ (td p) = some p := rats_qd p
theorem rowV_ld {μ : M} {p : List Rat} : rowV μ (ld p) = some p := rats_qd p
theorem okRow_td {μ : M} {p : List Rat} (h : ∀ c ∈ p, Sz c) (hl : p.length ≤ 100000) : okRow μ (td p) := ⟨by simpa using hl, fun v hv => by
  obtain ⟨c, hc, rfl⟩ := List.mem_map.mp hv
  exact okD_qd (h c hc)⟩
theorem okRow_ld {μ : M} {p : List Rat} (h : ∀ c ∈ p, Sz c) (hl : p.length ≤ 100000) : okRow μ (ld p) := ⟨by simpa using hl, fun v hv => by
  obtain ⟨c, hc, rfl⟩ := List.mem_map.mp hv
  exact okD_qd (h c hc)⟩
theorem rats_len {μ : M} : ∀ {vs : List D} {qs : List Rat}, rats μ vs = some qs → qs.length = vs.length
  | [], _, h => by cases h; rfl
  | v :: vs, qs, h => by
    unfold rats at h
    split at h
    · rename_i q rs h1 h2
      cases h
      simp [rats_len h2]
    · cases h
theorem rats_none {μ : M} : ∀ {vs : List D}, (vs.map fun v => isRV (view μ v)).all id = (rats μ vs).isSome
  | [] => rfl
  | v :: vs => by
    have ih := rats_none (μ := μ) (vs := vs)
    simp only [List.map_cons, List.all_cons, id_eq, ih]
    rw [show rats μ (v :: vs) = (match ratV (view μ v), rats μ vs with | some q, some qs => some (q :: qs) | _, _ => none) from rfl]
    unfold isRV
    cases ratV (view μ v) <;> cases rats μ vs <;> rfl
theorem rats_get {μ : M} : ∀ {vs : List D} {qs : List Rat}, rats μ vs = some qs → (vs.map fun v => qd ((ratV (view μ v)).getD 0)) = qs.map qd ∧ ∀ v ∈ vs, ∃ q, ratV (view μ v) = some q
  | [], _, h => by cases h; exact ⟨rfl, by simp⟩
  | v :: vs, qs, h => by
    unfold rats at h
    split at h
    · rename_i q rs h1 h2
      cases h
      obtain ⟨a, b⟩ := rats_get h2
      refine ⟨by simp only [List.map_cons, h1, Option.getD_some, a], fun u hu => ?_⟩
      rcases List.mem_cons.mp hu with rfl | hu
      · exact ⟨_, h1⟩
      · exact b u hu
    · cases h
/-- a value is walked by its items -/
theorem iseq_row {i : Nat} {δ : DSt} {μ : M} {F : FK} {x : D} {vs : List D} {Q : List D → (M → Prop) → M → Prop} (hx : δ[i]? = some (some x)) (h : view μ x = .lst vs ∨ view μ x = .tup vs) (q : ∀ Gd : M → Prop, (∀ p μ', μ p = none → Beside p μ μ' → Gd μ') → Q vs Gd μ) :
    wISeq (wVar i) δ μ Q F := by
  refine ⟨x, hx, ?_⟩
  cases x with
  | obj a =>
    cases e : μ a with
    | none => simp only [view, e] at h; rcases h with h | h <;> cases h
    | some m =>
      cases m with
      | lst ys =>
        simp only [view, e] at h
        rcases h with h | h <;> cases h
        refine .inr ⟨a, _, rfl, e, q _ fun p μ' hp hb => ?_⟩
        rw [hb.1 a fun z => by rw [← z, e] at hp; cases hp]
        exact e
      | _ => simp only [view, e] at h; rcases h with h | h <;> cases h
  | lst ys => rcases h with h | h <;> cases h; exact .inl ⟨_, .inl rfl, q _ fun _ _ _ _ => trivial⟩
  | tup ys => rcases h with h | h <;> cases h; exact .inl ⟨_, .inr (.inr rfl), q _ fun _ _ _ _ => trivial⟩
  | _ => rcases h with h | h <;> cases h
theorem okRow_cases {μ : M} {x : D} (h : okRow μ x) : (∃ vs, (view μ x = .lst vs ∨ view μ x = .tup vs) ∧ vs.length ≤ 100000 ∧ ∀ v ∈ vs, okD (view μ v)) ∨ (isSq (view μ x) = false ∧ (tyN (view μ x)).isSome ∧ rowV μ x = none) := by
  unfold okRow at h
  unfold rowV
  cases e : view μ x with
  | lst vs => rw [e] at h; exact .inl ⟨vs, .inl rfl, h.1, h.2⟩
  | tup vs => rw [e] at h; exact .inl ⟨vs, .inr rfl, h.1, h.2⟩
  | ro vs => rw [e] at h; exact h.elim
  | obj a => rw [e] at h; cases h
  | raw v => rw [e] at h; cases h
  | exc _ _ _ => rw [e] at h; cases h
  | lam _ _ => rw [e] at h; cases h
  | ins _ _ => rw [e] at h; cases h
  | _ => exact .inr ⟨rfl, rfl, rfl⟩
theorem okRow_ty {K : PySem.W.Frag} {μ : M} {x : D} (h : okRow μ x) : ∃ t, TyD K μ x (.type t) ∧ tyN (view μ x) = some t := by
  cases x with
  | obj a =>
    rcases okRow_cases h with ⟨vs, hv, _⟩ | ⟨_, ht, _⟩
    · cases e : μ a with
      | none => simp only [view, e] at hv; rcases hv with hv | hv <;> cases hv
      | some m =>
        cases m with
        | lst ys => exact ⟨_, .olst e, by simp only [view, e, tyN]⟩
        | _ => simp only [view, e] at hv; rcases hv with hv | hv <;> cases hv
    · cases e : μ a with
      | none => simp only [view, e] at ht; cases ht
      | some m =>
        cases m with
        | lst ys => exact ⟨_, .olst e, by simp only [view, e, tyN]⟩
        | _ => simp only [view, e] at ht; cases ht
  | lst ys => exact ⟨_, .lst ys, rfl⟩
  | tup ys => exact ⟨_, .tup ys, rfl⟩
  | ro ys => exact h.elim
  | raw v => cases h
  | exc _ _ _ => cases h
  | lam _ _ => cases h
  | ins _ _ => cases h
  | non => exact ⟨_, .non, rfl⟩
  | bl b => exact ⟨_, .bl b, rfl⟩
  | int i => exact ⟨_, .int i, rfl⟩
  | str z => exact ⟨_, .str z, rfl⟩
  | dct ks => exact ⟨_, .dct ks, rfl⟩
theorem row_tl {K : PySem.W.Frag} {μ : M} {x : D} {Q : DK} (h : okRow μ x) (q : Q (.bl (isSq (view μ x))) μ) : gIsi K [x, .tup [.raw (.ty "tuple"), .raw (.ty "list")]] μ Q := by
  obtain ⟨t, ty, e⟩ := okRow_ty (K := K) h
  exact .inr ⟨x, _, _, _, _, rfl, .cons (.ty "tuple") (.cons (.ty "list") .nil), ty, kit_tl e, q⟩
/-! ### Poly -/
def po (C : Addr) (p : List Rat) : D := .ins C [("numbers", td p)]
def s_Poly___init__ (R C : Addr) : DF := fun ds μ Q F => ∃ p x, ds = [.obj p, x] ∧ μ p = some (.ins C []) ∧ okRow μ x ∧ onP (rowV μ x) (fun r => Q .non (mput μ p (.ins C [("numbers", td (trim r))]))) (F ⟨.ref R, [("row", x)]⟩ μ)
theorem cutD_to {α : Type} {xs : List α} {n : Nat} : DL.cutD xs none (some (n : Int)) = xs.take n := by
  have e : HT.sIx xs.length xs.length (some (n : Int)) = min n xs.length := by
    show (if (n : Int) < 0 then ((n : Int) + (xs.length : Int)).toNat else min (n : Int).toNat xs.length) = _
    rw [if_neg (by omega)]
    simp
  unfold DL.cutD
  rw [e]
  show (xs.drop 0).take (min n xs.length - 0) = xs.take n
  rw [List.drop_zero, Nat.sub_zero, ← List.take_eq_take_min]
theorem enum_mem {ds : List D} {d : D} (h : d ∈ enum ds) : ∃ (i : Nat) (x : D), ds[i]? = some x ∧ d = .tup [.int (i : Nat), x] := by
  unfold enum at h
  obtain ⟨⟨x, i⟩, hm, rfl⟩ := List.mem_map.mp h
  exact ⟨i, x, by simpa [List.mem_zipIdx_iff_getElem?] using hm, rfl⟩
theorem enum_qd {p : List Rat} {d : D} (h : d ∈ enum (p.map qd)) : ∃ (i : Nat) (c : Rat), p[i]? = some c ∧ d = .tup [.int (i : Nat), qd c] := by
  obtain ⟨i, x, h1, rfl⟩ := enum_mem h
  rw [List.getElem?_map] at h1
  obtain ⟨c, h2, rfl⟩ := Option.map_eq_some_iff.mp h1
  exact ⟨i, c, h2, rfl⟩
/-- the places behind numbers that are not 0 -/
def hiF (d : D) : D := match d with
  | .tup [.int i, _] => .int (i + 1)
  | _ => .non
def hiG (d : D) : Bool := match d with
  | .tup [_, .tup [.int n, _]] => n != 0
  | _ => false
theorem hi_ints (p : List Rat) : ∃ ns : List Int, ((enum (p.map qd)).filter hiG).map hiF = ns.map .int ∧ (∀ n ∈ ns, ∃ k : Nat, k < p.length ∧ n = ((k + 1 : Nat) : Int) ∧ coef p k ≠ 0) ∧ ∀ k, k < p.length → coef p k ≠ 0 → ((k + 1 : Nat) : Int) ∈ ns := by
  have gq : ∀ (i : Nat) (c : Rat), hiG (.tup [.int (i : Nat), qd c]) = (c.num != 0) := fun _ _ => rfl
  refine ⟨((enum (p.map qd)).filter hiG).map fun d => match hiF d with | .int n => n | _ => 0, ?_, ?_, ?_⟩
  · rw [List.map_map]
    refine List.map_congr_left fun d hd => ?_
    obtain ⟨i, c, _, rfl⟩ := enum_qd (List.mem_filter.mp hd).1
    rfl
  · intro n hn
    obtain ⟨d, hd, rfl⟩ := List.mem_map.mp hn
    obtain ⟨hd, hg⟩ := List.mem_filter.mp hd
    obtain ⟨i, c, hi, rfl⟩ := enum_qd hd
    obtain ⟨hlt, hc⟩ := List.getElem?_eq_some_iff.mp hi
    refine ⟨i, hlt, by show ((i : Nat) : Int) + 1 = _; omega, ?_⟩
    rw [coef_lt hlt, hc]
    rw [gq] at hg
    intro z
    rw [z] at hg
    exact absurd hg (by decide)
  · intro k hk hz
    rw [coef_lt hk] at hz
    refine List.mem_map.mpr ⟨.tup [.int (k : Nat), qd p[k]], List.mem_filter.mpr ⟨?_, ?_⟩, by show ((k : Nat) : Int) + 1 = _; omega⟩
    · unfold enum
      exact List.mem_map.mpr ⟨(qd p[k], k), by simp [List.mem_zipIdx_iff_getElem?, hk], rfl⟩
    · rw [gq]
      have : p[k].num ≠ 0 := fun z => hz (Rat.num_eq_zero.mp z)
      simpa using this
theorem p_Poly___init__ (K : PySem.W.Frag) (CB R C : Addr) : ∀ ds μ Q F, s_Poly___init__ R C ds μ Q F → ds.length = 2 ∧ w_Poly___init__ K R C s_is_ratio (s_told CB) { nx := fun _ μ' => Q .non μ', rt := Q } F (dstart ["self", "numbers", "ratio", "row", "many", "k"] ds) μ := by
  rintro _ μ Q F ⟨p, x, rfl, hp, ho, q⟩
  refine ⟨rfl, ?_⟩
  simp only [w_Poly___init__, w_Poly___init___0, w_Poly___init___1, w_Poly___init___2, w_Poly___init___3, s_is_ratio, s_told, wRet, wRetN, wSeq, wNext, wIfS, wAsg, wName, wPar, wDrop, wDPut, wFor, wIRng1, wIRng2, wVar, wC, wNil, wCons, wBin, wUn, wCB, wTst, wAnd, wOr, DL.wNot, wAndV, wOrV, wNotV, wIf, wTup, wLst, wLstM, wCall, wGTup, wGCons, wGNil, wBrk, wCnt, wRaise, gI, gU, gOne , DL.gSub, gMul, gMod, gDiv, gPow, gLt, gLe, gGt, gGe, gNeg, gAbs, gMax2, gMin2, gInt2, wChain, wPar3, wSl, wNoPart, wPart, wIEnumA, wIZipA, wIRng3, wLc, wLcM, wYes, wFld, wAug, wApp, wPop, wRev, wSubG, wMet, wBinO, wUnO, dstart, List.map_cons, List.map_nil, List.length_cons, List.length_nil, List.replicate, List.cons_append, List.nil_append, List.append_nil, List.getElem?_cons_zero, List.getElem?_cons_succ, List.set_cons_zero, List.set_cons_succ, Option.some.injEq, exists_eq_left', exists_eq_left, D.int.injEq, D.bl.injEq, D.str.injEq, D.tup.injEq, D.lst.injEq, D.obj.injEq, List.cons.injEq, and_true, true_and, Nat.zero_add, Nat.reduceAdd, Nat.reduceSub, decide_eq_true_eq, Bool.not_eq_true', decide_eq_false_iff_not, exists_and_left, exists_and_right, and_assoc, Bool.true_eq_false, Bool.false_eq_true, if_true, if_false, ne_eq, wipeD]
  refine ⟨by decide, row_tl ho ⟨_, rfl, ?_⟩⟩
  rcases okRow_cases ho with ⟨vs, hv, hl, hi⟩ | ⟨h1, h2, h3⟩
  · have hs : isSq (view μ x) = true := by rcases hv with e | e <;> rw [e] <;> rfl
    rw [if_neg (by rw [hs]; decide)]
    refine iseq_row rfl hv fun Gd hG a ha => ?_
    refine cmp_map (fun v => .bl (isRV (view μ v))) ha (by omega) (fun μ' hb => hG a μ' ha hb) (fun v hv2 μ' hb R' hR => ?_) ?_
    · have hok := hi v hv2
      have e := view_beside hb ha hok
      simp only [s_is_ratio, wRet, wRetN, wSeq, wNext, wIfS, wAsg, wName, wPar, wDrop, wDPut, wFor, wISeq, wIRng1, wIRng2, wVar, wC, wNil, wCons, wBin, wUn, wCB, wTst, wAnd, wOr, DL.wNot, wAndV, wOrV, wNotV, wIf, wTup, wLst, wLstM, wCall, wGTup, wGCons, wGNil, wBrk, wCnt, wRaise, gI, gU, gOne , DL.gSub, gMul, gMod, gDiv, gPow, gLt, gLe, gGt, gGe, gNeg, gAbs, gMax2, gMin2, gInt2, wChain, wPar3, wSl, wNoPart, wPart, wIEnumA, wIZipA, wIRng3, wLc, wLcM, wYes, wFld, wAug, wApp, wPop, wRev, wSubG, wMet, wBinO, wUnO, dstart, List.map_cons, List.map_nil, List.length_cons, List.length_nil, List.replicate, List.cons_append, List.nil_append, List.append_nil, List.getElem?_cons_zero, List.getElem?_cons_succ, List.set_cons_zero, List.set_cons_succ, Option.some.injEq, exists_eq_left', exists_eq_left, D.int.injEq, D.bl.injEq, D.str.injEq, D.tup.injEq, D.lst.injEq, D.obj.injEq, List.cons.injEq, and_true, true_and, Nat.zero_add, Nat.reduceAdd, Nat.reduceSub, decide_eq_true_eq, Bool.not_eq_true', decide_eq_false_iff_not, exists_and_left, exists_and_right, and_assoc, Bool.true_eq_false, Bool.false_eq_true, if_true, if_false, ne_eq, e]
      exact ⟨hok, hR⟩
    · refine ⟨vs.map fun v => isRV (view μ v), .inl (by rw [lstOf_lst, List.map_map]; rfl), ?_⟩
      rw [rats_none]
      have er : rowV μ x = rats μ vs := by unfold rowV; rcases hv with e | e <;> rw [e]
      rw [er] at q
      cases e : rats μ vs with
      | none =>
        rw [e] at q
        exact ⟨_, rfl, q⟩
      | some r =>
        rw [e] at q
        refine ⟨_, rfl, ?_⟩
        rw [if_neg (by simp)]
        obtain ⟨g1, g2⟩ := rats_get e
        refine iseq_row rfl hv fun Gd hG b hb0 => ?_
        refine cmp_map (fun v => qd ((ratV (view μ v)).getD 0)) hb0 (by omega) (fun μ' hb => hG b μ' hb0 hb) (fun v hv2 μ' hb R' hR => ?_) ?_
        · have hok := hi v hv2
          have e2 := view_beside hb hb0 hok
          obtain ⟨c, hc⟩ := g2 v hv2
          simp only [s_told, wRet, wRetN, wSeq, wNext, wIfS, wAsg, wName, wPar, wDrop, wDPut, wFor, wISeq, wIRng1, wIRng2, wVar, wC, wNil, wCons, wBin, wUn, wCB, wTst, wAnd, wOr, DL.wNot, wAndV, wOrV, wNotV, wIf, wTup, wLst, wLstM, wCall, wGTup, wGCons, wGNil, wBrk, wCnt, wRaise, gI, gU, gOne , DL.gSub, gMul, gMod, gDiv, gPow, gLt, gLe, gGt, gGe, gNeg, gAbs, gMax2, gMin2, gInt2, wChain, wPar3, wSl, wNoPart, wPart, wIEnumA, wIZipA, wIRng3, wLc, wLcM, wYes, wFld, wAug, wApp, wPop, wRev, wSubG, wMet, wBinO, wUnO, dstart, List.map_cons, List.map_nil, List.length_cons, List.length_nil, List.replicate, List.cons_append, List.nil_append, List.append_nil, List.getElem?_cons_zero, List.getElem?_cons_succ, List.set_cons_zero, List.set_cons_succ, Option.some.injEq, exists_eq_left', exists_eq_left, D.int.injEq, D.bl.injEq, D.str.injEq, D.tup.injEq, D.lst.injEq, D.obj.injEq, List.cons.injEq, and_true, true_and, Nat.zero_add, Nat.reduceAdd, Nat.reduceSub, decide_eq_true_eq, Bool.not_eq_true', decide_eq_false_iff_not, exists_and_left, exists_and_right, and_assoc, Bool.true_eq_false, Bool.false_eq_true, if_true, if_false, ne_eq, e2, hc, onR_some]
          rw [hc] at hR
          exact ⟨hok, hR⟩
        · refine .inl ⟨r.map qd, .inl (by rw [lstOf_lst, g1]), ?_⟩
          simp only [wRet, wRetN, wSeq, wNext, wIfS, wAsg, wName, wPar, wDrop, wDPut, wFor, wISeq, wIRng1, wIRng2, wVar, wC, wNil, wCons, wBin, wUn, wCB, wTst, wAnd, wOr, DL.wNot, wAndV, wOrV, wNotV, wIf, wTup, wLst, wLstM, wCall, wGTup, wGCons, wGNil, wBrk, wCnt, wRaise, gI, gU, gOne , DL.gSub, gMul, gMod, gDiv, gPow, gLt, gLe, gGt, gGe, gNeg, gAbs, gMax2, gMin2, gInt2, wChain, wPar3, wSl, wNoPart, wPart, wIEnumA, wIZipA, wIRng3, wLc, wLcM, wYes, wFld, wAug, wApp, wPop, wRev, wSubG, wMet, wBinO, wUnO, dstart, List.map_cons, List.map_nil, List.length_cons, List.length_nil, List.replicate, List.cons_append, List.nil_append, List.append_nil, List.getElem?_cons_zero, List.getElem?_cons_succ, List.set_cons_zero, List.set_cons_succ, Option.some.injEq, exists_eq_left', exists_eq_left, D.int.injEq, D.bl.injEq, D.str.injEq, D.tup.injEq, D.lst.injEq, D.obj.injEq, List.cons.injEq, and_true, true_and, Nat.zero_add, Nat.reduceAdd, Nat.reduceSub, decide_eq_true_eq, Bool.not_eq_true', decide_eq_false_iff_not, exists_and_left, exists_and_right, and_assoc, Bool.true_eq_false, Bool.false_eq_true, if_true, if_false, ne_eq]
          refine ⟨by decide, .inl ⟨r.map qd, .inr (.inr rfl), fun c hc => ?_⟩⟩
          have hr := rats_len e
          obtain ⟨ns, n1, n2, n3⟩ := hi_ints r
          refine cmp_filt hiF hiG hc (by simp only [enum, List.length_map, List.length_zipIdx]; omega) (fun _ _ => trivial) (fun d hd μ' hb R' S' hR hS => ?_) ?_
          · obtain ⟨i, c', hi', rfl⟩ := enum_qd hd
            simp only [wRet, wRetN, wSeq, wNext, wIfS, wAsg, wName, wPar, wDrop, wDPut, wFor, wISeq, wIRng1, wIRng2, wVar, wC, wNil, wCons, wBin, wUn, wCB, wTst, wAnd, wOr, DL.wNot, wAndV, wOrV, wNotV, wIf, wTup, wLst, wLstM, wCall, wGTup, wGCons, wGNil, wBrk, wCnt, wRaise, gI, gU, gOne , DL.gSub, gMul, gMod, gDiv, gPow, gLt, gLe, gGt, gGe, gNeg, gAbs, gMax2, gMin2, gInt2, wChain, wPar3, wSl, wNoPart, wPart, wIEnumA, wIZipA, wIRng3, wLc, wLcM, wYes, wFld, wAug, wApp, wPop, wRev, wSubG, wMet, wBinO, wUnO, dstart, List.map_cons, List.map_nil, List.length_cons, List.length_nil, List.replicate, List.cons_append, List.nil_append, List.append_nil, List.getElem?_cons_zero, List.getElem?_cons_succ, List.set_cons_zero, List.set_cons_succ, Option.some.injEq, exists_eq_left', exists_eq_left, D.int.injEq, D.bl.injEq, D.str.injEq, D.tup.injEq, D.lst.injEq, D.obj.injEq, List.cons.injEq, and_true, true_and, Nat.zero_add, Nat.reduceAdd, Nat.reduceSub, decide_eq_true_eq, Bool.not_eq_true', decide_eq_false_iff_not, exists_and_left, exists_and_right, and_assoc, Bool.true_eq_false, Bool.false_eq_true, if_true, if_false, ne_eq, gIx_q0, gEq_int, gAdd_int]
            by_cases hz : c'.num = 0
            · rw [if_neg (by simp [hz])]
              have : hiG (.tup [.int (i : Nat), qd c']) = false := by show (c'.num != 0) = false; rw [hz]; rfl
              exact hS this
            · have : hiG (.tup [.int (i : Nat), qd c']) = true := by show (c'.num != 0) = true; simpa using hz
              rw [if_pos (by simpa using hz)]
              exact hR this
          · rw [n1, gAdd_lst]
            have hnl : ns.length ≤ 100000 := by
              have := congrArg List.length n1
              simp only [List.length_map] at this
              have h5 := List.length_filter_le hiG (enum (r.map qd))
              simp only [enum, List.length_map, List.length_zipIdx] at h5 this
              omega
            refine ⟨by simp only [List.length_cons, List.length_nil, List.length_map]; omega, 0 :: ns, .inl (by rw [lstOf_lst]; rfl), by simp, fun m hm hmax => ?_⟩
            obtain ⟨n, rfl⟩ : ∃ n : Nat, m = (n : Int) := by
              rcases List.mem_cons.mp hm with rfl | hm
              · exact ⟨0, rfl⟩
              · obtain ⟨k, _, e3, _⟩ := n2 m hm
                exact ⟨_, e3⟩
            simp only [wFst, wRet, wRetN, wSeq, wNext, wIfS, wAsg, wName, wPar, wDrop, wDPut, wFor, wISeq, wIRng1, wIRng2, wVar, wC, wNil, wCons, wBin, wUn, wCB, wTst, wAnd, wOr, DL.wNot, wAndV, wOrV, wNotV, wIf, wTup, wLst, wLstM, wCall, wGTup, wGCons, wGNil, wBrk, wCnt, wRaise, gI, gU, gOne , DL.gSub, gMul, gMod, gDiv, gPow, gLt, gLe, gGt, gGe, gNeg, gAbs, gMax2, gMin2, gInt2, wChain, wPar3, wSl, wNoPart, wPart, wIEnumA, wIZipA, wIRng3, wLc, wLcM, wYes, wFld, wAug, wApp, wPop, wRev, wSubG, wMet, wBinO, wUnO, dstart, List.map_cons, List.map_nil, List.length_cons, List.length_nil, List.replicate, List.cons_append, List.nil_append, List.append_nil, List.getElem?_cons_zero, List.getElem?_cons_succ, List.set_cons_zero, List.set_cons_succ, Option.some.injEq, exists_eq_left', exists_eq_left, D.int.injEq, D.bl.injEq, D.str.injEq, D.tup.injEq, D.lst.injEq, D.obj.injEq, List.cons.injEq, and_true, true_and, Nat.zero_add, Nat.reduceAdd, Nat.reduceSub, decide_eq_true_eq, Bool.not_eq_true', decide_eq_false_iff_not, exists_and_left, exists_and_right, and_assoc, Bool.true_eq_false, Bool.false_eq_true, if_true, if_false, ne_eq, gSl_tup, cutD_to]
            refine ⟨p, C, List.mem_singleton.mpr rfl, rfl, [], hp, by decide, ?_⟩
            have ht : r.take n = trim r := by
              refine trim_cut ?_ fun k hk hz => ?_
              · rcases List.mem_cons.mp hm with h0 | hm
                · exact .inl (by exact_mod_cast h0)
                · obtain ⟨k, hk, e3, hz⟩ := n2 _ hm
                  exact .inr ⟨k, hk, by exact_mod_cast e3, hz⟩
              · have := hmax _ (List.mem_cons_of_mem _ (n3 k hk hz))
                omega
            rw [← List.map_take, ht]
            exact q
  · rw [if_pos h1]
    rw [h3] at q
    exact q
def s_Poly (R C : Addr) : DF := fun ds μ Q F => ∃ x, ds = [x] ∧ okRow μ x ∧ onP (rowV μ x) (fun r => Q (po C (trim r)) μ) (F ⟨.ref R, [("row", x)]⟩ μ)
theorem view_put {p : Addr} {μ : M} {m : MO} {d : D} (hp : μ p = none) (h : ∀ a, view μ d ≠ .obj a) : view (mput μ p m) d = view μ d := by
  cases d with
  | obj a =>
    by_cases e : a = p
    · exfalso
      subst e
      exact h a (by simp only [view, hp])
    · simp only [view, mput_ne e]
  | _ => rfl
theorem okD_obj {d : D} (h : okD d) : ∀ a, d ≠ .obj a := fun a e => by rw [e] at h; cases h
theorem rats_put {p : Addr} {μ : M} {m : MO} (hp : μ p = none) : ∀ {vs : List D}, (∀ v ∈ vs, okD (view μ v)) → rats (mput μ p m) vs = rats μ vs
  | [], _ => rfl
  | v :: vs, h => by
    unfold rats
    rw [view_put hp (okD_obj (h v (List.mem_cons_self ..))), rats_put hp fun u hu => h u (List.mem_cons_of_mem _ hu)]
theorem row_put {p : Addr} {μ : M} {m : MO} {x : D} (hp : μ p = none) (h : okRow μ x) : okRow (mput μ p m) x ∧ rowV (mput μ p m) x = rowV μ x := by
  have hv : view (mput μ p m) x = view μ x := view_put hp fun a e => by
    unfold okRow at h
    rw [e] at h
    cases h
  rcases okRow_cases h with ⟨vs, hvs, hl, hi⟩ | ⟨h1, h2, h3⟩
  · have hi' : ∀ v ∈ vs, okD (view (mput μ p m) v) := fun v hv => by rw [view_put hp (okD_obj (hi v hv))]; exact hi v hv
    unfold okRow rowV
    rw [hv]
    rcases hvs with e | e <;> rw [e] <;> exact ⟨⟨hl, hi'⟩, rats_put hp hi⟩
  · refine ⟨?_, ?_⟩
    · unfold okRow at h ⊢
      rw [hv]
      cases e : view μ x with
      | lst vs => rw [e] at h1; cases h1
      | tup vs => rw [e] at h1; cases h1
      | ro vs => rw [e] at h; exact h
      | _ => rw [e] at h2; exact h2
    · unfold rowV
      rw [hv]
      cases e : view μ x with
      | lst vs => rw [e] at h1; cases h1
      | tup vs => rw [e] at h1; cases h1
      | _ => rfl
theorem n_Poly (R C : Addr) : ∀ ds μ Q F, s_Poly R C ds μ Q F → ∀ p, μ p = none → s_Poly___init__ R C (.obj p :: ds) (mput μ p (.ins C [])) (fun d μ2 => d = .non ∧ dn Q (.obj p) μ2) (dnF F) := by
  rintro _ μ Q F ⟨x, rfl, ho, q⟩ p hp
  obtain ⟨h1, h2⟩ := row_put (m := .ins C []) hp ho
  refine ⟨p, x, rfl, mput_same, h1, ?_⟩
  rw [h2]
  cases e : rowV μ x with
  | none =>
    rw [e] at q
    refine dnF_del p ?_
    rw [mdel_put' hp]
    exact dnF_i q
  | some r =>
    rw [e] at q
    refine ⟨rfl, _, _, Drp.ins mput_same, ?_⟩
    rw [mput_mput, mdel_put' hp]
    exact q
/-! ### == -/
theorem isi_own' {K : PySem.W.Frag} {μ : M} {C : Addr} {p : List Rat} {Q : DK} (h : IsiC K C) (q : Q (.bl true) μ) : gIsi K [po C p, .raw (.ref C)] μ Q := isi_own h q
theorem lk_self {k : Str} {v : D} {r : List (Str × D)} : List.lookup k ((k, v) :: r) = some v := by rw [List.lookup_cons, beq_self_eq_true]
theorem gFld_po {μ : M} {C : Addr} {Cs : List Addr} {p : List Rat} {Q : DK} (h : C ∈ Cs) : gFld Cs "numbers" (po C p) μ Q ↔ Q (td p) μ := by
  constructor
  · rintro ⟨C', hC, fs, d, h, hl, q⟩
    rcases h with h | ⟨a, h, _⟩
    · unfold po at h
      cases h
      rw [lk_self] at hl
      cases hl
      exact q
    · cases h
  · exact fun q => ⟨C, h, _, _, .inl rfl, lk_self, q⟩
theorem gFld_po1 {μ : M} {C : Addr} {p : List Rat} {Q : DK} : gFld [C] "numbers" (po C p) μ Q ↔ Q (td p) μ := gFld_po (List.mem_singleton.mpr rfl)
theorem hMet_po {μ : M} {C : Addr} {m : Str} {s : DF} {p : List Rat} {k : DF → Prop} (hm : (m == ("numbers" : Str)) = false) : hMet [(C, s)] m (po C p) μ k ↔ k s := by
  constructor
  · rintro ⟨q, hq, fs, _, _, h⟩
    rw [List.mem_singleton.mp hq] at h
    exact h
  · exact fun h => ⟨(C, s), List.mem_singleton.mpr rfl, _, .inl rfl, by rw [List.lookup_cons, hm]; rfl, h⟩
end NC

set_option maxHeartbeats 2000000
namespace NC
open PySem PySem.Spec PyProof.Rows L2 DL LL PL
/-! ### own operators on polynomials -/
theorem po_int {C : Addr} {p : List Rat} {i : Int} : (po C p = .int i) ↔ False := ⟨nofun, False.elim⟩
theorem po_str {C : Addr} {p : List Rat} {i : Str} : (po C p = .str i) ↔ False := ⟨nofun, False.elim⟩
theorem po_tup {C : Addr} {p : List Rat} {i : List D} : (po C p = .tup i) ↔ False := ⟨nofun, False.elim⟩
theorem po_lst {C : Addr} {p : List Rat} {i : List D} : (po C p = .lst i) ↔ False := ⟨nofun, False.elim⟩
theorem po_inj {C : Addr} {p q : List Rat} : po C p = po C q ↔ p = q := by
  constructor
  · intro h
    unfold po at h
    simp only [D.ins.injEq, List.cons.injEq, Prod.mk.injEq, and_true, true_and] at h
    exact td_inj.mp h
  · rintro rfl
    rfl
theorem ins_po {μ : M} {C : Addr} {p : List Rat} : ∃ fs, insOf μ C fs (po C p) := ⟨_, .inl rfl⟩
theorem no_ins_int {μ : M} {C : Addr} {fs : List (Str × D)} {i : Int} : ¬ insOf μ C fs (.int i) := by rintro (h | ⟨a, h, _⟩) <;> cases h
theorem no_ins_tup {μ : M} {C : Addr} {fs : List (Str × D)} {i : List D} : ¬ insOf μ C fs (.tup i) := by rintro (h | ⟨a, h, _⟩) <;> cases h
section
variable {C : Addr} {wa wr : DF} {p q : List Rat} {μ : M} {Q : DK} {F : FK}
theorem own_pp : gOwn C wa wr (po C p) (po C q) μ Q F ↔ wa [po C p, po C q] μ Q F := by
  constructor
  · rintro (⟨fs, _, _, h⟩ | ⟨fs, _, h, _⟩)
    · exact h
    · rcases h with ⟨i, h⟩ | ⟨i, h⟩ <;> cases h
  · exact fun h => .inl ⟨_, .inl rfl, .inl ins_po, h⟩
theorem own_pi {i : Int} : gOwn C wa wr (po C p) (.int i) μ Q F ↔ wa [po C p, .int i] μ Q F := by
  constructor
  · rintro (⟨fs, _, _, h⟩ | ⟨fs, h, _⟩)
    · exact h
    · exact absurd h no_ins_int
  · exact fun h => .inl ⟨_, .inl rfl, .inr (.inl ⟨i, rfl⟩), h⟩
theorem own_ip {i : Int} : gOwn C wa wr (.int i) (po C p) μ Q F ↔ wr [po C p, .int i] μ Q F := by
  constructor
  · rintro (⟨fs, h, _⟩ | ⟨fs, _, _, h⟩)
    · exact absurd h no_ins_int
    · exact h
  · exact fun h => .inr ⟨_, .inl rfl, .inl ⟨i, rfl⟩, h⟩
theorem own_pt {xs : List D} : gOwn C wa wr (po C p) (.tup xs) μ Q F ↔ wa [po C p, .tup xs] μ Q F := by
  constructor
  · rintro (⟨fs, _, _, h⟩ | ⟨fs, h, _⟩)
    · exact h
    · exact absurd h no_ins_tup
  · exact fun h => .inl ⟨_, .inl rfl, .inr (.inr ⟨xs, rfl⟩), h⟩
theorem own_tp {xs : List D} : gOwn C wa wr (.tup xs) (po C p) μ Q F ↔ wr [po C p, .tup xs] μ Q F := by
  constructor
  · rintro (⟨fs, h, _⟩ | ⟨fs, _, _, h⟩)
    · exact absurd h no_ins_tup
    · exact h
  · exact fun h => .inr ⟨_, .inl rfl, .inr ⟨xs, rfl⟩, h⟩
theorem own_pq {r : Rat} : gOwn C wa wr (po C p) (qd r) μ Q F ↔ wa [po C p, qd r] μ Q F := own_pt
theorem own_qp {r : Rat} : gOwn C wa wr (qd r) (po C p) μ Q F ↔ wr [po C p, qd r] μ Q F := own_tp
theorem add_po {y : D} : gAdd (po C p) y μ Q ↔ False := by
  constructor
  · rintro (⟨i, j, h, _⟩ | ⟨i, j, h, _⟩ | ⟨i, j, h, _⟩ | ⟨i, j, h, _⟩) <;> cases h
  · exact False.elim
theorem add_op {x : D} : gAdd x (po C p) μ Q ↔ False := by
  constructor
  · rintro (⟨i, j, _, h, _⟩ | ⟨i, j, _, h, _⟩ | ⟨i, j, _, h, _⟩ | ⟨i, j, _, h, _⟩) <;> cases h
  · exact False.elim
theorem eqO_pp {we : DF} : gOwnEq C we (po C p) (po C q) μ Q F ↔ we [po C p, po C q] μ Q F :=
  ⟨fun ⟨_, _, _, h⟩ => h, fun h => ⟨_, .inl rfl, .inl ins_po, h⟩⟩
theorem gEq_po {neg : Bool} {y : D} : gEq neg (po C p) y μ Q ↔ False := ⟨fun ⟨_, _, h, _⟩ => (by cases h), False.elim⟩
theorem neg_po : gNeg (po C p) μ Q ↔ False := ⟨fun ⟨_, h, _⟩ => (by cases h), False.elim⟩
theorem ownN_po {wn : DF} : gOwnN C wn (po C p) μ Q F ↔ wn [po C p] μ Q F := ⟨fun ⟨_, _, h⟩ => h, fun h => ⟨_, .inl rfl, h⟩⟩
end
def s_Poly___eq__ (C : Addr) : DF := fun ds μ Q _ => ∃ p y, ds = [po C p, y] ∧ ((∃ r, y = po C r ∧ Q (.bl (decide (p = r))) μ) ∨ ∃ t, tyN y = some t ∧ t ∈ (["int", "bool", "NoneType", "str", "tuple", "list", "dict"] : List String) ∧ Q (.bl false) μ)
theorem p_Poly___eq__ (K : PySem.W.Frag) {C : Addr} (hI : IsiC K C) : ∀ ds μ Q F, s_Poly___eq__ C ds μ Q F → ds.length = 2 ∧ w_Poly___eq__ K C { nx := fun _ μ' => Q .non μ', rt := Q } F (dstart ["self", "other"] ds) μ := by
  rintro _ μ Q F ⟨p, y, rfl, h⟩
  refine ⟨rfl, ?_⟩
  simp only [w_Poly___eq__, w_Poly___eq___0, wRet, wRetN, wSeq, wNext, wIfS, wAsg, wName, wPar, wDrop, wDPut, wFor, wISeq, wIRng1, wIRng2, wVar, wC, wNil, wCons, wBin, wUn, wCB, wTst, wAnd, wOr, DL.wNot, wAndV, wOrV, wNotV, wIf, wTup, wLst, wLstM, wCall, wGTup, wGCons, wGNil, wBrk, wCnt, wRaise, gI, gU, gOne , DL.gSub, gMul, gMod, gDiv, gPow, gLt, gLe, gGt, gGe, gNeg, gAbs, gMax2, gMin2, gInt2, wChain, wPar3, wSl, wNoPart, wPart, wIEnumA, wIZipA, wIRng3, wLc, wLcM, wYes, wFld, wAug, wApp, wPop, wRev, wSubG, wMet, wBinO, wUnO, dstart, List.map_cons, List.map_nil, List.length_cons, List.length_nil, List.replicate, List.cons_append, List.nil_append, List.append_nil, List.getElem?_cons_zero, List.getElem?_cons_succ, List.set_cons_zero, List.set_cons_succ, Option.some.injEq, exists_eq_left', exists_eq_left, D.int.injEq, D.bl.injEq, D.str.injEq, D.tup.injEq, D.lst.injEq, D.obj.injEq, List.cons.injEq, and_true, true_and, Nat.zero_add, Nat.reduceAdd, Nat.reduceSub, decide_eq_true_eq, Bool.not_eq_true', decide_eq_false_iff_not, exists_and_left, exists_and_right, and_assoc, Bool.true_eq_false, Bool.false_eq_true, if_true, if_false, ne_eq, gFld_po1]
  rcases h with ⟨r, rfl, q⟩ | ⟨t, ht, hm, q⟩
  · refine isi_own' hI ⟨_, rfl, ?_⟩
    rw [if_pos rfl, gFld_po1]
    refine eq_pl pl_td pl_td (fun e => ?_) (fun e => ?_) dp_td dp_td
    · rw [decide_eq_true (td_inj.mp e)] at q; exact q
    · rw [decide_eq_false fun z => e (td_inj.mpr z)] at q; exact q
  · exact isi_no hI ht hm ⟨_, rfl, by rw [if_neg (by decide)]; exact q⟩
def w_poly_told_0 (K : PySem.W.Frag) (a_Poly : Addr) (s_Poly : DF) : DS := (wRet (wIf (wTst (wCB (gIsi K) (wCons (wVar 0) (wCons (wC (.raw (.ref a_Poly))) wNil)))) (wVar 0) (wCall s_Poly (wCons (wTup (wCons (wVar 0) wNil)) wNil))))
def w_poly_told (K : PySem.W.Frag) (a_Poly : Addr) (s_Poly : DF) : DS := (w_poly_told_0 K a_Poly s_Poly)
def w_summed_0 (K : PySem.W.Frag) (a_Poly : Addr) (s_plus s_Poly : DF) : DS := (wAsg (wCB (gOne gMaxL) (wCons (wLst (wCons (wCB (gOne gLen) (wCons (wFld [a_Poly] "numbers" (wVar 0)) wNil)) (wCons (wCB (gOne gLen) (wCons (wFld [a_Poly] "numbers" (wVar 1)) wNil)) wNil))) wNil)) (wName 3))
def w_summed_1 (K : PySem.W.Frag) (a_Poly : Addr) (s_plus s_Poly : DF) : DS := (wAsg (wBin gAdd (wFld [a_Poly] "numbers" (wVar 0)) (wBin gRep (wTup (wCons (wTup (wCons (wC (.int 0)) (wCons (wC (.int 1)) wNil))) wNil)) (wBin gSub (wVar 3) (wCB (gOne gLen) (wCons (wFld [a_Poly] "numbers" (wVar 0)) wNil))))) (wName 4))
def w_summed_2 (K : PySem.W.Frag) (a_Poly : Addr) (s_plus s_Poly : DF) : DS := (wAsg (wBin gAdd (wFld [a_Poly] "numbers" (wVar 1)) (wBin gRep (wTup (wCons (wTup (wCons (wC (.int 0)) (wCons (wC (.int 1)) wNil))) wNil)) (wBin gSub (wVar 3) (wCB (gOne gLen) (wCons (wFld [a_Poly] "numbers" (wVar 1)) wNil))))) (wName 5))
def w_summed_3 (K : PySem.W.Frag) (a_Poly : Addr) (s_plus s_Poly : DF) : DS := (wRet (wCall s_Poly (wCons (wLc (wIZipA (wCons (wVar 4) (wCons (wVar 5) wNil))) (wGTup 2 (wGCons (wName 6) (wGCons (wName 7) wGNil))) wYes (wCall s_plus (wCons (wVar 6) (wCons (wTup (wCons (wBin gMul (wVar 2) (wBin gIx (wVar 7) (wC (.int 0)))) (wCons (wBin gIx (wVar 7) (wC (.int 1))) wNil))) wNil))) [6, 7]) wNil)))
def w_summed (K : PySem.W.Frag) (a_Poly : Addr) (s_plus s_Poly : DF) : DS := (wSeq (w_summed_0 K a_Poly s_plus s_Poly) (wSeq (w_summed_1 K a_Poly s_plus s_Poly) (wSeq (w_summed_2 K a_Poly s_plus s_Poly) (w_summed_3 K a_Poly s_plus s_Poly))))
def w_Poly___add___0 (K : PySem.W.Frag) (s_poly_told s_summed : DF) : DS := (wRet (wCall s_summed (wCons (wVar 0) (wCons (wCall s_poly_told (wCons (wVar 1) wNil)) (wCons (wC (.int 1)) wNil)))))
def w_Poly___add__ (K : PySem.W.Frag) (s_poly_told s_summed : DF) : DS := (w_Poly___add___0 K s_poly_told s_summed)
def w_Poly___radd___0 (K : PySem.W.Frag) (s_poly_told s_summed : DF) : DS := (wRet (wCall s_summed (wCons (wCall s_poly_told (wCons (wVar 1) wNil)) (wCons (wVar 0) (wCons (wC (.int 1)) wNil)))))
def w_Poly___radd__ (K : PySem.W.Frag) (s_poly_told s_summed : DF) : DS := (w_Poly___radd___0 K s_poly_told s_summed)
def w_Poly___sub___0 (K : PySem.W.Frag) (s_poly_told s_summed : DF) : DS := (wRet (wCall s_summed (wCons (wVar 0) (wCons (wCall s_poly_told (wCons (wVar 1) wNil)) (wCons (wUn gNeg (wC (.int 1))) wNil)))))
def w_Poly___sub__ (K : PySem.W.Frag) (s_poly_told s_summed : DF) : DS := (w_Poly___sub___0 K s_poly_told s_summed)
def w_Poly___rsub___0 (K : PySem.W.Frag) (s_poly_told s_summed : DF) : DS := (wRet (wCall s_summed (wCons (wCall s_poly_told (wCons (wVar 1) wNil)) (wCons (wVar 0) (wCons (wUn gNeg (wC (.int 1))) wNil)))))
def w_Poly___rsub__ (K : PySem.W.Frag) (s_poly_told s_summed : DF) : DS := (w_Poly___rsub___0 K s_poly_told s_summed)
def w_Poly___mul___0 (K : PySem.W.Frag) (s_poly_told s_multiplied : DF) : DS := (wRet (wCall s_multiplied (wCons (wVar 0) (wCons (wCall s_poly_told (wCons (wVar 1) wNil)) wNil))))
def w_Poly___mul__ (K : PySem.W.Frag) (s_poly_told s_multiplied : DF) : DS := (w_Poly___mul___0 K s_poly_told s_multiplied)
def w_Poly___rmul___0 (K : PySem.W.Frag) (s_poly_told s_multiplied : DF) : DS := (wRet (wCall s_multiplied (wCons (wCall s_poly_told (wCons (wVar 1) wNil)) (wCons (wVar 0) wNil))))
def w_Poly___rmul__ (K : PySem.W.Frag) (s_poly_told s_multiplied : DF) : DS := (w_Poly___rmul___0 K s_poly_told s_multiplied)
def w_Poly___neg___0 (K : PySem.W.Frag) (a_Poly : Addr) (s_Poly : DF) : DS := (wRet (wCall s_Poly (wCons (wLc (wISeq (wFld [a_Poly] "numbers" (wVar 0))) (wGTup 2 (wGCons (wName 1) (wGCons (wName 2) wGNil))) wYes (wTup (wCons (wUn gNeg (wVar 1)) (wCons (wVar 2) wNil))) [1, 2]) wNil)))
def w_Poly___neg__ (K : PySem.W.Frag) (a_Poly : Addr) (s_Poly : DF) : DS := (w_Poly___neg___0 K a_Poly s_Poly)
def w_added_up_0 (K : PySem.W.Frag) (s_plus : DF) : DS := (wAsg (wTup (wCons (wC (.int 0)) (wCons (wC (.int 1)) wNil))) (wName 1))
def w_added_up_1_0 (K : PySem.W.Frag) (s_plus : DF) : DS := (wAsg (wCall s_plus (wCons (wVar 1) (wCons (wVar 2) wNil))) (wName 1))
def w_added_up_1 (K : PySem.W.Frag) (s_plus : DF) : DS := (wFor (wISeq (wVar 0)) (wName 2) (w_added_up_1_0 K s_plus))
def w_added_up_2 (K : PySem.W.Frag) (s_plus : DF) : DS := (wRet (wVar 1))
def w_added_up (K : PySem.W.Frag) (s_plus : DF) : DS := (wSeq (w_added_up_0 K s_plus) (wSeq (w_added_up_1 K s_plus) (w_added_up_2 K s_plus)))
def w_power_number_0 (K : PySem.W.Frag) (a_Poly : Addr) (s_times s_added_up : DF) : DS := (wPar 3 4 (wCons (wCB (gOne gMaxL) (wCons (wLst (wCons (wC (.int 0)) (wCons (wBin gSub (wBin gAdd (wVar 2) (wC (.int 1))) (wCB (gOne gLen) (wCons (wFld [a_Poly] "numbers" (wVar 1)) wNil))) wNil))) wNil)) (wCons (wCB (gOne gMinL) (wCons (wLst (wCons (wBin gAdd (wVar 2) (wC (.int 1))) (wCons (wCB (gOne gLen) (wCons (wFld [a_Poly] "numbers" (wVar 0)) wNil)) wNil))) wNil)) wNil)))
def w_power_number_1 (K : PySem.W.Frag) (a_Poly : Addr) (s_times s_added_up : DF) : DS := (wRet (wCall s_added_up (wCons (wLc (wIRng2 (wCons (wVar 3) (wCons (wVar 4) wNil))) (wName 5) wYes (wCall s_times (wCons (wBin gIx (wFld [a_Poly] "numbers" (wVar 0)) (wVar 5)) (wCons (wBin gIx (wFld [a_Poly] "numbers" (wVar 1)) (wBin gSub (wVar 2) (wVar 5))) wNil))) [5]) wNil)))
def w_power_number (K : PySem.W.Frag) (a_Poly : Addr) (s_times s_added_up : DF) : DS := (wSeq (w_power_number_0 K a_Poly s_times s_added_up) (w_power_number_1 K a_Poly s_times s_added_up))
def w_multiplied_0 (K : PySem.W.Frag) (a_Poly : Addr) (s_power_number s_Poly : DF) : DS := (wRet (wCall s_Poly (wCons (wLc (wIRng1 (wCons (wBin gAdd (wCB (gOne gLen) (wCons (wFld [a_Poly] "numbers" (wVar 0)) wNil)) (wCB (gOne gLen) (wCons (wFld [a_Poly] "numbers" (wVar 1)) wNil))) wNil)) (wName 2) wYes (wCall s_power_number (wCons (wVar 0) (wCons (wVar 1) (wCons (wVar 2) wNil)))) [2]) wNil)))
def w_multiplied (K : PySem.W.Frag) (a_Poly : Addr) (s_power_number s_Poly : DF) : DS := (w_multiplied_0 K a_Poly s_power_number s_Poly)
def w_Poly_degree_0 (K : PySem.W.Frag) (a_Poly : Addr) : DS := (wRet (wBin gSub (wCB (gOne gLen) (wCons (wFld [a_Poly] "numbers" (wVar 0)) wNil)) (wC (.int 1))))
def w_Poly_degree (K : PySem.W.Frag) (a_Poly : Addr) : DS := (w_Poly_degree_0 K a_Poly)
def w_Poly_lead_0 (K : PySem.W.Frag) (a_Poly : Addr) : DS := (wRet (wIf (wTst (wBin gGt (wCB (gOne gLen) (wCons (wFld [a_Poly] "numbers" (wVar 0)) wNil)) (wC (.int 0)))) (wBin gIx (wFld [a_Poly] "numbers" (wVar 0)) (wUn gNeg (wC (.int 1)))) (wTup (wCons (wC (.int 0)) (wCons (wC (.int 1)) wNil)))))
def w_Poly_lead (K : PySem.W.Frag) (a_Poly : Addr) : DS := (w_Poly_lead_0 K a_Poly)
/-! ### poly_told -/
/-- x tells the polynomial p -/
def tellsP (C : Addr) (μ : M) (x : D) (p : List Rat) : Prop := x = po C p ∨ ∃ r, (∃ t, tyN x = some t ∧ t ∈ (["int", "bool", "NoneType", "str", "tuple", "list", "dict"] : List String)) ∧ okD (view μ x) ∧ ratV (view μ x) = some r ∧ p = trim [r]
def s_poly_told (R C : Addr) : DF := fun ds μ Q F => ∃ x p, ds = [x] ∧ tellsP C μ x p ∧ Q (po C p) μ
theorem view_tup {μ : M} {xs : List D} : view μ (.tup xs) = .tup xs := rfl
theorem p_poly_told (K : PySem.W.Frag) {R C : Addr} (hI : IsiC K C) : ∀ ds μ Q F, s_poly_told R C ds μ Q F → ds.length = 1 ∧ w_poly_told K C (s_Poly R C) { nx := fun _ μ' => Q .non μ', rt := Q } F (dstart ["value"] ds) μ := by
  rintro _ μ Q F ⟨x, p, rfl, h, q⟩
  refine ⟨rfl, ?_⟩
  simp only [w_poly_told, w_poly_told_0, s_Poly, wRet, wRetN, wSeq, wNext, wIfS, wAsg, wName, wPar, wDrop, wDPut, wFor, wISeq, wIRng1, wIRng2, wVar, wC, wNil, wCons, wBin, wUn, wCB, wTst, wAnd, wOr, DL.wNot, wAndV, wOrV, wNotV, wIf, wTup, wLst, wLstM, wCall, wGTup, wGCons, wGNil, wBrk, wCnt, wRaise, gI, gU, gOne , DL.gSub, gMul, gMod, gDiv, gPow, gLt, gLe, gGt, gGe, gNeg, gAbs, gMax2, gMin2, gInt2, wChain, wPar3, wSl, wNoPart, wPart, wIEnumA, wIZipA, wIRng3, wLc, wLcM, wYes, wFld, wAug, wApp, wPop, wRev, wSubG, wMet, wBinO, wUnO, dstart, List.map_cons, List.map_nil, List.length_cons, List.length_nil, List.replicate, List.cons_append, List.nil_append, List.append_nil, List.getElem?_cons_zero, List.getElem?_cons_succ, List.set_cons_zero, List.set_cons_succ, Option.some.injEq, exists_eq_left', exists_eq_left, D.int.injEq, D.bl.injEq, D.str.injEq, D.tup.injEq, D.lst.injEq, D.obj.injEq, List.cons.injEq, and_true, true_and, Nat.zero_add, Nat.reduceAdd, Nat.reduceSub, decide_eq_true_eq, Bool.not_eq_true', decide_eq_false_iff_not, exists_and_left, exists_and_right, and_assoc, Bool.true_eq_false, Bool.false_eq_true, if_true, if_false, ne_eq]
  rcases h with rfl | ⟨r, ⟨t, ht, hm⟩, ho, hr, rfl⟩
  · refine isi_own' hI ⟨_, rfl, ?_⟩
    rw [if_pos rfl]
    exact q
  · refine isi_no hI ht hm ⟨_, rfl, ?_⟩
    rw [if_neg (by decide)]
    refine ⟨by decide, ⟨by simp, fun v hv => ?_⟩, ?_⟩
    · rw [List.mem_singleton.mp hv]
      exact ho
    · unfold rowV
      simp only [view_tup, rats, hr]
      exact q
/-! ### summed -/
theorem gSl_none {α : Type} (xs : List α) : xs.length = xs.length := rfl
/-- the two rows may be added up and multiplied -/
def Pair (p r : List Rat) : Prop := p.length ≤ 400 ∧ r.length ≤ 400 ∧ ∃ N V M W : Nat, 0 < N ∧ 0 < M ∧ PB N V p ∧ PB M W r ∧ N * M * (400 * (V + 1) * (W + 1)) < 2 ^ 6000
theorem Pair.symm {p r : List Rat} (h : Pair p r) : Pair r p := by
  obtain ⟨a, b, N, V, M, W, h1, h2, h3, h4, h5⟩ := h
  refine ⟨b, a, M, W, N, V, h2, h1, h4, h3, ?_⟩
  have e : M * N * (400 * (W + 1) * (V + 1)) = N * M * (400 * (V + 1) * (W + 1)) := by
    rw [Nat.mul_comm M N, Nat.mul_right_comm 400]
  rw [e]
  exact h5
theorem nat_ge {N M V W X : Nat} (h1 : 0 < N) (h2 : 0 < M) (h : N * M * (400 * (V + 1) * (W + 1)) < X) : N * M < X ∧ N < X ∧ M < X ∧ V < X ∧ W < X ∧ V + W < X ∧ 400 * (V * W) < X ∧ V * W < X := by
  have a1 : 0 < N * M := Nat.mul_pos h1 h2
  have a2 : N ≤ N * M := Nat.le_mul_of_pos_right _ h2
  have a3 : M ≤ N * M := Nat.le_mul_of_pos_left _ h1
  have e : 400 * (V + 1) * (W + 1) = 400 * (V * W) + 400 * V + 400 * W + 400 := by grind
  have b1 : 400 * (V + 1) * (W + 1) ≤ N * M * (400 * (V + 1) * (W + 1)) := Nat.le_mul_of_pos_left _ a1
  have b2 : N * M ≤ N * M * (400 * (V + 1) * (W + 1)) := Nat.le_mul_of_pos_right _ (by rw [e]; omega)
  generalize N * M * (400 * (V + 1) * (W + 1)) = Y at *
  rw [e] at b1
  omega
theorem Pair.sz {p r : List Rat} (h : Pair p r) : (∀ k, Sz (coef p k)) ∧ (∀ k, Sz (coef r k)) ∧ (∀ k, Sz (coef p k + coef r k)) ∧ (∀ k, Sz (coef p k - coef r k)) ∧ (∀ i j, Sz (coef p i * coef r j)) ∧ ∀ (n : Nat) (f g : Nat → Nat), n ≤ 400 → Sz (sm n fun i => coef p (f i) * coef r (g i)) := by
  obtain ⟨a, b, N, V, M, W, h1, h2, h3, h4, h5⟩ := h
  obtain ⟨c1, c2, c3, c4, c5, c6, c7, c8⟩ := nat_ge h1 h2 h5
  have hp := Nat.mul_pos h1 h2
  have d1 : PB (N * M) V p := h3.mono (Nat.dvd_mul_right _ _) (Nat.le_refl _)
  have d2 : PB (N * M) W r := h4.mono (Nat.dvd_mul_left _ _) (Nat.le_refl _)
  refine ⟨fun k => (h3.coef k).sz h1 c2 c4, fun k => (h4.coef k).sz h2 c3 c5, fun k => ((d1.coef k).add (d2.coef k)).sz hp c1 c6, fun k => ((d1.coef k).sub (d2.coef k)).sz hp c1 c6, fun i j => ((h3.coef i).mul (h4.coef j)).sz hp c1 c8, fun n f g hn => ?_⟩
  refine (Bd.sm fun i _ => (h3.coef (f i)).mul (h4.coef (g i))).sz hp c1 (Nat.lt_of_le_of_lt (Nat.mul_le_mul_right _ hn) c7)
theorem mem_coef {p : List Rat} {c : Rat} (h : c ∈ p) : ∃ k, coef p k = c := by
  obtain ⟨k, hk, e⟩ := List.getElem_of_mem h
  exact ⟨k, by rw [coef_lt hk, e]⟩
def s_summed (C : Addr) : DF := fun ds μ Q F => ∃ p r s, ds = [po C p, po C r, .int s] ∧ Pair p r ∧ ((s = 1 ∧ Q (po C (padd p r)) μ) ∨ (s = -1 ∧ Q (po C (psub p r)) μ))
/-- a row filled up with zeros -/
def pad (n : Nat) (p : List Rat) : List Rat := p ++ List.replicate n 0
theorem coef_pad (n : Nat) (p : List Rat) (k : Nat) : coef (pad n p) k = coef p k := by
  unfold coef pad
  by_cases h : k < p.length
  · rw [List.getElem?_append_left h]
  · rw [List.getElem?_append_right (by omega), List.getElem?_eq_none (l := p) (by omega)]
    by_cases h2 : k - p.length < n
    · rw [List.getElem?_replicate, if_pos h2]
      rfl
    · rw [List.getElem?_replicate, if_neg h2]
theorem zero_qd : qd 0 = .tup [.int 0, .int 1] := rfl
theorem rep_qd (n : Nat) : (List.replicate n ([qd 0] : List D)).flatten = (List.replicate n (0 : Rat)).map qd := by
  induction n with
  | zero => rfl
  | succ n ih => rw [List.replicate_succ, List.replicate_succ, List.flatten_cons, List.map_cons, ih]; rfl
theorem gRep_tup {μ : M} {Q : DK} {xs : List D} {n : Int} (hne : xs ≠ []) (h1 : -(2 ^ 63) ≤ n) (h2 : n ≤ 1000) (hz : xs.length ≤ 1000) (q : Q (.tup (List.replicate n.toNat xs).flatten) μ) : gRep (.tup xs) (.int n) μ Q := ⟨n, rfl, .inr ⟨xs, rfl, hne, h1, h2, hz, q⟩⟩
theorem gRep_lst {μ : M} {Q : DK} {xs : List D} {n : Int} (h1 : -(2 ^ 63) ≤ n) (h2 : n < 2 ^ 63) (hz : xs.length * n.toNat ≤ 1000000) (q : Q (.lst (List.replicate n.toNat xs).flatten) μ) : gRep (.lst xs) (.int n) μ Q := ⟨n, rfl, .inl ⟨xs, rfl, h1, h2, hz, q⟩⟩
theorem max_two {a b : Nat} {m : Int} (h1 : m ∈ ([(a : Int), (b : Int)] : List Int)) (h2 : ∀ y, y ∈ ([(a : Int), (b : Int)] : List Int) → y ≤ m) : m = ((max a b : Nat) : Int) := by
  have ha := h2 a (by simp)
  have hb := h2 b (by simp)
  simp only [List.mem_cons, List.not_mem_nil, or_false] at h1
  omega
theorem pairs_qd (p q : List Rat) : pairs (p.map qd) (q.map qd) = (p.zip q).map fun z => .tup [qd z.1, qd z.2] := by
  unfold pairs
  rw [List.zip_map, List.map_map]
  rfl
theorem coef_zipAdd {p q : List Rat} (f : Rat → Rat → Rat) (hl : p.length = q.length) (hf : f 0 0 = 0) (k : Nat) : coef ((p.zip q).map fun z => f z.1 z.2) k = f (coef p k) (coef q k) := by
  unfold coef
  rw [List.getElem?_map]
  by_cases h : k < p.length
  · have h2 : k < q.length := by omega
    rw [List.getElem?_eq_getElem (l := p.zip q) (by simp; omega), List.getElem?_eq_getElem h, List.getElem?_eq_getElem h2]
    simp
  · rw [List.getElem?_eq_none (l := p.zip q) (by simp; omega), List.getElem?_eq_none (l := p) (by omega), List.getElem?_eq_none (l := q) (by omega)]
    exact hf.symm
theorem Sz.zero : Sz 0 := ⟨by decide, by decide⟩
theorem mem_pad {n : Nat} {p : List Rat} {c : Rat} (h : c ∈ pad n p) : c ∈ p ∨ c = 0 := by
  rcases List.mem_append.mp h with h | h
  · exact .inl h
  · exact .inr (List.mem_replicate.mp h).2
theorem pad_qd {n : Nat} {p : List Rat} : p.map qd ++ (List.replicate n ([qd 0] : List D)).flatten = (pad n p).map qd := by rw [rep_qd, ← List.map_append]; rfl
theorem neg_nd (c : Rat) : Rat.divInt (-c.num) c.den = -c := by
  rw [← Rat.neg_divInt, divInt_nd]
/-- plus and minus, number by number -/
def sgn (s : Int) (a b : Rat) : Rat := a + Rat.divInt (s * b.num) b.den
theorem sgn_one (a b : Rat) : sgn 1 a b = a + b := by unfold sgn; rw [Int.one_mul, divInt_nd]
theorem sgn_neg (a b : Rat) : sgn (-1) a b = a - b := by
  unfold sgn
  rw [show (-1 : Int) * b.num = -b.num by omega, ← Rat.neg_divInt, divInt_nd]
  grind
theorem sgn_zero {s : Int} : sgn s 0 0 = 0 := by
  unfold sgn
  simp
  grind
theorem gLen_td {p : List Rat} {μ : M} {Q : DK} : gLen (td p) μ Q ↔ Q (.int p.length) μ := by unfold td; rw [gLen_tup, List.length_map]
theorem p_summed (K : PySem.W.Frag) (CB R C : Addr) : ∀ ds μ Q F, s_summed C ds μ Q F → ds.length = 3 ∧ w_summed K C (s_two CB fun p q => qd (p + q)) (s_Poly R C) { nx := fun _ μ' => Q .non μ', rt := Q } F (dstart ["one", "other", "sign", "wide", "first", "second", "a", "b"] ds) μ := by
  rintro _ μ Q F ⟨p, r, s, rfl, hp, q⟩
  refine ⟨rfl, ?_⟩
  obtain ⟨z1, z2, z3, z4, _, _⟩ := hp.sz
  simp only [w_summed, w_summed_0, w_summed_1, w_summed_2, w_summed_3, s_Poly, wRet, wRetN, wSeq, wNext, wIfS, wAsg, wName, wPar, wDrop, wDPut, wFor, wISeq, wIRng1, wIRng2, wVar, wC, wNil, wCons, wBin, wUn, wCB, wTst, wAnd, wOr, DL.wNot, wAndV, wOrV, wNotV, wIf, wTup, wLst, wLstM, wCall, wGTup, wGCons, wGNil, wBrk, wCnt, wRaise, gI, gU, gOne , DL.gSub, gMul, gMod, gDiv, gPow, gLt, gLe, gGt, gGe, gNeg, gAbs, gMax2, gMin2, gInt2, wChain, wPar3, wSl, wNoPart, wPart, wIEnumA, wIZipA, wIRng3, wLc, wLcM, wYes, wFld, wAug, wApp, wPop, wRev, wSubG, wMet, wBinO, wUnO, dstart, List.map_cons, List.map_nil, List.length_cons, List.length_nil, List.replicate, List.cons_append, List.nil_append, List.append_nil, List.getElem?_cons_zero, List.getElem?_cons_succ, List.set_cons_zero, List.set_cons_succ, Option.some.injEq, exists_eq_left', exists_eq_left, D.int.injEq, D.bl.injEq, D.str.injEq, D.tup.injEq, D.lst.injEq, D.obj.injEq, List.cons.injEq, and_true, true_and, Nat.zero_add, Nat.reduceAdd, Nat.reduceSub, decide_eq_true_eq, Bool.not_eq_true', decide_eq_false_iff_not, exists_and_left, exists_and_right, and_assoc, Bool.true_eq_false, Bool.false_eq_true, if_true, if_false, ne_eq, gFld_po1]
  have l1 := hp.1
  have l2 := hp.2.1
  rw [gLen_td, gLen_td]
  refine ⟨by decide, [p.length, r.length], .inl rfl, by simp, fun m h1 h2 => ?_⟩
  obtain rfl := max_two h1 h2
  refine ⟨by decide, by decide, ?_⟩
  rw [gLen_td]
  refine ⟨_, rfl, _, rfl, gRep_tup (by simp) (by omega) (by omega) (by decide) ?_⟩
  unfold td
  refine gAdd_tup.mpr ⟨?_, ?_⟩
  · rw [← zero_qd, rep_qd, List.length_map, List.length_map, List.length_replicate]
    omega
  refine ⟨by decide, by decide, ?_⟩
  rw [gLen_tup, List.length_map]
  refine ⟨_, rfl, _, rfl, gRep_tup (by simp) (by omega) (by omega) (by decide) ?_⟩
  refine gAdd_tup.mpr ⟨?_, ?_⟩
  · rw [← zero_qd, rep_qd, List.length_map, List.length_map, List.length_replicate]
    omega
  rw [← zero_qd, pad_qd, pad_qd]
  refine ⟨_, _, .inr ⟨rfl, rfl⟩, fun a ha => ?_⟩
  rw [pairs_qd]
  have e1 : (((max p.length r.length : Nat) : Int) - (p.length : Int)).toNat = max p.length r.length - p.length := by omega
  have e2 : (((max p.length r.length : Nat) : Int) - (r.length : Int)).toNat = max p.length r.length - r.length := by omega
  rw [e1, e2]
  have hpl : (pad (max p.length r.length - p.length) p).length = max p.length r.length := by simp only [pad, List.length_append, List.length_replicate]; omega
  have hrl : (pad (max p.length r.length - r.length) r).length = max p.length r.length := by simp only [pad, List.length_append, List.length_replicate]; omega
  have hps : ∀ k, Sz (coef (pad (max p.length r.length - p.length) p) k) := fun k => by rw [coef_pad]; exact z1 k
  have hrs : ∀ k, Sz (coef (pad (max p.length r.length - r.length) r) k) := fun k => by rw [coef_pad]; exact z2 k
  have cp : ∀ k, coef (pad (max p.length r.length - p.length) p) k = coef p k := coef_pad _ _
  have cr : ∀ k, coef (pad (max p.length r.length - r.length) r) k = coef r k := coef_pad _ _
  generalize pad (max p.length r.length - p.length) p = p' at *
  generalize pad (max p.length r.length - r.length) r = r' at *
  have hs : s = 1 ∨ s = -1 := q.elim (fun h => .inl h.1) fun h => .inr h.1
  refine cmp_map (fun d => match d with | .tup [.tup [.int n, .int d], .tup [.int m, .int e]] => qd (sgn s (Rat.divInt n d) (Rat.divInt m e)) | _ => .non) ha (by simp only [List.length_map, List.length_zip]; omega) (fun _ _ => trivial) (fun d hd μ' hb R' hR => ?_) ?_
  · obtain ⟨⟨a, b⟩, hm, rfl⟩ := List.mem_map.mp hd
    have hsa : Sz a := by
      obtain ⟨k, rfl⟩ := mem_coef (List.of_mem_zip hm).1
      exact hps k
    have hsb : Sz b := by
      obtain ⟨k, rfl⟩ := mem_coef (List.of_mem_zip hm).2
      exact hrs k
    simp only [wipeD, wRet, wRetN, wSeq, wNext, wIfS, wAsg, wName, wPar, wDrop, wDPut, wFor, wISeq, wIRng1, wIRng2, wVar, wC, wNil, wCons, wBin, wUn, wCB, wTst, wAnd, wOr, DL.wNot, wAndV, wOrV, wNotV, wIf, wTup, wLst, wLstM, wCall, wGTup, wGCons, wGNil, wBrk, wCnt, wRaise, gI, gU, gOne , DL.gSub, gMul, gMod, gDiv, gPow, gLt, gLe, gGt, gGe, gNeg, gAbs, gMax2, gMin2, gInt2, wChain, wPar3, wSl, wNoPart, wPart, wIEnumA, wIZipA, wIRng3, wLc, wLcM, wYes, wFld, wAug, wApp, wPop, wRev, wSubG, wMet, wBinO, wUnO, dstart, List.map_cons, List.map_nil, List.length_cons, List.length_nil, List.replicate, List.cons_append, List.nil_append, List.append_nil, List.getElem?_cons_zero, List.getElem?_cons_succ, List.set_cons_zero, List.set_cons_succ, Option.some.injEq, exists_eq_left', exists_eq_left, D.int.injEq, D.bl.injEq, D.str.injEq, D.tup.injEq, D.lst.injEq, D.obj.injEq, List.cons.injEq, and_true, true_and, Nat.zero_add, Nat.reduceAdd, Nat.reduceSub, decide_eq_true_eq, Bool.not_eq_true', decide_eq_false_iff_not, exists_and_left, exists_and_right, and_assoc, Bool.true_eq_false, Bool.false_eq_true, if_true, if_false, ne_eq, gIx_q0, gIx_q1, s_two, view_qd, ratV_qd, onR_some]
    have hR' : R' (qd (sgn s a b)) μ' := by
      have := hR
      simp only [qd, divInt_nd] at this
      exact this
    have hb2 : Sz (Rat.divInt (s * b.num) b.den) := by
      rcases hs with rfl | rfl
      · rw [Int.one_mul, divInt_nd]; exact hsb
      · rw [show (-1 : Int) * b.num = -b.num by omega, neg_nd]; exact hsb.neg
    have hsn : (s * b.num).natAbs < 2 ^ 12000 := by
      rcases hs with rfl | rfl
      · rw [Int.one_mul]; exact hsb.1
      · rw [show (-1 : Int) * b.num = -b.num by omega, Int.natAbs_neg]; exact hsb.1
    refine ⟨mul_w (a := 1) (by rcases hs with rfl | rfl <;> decide) hsb.1, by decide, okD_qd hsa, ?_⟩
    have hv : ratV (.tup [.int (s * b.num), .int b.den]) = some (Rat.divInt (s * b.num) b.den) := by
      show (if (0 : Int) < (b.den : Int) then _ else _) = _
      rw [if_pos (by have := den_pos b; omega)]
    refine ⟨⟨rfl, rfl, fun e he => by cases he; exact up (show ((b.den : Nat) : Int).natAbs < 2 ^ 12000 from hsb.2)⟩, ?_⟩
    rw [view_tup, hv]
    exact ⟨hsa, hb2, hR'⟩
  · rw [List.map_map]
    have e : (List.map ((fun d => match d with | .tup [.tup [.int n, .int d], .tup [.int m, .int e]] => qd (sgn s (Rat.divInt n d) (Rat.divInt m e)) | _ => D.non) ∘ fun z => D.tup [qd z.1, qd z.2]) (p'.zip r')) = ((p'.zip r').map fun z => sgn s z.1 z.2).map qd := by
      rw [List.map_map]
      refine List.map_congr_left fun z _ => ?_
      simp only [Function.comp, qd, divInt_nd]
    rw [e]
    have hc : ∀ k, coef ((p'.zip r').map fun z => sgn s z.1 z.2) k = sgn s (coef p k) (coef r k) := fun k => by
      rw [coef_zipAdd (sgn s) (by omega) sgn_zero, cp, cr]
    have hz : ∀ c ∈ (p'.zip r').map (fun z => sgn s z.1 z.2), Sz c := fun c h => by
      obtain ⟨k, rfl⟩ := mem_coef h
      rw [hc]
      rcases hs with rfl | rfl
      · rw [sgn_one]; exact z3 k
      · rw [sgn_neg]; exact z4 k
    have hl : ((p'.zip r').map fun z => sgn s z.1 z.2).length ≤ 100000 := by simp only [List.length_map, List.length_zip]; omega
    refine ⟨okRow_ld hz hl, ?_⟩
    rw [show D.lst (((p'.zip r').map fun z => sgn s z.1 z.2).map qd) = ld ((p'.zip r').map fun z => sgn s z.1 z.2) from rfl, rowV_ld]
    show Q (po C (trim _)) μ
    rcases q with ⟨rfl, q⟩ | ⟨rfl, q⟩
    · have : trim ((p'.zip r').map fun z => sgn 1 z.1 z.2) = padd p r := canon_ext (trim_canon _) (canon_padd _ _) fun k => by rw [coef_trim, hc, sgn_one, coef_padd]
      rw [this]
      exact q
    · have : trim ((p'.zip r').map fun z => sgn (-1) z.1 z.2) = psub p r := canon_ext (trim_canon _) (canon_psub _ _) fun k => by rw [coef_trim, hc, sgn_neg, coef_psub]
      rw [this]
      exact q
/-! ### + and - -/
def s_bin (C : Addr) (g : List Rat → List Rat → List Rat) : DF := fun ds μ Q _ => ∃ p x r, ds = [po C p, x] ∧ tellsP C μ x r ∧ Pair p r ∧ Q (po C (g p r)) μ
theorem p_Poly___add__ (K : PySem.W.Frag) (R C : Addr) : ∀ ds μ Q F, s_bin C padd ds μ Q F → ds.length = 2 ∧ w_Poly___add__ K (s_poly_told R C) (s_summed C) { nx := fun _ μ' => Q .non μ', rt := Q } F (dstart ["self", "other"] ds) μ := by
  rintro _ μ Q F ⟨p, x, r, rfl, h, hp, q⟩
  refine ⟨rfl, ?_⟩
  simp only [w_Poly___add__, w_Poly___add___0, s_poly_told, s_summed, wRet, wRetN, wSeq, wNext, wIfS, wAsg, wName, wPar, wDrop, wDPut, wFor, wISeq, wIRng1, wIRng2, wVar, wC, wNil, wCons, wBin, wUn, wCB, wTst, wAnd, wOr, DL.wNot, wAndV, wOrV, wNotV, wIf, wTup, wLst, wLstM, wCall, wGTup, wGCons, wGNil, wBrk, wCnt, wRaise, gI, gU, gOne , DL.gSub, gMul, gMod, gDiv, gPow, gLt, gLe, gGt, gGe, gNeg, gAbs, gMax2, gMin2, gInt2, wChain, wPar3, wSl, wNoPart, wPart, wIEnumA, wIZipA, wIRng3, wLc, wLcM, wYes, wFld, wAug, wApp, wPop, wRev, wSubG, wMet, wBinO, wUnO, dstart, List.map_cons, List.map_nil, List.length_cons, List.length_nil, List.replicate, List.cons_append, List.nil_append, List.append_nil, List.getElem?_cons_zero, List.getElem?_cons_succ, List.set_cons_zero, List.set_cons_succ, Option.some.injEq, exists_eq_left', exists_eq_left, D.int.injEq, D.bl.injEq, D.str.injEq, D.tup.injEq, D.lst.injEq, D.obj.injEq, List.cons.injEq, and_true, true_and, Nat.zero_add, Nat.reduceAdd, Nat.reduceSub, decide_eq_true_eq, Bool.not_eq_true', decide_eq_false_iff_not, exists_and_left, exists_and_right, and_assoc, Bool.true_eq_false, Bool.false_eq_true, if_true, if_false, ne_eq]
  exact ⟨r, h, p, rfl, r, rfl, hp, .inl q⟩
theorem p_Poly___radd__ (K : PySem.W.Frag) (R C : Addr) : ∀ ds μ Q F, s_bin C (fun p r => padd r p) ds μ Q F → ds.length = 2 ∧ w_Poly___radd__ K (s_poly_told R C) (s_summed C) { nx := fun _ μ' => Q .non μ', rt := Q } F (dstart ["self", "other"] ds) μ := by
  rintro _ μ Q F ⟨p, x, r, rfl, h, hp, q⟩
  refine ⟨rfl, ?_⟩
  simp only [w_Poly___radd__, w_Poly___radd___0, s_poly_told, s_summed, wRet, wRetN, wSeq, wNext, wIfS, wAsg, wName, wPar, wDrop, wDPut, wFor, wISeq, wIRng1, wIRng2, wVar, wC, wNil, wCons, wBin, wUn, wCB, wTst, wAnd, wOr, DL.wNot, wAndV, wOrV, wNotV, wIf, wTup, wLst, wLstM, wCall, wGTup, wGCons, wGNil, wBrk, wCnt, wRaise, gI, gU, gOne , DL.gSub, gMul, gMod, gDiv, gPow, gLt, gLe, gGt, gGe, gNeg, gAbs, gMax2, gMin2, gInt2, wChain, wPar3, wSl, wNoPart, wPart, wIEnumA, wIZipA, wIRng3, wLc, wLcM, wYes, wFld, wAug, wApp, wPop, wRev, wSubG, wMet, wBinO, wUnO, dstart, List.map_cons, List.map_nil, List.length_cons, List.length_nil, List.replicate, List.cons_append, List.nil_append, List.append_nil, List.getElem?_cons_zero, List.getElem?_cons_succ, List.set_cons_zero, List.set_cons_succ, Option.some.injEq, exists_eq_left', exists_eq_left, D.int.injEq, D.bl.injEq, D.str.injEq, D.tup.injEq, D.lst.injEq, D.obj.injEq, List.cons.injEq, and_true, true_and, Nat.zero_add, Nat.reduceAdd, Nat.reduceSub, decide_eq_true_eq, Bool.not_eq_true', decide_eq_false_iff_not, exists_and_left, exists_and_right, and_assoc, Bool.true_eq_false, Bool.false_eq_true, if_true, if_false, ne_eq]
  exact ⟨r, h, r, rfl, p, rfl, hp.symm, .inl q⟩
theorem p_Poly___sub__ (K : PySem.W.Frag) (R C : Addr) : ∀ ds μ Q F, s_bin C psub ds μ Q F → ds.length = 2 ∧ w_Poly___sub__ K (s_poly_told R C) (s_summed C) { nx := fun _ μ' => Q .non μ', rt := Q } F (dstart ["self", "other"] ds) μ := by
  rintro _ μ Q F ⟨p, x, r, rfl, h, hp, q⟩
  refine ⟨rfl, ?_⟩
  simp only [w_Poly___sub__, w_Poly___sub___0, s_poly_told, s_summed, wRet, wRetN, wSeq, wNext, wIfS, wAsg, wName, wPar, wDrop, wDPut, wFor, wISeq, wIRng1, wIRng2, wVar, wC, wNil, wCons, wBin, wUn, wCB, wTst, wAnd, wOr, DL.wNot, wAndV, wOrV, wNotV, wIf, wTup, wLst, wLstM, wCall, wGTup, wGCons, wGNil, wBrk, wCnt, wRaise, gI, gU, gOne , DL.gSub, gMul, gMod, gDiv, gPow, gLt, gLe, gGt, gGe, gNeg, gAbs, gMax2, gMin2, gInt2, wChain, wPar3, wSl, wNoPart, wPart, wIEnumA, wIZipA, wIRng3, wLc, wLcM, wYes, wFld, wAug, wApp, wPop, wRev, wSubG, wMet, wBinO, wUnO, dstart, List.map_cons, List.map_nil, List.length_cons, List.length_nil, List.replicate, List.cons_append, List.nil_append, List.append_nil, List.getElem?_cons_zero, List.getElem?_cons_succ, List.set_cons_zero, List.set_cons_succ, Option.some.injEq, exists_eq_left', exists_eq_left, D.int.injEq, D.bl.injEq, D.str.injEq, D.tup.injEq, D.lst.injEq, D.obj.injEq, List.cons.injEq, and_true, true_and, Nat.zero_add, Nat.reduceAdd, Nat.reduceSub, decide_eq_true_eq, Bool.not_eq_true', decide_eq_false_iff_not, exists_and_left, exists_and_right, and_assoc, Bool.true_eq_false, Bool.false_eq_true, if_true, if_false, ne_eq]
  exact ⟨r, h, p, rfl, r, rfl, hp, .inr q⟩
theorem p_Poly___rsub__ (K : PySem.W.Frag) (R C : Addr) : ∀ ds μ Q F, s_bin C (fun p r => psub r p) ds μ Q F → ds.length = 2 ∧ w_Poly___rsub__ K (s_poly_told R C) (s_summed C) { nx := fun _ μ' => Q .non μ', rt := Q } F (dstart ["self", "other"] ds) μ := by
  rintro _ μ Q F ⟨p, x, r, rfl, h, hp, q⟩
  refine ⟨rfl, ?_⟩
  simp only [w_Poly___rsub__, w_Poly___rsub___0, s_poly_told, s_summed, wRet, wRetN, wSeq, wNext, wIfS, wAsg, wName, wPar, wDrop, wDPut, wFor, wISeq, wIRng1, wIRng2, wVar, wC, wNil, wCons, wBin, wUn, wCB, wTst, wAnd, wOr, DL.wNot, wAndV, wOrV, wNotV, wIf, wTup, wLst, wLstM, wCall, wGTup, wGCons, wGNil, wBrk, wCnt, wRaise, gI, gU, gOne , DL.gSub, gMul, gMod, gDiv, gPow, gLt, gLe, gGt, gGe, gNeg, gAbs, gMax2, gMin2, gInt2, wChain, wPar3, wSl, wNoPart, wPart, wIEnumA, wIZipA, wIRng3, wLc, wLcM, wYes, wFld, wAug, wApp, wPop, wRev, wSubG, wMet, wBinO, wUnO, dstart, List.map_cons, List.map_nil, List.length_cons, List.length_nil, List.replicate, List.cons_append, List.nil_append, List.append_nil, List.getElem?_cons_zero, List.getElem?_cons_succ, List.set_cons_zero, List.set_cons_succ, Option.some.injEq, exists_eq_left', exists_eq_left, D.int.injEq, D.bl.injEq, D.str.injEq, D.tup.injEq, D.lst.injEq, D.obj.injEq, List.cons.injEq, and_true, true_and, Nat.zero_add, Nat.reduceAdd, Nat.reduceSub, decide_eq_true_eq, Bool.not_eq_true', decide_eq_false_iff_not, exists_and_left, exists_and_right, and_assoc, Bool.true_eq_false, Bool.false_eq_true, if_true, if_false, ne_eq]
  exact ⟨r, h, r, rfl, p, rfl, hp.symm, .inr q⟩
/-! ### the opposite -/
theorem comp_qd {f : D → D} {g : Rat → Rat} (h : ∀ c, f (qd c) = qd (g c)) (p : List Rat) : (p.map qd).map f = (p.map g).map qd := by
  rw [List.map_map, List.map_map]
  exact List.map_congr_left fun c _ => h c
theorem coef_mapf {g : Rat → Rat} (h : g 0 = 0) (p : List Rat) (k : Nat) : coef (p.map g) k = g (coef p k) := by
  unfold coef
  rw [List.getElem?_map]
  cases p[k]? with
  | none => exact h.symm
  | some c => rfl
def s_Poly___neg__ (C : Addr) : DF := fun ds μ Q _ => ∃ p, ds = [po C p] ∧ p.length ≤ 1000 ∧ (∀ c ∈ p, Sz c) ∧ Q (po C (pscale (-1) p)) μ
theorem p_Poly___neg__ (K : PySem.W.Frag) (R C : Addr) : ∀ ds μ Q F, s_Poly___neg__ C ds μ Q F → ds.length = 1 ∧ w_Poly___neg__ K C (s_Poly R C) { nx := fun _ μ' => Q .non μ', rt := Q } F (dstart ["self", "top", "bottom"] ds) μ := by
  rintro _ μ Q F ⟨p, rfl, hl, hz, q⟩
  refine ⟨rfl, ?_⟩
  simp only [w_Poly___neg__, w_Poly___neg___0, s_Poly, wRet, wRetN, wSeq, wNext, wIfS, wAsg, wName, wPar, wDrop, wDPut, wFor, wISeq, wIRng1, wIRng2, wVar, wC, wNil, wCons, wBin, wUn, wCB, wTst, wAnd, wOr, DL.wNot, wAndV, wOrV, wNotV, wIf, wTup, wLst, wLstM, wCall, wGTup, wGCons, wGNil, wBrk, wCnt, wRaise, gI, gU, gOne , DL.gSub, gMul, gMod, gDiv, gPow, gLt, gLe, gGt, gGe, gNeg, gAbs, gMax2, gMin2, gInt2, wChain, wPar3, wSl, wNoPart, wPart, wIEnumA, wIZipA, wIRng3, wLc, wLcM, wYes, wFld, wAug, wApp, wPop, wRev, wSubG, wMet, wBinO, wUnO, dstart, List.map_cons, List.map_nil, List.length_cons, List.length_nil, List.replicate, List.cons_append, List.nil_append, List.append_nil, List.getElem?_cons_zero, List.getElem?_cons_succ, List.set_cons_zero, List.set_cons_succ, Option.some.injEq, exists_eq_left', exists_eq_left, D.int.injEq, D.bl.injEq, D.str.injEq, D.tup.injEq, D.lst.injEq, D.obj.injEq, List.cons.injEq, and_true, true_and, Nat.zero_add, Nat.reduceAdd, Nat.reduceSub, decide_eq_true_eq, Bool.not_eq_true', decide_eq_false_iff_not, exists_and_left, exists_and_right, and_assoc, Bool.true_eq_false, Bool.false_eq_true, if_true, if_false, ne_eq, gFld_po1]
  refine .inl ⟨p.map qd, .inr (.inr rfl), fun a ha => ?_⟩
  refine cmp_map (fun d => match d with | .tup [.int n, d] => .tup [.int (-n), d] | _ => .non) ha (by simp only [List.length_map]; omega) (fun _ _ => trivial) (fun d hd μ' hb R' hR => ?_) ?_
  · obtain ⟨c, hc, rfl⟩ := List.mem_map.mp hd
    simp only [wipeD, qd, wRet, wRetN, wSeq, wNext, wIfS, wAsg, wName, wPar, wDrop, wDPut, wFor, wISeq, wIRng1, wIRng2, wVar, wC, wNil, wCons, wBin, wUn, wCB, wTst, wAnd, wOr, DL.wNot, wAndV, wOrV, wNotV, wIf, wTup, wLst, wLstM, wCall, wGTup, wGCons, wGNil, wBrk, wCnt, wRaise, gI, gU, gOne , DL.gSub, gMul, gMod, gDiv, gPow, gLt, gLe, gGt, gGe, gNeg, gAbs, gMax2, gMin2, gInt2, wChain, wPar3, wSl, wNoPart, wPart, wIEnumA, wIZipA, wIRng3, wLc, wLcM, wYes, wFld, wAug, wApp, wPop, wRev, wSubG, wMet, wBinO, wUnO, dstart, List.map_cons, List.map_nil, List.length_cons, List.length_nil, List.replicate, List.cons_append, List.nil_append, List.append_nil, List.getElem?_cons_zero, List.getElem?_cons_succ, List.set_cons_zero, List.set_cons_succ, Option.some.injEq, exists_eq_left', exists_eq_left, D.int.injEq, D.bl.injEq, D.str.injEq, D.tup.injEq, D.lst.injEq, D.obj.injEq, List.cons.injEq, and_true, true_and, Nat.zero_add, Nat.reduceAdd, Nat.reduceSub, decide_eq_true_eq, Bool.not_eq_true', decide_eq_false_iff_not, exists_and_left, exists_and_right, and_assoc, Bool.true_eq_false, Bool.false_eq_true, if_true, if_false, ne_eq]
    exact ⟨by decide, hR⟩
  · rw [comp_qd (g := fun c => -c) fun c => by show D.tup [.int (-c.num), .int c.den] = qd (-c); unfold qd; simp]
    refine ⟨okRow_ld (fun c hc => ?_) (by simpa using by omega), ?_⟩
    · obtain ⟨b, hb, rfl⟩ := List.mem_map.mp hc
      exact (hz b hb).neg
    · rw [show D.lst ((p.map fun c => -c).map qd) = ld (p.map fun c => -c) from rfl, rowV_ld]
      show Q (po C (trim _)) μ
      have : trim (p.map fun c => -c) = pscale (-1) p := canon_ext (trim_canon _) (canon_pscale _ _) fun k => by
        rw [coef_trim, coef_mapf (by grind), coef_pscale]
        grind
      rw [this]
      exact q
/-! ### products -/
def s_added_up : DF := fun ds μ Q _ => ∃ rs : List Rat, ds = [ld rs] ∧ (∀ c ∈ rs, Sz c) ∧ (∀ i, i ≤ rs.length → Sz (sm i (coef rs))) ∧ Q (qd (sm rs.length (coef rs))) μ
theorem p_added_up (K : PySem.W.Frag) (CB : Addr) : ∀ ds μ Q F, s_added_up ds μ Q F → ds.length = 1 ∧ w_added_up K (s_two CB fun p q => qd (p + q)) { nx := fun _ μ' => Q .non μ', rt := Q } F (dstart ["ratios", "found", "ratio"] ds) μ := by
  rintro _ μ Q F ⟨rs, rfl, hz, hs, q⟩
  refine ⟨rfl, ?_⟩
  simp only [w_added_up, w_added_up_0, w_added_up_1_0, w_added_up_1, w_added_up_2, s_two, wRet, wRetN, wSeq, wNext, wIfS, wAsg, wName, wPar, wDrop, wDPut, wFor, wISeq, wIRng1, wIRng2, wVar, wC, wNil, wCons, wBin, wUn, wCB, wTst, wAnd, wOr, DL.wNot, wAndV, wOrV, wNotV, wIf, wTup, wLst, wLstM, wCall, wGTup, wGCons, wGNil, wBrk, wCnt, wRaise, gI, gU, gOne , DL.gSub, gMul, gMod, gDiv, gPow, gLt, gLe, gGt, gGe, gNeg, gAbs, gMax2, gMin2, gInt2, wChain, wPar3, wSl, wNoPart, wPart, wIEnumA, wIZipA, wIRng3, wLc, wLcM, wYes, wFld, wAug, wApp, wPop, wRev, wSubG, wMet, wBinO, wUnO, dstart, List.map_cons, List.map_nil, List.length_cons, List.length_nil, List.replicate, List.cons_append, List.nil_append, List.append_nil, List.getElem?_cons_zero, List.getElem?_cons_succ, List.set_cons_zero, List.set_cons_succ, Option.some.injEq, exists_eq_left', exists_eq_left, D.int.injEq, D.bl.injEq, D.str.injEq, D.tup.injEq, D.lst.injEq, D.obj.injEq, List.cons.injEq, and_true, true_and, Nat.zero_add, Nat.reduceAdd, Nat.reduceSub, decide_eq_true_eq, Bool.not_eq_true', decide_eq_false_iff_not, exists_and_left, exists_and_right, and_assoc, Bool.true_eq_false, Bool.false_eq_true, if_true, if_false, ne_eq]
  refine ⟨by decide, .inl ⟨rs.map qd, .inl rfl, ?_⟩⟩
  refine loop_inv _ (fun i δ μ' => μ' = μ ∧ ∃ d, δ = [some (ld rs), some (qd (sm i (coef rs))), d]) ⟨rfl, _, rfl⟩ (fun _ _ _ _ => trivial) ?_ ?_
  · rintro i d hd δ _ ⟨rfl, d0, rfl⟩ R' hR
    rw [List.getElem?_map] at hd
    obtain ⟨c, hc, rfl⟩ := Option.map_eq_some_iff.mp hd
    have hi : i < rs.length := (List.getElem?_eq_some_iff.mp hc).1
    have hcc : coef rs i = c := by unfold coef; rw [hc]; rfl
    simp only [wRet, wRetN, wSeq, wNext, wIfS, wAsg, wName, wPar, wDrop, wDPut, wFor, wISeq, wIRng1, wIRng2, wVar, wC, wNil, wCons, wBin, wUn, wCB, wTst, wAnd, wOr, DL.wNot, wAndV, wOrV, wNotV, wIf, wTup, wLst, wLstM, wCall, wGTup, wGCons, wGNil, wBrk, wCnt, wRaise, gI, gU, gOne , DL.gSub, gMul, gMod, gDiv, gPow, gLt, gLe, gGt, gGe, gNeg, gAbs, gMax2, gMin2, gInt2, wChain, wPar3, wSl, wNoPart, wPart, wIEnumA, wIZipA, wIRng3, wLc, wLcM, wYes, wFld, wAug, wApp, wPop, wRev, wSubG, wMet, wBinO, wUnO, dstart, List.map_cons, List.map_nil, List.length_cons, List.length_nil, List.replicate, List.cons_append, List.nil_append, List.append_nil, List.getElem?_cons_zero, List.getElem?_cons_succ, List.set_cons_zero, List.set_cons_succ, Option.some.injEq, exists_eq_left', exists_eq_left, D.int.injEq, D.bl.injEq, D.str.injEq, D.tup.injEq, D.lst.injEq, D.obj.injEq, List.cons.injEq, and_true, true_and, Nat.zero_add, Nat.reduceAdd, Nat.reduceSub, decide_eq_true_eq, Bool.not_eq_true', decide_eq_false_iff_not, exists_and_left, exists_and_right, and_assoc, Bool.true_eq_false, Bool.false_eq_true, if_true, if_false, ne_eq, s_two, view_qd, ratV_qd, onR_some]
    have hzc := hz c (List.mem_of_getElem? hc)
    refine ⟨okD_qd (hs i (by omega)), okD_qd hzc, hs i (by omega), hzc, hR _ _ ⟨rfl, some (qd c), ?_⟩⟩
    simp only [sm, hcc]
  · rintro δ _ ⟨rfl, d0, rfl⟩
    simp only [wRet, wRetN, wSeq, wNext, wIfS, wAsg, wName, wPar, wDrop, wDPut, wFor, wISeq, wIRng1, wIRng2, wVar, wC, wNil, wCons, wBin, wUn, wCB, wTst, wAnd, wOr, DL.wNot, wAndV, wOrV, wNotV, wIf, wTup, wLst, wLstM, wCall, wGTup, wGCons, wGNil, wBrk, wCnt, wRaise, gI, gU, gOne , DL.gSub, gMul, gMod, gDiv, gPow, gLt, gLe, gGt, gGe, gNeg, gAbs, gMax2, gMin2, gInt2, wChain, wPar3, wSl, wNoPart, wPart, wIEnumA, wIZipA, wIRng3, wLc, wLcM, wYes, wFld, wAug, wApp, wPop, wRev, wSubG, wMet, wBinO, wUnO, dstart, List.map_cons, List.map_nil, List.length_cons, List.length_nil, List.replicate, List.cons_append, List.nil_append, List.append_nil, List.getElem?_cons_zero, List.getElem?_cons_succ, List.set_cons_zero, List.set_cons_succ, Option.some.injEq, exists_eq_left', exists_eq_left, D.int.injEq, D.bl.injEq, D.str.injEq, D.tup.injEq, D.lst.injEq, D.obj.injEq, List.cons.injEq, and_true, true_and, Nat.zero_add, Nat.reduceAdd, Nat.reduceSub, decide_eq_true_eq, Bool.not_eq_true', decide_eq_false_iff_not, exists_and_left, exists_and_right, and_assoc, Bool.true_eq_false, Bool.false_eq_true, if_true, if_false, ne_eq]
    rw [List.length_map]
    exact q
theorem sm_split (f : Nat → Rat) (a : Nat) : ∀ n, sm (a + n) f = sm a f + sm n fun i => f (a + i)
  | 0 => by
    simp only [Nat.add_zero, sm]
    grind
  | n + 1 => by
    rw [← Nat.add_assoc]
    simp only [sm, sm_split f a n]
    grind
theorem sm_window {f : Nat → Rat} {a n m : Nat} (h1 : a + n ≤ m) (h2 : ∀ i, i < a → f i = 0) (h3 : ∀ i, a + n ≤ i → i < m → f i = 0) : sm m f = sm n fun i => f (a + i) := by
  rw [sm_more h1 h3, sm_split, sm_zero h2]
  grind
theorem conv_window (p r : List Rat) (k : Nat) : conv p r k = sm (min (k + 1) p.length - (k + 1 - r.length)) fun i => coef p (k + 1 - r.length + i) * coef r (k - (k + 1 - r.length + i)) := by
  unfold conv
  rcases Nat.le_total (k + 1 - r.length) (min (k + 1) p.length) with h | h
  · refine sm_window (by omega) (fun i hi => ?_) fun i h1 h2 => ?_
    · rw [coef_ge (p := r) (by omega)]
      grind
    · rw [coef_ge (p := p) (by omega)]
      grind
  · rw [show min (k + 1) p.length - (k + 1 - r.length) = 0 by omega]
    refine sm_zero fun i hi => ?_
    by_cases h1 : i < p.length
    · rw [coef_ge (p := r) (by omega)]
      grind
    · rw [coef_ge (p := p) (by omega)]
      grind
theorem gIx_td {p : List Rat} {i : Int} {μ : M} {Q : DK} (h0 : 0 ≤ i) (h : i < p.length) (q : Q (qd (coef p i.toNat)) μ) : gIx (td p) (.int i) μ Q := by
  unfold td
  refine gIx_tup.mpr ?_
  obtain ⟨hl, e⟩ := at_nn h0 (show i < (p.map qd).length by simpa using h)
  refine ⟨_, e, ?_⟩
  have hl' : i.toNat < p.length := by simpa using hl
  rw [coef_lt hl'] at q
  simpa using q
def s_power_number (C : Addr) : DF := fun ds μ Q _ => ∃ (p r : List Rat) (k : Nat), ds = [po C p, po C r, .int k] ∧ Pair p r ∧ k < p.length + r.length ∧ Q (qd (conv p r k)) μ
theorem mm_two {a b : Int} {m : Int} (h1 : m ∈ ([a, b] : List Int)) (h2 : ∀ y, y ∈ ([a, b] : List Int) → y ≤ m) : m = max a b := by
  have ha := h2 a (by simp)
  have hb := h2 b (by simp)
  simp only [List.mem_cons, List.not_mem_nil, or_false] at h1
  omega
theorem mi_two {a b : Int} {m : Int} (h1 : m ∈ ([a, b] : List Int)) (h2 : ∀ y, y ∈ ([a, b] : List Int) → m ≤ y) : m = min a b := by
  have ha := h2 a (by simp)
  have hb := h2 b (by simp)
  simp only [List.mem_cons, List.not_mem_nil, or_false] at h1
  omega
theorem p_power_number (K : PySem.W.Frag) (CB C : Addr) : ∀ ds μ Q F, s_power_number C ds μ Q F → ds.length = 3 ∧ w_power_number K C (s_two CB fun p q => qd (p * q)) s_added_up { nx := fun _ μ' => Q .non μ', rt := Q } F (dstart ["one", "other", "place", "start", "stop", "k"] ds) μ := by
  rintro _ μ Q F ⟨p, r, k, rfl, hp, hk, q⟩
  refine ⟨rfl, ?_⟩
  obtain ⟨z1, z2, _, _, z5, z6⟩ := hp.sz
  have l1 := hp.1
  have l2 := hp.2.1
  simp only [w_power_number, w_power_number_0, w_power_number_1, s_added_up, wRet, wRetN, wSeq, wNext, wIfS, wAsg, wName, wPar, wDrop, wDPut, wFor, wISeq, wIRng1, wIRng2, wVar, wC, wNil, wCons, wBin, wUn, wCB, wTst, wAnd, wOr, DL.wNot, wAndV, wOrV, wNotV, wIf, wTup, wLst, wLstM, wCall, wGTup, wGCons, wGNil, wBrk, wCnt, wRaise, gI, gU, gOne , DL.gSub, gMul, gMod, gDiv, gPow, gLt, gLe, gGt, gGe, gNeg, gAbs, gMax2, gMin2, gInt2, wChain, wPar3, wSl, wNoPart, wPart, wIEnumA, wIZipA, wIRng3, wLc, wLcM, wYes, wFld, wAug, wApp, wPop, wRev, wSubG, wMet, wBinO, wUnO, dstart, List.map_cons, List.map_nil, List.length_cons, List.length_nil, List.replicate, List.cons_append, List.nil_append, List.append_nil, List.getElem?_cons_zero, List.getElem?_cons_succ, List.set_cons_zero, List.set_cons_succ, Option.some.injEq, exists_eq_left', exists_eq_left, D.int.injEq, D.bl.injEq, D.str.injEq, D.tup.injEq, D.lst.injEq, D.obj.injEq, List.cons.injEq, and_true, true_and, Nat.zero_add, Nat.reduceAdd, Nat.reduceSub, decide_eq_true_eq, Bool.not_eq_true', decide_eq_false_iff_not, exists_and_left, exists_and_right, and_assoc, Bool.true_eq_false, Bool.false_eq_true, if_true, if_false, ne_eq, gFld_po1, gLen_td, gAdd_int]
  refine ⟨by decide, [0, (k : Int) + 1 - r.length], .inl rfl, by simp, fun m h1 h2 => ?_⟩
  obtain rfl := mm_two h1 h2
  refine ⟨by decide, [(k : Int) + 1, p.length], .inl rfl, by simp, fun m h3 h4 => ?_⟩
  obtain rfl := mi_two h3 h4
  refine ⟨_, rfl, _, rfl, by omega, by omega, by omega, by omega, fun a ha => ?_⟩
  have e1 : max 0 ((k : Int) + 1 - r.length) = ((k + 1 - r.length : Nat) : Int) := by omega
  have e2 : (min ((k : Int) + 1) p.length - max 0 ((k : Int) + 1 - r.length)).toNat = min (k + 1) p.length - (k + 1 - r.length) := by omega
  rw [e2, e1]
  refine cmp_map (fun d => match d with | .int i => qd (coef p i.toNat * coef r (k - i.toNat)) | _ => .non) ha (by rw [intsD_len]; omega) (fun _ _ => trivial) (fun d hd μ' hb R' hR => ?_) ?_
  · obtain ⟨i, hi, rfl⟩ := List.mem_map.mp hd
    have hi' : i < min (k + 1) p.length - (k + 1 - r.length) := by simpa using hi
    simp only [wipeD, wRet, wRetN, wSeq, wNext, wIfS, wAsg, wName, wPar, wDrop, wDPut, wFor, wISeq, wIRng1, wIRng2, wVar, wC, wNil, wCons, wBin, wUn, wCB, wTst, wAnd, wOr, DL.wNot, wAndV, wOrV, wNotV, wIf, wTup, wLst, wLstM, wCall, wGTup, wGCons, wGNil, wBrk, wCnt, wRaise, gI, gU, gOne , DL.gSub, gMul, gMod, gDiv, gPow, gLt, gLe, gGt, gGe, gNeg, gAbs, gMax2, gMin2, gInt2, wChain, wPar3, wSl, wNoPart, wPart, wIEnumA, wIZipA, wIRng3, wLc, wLcM, wYes, wFld, wAug, wApp, wPop, wRev, wSubG, wMet, wBinO, wUnO, dstart, List.map_cons, List.map_nil, List.length_cons, List.length_nil, List.replicate, List.cons_append, List.nil_append, List.append_nil, List.getElem?_cons_zero, List.getElem?_cons_succ, List.set_cons_zero, List.set_cons_succ, Option.some.injEq, exists_eq_left', exists_eq_left, D.int.injEq, D.bl.injEq, D.str.injEq, D.tup.injEq, D.lst.injEq, D.obj.injEq, List.cons.injEq, and_true, true_and, Nat.zero_add, Nat.reduceAdd, Nat.reduceSub, decide_eq_true_eq, Bool.not_eq_true', decide_eq_false_iff_not, exists_and_left, exists_and_right, and_assoc, Bool.true_eq_false, Bool.false_eq_true, if_true, if_false, ne_eq, gFld_po1]
    refine gIx_td (by omega) (by omega) ?_
    refine gIx_td (by omega) (by omega) ?_
    rw [s_two]
    refine ⟨_, _, rfl, okD_qd (z1 _), ?_⟩
    rw [view_qd, ratV_qd]
    refine ⟨okD_qd (z2 _), ?_⟩
    rw [view_qd, ratV_qd]
    refine ⟨z1 _, z2 _, ?_⟩
    have e3 : ((k : Int) - (((k + 1 - r.length : Nat) : Int) + (i : Int))).toNat = k - (((k + 1 - r.length : Nat) : Int) + (i : Int)).toNat := by omega
    rw [e3]
    exact hR
  · have e4 : (intsD ((k + 1 - r.length : Nat) : Int) (min (k + 1) p.length - (k + 1 - r.length))).map (fun d => match d with | .int i => qd (coef p i.toNat * coef r (k - i.toNat)) | _ => D.non) = ((List.range (min (k + 1) p.length - (k + 1 - r.length))).map fun i => coef p (k + 1 - r.length + i) * coef r (k - (k + 1 - r.length + i))).map qd := by
      unfold intsD
      rw [List.map_map, List.map_map]
      refine List.map_congr_left fun i _ => ?_
      have : (((k + 1 - r.length : Nat) : Int) + (i : Int)).toNat = k + 1 - r.length + i := by omega
      simp only [Function.comp, this]
    rw [e4]
    refine ⟨_, rfl, fun c hc => ?_, fun i hi => ?_, ?_⟩
    · obtain ⟨i, _, rfl⟩ := List.mem_map.mp hc
      exact z5 _ _
    · have hi' : i ≤ min (k + 1) p.length - (k + 1 - r.length) := by simpa using hi
      have : sm i (coef ((List.range (min (k + 1) p.length - (k + 1 - r.length))).map fun i => coef p (k + 1 - r.length + i) * coef r (k - (k + 1 - r.length + i)))) = sm i fun i => coef p (k + 1 - r.length + i) * coef r (k - (k + 1 - r.length + i)) := sm_congr fun j hj => by
        rw [coef_map, if_pos (by omega)]
      rw [this]
      exact z6 i (fun i => k + 1 - r.length + i) (fun i => k - (k + 1 - r.length + i)) (by omega)
    · rw [List.length_map, List.length_range]
      have : sm (min (k + 1) p.length - (k + 1 - r.length)) (coef ((List.range (min (k + 1) p.length - (k + 1 - r.length))).map fun i => coef p (k + 1 - r.length + i) * coef r (k - (k + 1 - r.length + i)))) = conv p r k := by
        rw [conv_window]
        exact sm_congr fun j hj => by rw [coef_map, if_pos (by omega)]
      rw [this]
      exact q
def s_multiplied (C : Addr) : DF := fun ds μ Q _ => ∃ p r, ds = [po C p, po C r] ∧ Pair p r ∧ Q (po C (pmul p r)) μ
theorem p_multiplied (K : PySem.W.Frag) (R C : Addr) : ∀ ds μ Q F, s_multiplied C ds μ Q F → ds.length = 2 ∧ w_multiplied K C (s_power_number C) (s_Poly R C) { nx := fun _ μ' => Q .non μ', rt := Q } F (dstart ["one", "other", "k"] ds) μ := by
  rintro _ μ Q F ⟨p, r, rfl, hp, q⟩
  refine ⟨rfl, ?_⟩
  obtain ⟨z1, z2, _, _, z5, z6⟩ := hp.sz
  have l1 := hp.1
  have l2 := hp.2.1
  simp only [w_multiplied, w_multiplied_0, s_Poly, wRet, wRetN, wSeq, wNext, wIfS, wAsg, wName, wPar, wDrop, wDPut, wFor, wISeq, wIRng1, wIRng2, wVar, wC, wNil, wCons, wBin, wUn, wCB, wTst, wAnd, wOr, DL.wNot, wAndV, wOrV, wNotV, wIf, wTup, wLst, wLstM, wCall, wGTup, wGCons, wGNil, wBrk, wCnt, wRaise, gI, gU, gOne , DL.gSub, gMul, gMod, gDiv, gPow, gLt, gLe, gGt, gGe, gNeg, gAbs, gMax2, gMin2, gInt2, wChain, wPar3, wSl, wNoPart, wPart, wIEnumA, wIZipA, wIRng3, wLc, wLcM, wYes, wFld, wAug, wApp, wPop, wRev, wSubG, wMet, wBinO, wUnO, dstart, List.map_cons, List.map_nil, List.length_cons, List.length_nil, List.replicate, List.cons_append, List.nil_append, List.append_nil, List.getElem?_cons_zero, List.getElem?_cons_succ, List.set_cons_zero, List.set_cons_succ, Option.some.injEq, exists_eq_left', exists_eq_left, D.int.injEq, D.bl.injEq, D.str.injEq, D.tup.injEq, D.lst.injEq, D.obj.injEq, List.cons.injEq, and_true, true_and, Nat.zero_add, Nat.reduceAdd, Nat.reduceSub, decide_eq_true_eq, Bool.not_eq_true', decide_eq_false_iff_not, exists_and_left, exists_and_right, and_assoc, Bool.true_eq_false, Bool.false_eq_true, if_true, if_false, ne_eq, gFld_po1, gLen_td, gAdd_int]
  refine ⟨by omega, by omega, fun a ha => ?_⟩
  have e1 : ((p.length : Int) + r.length).toNat = p.length + r.length := by omega
  rw [e1]
  refine cmp_map (fun d => match d with | .int i => qd (conv p r i.toNat) | _ => .non) ha (by rw [intsD_len]; omega) (fun _ _ => trivial) (fun d hd μ' hb R' hR => ?_) ?_
  · obtain ⟨i, hi, rfl⟩ := List.mem_map.mp hd
    have hi' : i < p.length + r.length := by simpa using hi
    simp only [wipeD, wRet, wRetN, wSeq, wNext, wIfS, wAsg, wName, wPar, wDrop, wDPut, wFor, wISeq, wIRng1, wIRng2, wVar, wC, wNil, wCons, wBin, wUn, wCB, wTst, wAnd, wOr, DL.wNot, wAndV, wOrV, wNotV, wIf, wTup, wLst, wLstM, wCall, wGTup, wGCons, wGNil, wBrk, wCnt, wRaise, gI, gU, gOne , DL.gSub, gMul, gMod, gDiv, gPow, gLt, gLe, gGt, gGe, gNeg, gAbs, gMax2, gMin2, gInt2, wChain, wPar3, wSl, wNoPart, wPart, wIEnumA, wIZipA, wIRng3, wLc, wLcM, wYes, wFld, wAug, wApp, wPop, wRev, wSubG, wMet, wBinO, wUnO, dstart, List.map_cons, List.map_nil, List.length_cons, List.length_nil, List.replicate, List.cons_append, List.nil_append, List.append_nil, List.getElem?_cons_zero, List.getElem?_cons_succ, List.set_cons_zero, List.set_cons_succ, Option.some.injEq, exists_eq_left', exists_eq_left, D.int.injEq, D.bl.injEq, D.str.injEq, D.tup.injEq, D.lst.injEq, D.obj.injEq, List.cons.injEq, and_true, true_and, Nat.zero_add, Nat.reduceAdd, Nat.reduceSub, decide_eq_true_eq, Bool.not_eq_true', decide_eq_false_iff_not, exists_and_left, exists_and_right, and_assoc, Bool.true_eq_false, Bool.false_eq_true, if_true, if_false, ne_eq, s_power_number]
    refine ⟨p, rfl, r, rfl, i, by omega, hp, hi', ?_⟩
    have : ((0 : Int) + (i : Int)).toNat = i := by omega
    simpa only [this] using hR
  · have e4 : (intsD 0 (p.length + r.length)).map (fun d => match d with | .int i => qd (conv p r i.toNat) | _ => D.non) = ((List.range (p.length + r.length)).map (conv p r)).map qd := by
      unfold intsD
      rw [List.map_map, List.map_map]
      refine List.map_congr_left fun i _ => ?_
      have : ((0 : Int) + (i : Int)).toNat = i := by omega
      simp only [Function.comp, this]
    rw [e4]
    refine ⟨okRow_ld (fun c hc => ?_) (by simp only [List.length_map, List.length_range]; omega), ?_⟩
    · obtain ⟨i, _, rfl⟩ := List.mem_map.mp hc
      obtain ⟨n, f, hn, e⟩ := conv_some p r i
      rw [e]
      exact z6 n id (fun j => i - j) (by omega)
    · rw [show D.lst (((List.range (p.length + r.length)).map (conv p r)).map qd) = ld ((List.range (p.length + r.length)).map (conv p r)) from rfl, rowV_ld]
      exact q
theorem p_Poly___mul__ (K : PySem.W.Frag) (R C : Addr) : ∀ ds μ Q F, s_bin C pmul ds μ Q F → ds.length = 2 ∧ w_Poly___mul__ K (s_poly_told R C) (s_multiplied C) { nx := fun _ μ' => Q .non μ', rt := Q } F (dstart ["self", "other"] ds) μ := by
  rintro _ μ Q F ⟨p, x, r, rfl, h, hp, q⟩
  refine ⟨rfl, ?_⟩
  simp only [w_Poly___mul__, w_Poly___mul___0, s_poly_told, s_multiplied, wRet, wRetN, wSeq, wNext, wIfS, wAsg, wName, wPar, wDrop, wDPut, wFor, wISeq, wIRng1, wIRng2, wVar, wC, wNil, wCons, wBin, wUn, wCB, wTst, wAnd, wOr, DL.wNot, wAndV, wOrV, wNotV, wIf, wTup, wLst, wLstM, wCall, wGTup, wGCons, wGNil, wBrk, wCnt, wRaise, gI, gU, gOne , DL.gSub, gMul, gMod, gDiv, gPow, gLt, gLe, gGt, gGe, gNeg, gAbs, gMax2, gMin2, gInt2, wChain, wPar3, wSl, wNoPart, wPart, wIEnumA, wIZipA, wIRng3, wLc, wLcM, wYes, wFld, wAug, wApp, wPop, wRev, wSubG, wMet, wBinO, wUnO, dstart, List.map_cons, List.map_nil, List.length_cons, List.length_nil, List.replicate, List.cons_append, List.nil_append, List.append_nil, List.getElem?_cons_zero, List.getElem?_cons_succ, List.set_cons_zero, List.set_cons_succ, Option.some.injEq, exists_eq_left', exists_eq_left, D.int.injEq, D.bl.injEq, D.str.injEq, D.tup.injEq, D.lst.injEq, D.obj.injEq, List.cons.injEq, and_true, true_and, Nat.zero_add, Nat.reduceAdd, Nat.reduceSub, decide_eq_true_eq, Bool.not_eq_true', decide_eq_false_iff_not, exists_and_left, exists_and_right, and_assoc, Bool.true_eq_false, Bool.false_eq_true, if_true, if_false, ne_eq]
  exact ⟨r, h, p, rfl, r, rfl, hp, q⟩
theorem p_Poly___rmul__ (K : PySem.W.Frag) (R C : Addr) : ∀ ds μ Q F, s_bin C (fun p r => pmul r p) ds μ Q F → ds.length = 2 ∧ w_Poly___rmul__ K (s_poly_told R C) (s_multiplied C) { nx := fun _ μ' => Q .non μ', rt := Q } F (dstart ["self", "other"] ds) μ := by
  rintro _ μ Q F ⟨p, x, r, rfl, h, hp, q⟩
  refine ⟨rfl, ?_⟩
  simp only [w_Poly___rmul__, w_Poly___rmul___0, s_poly_told, s_multiplied, wRet, wRetN, wSeq, wNext, wIfS, wAsg, wName, wPar, wDrop, wDPut, wFor, wISeq, wIRng1, wIRng2, wVar, wC, wNil, wCons, wBin, wUn, wCB, wTst, wAnd, wOr, DL.wNot, wAndV, wOrV, wNotV, wIf, wTup, wLst, wLstM, wCall, wGTup, wGCons, wGNil, wBrk, wCnt, wRaise, gI, gU, gOne , DL.gSub, gMul, gMod, gDiv, gPow, gLt, gLe, gGt, gGe, gNeg, gAbs, gMax2, gMin2, gInt2, wChain, wPar3, wSl, wNoPart, wPart, wIEnumA, wIZipA, wIRng3, wLc, wLcM, wYes, wFld, wAug, wApp, wPop, wRev, wSubG, wMet, wBinO, wUnO, dstart, List.map_cons, List.map_nil, List.length_cons, List.length_nil, List.replicate, List.cons_append, List.nil_append, List.append_nil, List.getElem?_cons_zero, List.getElem?_cons_succ, List.set_cons_zero, List.set_cons_succ, Option.some.injEq, exists_eq_left', exists_eq_left, D.int.injEq, D.bl.injEq, D.str.injEq, D.tup.injEq, D.lst.injEq, D.obj.injEq, List.cons.injEq, and_true, true_and, Nat.zero_add, Nat.reduceAdd, Nat.reduceSub, decide_eq_true_eq, Bool.not_eq_true', decide_eq_false_iff_not, exists_and_left, exists_and_right, and_assoc, Bool.true_eq_false, Bool.false_eq_true, if_true, if_false, ne_eq]
  exact ⟨r, h, r, rfl, p, rfl, hp.symm, q⟩
def s_Poly_degree (C : Addr) : DF := fun ds μ Q _ => ∃ p, ds = [po C p] ∧ Q (.int ((p.length : Int) - 1)) μ
theorem p_Poly_degree (K : PySem.W.Frag) (C : Addr) : ∀ ds μ Q F, s_Poly_degree C ds μ Q F → ds.length = 1 ∧ w_Poly_degree K C { nx := fun _ μ' => Q .non μ', rt := Q } F (dstart ["self"] ds) μ := by
  rintro _ μ Q F ⟨p, rfl, q⟩
  refine ⟨rfl, ?_⟩
  simp only [w_Poly_degree, w_Poly_degree_0, wRet, wRetN, wSeq, wNext, wIfS, wAsg, wName, wPar, wDrop, wDPut, wFor, wISeq, wIRng1, wIRng2, wVar, wC, wNil, wCons, wBin, wUn, wCB, wTst, wAnd, wOr, DL.wNot, wAndV, wOrV, wNotV, wIf, wTup, wLst, wLstM, wCall, wGTup, wGCons, wGNil, wBrk, wCnt, wRaise, gI, gU, gOne , DL.gSub, gMul, gMod, gDiv, gPow, gLt, gLe, gGt, gGe, gNeg, gAbs, gMax2, gMin2, gInt2, wChain, wPar3, wSl, wNoPart, wPart, wIEnumA, wIZipA, wIRng3, wLc, wLcM, wYes, wFld, wAug, wApp, wPop, wRev, wSubG, wMet, wBinO, wUnO, dstart, List.map_cons, List.map_nil, List.length_cons, List.length_nil, List.replicate, List.cons_append, List.nil_append, List.append_nil, List.getElem?_cons_zero, List.getElem?_cons_succ, List.set_cons_zero, List.set_cons_succ, Option.some.injEq, exists_eq_left', exists_eq_left, D.int.injEq, D.bl.injEq, D.str.injEq, D.tup.injEq, D.lst.injEq, D.obj.injEq, List.cons.injEq, and_true, true_and, Nat.zero_add, Nat.reduceAdd, Nat.reduceSub, decide_eq_true_eq, Bool.not_eq_true', decide_eq_false_iff_not, exists_and_left, exists_and_right, and_assoc, Bool.true_eq_false, Bool.false_eq_true, if_true, if_false, ne_eq, gFld_po1, gLen_td]
  exact q
/-- the lead, 0 where there is none -/
def plead (p : List Rat) : Rat := coef p (p.length - 1)
def s_Poly_lead (C : Addr) : DF := fun ds μ Q _ => ∃ p, ds = [po C p] ∧ Q (qd (plead p)) μ
theorem p_Poly_lead (K : PySem.W.Frag) (C : Addr) : ∀ ds μ Q F, s_Poly_lead C ds μ Q F → ds.length = 1 ∧ w_Poly_lead K C { nx := fun _ μ' => Q .non μ', rt := Q } F (dstart ["self"] ds) μ := by
  rintro _ μ Q F ⟨p, rfl, q⟩
  refine ⟨rfl, ?_⟩
  simp only [w_Poly_lead, w_Poly_lead_0, wRet, wRetN, wSeq, wNext, wIfS, wAsg, wName, wPar, wDrop, wDPut, wFor, wISeq, wIRng1, wIRng2, wVar, wC, wNil, wCons, wBin, wUn, wCB, wTst, wAnd, wOr, DL.wNot, wAndV, wOrV, wNotV, wIf, wTup, wLst, wLstM, wCall, wGTup, wGCons, wGNil, wBrk, wCnt, wRaise, gI, gU, gOne , DL.gSub, gMul, gMod, gDiv, gPow, gLt, gLe, gGt, gGe, gNeg, gAbs, gMax2, gMin2, gInt2, wChain, wPar3, wSl, wNoPart, wPart, wIEnumA, wIZipA, wIRng3, wLc, wLcM, wYes, wFld, wAug, wApp, wPop, wRev, wSubG, wMet, wBinO, wUnO, dstart, List.map_cons, List.map_nil, List.length_cons, List.length_nil, List.replicate, List.cons_append, List.nil_append, List.append_nil, List.getElem?_cons_zero, List.getElem?_cons_succ, List.set_cons_zero, List.set_cons_succ, Option.some.injEq, exists_eq_left', exists_eq_left, D.int.injEq, D.bl.injEq, D.str.injEq, D.tup.injEq, D.lst.injEq, D.obj.injEq, List.cons.injEq, and_true, true_and, Nat.zero_add, Nat.reduceAdd, Nat.reduceSub, decide_eq_true_eq, Bool.not_eq_true', decide_eq_false_iff_not, exists_and_left, exists_and_right, and_assoc, Bool.true_eq_false, Bool.false_eq_true, if_true, if_false, ne_eq, gFld_po1, gLen_td]
  by_cases h : (0 : Int) < p.length
  · rw [if_pos h]
    unfold td
    refine gIx_tup.mpr ⟨qd (plead p), ?_, q⟩
    have hl : p.length - 1 < p.length := by omega
    unfold atI ixN plead
    rw [coef_lt hl]
    simp only [List.length_map]
    rw [if_neg (by decide), if_pos (by omega)]
    have e : (-1 + (p.length : Int)).toNat = p.length - 1 := by omega
    have e' : ((p.length : Int) + -1).toNat = p.length - 1 := by omega
    simp [e, e', hl]
  · rw [if_neg h]
    have h0 : p = [] := List.length_eq_zero_iff.mp (by omega)
    subst h0
    exact ⟨by decide, q⟩
end NC

set_option maxHeartbeats 2000000
namespace NC
open PySem PySem.Spec PyProof.Rows L2 DL LL PL
def w_divisor_of_0_0 (K : PySem.W.Frag)  : DS := (wPar 0 1 (wCons (wVar 1) (wCons (wBin gMod (wVar 0) (wVar 1)) wNil)))
def w_divisor_of_0 (K : PySem.W.Frag)  : DS := (wWhile (wTst (wBin (gEq true) (wVar 1) (wC (.int 0)))) (w_divisor_of_0_0 K))
def w_divisor_of_1 (K : PySem.W.Frag)  : DS := (wRet (wVar 0))
def w_divisor_of (K : PySem.W.Frag)  : DS := (wSeq (w_divisor_of_0 K) (w_divisor_of_1 K))
def w_Poly_at_0 (K : PySem.W.Frag) (a_Poly : Addr) (s_told s_divisor_of s_lowest : DF) : DS := (wAsg (wCall s_told (wCons (wVar 1) (wCons (wC (.str "point")) wNil))) (wGTup 2 (wGCons (wName 2) (wGCons (wName 3) wGNil))))
def w_Poly_at_1 (K : PySem.W.Frag) (a_Poly : Addr) (s_told s_divisor_of s_lowest : DF) : DS := (wAsg (wTup (wCons (wC (.int 0)) (wCons (wC (.int 1)) wNil))) (wGTup 2 (wGCons (wName 4) (wGCons (wName 5) wGNil))))
def w_Poly_at_2 (K : PySem.W.Frag) (a_Poly : Addr) (s_told s_divisor_of s_lowest : DF) : DS := (wAsg (wC (.int 1)) (wName 6))
def w_Poly_at_3_0 (K : PySem.W.Frag) (a_Poly : Addr) (s_told s_divisor_of s_lowest : DF) : DS := (wAsg (wBin gDiv (wBin gMul (wVar 6) (wVar 7)) (wCall s_divisor_of (wCons (wVar 6) (wCons (wVar 7) wNil)))) (wName 6))
def w_Poly_at_3 (K : PySem.W.Frag) (a_Poly : Addr) (s_told s_divisor_of s_lowest : DF) : DS := (wFor (wISeq (wLc (wISeq (wFld [a_Poly] "numbers" (wVar 0))) (wName 8) wYes (wBin gIx (wVar 8) (wC (.int 1))) [8])) (wName 7) (w_Poly_at_3_0 K a_Poly s_told s_divisor_of s_lowest))
def w_Poly_at_4_0 (K : PySem.W.Frag) (a_Poly : Addr) (s_told s_divisor_of s_lowest : DF) : DS := (wAsg (wBin gAdd (wBin gMul (wVar 4) (wVar 2)) (wBin gMul (wBin gMul (wBin gIx (wVar 8) (wC (.int 0))) (wBin gDiv (wVar 6) (wBin gIx (wVar 8) (wC (.int 1))))) (wVar 5))) (wName 4))
def w_Poly_at_4_1 (K : PySem.W.Frag) (a_Poly : Addr) (s_told s_divisor_of s_lowest : DF) : DS := (wAsg (wBin gMul (wVar 5) (wVar 3)) (wName 5))
def w_Poly_at_4 (K : PySem.W.Frag) (a_Poly : Addr) (s_told s_divisor_of s_lowest : DF) : DS := (wFor (wISeq (wRev (wFld [a_Poly] "numbers" (wVar 0)))) (wName 8) (wSeq (w_Poly_at_4_0 K a_Poly s_told s_divisor_of s_lowest) (w_Poly_at_4_1 K a_Poly s_told s_divisor_of s_lowest)))
def w_Poly_at_5 (K : PySem.W.Frag) (a_Poly : Addr) (s_told s_divisor_of s_lowest : DF) : DS := (wRet (wCall s_lowest (wCons (wVar 4) (wCons (wBin gMul (wVar 6) (wIf (wTst (wBin gGt (wCB (gOne gLen) (wCons (wFld [a_Poly] "numbers" (wVar 0)) wNil)) (wC (.int 0)))) (wBin gDiv (wVar 5) (wVar 3)) (wC (.int 1)))) wNil))))
def w_Poly_at (K : PySem.W.Frag) (a_Poly : Addr) (s_told s_divisor_of s_lowest : DF) : DS := (wSeq (w_Poly_at_0 K a_Poly s_told s_divisor_of s_lowest) (wSeq (w_Poly_at_1 K a_Poly s_told s_divisor_of s_lowest) (wSeq (w_Poly_at_2 K a_Poly s_told s_divisor_of s_lowest) (wSeq (w_Poly_at_3 K a_Poly s_told s_divisor_of s_lowest) (wSeq (w_Poly_at_4 K a_Poly s_told s_divisor_of s_lowest) (w_Poly_at_5 K a_Poly s_told s_divisor_of s_lowest))))))
def w_Poly_slope_0 (K : PySem.W.Frag) (a_Poly : Addr) (s_times s_Poly : DF) : DS := (wRet (wCall s_Poly (wCons (wSl (wLc (wIEnumA (wCons (wFld [a_Poly] "numbers" (wVar 0)) wNil)) (wGTup 2 (wGCons (wName 1) (wGCons (wName 2) wGNil))) wYes (wCall s_times (wCons (wVar 1) (wCons (wVar 2) wNil))) [1, 2]) (wPart (wC (.int 1))) wNoPart) wNil)))
def w_Poly_slope (K : PySem.W.Frag) (a_Poly : Addr) (s_times s_Poly : DF) : DS := (w_Poly_slope_0 K a_Poly s_times s_Poly)
def w_Poly_moved_0 (K : PySem.W.Frag) (a_Poly : Addr) (s_told s_Poly s_Poly___mul__ s_Poly___rmul__ s_Poly___add__ s_Poly___radd__ : DF) : DS := (wPar 3 4 (wCons (wCall s_told (wCons (wVar 1) (wCons (wC (.str "start")) wNil))) (wCons (wCall s_told (wCons (wVar 2) (wCons (wC (.str "step")) wNil))) wNil)))
def w_Poly_moved_1 (K : PySem.W.Frag) (a_Poly : Addr) (s_told s_Poly s_Poly___mul__ s_Poly___rmul__ s_Poly___add__ s_Poly___radd__ : DF) : DS := (wAsg (wCall s_Poly (wCons (wTup wNil) wNil)) (wName 5))
def w_Poly_moved_2_0 (K : PySem.W.Frag) (a_Poly : Addr) (s_told s_Poly s_Poly___mul__ s_Poly___rmul__ s_Poly___add__ s_Poly___radd__ : DF) : DS := (wAsg (wBinO gAdd (gOwn a_Poly s_Poly___add__ s_Poly___radd__) (wBinO gMul (gOwn a_Poly s_Poly___mul__ s_Poly___rmul__) (wVar 5) (wCall s_Poly (wCons (wTup (wCons (wVar 3) (wCons (wVar 4) wNil))) wNil))) (wCall s_Poly (wCons (wTup (wCons (wVar 6) wNil)) wNil))) (wName 5))
def w_Poly_moved_2 (K : PySem.W.Frag) (a_Poly : Addr) (s_told s_Poly s_Poly___mul__ s_Poly___rmul__ s_Poly___add__ s_Poly___radd__ : DF) : DS := (wFor (wISeq (wRev (wFld [a_Poly] "numbers" (wVar 0)))) (wName 6) (w_Poly_moved_2_0 K a_Poly s_told s_Poly s_Poly___mul__ s_Poly___rmul__ s_Poly___add__ s_Poly___radd__))
def w_Poly_moved_3 (K : PySem.W.Frag) (a_Poly : Addr) (s_told s_Poly s_Poly___mul__ s_Poly___rmul__ s_Poly___add__ s_Poly___radd__ : DF) : DS := (wRet (wVar 5))
def w_Poly_moved (K : PySem.W.Frag) (a_Poly : Addr) (s_told s_Poly s_Poly___mul__ s_Poly___rmul__ s_Poly___add__ s_Poly___radd__ : DF) : DS := (wSeq (w_Poly_moved_0 K a_Poly s_told s_Poly s_Poly___mul__ s_Poly___rmul__ s_Poly___add__ s_Poly___radd__) (wSeq (w_Poly_moved_1 K a_Poly s_told s_Poly s_Poly___mul__ s_Poly___rmul__ s_Poly___add__ s_Poly___radd__) (wSeq (w_Poly_moved_2 K a_Poly s_told s_Poly s_Poly___mul__ s_Poly___rmul__ s_Poly___add__ s_Poly___radd__) (w_Poly_moved_3 K a_Poly s_told s_Poly s_Poly___mul__ s_Poly___rmul__ s_Poly___add__ s_Poly___radd__))))
/-! ### divisor_of -/
def s_divN : DF := fun ds μ Q _ => ∃ a b : Nat, ds = [.int a, .int b] ∧ Q (.int (Nat.gcd a b)) μ
theorem p_divisor_of (K : PySem.W.Frag) : ∀ ds μ Q F, s_divN ds μ Q F → ds.length = 2 ∧ w_divisor_of K { nx := fun _ μ' => Q .non μ', rt := Q } F (dstart ["one", "other"] ds) μ := by
  rintro _ μ Q F ⟨a, b, rfl, q⟩
  refine ⟨rfl, ?_⟩
  simp only [w_divisor_of, w_divisor_of_0_0, w_divisor_of_0, w_divisor_of_1, wRet, wRetN, wSeq, wNext, wIfS, wAsg, wName, wPar, wDrop, wDPut, wFor, wISeq, wIRng1, wIRng2, wVar, wC, wNil, wCons, wBin, wUn, wCB, wTst, wAnd, wOr, DL.wNot, wAndV, wOrV, wNotV, wIf, wTup, wLst, wLstM, wCall, wGTup, wGCons, wGNil, wBrk, wCnt, wRaise, gI, gU, gOne , DL.gSub, gMul, gMod, gDiv, gPow, gLt, gLe, gGt, gGe, gNeg, gAbs, gMax2, gMin2, gInt2, wChain, wPar3, wSl, wNoPart, wPart, wIEnumA, wIZipA, wIRng3, wLc, wLcM, wYes, wFld, wAug, wApp, wPop, wRev, wSubG, wMet, wBinO, wUnO, dstart, List.map_cons, List.map_nil, List.length_cons, List.length_nil, List.replicate, List.cons_append, List.nil_append, List.append_nil, List.getElem?_cons_zero, List.getElem?_cons_succ, List.set_cons_zero, List.set_cons_succ, Option.some.injEq, exists_eq_left', exists_eq_left, D.int.injEq, D.bl.injEq, D.str.injEq, D.tup.injEq, D.lst.injEq, D.obj.injEq, List.cons.injEq, and_true, true_and, Nat.zero_add, Nat.reduceAdd, Nat.reduceSub, decide_eq_true_eq, Bool.not_eq_true', decide_eq_false_iff_not, exists_and_left, exists_and_right, and_assoc, Bool.true_eq_false, Bool.false_eq_true, if_true, if_false, ne_eq, wWhile]
  have key : ∀ (n : Nat) (a b : Nat), b < n → Q (.int (Nat.gcd a b)) μ → wRun (wTst (wBin (gEq true) (wVar 1) (wC (D.int 0)))) (wPar 0 1 (wCons (wVar 1) (wCons (wBin (gI (fun x j => ¬j = 0) fun i j => D.int (i.fmod j)) (wVar 0) (wVar 1)) wNil))) n
      { nx := fun δ' μ' => ∃ d, δ'[0]? = some (some d) ∧ Q d μ', rt := Q } F [some (D.int a), some (D.int b)] μ := by
    intro n
    induction n with
    | zero => intro a b h; omega
    | succ n ih =>
      intro a b h q
      simp only [wRun, wRet, wRetN, wSeq, wNext, wIfS, wAsg, wName, wPar, wDrop, wDPut, wFor, wISeq, wIRng1, wIRng2, wVar, wC, wNil, wCons, wBin, wUn, wCB, wTst, wAnd, wOr, DL.wNot, wAndV, wOrV, wNotV, wIf, wTup, wLst, wLstM, wCall, wGTup, wGCons, wGNil, wBrk, wCnt, wRaise, gI, gU, gOne , DL.gSub, gMul, gMod, gDiv, gPow, gLt, gLe, gGt, gGe, gNeg, gAbs, gMax2, gMin2, gInt2, wChain, wPar3, wSl, wNoPart, wPart, wIEnumA, wIZipA, wIRng3, wLc, wLcM, wYes, wFld, wAug, wApp, wPop, wRev, wSubG, wMet, wBinO, wUnO, dstart, List.map_cons, List.map_nil, List.length_cons, List.length_nil, List.replicate, List.cons_append, List.nil_append, List.append_nil, List.getElem?_cons_zero, List.getElem?_cons_succ, List.set_cons_zero, List.set_cons_succ, Option.some.injEq, exists_eq_left', exists_eq_left, D.int.injEq, D.bl.injEq, D.str.injEq, D.tup.injEq, D.lst.injEq, D.obj.injEq, List.cons.injEq, and_true, true_and, Nat.zero_add, Nat.reduceAdd, Nat.reduceSub, decide_eq_true_eq, Bool.not_eq_true', decide_eq_false_iff_not, exists_and_left, exists_and_right, and_assoc, Bool.true_eq_false, Bool.false_eq_true, if_true, if_false, ne_eq, gEq_int]
      by_cases e : b = 0
      · subst e
        rw [Nat.gcd_zero_right] at q
        rw [if_neg (by decide)]
        exact q
      · have e2 : ((b : Int) == 0) = false := by simpa using e
        rw [if_pos e2]
        have e3 : ((a : Int).fmod (b : Int)) = ((a % b : Nat) : Int) := by
          rw [Int.fmod_eq_emod_of_nonneg _ (by omega)]
          rfl
        rw [e3]
        refine ⟨by omega, ih b (a % b) (by have := Nat.mod_lt a (show b > 0 by omega); omega) ?_⟩
        rw [Nat.gcd_comm b, ← Nat.gcd_rec, Nat.gcd_comm]
        exact q
  exact ⟨b + 1, key _ a b (Nat.lt_succ_self _) q⟩
/-! ### Poly.at -/
theorem rev_get {p : List Rat} {i : Nat} {d : D} (h : (p.map qd).reverse[i]? = some d) : ∃ c, d = qd c ∧ c ∈ p ∧ i < p.length ∧ p.drop (p.length - (i + 1)) = c :: p.drop (p.length - i) := by
  obtain ⟨hi, e⟩ := List.getElem?_eq_some_iff.mp h
  have hi' : i < p.length := by simpa using hi
  have hj : p.length - 1 - i < p.length := by omega
  refine ⟨p[p.length - 1 - i], ?_, List.getElem_mem hj, hi', ?_⟩
  · rw [← e]
    simp
  · rw [show p.length - (i + 1) = p.length - 1 - i by omega, List.drop_eq_getElem_cons hj]
    congr 2
    omega
/-- the value at s may be asked for -/
def AtOk (p : List Rat) (s : Rat) : Prop := p.length ≤ 40 ∧ Sz s ∧ (∀ c ∈ p, Sz c) ∧ ∃ N : Nat, 0 < N ∧ (∀ c ∈ p, c.den ∣ N) ∧ N * s.den ^ p.length < 2 ^ 24000
def s_Poly_at (CB C : Addr) : DF := fun ds μ Q F => ∃ p x, ds = [po C p, x] ∧ okD (view μ x) ∧ onR (ratV (view μ x)) (fun s => AtOk p s ∧ Q (qd (pat s p)) μ) (F ⟨.ref CB, [("number", x), ("what", .str "point")]⟩ μ)
theorem p_Poly_at (K : PySem.W.Frag) (CB C : Addr) : ∀ ds μ Q F, s_Poly_at CB C ds μ Q F → ds.length = 2 ∧ w_Poly_at K C (s_told CB) s_divN s_lowest { nx := fun _ μ' => Q .non μ', rt := Q } F (dstart ["self", "point", "top", "bottom", "found", "power", "common_bottom", "under", "number"] ds) μ := by
  rintro _ μ Q F ⟨p, x, rfl, ho, q⟩
  refine ⟨rfl, ?_⟩
  simp only [w_Poly_at, w_Poly_at_0, w_Poly_at_1, w_Poly_at_2, w_Poly_at_3_0, w_Poly_at_3, w_Poly_at_4_0, w_Poly_at_4_1, w_Poly_at_4, w_Poly_at_5, s_told, wRet, wRetN, wSeq, wNext, wIfS, wAsg, wName, wPar, wDrop, wDPut, wFor, wISeq, wIRng1, wIRng2, wVar, wC, wNil, wCons, wBin, wUn, wCB, wTst, wAnd, wOr, DL.wNot, wAndV, wOrV, wNotV, wIf, wTup, wLst, wLstM, wCall, wGTup, wGCons, wGNil, wBrk, wCnt, wRaise, gI, gU, gOne , DL.gSub, gMul, gMod, gDiv, gPow, gLt, gLe, gGt, gGe, gNeg, gAbs, gMax2, gMin2, gInt2, wChain, wPar3, wSl, wNoPart, wPart, wIEnumA, wIZipA, wIRng3, wLc, wLcM, wYes, wFld, wAug, wApp, wPop, wRev, wSubG, wMet, wBinO, wUnO, dstart, List.map_cons, List.map_nil, List.length_cons, List.length_nil, List.replicate, List.cons_append, List.nil_append, List.append_nil, List.getElem?_cons_zero, List.getElem?_cons_succ, List.set_cons_zero, List.set_cons_succ, Option.some.injEq, exists_eq_left', exists_eq_left, D.int.injEq, D.bl.injEq, D.str.injEq, D.tup.injEq, D.lst.injEq, D.obj.injEq, List.cons.injEq, and_true, true_and, Nat.zero_add, Nat.reduceAdd, Nat.reduceSub, decide_eq_true_eq, Bool.not_eq_true', decide_eq_false_iff_not, exists_and_left, exists_and_right, and_assoc, Bool.true_eq_false, Bool.false_eq_true, if_true, if_false, ne_eq, gFld_po1]
  refine ⟨ho, ?_⟩
  cases e : ratV (view μ x) with
  | none =>
    rw [e] at q
    exact q
  | some s =>
    rw [e] at q
    obtain ⟨⟨hl, hs, hc, N, hN, hd, hb⟩, q⟩ := q
    simp only [onR_some, qd, wRet, wRetN, wSeq, wNext, wIfS, wAsg, wName, wPar, wDrop, wDPut, wFor, wISeq, wIRng1, wIRng2, wVar, wC, wNil, wCons, wBin, wUn, wCB, wTst, wAnd, wOr, DL.wNot, wAndV, wOrV, wNotV, wIf, wTup, wLst, wLstM, wCall, wGTup, wGCons, wGNil, wBrk, wCnt, wRaise, gI, gU, gOne , DL.gSub, gMul, gMod, gDiv, gPow, gLt, gLe, gGt, gGe, gNeg, gAbs, gMax2, gMin2, gInt2, wChain, wPar3, wSl, wNoPart, wPart, wIEnumA, wIZipA, wIRng3, wLc, wLcM, wYes, wFld, wAug, wApp, wPop, wRev, wSubG, wMet, wBinO, wUnO, dstart, List.map_cons, List.map_nil, List.length_cons, List.length_nil, List.replicate, List.cons_append, List.nil_append, List.append_nil, List.getElem?_cons_zero, List.getElem?_cons_succ, List.set_cons_zero, List.set_cons_succ, Option.some.injEq, exists_eq_left', exists_eq_left, D.int.injEq, D.bl.injEq, D.str.injEq, D.tup.injEq, D.lst.injEq, D.obj.injEq, List.cons.injEq, and_true, true_and, Nat.zero_add, Nat.reduceAdd, Nat.reduceSub, decide_eq_true_eq, Bool.not_eq_true', decide_eq_false_iff_not, exists_and_left, exists_and_right, and_assoc, Bool.true_eq_false, Bool.false_eq_true, if_true, if_false, ne_eq, gFld_po1]
    refine ⟨by decide, .inl ⟨p.map qd, .inr (.inr rfl), fun a ha => ?_⟩⟩
    refine cmp_map (fun d => match d with | .tup [_, d] => d | _ => .non) ha (by rw [List.length_map]; omega) (fun _ _ => trivial) (fun d hd μ' hb R' hR => ?_) ?_
    · obtain ⟨c, hc, rfl⟩ := List.mem_map.mp hd
      simp only [wipeD, wRet, wRetN, wSeq, wNext, wIfS, wAsg, wName, wPar, wDrop, wDPut, wFor, wISeq, wIRng1, wIRng2, wVar, wC, wNil, wCons, wBin, wUn, wCB, wTst, wAnd, wOr, DL.wNot, wAndV, wOrV, wNotV, wIf, wTup, wLst, wLstM, wCall, wGTup, wGCons, wGNil, wBrk, wCnt, wRaise, gI, gU, gOne , DL.gSub, gMul, gMod, gDiv, gPow, gLt, gLe, gGt, gGe, gNeg, gAbs, gMax2, gMin2, gInt2, wChain, wPar3, wSl, wNoPart, wPart, wIEnumA, wIZipA, wIRng3, wLc, wLcM, wYes, wFld, wAug, wApp, wPop, wRev, wSubG, wMet, wBinO, wUnO, dstart, List.map_cons, List.map_nil, List.length_cons, List.length_nil, List.replicate, List.cons_append, List.nil_append, List.append_nil, List.getElem?_cons_zero, List.getElem?_cons_succ, List.set_cons_zero, List.set_cons_succ, Option.some.injEq, exists_eq_left', exists_eq_left, D.int.injEq, D.bl.injEq, D.str.injEq, D.tup.injEq, D.lst.injEq, D.obj.injEq, List.cons.injEq, and_true, true_and, Nat.zero_add, Nat.reduceAdd, Nat.reduceSub, decide_eq_true_eq, Bool.not_eq_true', decide_eq_false_iff_not, exists_and_left, exists_and_right, and_assoc, Bool.true_eq_false, Bool.false_eq_true, if_true, if_false, ne_eq, gIx_q1]
      exact hR
    · have e1 : (p.map qd).map (fun d => match d with | .tup [_, d] => d | _ => D.non) = p.map fun c => .int (c.den : Nat) := by
        rw [List.map_map]
        exact List.map_congr_left fun c _ => rfl
      rw [e1]
      refine .inl ⟨_, .inl rfl, ?_⟩
      have dn : ∀ c ∈ p, c.den < 2 ^ 12000 := fun c h => (hc c h).2
      have hNb : N < 2 ^ 24000 := Nat.lt_of_le_of_lt (Nat.le_mul_of_pos_right _ (Nat.pow_pos (den_pos s))) hb
      refine loop_inv _ (fun i δ μ' => μ' = μ ∧ ∃ (cb : Nat) (d : Option D), δ = [some (po C p), some x, some (.int s.num), some (.int s.den), some (.int 0), some (.int 1), some (.int cb), d, none] ∧ 0 < cb ∧ cb ∣ N ∧ ∀ j c, j < i → p[j]? = some c → c.den ∣ cb) ⟨rfl, 1, _, rfl, by decide, Nat.one_dvd _, fun _ _ h => by omega⟩ (fun _ _ _ _ => trivial) ?_ ?_
      · rintro i d hd' δ _ ⟨rfl, cb, d0, rfl, c0, cN, cd⟩ R' hR
        rw [List.getElem?_map] at hd'
        obtain ⟨c, hc', rfl⟩ := Option.map_eq_some_iff.mp hd'
        have hcm := List.mem_of_getElem? hc'
        have hcb : cb < 2 ^ 24000 := Nat.lt_of_le_of_lt (Nat.le_of_dvd hN cN) hNb
        simp only [wRet, wRetN, wSeq, wNext, wIfS, wAsg, wName, wPar, wDrop, wDPut, wFor, wISeq, wIRng1, wIRng2, wVar, wC, wNil, wCons, wBin, wUn, wCB, wTst, wAnd, wOr, DL.wNot, wAndV, wOrV, wNotV, wIf, wTup, wLst, wLstM, wCall, wGTup, wGCons, wGNil, wBrk, wCnt, wRaise, gI, gU, gOne , DL.gSub, gMul, gMod, gDiv, gPow, gLt, gLe, gGt, gGe, gNeg, gAbs, gMax2, gMin2, gInt2, wChain, wPar3, wSl, wNoPart, wPart, wIEnumA, wIZipA, wIRng3, wLc, wLcM, wYes, wFld, wAug, wApp, wPop, wRev, wSubG, wMet, wBinO, wUnO, dstart, List.map_cons, List.map_nil, List.length_cons, List.length_nil, List.replicate, List.cons_append, List.nil_append, List.append_nil, List.getElem?_cons_zero, List.getElem?_cons_succ, List.set_cons_zero, List.set_cons_succ, Option.some.injEq, exists_eq_left', exists_eq_left, D.int.injEq, D.bl.injEq, D.str.injEq, D.tup.injEq, D.lst.injEq, D.obj.injEq, List.cons.injEq, and_true, true_and, Nat.zero_add, Nat.reduceAdd, Nat.reduceSub, decide_eq_true_eq, Bool.not_eq_true', decide_eq_false_iff_not, exists_and_left, exists_and_right, and_assoc, Bool.true_eq_false, Bool.false_eq_true, if_true, if_false, ne_eq, s_divN]
        have dp := den_pos c
        have gp : 0 < Nat.gcd cb c.den := Nat.gcd_pos_of_pos_left _ c0
        refine ⟨mul_w (a := 24000) (b := 12000) hcb (dn c hcm), cb, rfl, c.den, rfl, ⟨by omega, ?_⟩, hR _ _ ⟨rfl, Nat.lcm cb c.den, some (.int c.den), ?_, Nat.lcm_pos c0 dp, Nat.lcm_dvd cN (hd c hcm), fun j c' hj hc2 => ?_⟩⟩
        · refine Nat.lt_trans (log_lt (n := 24000) (Nat.lt_of_le_of_lt (show ((Nat.gcd cb c.den : Nat) : Int).natAbs ≤ cb from Nat.le_of_dvd c0 (Nat.gcd_dvd_left _ _)) hcb) (by decide)) (by decide)
        · have : ((cb : Int) * (c.den : Int)).fdiv (Nat.gcd cb c.den : Nat) = (Nat.lcm cb c.den : Nat) := by
            rw [Int.fdiv_eq_ediv_of_nonneg _ (by omega)]
            rfl
          rw [this]
        · by_cases e : j = i
          · subst e
            rw [hc'] at hc2
            cases hc2
            exact Nat.dvd_lcm_right _ _
          · exact Nat.dvd_trans (cd j c' (by omega) hc2) (Nat.dvd_lcm_left _ _)
      · rintro δ μ_ ⟨e9, cb, d0, rfl, c0, cN, cd⟩
        subst e9
        rw [List.length_map] at cd
        have cd' : ∀ c ∈ p, c.den ∣ cb := fun c h => by
          obtain ⟨j, hj, e⟩ := List.getElem_of_mem h
          exact cd j c hj (by rw [List.getElem?_eq_getElem hj, e])
        have hcb : cb < 2 ^ 24000 := Nat.lt_of_le_of_lt (Nat.le_of_dvd hN cN) hNb
        simp only [wRet, wRetN, wSeq, wNext, wIfS, wAsg, wName, wPar, wDrop, wDPut, wFor, wISeq, wIRng1, wIRng2, wVar, wC, wNil, wCons, wBin, wUn, wCB, wTst, wAnd, wOr, DL.wNot, wAndV, wOrV, wNotV, wIf, wTup, wLst, wLstM, wCall, wGTup, wGCons, wGNil, wBrk, wCnt, wRaise, gI, gU, gOne , DL.gSub, gMul, gMod, gDiv, gPow, gLt, gLe, gGt, gGe, gNeg, gAbs, gMax2, gMin2, gInt2, wChain, wPar3, wSl, wNoPart, wPart, wIEnumA, wIZipA, wIRng3, wLc, wLcM, wYes, wFld, wAug, wApp, wPop, wRev, wSubG, wMet, wBinO, wUnO, dstart, List.map_cons, List.map_nil, List.length_cons, List.length_nil, List.replicate, List.cons_append, List.nil_append, List.append_nil, List.getElem?_cons_zero, List.getElem?_cons_succ, List.set_cons_zero, List.set_cons_succ, Option.some.injEq, exists_eq_left', exists_eq_left, D.int.injEq, D.bl.injEq, D.str.injEq, D.tup.injEq, D.lst.injEq, D.obj.injEq, List.cons.injEq, and_true, true_and, Nat.zero_add, Nat.reduceAdd, Nat.reduceSub, decide_eq_true_eq, Bool.not_eq_true', decide_eq_false_iff_not, exists_and_left, exists_and_right, and_assoc, Bool.true_eq_false, Bool.false_eq_true, if_true, if_false, ne_eq, gFld_po1]
        refine .inr ⟨_, rfl, .inl ⟨_, .inr (.inr rfl), ?_⟩⟩
        refine loop_inv _ (fun i δ μ' => μ' = μ_ ∧ ∃ (f : Int) (d : Option D), δ = [some (po C p), some x, some (.int s.num), some (.int s.den), some (.int f), some (.int ((s.den ^ i : Nat) : Int)), some (.int cb), d0, d] ∧ i ≤ p.length ∧ f.natAbs < 2 ^ (36000 + 12001 * i) ∧ (f : Rat) * ((s.den : Nat) : Rat) = pat s (p.drop (p.length - i)) * (cb : Rat) * ((s.den ^ i : Nat) : Rat)) ⟨rfl, 0, _, rfl, Nat.zero_le _, by decide +kernel, by simp [pat]⟩ (fun _ _ _ _ => trivial) ?_ ?_
        · rintro i d hd' δ _ ⟨rfl, f, d1, rfl, hi, hf, he⟩ R' hR
          obtain ⟨c, rfl, hcm, hi', hdr⟩ := rev_get hd'
          obtain ⟨k, hk⟩ := cd' c hcm
          have hkp : 0 < k := Nat.pos_of_ne_zero fun z => by rw [z, Nat.mul_zero] at hk; omega
          have hkl : k ≤ cb := by rw [hk]; exact Nat.le_mul_of_pos_left _ (den_pos c)
          have ek : (cb : Int).fdiv (c.den : Int) = (k : Int) := by
            rw [Int.fdiv_eq_ediv_of_nonneg _ (by omega), hk]
            push_cast
            rw [Int.mul_comm, Int.mul_ediv_cancel _ (by have := den_pos c; omega)]
          have hpw : ((s.den ^ i : Nat) : Int).natAbs < 2 ^ (12000 * i + 1) := by
            rw [Int.natAbs_natCast]
            have h1 : s.den ^ i ≤ (2 ^ 12000) ^ i := Nat.pow_le_pow_left (Nat.le_of_lt hs.2) i
            rw [← Nat.pow_mul] at h1
            exact Nat.lt_of_le_of_lt h1 (Nat.pow_lt_pow_right (by decide) (by omega))
          have hkb : ((k : Nat) : Int).natAbs < 2 ^ 24000 := Nat.lt_of_le_of_lt (by rw [Int.natAbs_natCast]; exact hkl) hcb
          have m1 := mul_sz (hc c hcm).1 hkb
          have m2 := mul_sz m1 hpw
          have m3 := mul_sz hf hs.1
          have hden : ((s.den : Nat) : Int).natAbs < 2 ^ 12000 := hs.2
          simp only [wRet, wRetN, wSeq, wNext, wIfS, wAsg, wName, wPar, wDrop, wDPut, wFor, wISeq, wIRng1, wIRng2, wVar, wC, wNil, wCons, wBin, wUn, wCB, wTst, wAnd, wOr, DL.wNot, wAndV, wOrV, wNotV, wIf, wTup, wLst, wLstM, wCall, wGTup, wGCons, wGNil, wBrk, wCnt, wRaise, gI, gU, gOne , DL.gSub, gMul, gMod, gDiv, gPow, gLt, gLe, gGt, gGe, gNeg, gAbs, gMax2, gMin2, gInt2, wChain, wPar3, wSl, wNoPart, wPart, wIEnumA, wIZipA, wIRng3, wLc, wLcM, wYes, wFld, wAug, wApp, wPop, wRev, wSubG, wMet, wBinO, wUnO, dstart, List.map_cons, List.map_nil, List.length_cons, List.length_nil, List.replicate, List.cons_append, List.nil_append, List.append_nil, List.getElem?_cons_zero, List.getElem?_cons_succ, List.set_cons_zero, List.set_cons_succ, Option.some.injEq, exists_eq_left', exists_eq_left, D.int.injEq, D.bl.injEq, D.str.injEq, D.tup.injEq, D.lst.injEq, D.obj.injEq, List.cons.injEq, and_true, true_and, Nat.zero_add, Nat.reduceAdd, Nat.reduceSub, decide_eq_true_eq, Bool.not_eq_true', decide_eq_false_iff_not, exists_and_left, exists_and_right, and_assoc, Bool.true_eq_false, Bool.false_eq_true, if_true, if_false, ne_eq, gIx_q0, gIx_q1, gAdd_int, ek]
          refine ⟨mul_w hf hs.1 (by omega) (by decide), ⟨by have := den_pos c; omega, ?_⟩, mul_w (hc c hcm).1 hkb, mul_w m1 hpw (by omega) (by omega), mul_w hpw hden (by omega) (by decide), hR _ _ ⟨rfl, f * s.num + c.num * k * (s.den ^ i : Nat), some (qd c), ?_, by omega, ?_, ?_⟩⟩
          · exact Nat.lt_trans (log_lt (n := 12000) (show ((c.den : Nat) : Int).natAbs < 2 ^ 12000 from (hc c hcm).2) (by decide)) (by decide)
          · have : ((s.den ^ i : Nat) : Int) * (s.den : Int) = ((s.den ^ (i + 1) : Nat) : Int) := by
              rw [Nat.pow_succ]
              push_cast
              rfl
            rw [this]
          · have a1 : (f * s.num).natAbs < 2 ^ (36000 + 12001 * i + 12000) := m3
            have a2 : (c.num * k * (s.den ^ i : Nat)).natAbs < 2 ^ (36000 + 12001 * i + 12000) := Nat.lt_of_lt_of_le m2 (Nat.pow_le_pow_right (by decide) (by omega))
            have := add_sz a1 a2
            rw [show 36000 + 12001 * (i + 1) = 36000 + 12001 * i + 12000 + 1 by omega]
            exact this
          · rw [hdr]
            simp only [pat]
            have e1 := q_den_mul s
            have e2 := q_den_mul c
            have e3 : (cb : Rat) = (c.den : Rat) * (k : Rat) := by rw [hk]; push_cast; rfl
            have e4 : ((s.den ^ (i + 1) : Nat) : Rat) = ((s.den ^ i : Nat) : Rat) * (s.den : Rat) := by rw [Nat.pow_succ]; push_cast; rfl
            rw [e4, e3]
            rw [e3] at he
            push_cast at he ⊢
            generalize ((s.den : Rat) ^ i) = w at *
            generalize pat s (p.drop (p.length - i)) = h at *
            grind
        · rintro δ μ3 ⟨e8, f, d1, rfl, hi, hf, he⟩
          subst e8
          have hn : (p.map qd).reverse.length = p.length := by simp
          rw [hn] at he hi hf ⊢
          have e0 : p.length - p.length = 0 := Nat.sub_self _
          rw [e0, List.drop_zero] at he
          have hcp : (0 : Rat) < (cb : Rat) := by exact_mod_cast c0
          have hsp : (0 : Rat) < ((s.den : Nat) : Rat) := by exact_mod_cast den_pos s
          simp only [wRet, wRetN, wSeq, wNext, wIfS, wAsg, wName, wPar, wDrop, wDPut, wFor, wISeq, wIRng1, wIRng2, wVar, wC, wNil, wCons, wBin, wUn, wCB, wTst, wAnd, wOr, DL.wNot, wAndV, wOrV, wNotV, wIf, wTup, wLst, wLstM, wCall, wGTup, wGCons, wGNil, wBrk, wCnt, wRaise, gI, gU, gOne , DL.gSub, gMul, gMod, gDiv, gPow, gLt, gLe, gGt, gGe, gNeg, gAbs, gMax2, gMin2, gInt2, wChain, wPar3, wSl, wNoPart, wPart, wIEnumA, wIZipA, wIRng3, wLc, wLcM, wYes, wFld, wAug, wApp, wPop, wRev, wSubG, wMet, wBinO, wUnO, dstart, List.map_cons, List.map_nil, List.length_cons, List.length_nil, List.replicate, List.cons_append, List.nil_append, List.append_nil, List.getElem?_cons_zero, List.getElem?_cons_succ, List.set_cons_zero, List.set_cons_succ, Option.some.injEq, exists_eq_left', exists_eq_left, D.int.injEq, D.bl.injEq, D.str.injEq, D.tup.injEq, D.lst.injEq, D.obj.injEq, List.cons.injEq, and_true, true_and, Nat.zero_add, Nat.reduceAdd, Nat.reduceSub, decide_eq_true_eq, Bool.not_eq_true', decide_eq_false_iff_not, exists_and_left, exists_and_right, and_assoc, Bool.true_eq_false, Bool.false_eq_true, if_true, if_false, ne_eq, gFld_po1, gLen_td]
          have hden : ((s.den : Nat) : Int).natAbs < 2 ^ 12000 := hs.2
          have fin : ∀ (w : Nat), 0 < w → cb * w < 2 ^ 24000 → (f : Rat) = pat s p * ((cb * w : Nat) : Rat) → CMulX (cb : Int) (w : Int) ∧ s_lowest [D.int f, D.int ((cb : Int) * (w : Int))] μ3 Q F := by
            intro w hw hb2 hfw
            have hwl : w < 2 ^ 24000 := Nat.lt_of_le_of_lt (Nat.le_mul_of_pos_left _ c0) hb2
            have hcw : 0 < cb * w := Nat.mul_pos c0 hw
            refine ⟨mul_w (a := 24000) (b := 24000) hcb hwl, f, (cb : Int) * w, rfl, ?_, ?_, ?_⟩
            · have : ((cb * w : Nat) : Int) ≠ 0 := by omega
              push_cast at this
              exact this
            · have : ((cb : Int) * (w : Int)) = ((cb * w : Nat) : Int) := by push_cast; rfl
              rw [this, Int.natAbs_natCast]
              exact Nat.lt_of_lt_of_le hb2 (Nat.pow_le_pow_right (by decide) (by decide))
            · have e1 : Rat.divInt f ((cb : Int) * (w : Int)) = pat s p := by
                rw [Rat.divInt_eq_div, hfw]
                have h2 : (((cb : Int) * (w : Int) : Int) : Rat) = ((cb * w : Nat) : Rat) := by push_cast; rfl
                rw [h2]
                have h3 : ((cb * w : Nat) : Rat) ≠ 0 := by
                  intro z
                  have : cb * w = 0 := by exact_mod_cast z
                  omega
                grind
              rw [e1]
              exact q
          by_cases h0 : (0 : Int) < p.length
          · rw [if_pos h0]
            obtain ⟨m, hm⟩ : ∃ m, p.length = m + 1 := ⟨p.length - 1, by omega⟩
            have ed : ((s.den ^ p.length : Nat) : Int).fdiv (s.den : Int) = ((s.den ^ m : Nat) : Int) := by
              rw [Int.fdiv_eq_ediv_of_nonneg _ (by omega), hm, Nat.pow_succ]
              push_cast
              rw [Int.mul_ediv_cancel _ (by have := den_pos s; omega)]
            rw [ed]
            refine ⟨⟨by have := den_pos s; omega, Nat.lt_trans (log_lt (n := 12000) hden (by decide)) (by decide)⟩, fin (s.den ^ m) (Nat.pow_pos (den_pos s)) ?_ ?_⟩
            · refine Nat.lt_of_le_of_lt (Nat.mul_le_mul (Nat.le_of_dvd hN cN) ?_) hb
              exact Nat.pow_le_pow_right (den_pos s) (by omega)
            · rw [hm, Nat.pow_succ] at he
              push_cast at he ⊢
              generalize (s.den : Rat) ^ m = w at *
              have h9 : ((f : Rat) - pat s p * ((cb : Rat) * w)) * (s.den : Rat) = 0 := by grind
              rcases Rat.mul_eq_zero.mp h9 with h | h
              · grind
              · exact absurd h (by grind)
          · rw [if_neg h0]
            have h1 : p = [] := List.length_eq_zero_iff.mp (by omega)
            subst h1
            refine fin 1 (by decide) (by omega) ?_
            have h2 : pat s [] = 0 := rfl
            rw [h2] at he ⊢
            have h9 : (f : Rat) * (s.den : Rat) = 0 := by grind
            have h10 : (f : Rat) = 0 := by
              rcases Rat.mul_eq_zero.mp h9 with h | h
              · exact h
              · exact absurd h (by grind)
            rw [h10]
            grind
/-! ### slope, moved -/
theorem cutD_from {α : Type} {xs : List α} {n : Nat} : DL.cutD xs (some (n : Int)) none = xs.drop n := by
  have e : HT.sIx xs.length 0 (some (n : Int)) = min n xs.length := by
    show (if (n : Int) < 0 then ((n : Int) + (xs.length : Int)).toNat else min (n : Int).toNat xs.length) = _
    rw [if_neg (by omega)]
    simp
  unfold DL.cutD
  rw [e]
  show (xs.drop (min n xs.length)).take (xs.length - min n xs.length) = xs.drop n
  rw [List.take_of_length_le (by rw [List.length_drop]; omega)]
  rcases Nat.le_total n xs.length with h | h
  · rw [Nat.min_eq_left h]
  · rw [Nat.min_eq_right h, List.drop_length, List.drop_eq_nil_of_le h]
def s_Poly_slope (C : Addr) : DF := fun ds μ Q _ => ∃ p, ds = [po C p] ∧ p.length ≤ 1000 ∧ (∀ c ∈ p, Sz c) ∧ (∀ k : Nat, Sz ((k : Rat) * coef p k)) ∧ Q (po C (pslope p)) μ
theorem Sz.nat {k : Nat} (h : k < 2 ^ 60) : Sz (k : Rat) := ⟨by rw [Rat.num_natCast, Int.natAbs_natCast]; exact up h, by rw [Rat.den_natCast]; decide⟩
theorem p_Poly_slope (K : PySem.W.Frag) (CB R C : Addr) : ∀ ds μ Q F, s_Poly_slope C ds μ Q F → ds.length = 1 ∧ w_Poly_slope K C (s_two CB fun p q => qd (p * q)) (s_Poly R C) { nx := fun _ μ' => Q .non μ', rt := Q } F (dstart ["self", "k", "ratio"] ds) μ := by
  rintro _ μ Q F ⟨p, rfl, hl, hz, hk, q⟩
  refine ⟨rfl, ?_⟩
  simp only [w_Poly_slope, w_Poly_slope_0, s_Poly, wRet, wRetN, wSeq, wNext, wIfS, wAsg, wName, wPar, wDrop, wDPut, wFor, wISeq, wIRng1, wIRng2, wVar, wC, wNil, wCons, wBin, wUn, wCB, wTst, wAnd, wOr, DL.wNot, wAndV, wOrV, wNotV, wIf, wTup, wLst, wLstM, wCall, wGTup, wGCons, wGNil, wBrk, wCnt, wRaise, gI, gU, gOne , DL.gSub, gMul, gMod, gDiv, gPow, gLt, gLe, gGt, gGe, gNeg, gAbs, gMax2, gMin2, gInt2, wChain, wPar3, wSl, wNoPart, wPart, wIEnumA, wIZipA, wIRng3, wLc, wLcM, wYes, wFld, wAug, wApp, wPop, wRev, wSubG, wMet, wBinO, wUnO, dstart, List.map_cons, List.map_nil, List.length_cons, List.length_nil, List.replicate, List.cons_append, List.nil_append, List.append_nil, List.getElem?_cons_zero, List.getElem?_cons_succ, List.set_cons_zero, List.set_cons_succ, Option.some.injEq, exists_eq_left', exists_eq_left, D.int.injEq, D.bl.injEq, D.str.injEq, D.tup.injEq, D.lst.injEq, D.obj.injEq, List.cons.injEq, and_true, true_and, Nat.zero_add, Nat.reduceAdd, Nat.reduceSub, decide_eq_true_eq, Bool.not_eq_true', decide_eq_false_iff_not, exists_and_left, exists_and_right, and_assoc, Bool.true_eq_false, Bool.false_eq_true, if_true, if_false, ne_eq, gFld_po1]
  refine .inl ⟨p.map qd, .inr (.inr rfl), fun a ha => ?_⟩
  refine cmp_map (fun d => match d with | .tup [.int i, .tup [.int n, .int m]] => qd ((i : Rat) * Rat.divInt n m) | _ => .non) ha (by simp only [enum, List.length_map, List.length_zipIdx]; omega) (fun _ _ => trivial) (fun d hd μ' hb R' hR => ?_) ?_
  · obtain ⟨i, c, hi, rfl⟩ := enum_qd hd
    have hc : coef p i = c := by unfold coef; rw [hi]; rfl
    have hcm := List.mem_of_getElem? hi
    have hil : i < p.length := (List.getElem?_eq_some_iff.mp hi).1
    simp only [wipeD, wRet, wRetN, wSeq, wNext, wIfS, wAsg, wName, wPar, wDrop, wDPut, wFor, wISeq, wIRng1, wIRng2, wVar, wC, wNil, wCons, wBin, wUn, wCB, wTst, wAnd, wOr, DL.wNot, wAndV, wOrV, wNotV, wIf, wTup, wLst, wLstM, wCall, wGTup, wGCons, wGNil, wBrk, wCnt, wRaise, gI, gU, gOne , DL.gSub, gMul, gMod, gDiv, gPow, gLt, gLe, gGt, gGe, gNeg, gAbs, gMax2, gMin2, gInt2, wChain, wPar3, wSl, wNoPart, wPart, wIEnumA, wIZipA, wIRng3, wLc, wLcM, wYes, wFld, wAug, wApp, wPop, wRev, wSubG, wMet, wBinO, wUnO, dstart, List.map_cons, List.map_nil, List.length_cons, List.length_nil, List.replicate, List.cons_append, List.nil_append, List.append_nil, List.getElem?_cons_zero, List.getElem?_cons_succ, List.set_cons_zero, List.set_cons_succ, Option.some.injEq, exists_eq_left', exists_eq_left, D.int.injEq, D.bl.injEq, D.str.injEq, D.tup.injEq, D.lst.injEq, D.obj.injEq, List.cons.injEq, and_true, true_and, Nat.zero_add, Nat.reduceAdd, Nat.reduceSub, decide_eq_true_eq, Bool.not_eq_true', decide_eq_false_iff_not, exists_and_left, exists_and_right, and_assoc, Bool.true_eq_false, Bool.false_eq_true, if_true, if_false, ne_eq, s_two, view_qd, view_int, ratV_qd, ratV_int, onR_some]
    have e : (((i : Nat) : Int) : Rat) = ((i : Nat) : Rat) := by push_cast; rfl
    rw [e]
    refine ⟨rfl, okD_qd (hz c hcm), Sz.nat (by omega), hz c hcm, ?_⟩
    have := hR
    simp only [qd, divInt_nd, e] at this
    exact this
  · have e4 : (enum (p.map qd)).map (fun d => match d with | .tup [.int i, .tup [.int n, .int m]] => qd ((i : Rat) * Rat.divInt n m) | _ => D.non) = ((List.range p.length).map fun k : Nat => (k : Rat) * coef p k).map qd := by
      refine List.ext_getElem? fun i => ?_
      rw [List.getElem?_map, List.getElem?_map, List.getElem?_map]
      unfold enum
      rw [List.getElem?_map, List.getElem?_zipIdx, List.getElem?_map]
      by_cases h : i < p.length
      · rw [List.getElem?_range h, List.getElem?_eq_getElem h]
        have e : (((i : Nat) : Int) : Rat) = ((i : Nat) : Rat) := by push_cast; rfl
        simp only [Option.map_some, qd, divInt_nd, coef_lt h, Nat.zero_add, e]
      · rw [List.getElem?_eq_none (by omega), List.getElem?_eq_none (by simpa using h)]
        rfl
    rw [e4, gSl_lst, show (1 : Int) = ((1 : Nat) : Int) from rfl, cutD_from, ← List.map_drop]
    refine ⟨okRow_ld (fun c hc => ?_) (by simp only [List.length_drop, List.length_map, List.length_range]; omega), ?_⟩
    · obtain ⟨k, _, rfl⟩ := List.mem_map.mp (List.mem_of_mem_drop hc)
      exact hk k
    · rw [show D.lst ((((List.range p.length).map fun k : Nat => (k : Rat) * coef p k).drop 1).map qd) = ld (((List.range p.length).map fun k : Nat => (k : Rat) * coef p k).drop 1) from rfl, rowV_ld]
      show Q (po C (trim _)) μ
      have : trim (((List.range p.length).map fun k : Nat => (k : Rat) * coef p k).drop 1) = pslope p := canon_ext (trim_canon _) (canon_pslope _) fun k => by
        rw [coef_trim, coef_pslope]
        have h1 : coef (((List.range p.length).map fun k : Nat => (k : Rat) * coef p k).drop 1) k = coef ((List.range p.length).map fun k : Nat => (k : Rat) * coef p k) (k + 1) := by
          unfold coef
          rw [List.getElem?_drop, Nat.add_comm 1 k]
        rw [h1, coef_map]
        split
        · rfl
        · rw [coef_ge (p := p) (by omega)]
          grind
      rw [this]
      exact q
/-- all on the way to the row of the values at a + b * t is of a fit size -/
def MovOk (p : List Rat) (a b : Rat) : Prop := Sz a ∧ Sz b ∧ p.length ≤ 400 ∧ ∀ c q l, p = l ++ c :: q → Sz c ∧ Pair (pmoved a b q) (trim [a, b]) ∧ Pair (pmul (pmoved a b q) (trim [a, b])) (trim [c])
def s_Poly_moved (CB C : Addr) : DF := fun ds μ Q F => ∃ p x y, ds = [po C p, x, y] ∧ okD (view μ x) ∧ onR (ratV (view μ x)) (fun a => okD (view μ y) ∧ onR (ratV (view μ y)) (fun b => MovOk p a b ∧ Q (po C (pmoved a b p)) μ)
  (F ⟨.ref CB, [("number", y), ("what", .str "step")]⟩ μ)) (F ⟨.ref CB, [("number", x), ("what", .str "start")]⟩ μ)
theorem tells_po {C : Addr} {μ : M} {p : List Rat} : tellsP C μ (po C p) p := .inl rfl
theorem drop_split {p : List Rat} {i : Nat} {c : Rat} {q : List Rat} (h : p.drop i = c :: q) : ∃ l, p = l ++ c :: q := ⟨p.take i, by rw [← h, List.take_append_drop]⟩
theorem okRow_tup {μ : M} {vs : List D} (hl : vs.length ≤ 100000) (h : ∀ v ∈ vs, okD (view μ v)) : okRow μ (.tup vs) := ⟨hl, h⟩
theorem p_Poly_moved (K : PySem.W.Frag) (CB R C : Addr) : ∀ ds μ Q F, s_Poly_moved CB C ds μ Q F → ds.length = 3 ∧ w_Poly_moved K C (s_told CB) (s_Poly R C) (s_bin C pmul) (s_bin C fun p r => pmul r p) (s_bin C padd) (s_bin C fun p r => padd r p) { nx := fun _ μ' => Q .non μ', rt := Q } F (dstart ["self", "start", "step", "first", "by", "found", "number"] ds) μ := by
  rintro _ μ Q F ⟨p, x, y, rfl, ho, q⟩
  refine ⟨rfl, ?_⟩
  simp only [w_Poly_moved, w_Poly_moved_0, w_Poly_moved_1, w_Poly_moved_2_0, w_Poly_moved_2, w_Poly_moved_3, s_told, s_Poly, wRet, wRetN, wSeq, wNext, wIfS, wAsg, wName, wPar, wDrop, wDPut, wFor, wISeq, wIRng1, wIRng2, wVar, wC, wNil, wCons, wBin, wUn, wCB, wTst, wAnd, wOr, DL.wNot, wAndV, wOrV, wNotV, wIf, wTup, wLst, wLstM, wCall, wGTup, wGCons, wGNil, wBrk, wCnt, wRaise, gI, gU, gOne , DL.gSub, gMul, gMod, gDiv, gPow, gLt, gLe, gGt, gGe, gNeg, gAbs, gMax2, gMin2, gInt2, wChain, wPar3, wSl, wNoPart, wPart, wIEnumA, wIZipA, wIRng3, wLc, wLcM, wYes, wFld, wAug, wApp, wPop, wRev, wSubG, wMet, wBinO, wUnO, dstart, List.map_cons, List.map_nil, List.length_cons, List.length_nil, List.replicate, List.cons_append, List.nil_append, List.append_nil, List.getElem?_cons_zero, List.getElem?_cons_succ, List.set_cons_zero, List.set_cons_succ, Option.some.injEq, exists_eq_left', exists_eq_left, D.int.injEq, D.bl.injEq, D.str.injEq, D.tup.injEq, D.lst.injEq, D.obj.injEq, List.cons.injEq, and_true, true_and, Nat.zero_add, Nat.reduceAdd, Nat.reduceSub, decide_eq_true_eq, Bool.not_eq_true', decide_eq_false_iff_not, exists_and_left, exists_and_right, and_assoc, Bool.true_eq_false, Bool.false_eq_true, if_true, if_false, ne_eq, gFld_po1]
  refine ⟨ho, ?_⟩
  cases e : ratV (view μ x) with
  | none =>
    rw [e] at q
    exact q
  | some a =>
    rw [e] at q
    obtain ⟨ho2, q⟩ := q
    refine ⟨ho2, ?_⟩
    cases e2 : ratV (view μ y) with
    | none =>
      rw [e2] at q
      exact q
    | some b =>
      rw [e2] at q
      obtain ⟨⟨ha, hb, hl, hm⟩, q⟩ := q
      refine ⟨by decide, okRow_tup (by decide) (by simp), ?_⟩
      unfold rowV
      rw [view_tup]
      simp only [rats, onP_some]
      refine .inr ⟨p.map qd, rfl, .inl ⟨_, .inr (.inr rfl), ?_⟩⟩
      refine loop_inv _ (fun i δ μ' => μ' = μ ∧ ∃ d, δ = [some (po C p), some x, some y, some (qd a), some (qd b), some (po C (pmoved a b (p.drop (p.length - i)))), d] ∧ i ≤ p.length) ⟨rfl, none, by simp [pmoved]; rfl, Nat.zero_le _⟩ (fun _ _ _ _ => trivial) ?_ ?_
      · rintro i d hd δ μ2 ⟨e8, d0, rfl, hi⟩ R' hR
        subst e8
        obtain ⟨c, rfl, hcm, hi', hdr⟩ := rev_get hd
        obtain ⟨l, hsp⟩ := drop_split hdr
        obtain ⟨hc, h1, h2⟩ := hm c _ l hsp
        simp only [wRet, wRetN, wSeq, wNext, wIfS, wAsg, wName, wPar, wDrop, wDPut, wFor, wISeq, wIRng1, wIRng2, wVar, wC, wNil, wCons, wBin, wUn, wCB, wTst, wAnd, wOr, DL.wNot, wAndV, wOrV, wNotV, wIf, wTup, wLst, wLstM, wCall, wGTup, wGCons, wGNil, wBrk, wCnt, wRaise, gI, gU, gOne , DL.gSub, gMul, gMod, gDiv, gPow, gLt, gLe, gGt, gGe, gNeg, gAbs, gMax2, gMin2, gInt2, wChain, wPar3, wSl, wNoPart, wPart, wIEnumA, wIZipA, wIRng3, wLc, wLcM, wYes, wFld, wAug, wApp, wPop, wRev, wSubG, wMet, wBinO, wUnO, dstart, List.map_cons, List.map_nil, List.length_cons, List.length_nil, List.replicate, List.cons_append, List.nil_append, List.append_nil, List.getElem?_cons_zero, List.getElem?_cons_succ, List.set_cons_zero, List.set_cons_succ, Option.some.injEq, exists_eq_left', exists_eq_left, D.int.injEq, D.bl.injEq, D.str.injEq, D.tup.injEq, D.lst.injEq, D.obj.injEq, List.cons.injEq, and_true, true_and, Nat.zero_add, Nat.reduceAdd, Nat.reduceSub, decide_eq_true_eq, Bool.not_eq_true', decide_eq_false_iff_not, exists_and_left, exists_and_right, and_assoc, Bool.true_eq_false, Bool.false_eq_true, if_true, if_false, ne_eq, wBinO, s_Poly]
        have r1 : rats μ2 [qd a, qd b] = some [a, b] := rats_qd [a, b]
        have r2 : rats μ2 [qd c] = some [c] := rats_qd [c]
        refine ⟨by decide, okRow_tup (by simp) (fun v hv => ?_), ?_⟩
        · rcases List.mem_cons.mp hv with rfl | hv
          · exact okD_qd ha
          · rw [List.mem_singleton.mp hv]; exact okD_qd hb
        unfold rowV
        rw [view_tup]
        show onP (rats μ2 [qd a, qd b]) _ _
        rw [r1, onP_some]
        refine .inr (own_pp.mpr ⟨_, _, _, rfl, tells_po, h1, ?_⟩)
        refine ⟨by decide, okRow_tup (by simp) (fun v hv => by rw [List.mem_singleton.mp hv]; exact okD_qd hc), ?_⟩
        rw [view_tup]
        show onP (rats μ2 [qd c]) _ _
        rw [r2, onP_some]
        refine .inr (own_pp.mpr ⟨_, _, _, rfl, tells_po, h2, hR _ _ ⟨rfl, some (qd c), ?_, by omega⟩⟩)
        rw [hdr]
        rfl
      · rintro δ μ2 ⟨e8, d0, rfl, hi⟩
        subst e8
        simp only [wRet, wRetN, wSeq, wNext, wIfS, wAsg, wName, wPar, wDrop, wDPut, wFor, wISeq, wIRng1, wIRng2, wVar, wC, wNil, wCons, wBin, wUn, wCB, wTst, wAnd, wOr, DL.wNot, wAndV, wOrV, wNotV, wIf, wTup, wLst, wLstM, wCall, wGTup, wGCons, wGNil, wBrk, wCnt, wRaise, gI, gU, gOne , DL.gSub, gMul, gMod, gDiv, gPow, gLt, gLe, gGt, gGe, gNeg, gAbs, gMax2, gMin2, gInt2, wChain, wPar3, wSl, wNoPart, wPart, wIEnumA, wIZipA, wIRng3, wLc, wLcM, wYes, wFld, wAug, wApp, wPop, wRev, wSubG, wMet, wBinO, wUnO, dstart, List.map_cons, List.map_nil, List.length_cons, List.length_nil, List.replicate, List.cons_append, List.nil_append, List.append_nil, List.getElem?_cons_zero, List.getElem?_cons_succ, List.set_cons_zero, List.set_cons_succ, Option.some.injEq, exists_eq_left', exists_eq_left, D.int.injEq, D.bl.injEq, D.str.injEq, D.tup.injEq, D.lst.injEq, D.obj.injEq, List.cons.injEq, and_true, true_and, Nat.zero_add, Nat.reduceAdd, Nat.reduceSub, decide_eq_true_eq, Bool.not_eq_true', decide_eq_false_iff_not, exists_and_left, exists_and_right, and_assoc, Bool.true_eq_false, Bool.false_eq_true, if_true, if_false, ne_eq]
        have hn : (p.map qd).reverse.length = p.length := by simp
        rw [hn, Nat.sub_self, List.drop_zero]
        exact q
end NC

set_option maxHeartbeats 2000000
namespace NC
open PySem PySem.Spec PyProof.Rows L2 DL LL PL
def w__law_ratio_0 (K : PySem.W.Frag) (s__law_draw s__law_pick s__law_q : DF) : DS := (wAsg (wCall s__law_pick (wCons (wVar 0) (wCons (wLst (wCons (wC (.int 1)) (wCons (wC (.int 1)) (wCons (wC (.int 2)) (wCons (wC (.int 3)) (wCons (wC (.int 7)) (wCons (wC (.int 10)) (wCons (wBin gAdd (wC (.int 1)) (wCall s__law_draw (wCons (wVar 0) (wCons (wC (.int 99)) wNil)))) wNil)))))))) wNil))) (wName 2))
def w__law_ratio_1 (K : PySem.W.Frag) (s__law_draw s__law_pick s__law_q : DF) : DS := (wRet (wCall s__law_q (wCons (wBin gSub (wCall s__law_draw (wCons (wVar 0) (wCons (wBin gAdd (wBin gMul (wBin gMul (wC (.int 2)) (wVar 1)) (wVar 2)) (wC (.int 1))) wNil))) (wBin gMul (wVar 1) (wVar 2))) (wCons (wVar 2) wNil))))
def w__law_ratio (K : PySem.W.Frag) (s__law_draw s__law_pick s__law_q : DF) : DS := (wSeq (w__law_ratio_0 K s__law_draw s__law_pick s__law_q) (w__law_ratio_1 K s__law_draw s__law_pick s__law_q))
def w__law_passed_0 (K : PySem.W.Frag) (s__law_draw s__law_pick : DF) : DS := (wIfS (wAnd (wTst (wBin (gEq false) (wBin gIx (wVar 1) (wC (.int 1))) (wC (.int 1)))) (wTst (wBin (gEq false) (wCall s__law_draw (wCons (wVar 0) (wCons (wC (.int 2)) wNil))) (wC (.int 0))))) (wRet (wBin gIx (wVar 1) (wC (.int 0)))) wNext)
def w__law_passed_1 (K : PySem.W.Frag) (s__law_draw s__law_pick : DF) : DS := (wAsg (wCall s__law_pick (wCons (wVar 0) (wCons (wLst (wCons (wC (.int 1)) (wCons (wC (.int 1)) (wCons (wC (.int 2)) (wCons (wC (.int 3)) wNil))))) wNil))) (wName 2))
def w__law_passed_2 (K : PySem.W.Frag) (s__law_draw s__law_pick : DF) : DS := (wRet (wCall s__law_pick (wCons (wVar 0) (wCons (wLst (wCons (wTup (wCons (wBin gMul (wBin gIx (wVar 1) (wC (.int 0))) (wVar 2)) (wCons (wBin gMul (wBin gIx (wVar 1) (wC (.int 1))) (wVar 2)) wNil))) (wCons (wLst (wCons (wBin gMul (wBin gIx (wVar 1) (wC (.int 0))) (wVar 2)) (wCons (wBin gMul (wBin gIx (wVar 1) (wC (.int 1))) (wVar 2)) wNil))) wNil))) wNil))))
def w__law_passed (K : PySem.W.Frag) (s__law_draw s__law_pick : DF) : DS := (wSeq (w__law_passed_0 K s__law_draw s__law_pick) (wSeq (w__law_passed_1 K s__law_draw s__law_pick) (w__law_passed_2 K s__law_draw s__law_pick)))
def w__law_poly_0 (K : PySem.W.Frag)  : DS := (wAsg (wCB (gOne gListM) (wCons (wVar 0) wNil)) (wName 1))
def w__law_poly_1_0 (K : PySem.W.Frag)  : DS := (wIfS (wOr (wTst (wBin (gEq false) (wVar 1) (wLst wNil))) (wTst (wBin (gEq true) (wBin gIx (wBin gIx (wVar 1) (wUn gNeg (wC (.int 1)))) (wC (.int 0))) (wC (.int 0))))) wBrk wNext)
def w__law_poly_1_1 (K : PySem.W.Frag)  : DS := (wDrop (wPop (wVar 1)))
def w__law_poly_1 (K : PySem.W.Frag)  : DS := (wFor (wIRng1 (wCons (wCB (gOne gLen) (wCons (wVar 0) wNil)) wNil)) (wName 2) (wSeq (w__law_poly_1_0 K) (w__law_poly_1_1 K)))
def w__law_poly_2 (K : PySem.W.Frag)  : DS := (wRet (wVar 1))
def w__law_poly (K : PySem.W.Frag)  : DS := (wSeq (w__law_poly_0 K) (wSeq (w__law_poly_1 K) (w__law_poly_2 K)))
def w__law_p_plus_0 (K : PySem.W.Frag) (s__law_plus s__law_poly : DF) : DS := (wAsg (wCB (gOne gMaxL) (wCons (wLst (wCons (wCB (gOne gLen) (wCons (wVar 0) wNil)) (wCons (wCB (gOne gLen) (wCons (wVar 1) wNil)) wNil))) wNil)) (wName 2))
def w__law_p_plus_1 (K : PySem.W.Frag) (s__law_plus s__law_poly : DF) : DS := (wPar 3 4 (wCons (wBin gAdd (wVar 0) (wBin gRep (wLst (wCons (wTup (wCons (wC (.int 0)) (wCons (wC (.int 1)) wNil))) wNil)) (wBin gSub (wVar 2) (wCB (gOne gLen) (wCons (wVar 0) wNil))))) (wCons (wBin gAdd (wVar 1) (wBin gRep (wLst (wCons (wTup (wCons (wC (.int 0)) (wCons (wC (.int 1)) wNil))) wNil)) (wBin gSub (wVar 2) (wCB (gOne gLen) (wCons (wVar 1) wNil))))) wNil)))
def w__law_p_plus_2 (K : PySem.W.Frag) (s__law_plus s__law_poly : DF) : DS := (wRet (wCall s__law_poly (wCons (wLc (wIZipA (wCons (wVar 3) (wCons (wVar 4) wNil))) (wGTup 2 (wGCons (wName 5) (wGCons (wName 6) wGNil))) wYes (wCall s__law_plus (wCons (wVar 5) (wCons (wVar 6) wNil))) [5, 6]) wNil)))
def w__law_p_plus (K : PySem.W.Frag) (s__law_plus s__law_poly : DF) : DS := (wSeq (w__law_p_plus_0 K s__law_plus s__law_poly) (wSeq (w__law_p_plus_1 K s__law_plus s__law_poly) (w__law_p_plus_2 K s__law_plus s__law_poly)))
def w__law_p_scaled_0 (K : PySem.W.Frag) (s__law_times s__law_poly : DF) : DS := (wRet (wCall s__law_poly (wCons (wLc (wISeq (wVar 0)) (wName 2) wYes (wCall s__law_times (wCons (wVar 2) (wCons (wVar 1) wNil))) [2]) wNil)))
def w__law_p_scaled (K : PySem.W.Frag) (s__law_times s__law_poly : DF) : DS := (w__law_p_scaled_0 K s__law_times s__law_poly)
def w__law_p_minus_0 (K : PySem.W.Frag) (s__law_p_scaled s__law_p_plus : DF) : DS := (wRet (wCall s__law_p_plus (wCons (wVar 0) (wCons (wCall s__law_p_scaled (wCons (wVar 1) (wCons (wTup (wCons (wUn gNeg (wC (.int 1))) (wCons (wC (.int 1)) wNil))) wNil))) wNil))))
def w__law_p_minus (K : PySem.W.Frag) (s__law_p_scaled s__law_p_plus : DF) : DS := (w__law_p_minus_0 K s__law_p_scaled s__law_p_plus)
def w__law_p_times_0 (K : PySem.W.Frag) (s__law_times s__law_plus s__law_poly : DF) : DS := (wAsg (wBin gRepM (wLst (wCons (wTup (wCons (wC (.int 0)) (wCons (wC (.int 1)) wNil))) wNil)) (wCB (gOne gMaxL) (wCons (wLst (wCons (wC (.int 0)) (wCons (wBin gSub (wBin gAdd (wCB (gOne gLen) (wCons (wVar 0) wNil)) (wCB (gOne gLen) (wCons (wVar 1) wNil))) (wC (.int 1))) wNil))) wNil))) (wName 2))
def w__law_p_times_1_0_0 (K : PySem.W.Frag) (s__law_times s__law_plus s__law_poly : DF) : DS := (wAsg (wCall s__law_plus (wCons (wBin gIx (wVar 2) (wBin gAdd (wVar 3) (wVar 4))) (wCons (wCall s__law_times (wCons (wBin gIx (wVar 0) (wVar 3)) (wCons (wBin gIx (wVar 1) (wVar 4)) wNil))) wNil))) (wSubG (wVar 2) (wBin gAdd (wVar 3) (wVar 4))))
def w__law_p_times_1_0 (K : PySem.W.Frag) (s__law_times s__law_plus s__law_poly : DF) : DS := (wFor (wIRng1 (wCons (wCB (gOne gLen) (wCons (wVar 1) wNil)) wNil)) (wName 4) (w__law_p_times_1_0_0 K s__law_times s__law_plus s__law_poly))
def w__law_p_times_1 (K : PySem.W.Frag) (s__law_times s__law_plus s__law_poly : DF) : DS := (wFor (wIRng1 (wCons (wCB (gOne gLen) (wCons (wVar 0) wNil)) wNil)) (wName 3) (w__law_p_times_1_0 K s__law_times s__law_plus s__law_poly))
def w__law_p_times_2 (K : PySem.W.Frag) (s__law_times s__law_plus s__law_poly : DF) : DS := (wRet (wCall s__law_poly (wCons (wVar 2) wNil)))
def w__law_p_times (K : PySem.W.Frag) (s__law_times s__law_plus s__law_poly : DF) : DS := (wSeq (w__law_p_times_0 K s__law_times s__law_plus s__law_poly) (wSeq (w__law_p_times_1 K s__law_times s__law_plus s__law_poly) (w__law_p_times_2 K s__law_times s__law_plus s__law_poly)))
def w__law_p_at_0 (K : PySem.W.Frag) (s__law_times s__law_plus : DF) : DS := (wAsg (wTup (wCons (wC (.int 0)) (wCons (wC (.int 1)) wNil))) (wName 2))
def w__law_p_at_1_0 (K : PySem.W.Frag) (s__law_times s__law_plus : DF) : DS := (wAsg (wCall s__law_plus (wCons (wCall s__law_times (wCons (wVar 2) (wCons (wVar 1) wNil))) (wCons (wVar 3) wNil))) (wName 2))
def w__law_p_at_1 (K : PySem.W.Frag) (s__law_times s__law_plus : DF) : DS := (wFor (wISeq (wRev (wVar 0))) (wName 3) (w__law_p_at_1_0 K s__law_times s__law_plus))
def w__law_p_at_2 (K : PySem.W.Frag) (s__law_times s__law_plus : DF) : DS := (wRet (wVar 2))
def w__law_p_at (K : PySem.W.Frag) (s__law_times s__law_plus : DF) : DS := (wSeq (w__law_p_at_0 K s__law_times s__law_plus) (wSeq (w__law_p_at_1 K s__law_times s__law_plus) (w__law_p_at_2 K s__law_times s__law_plus)))
def w__law_p_slope_0 (K : PySem.W.Frag) (s__law_times s__law_poly : DF) : DS := (wRet (wCall s__law_poly (wCons (wLc (wIRng2 (wCons (wC (.int 1)) (wCons (wCB (gOne gLen) (wCons (wVar 0) wNil)) wNil))) (wName 1) wYes (wCall s__law_times (wCons (wBin gIx (wVar 0) (wVar 1)) (wCons (wTup (wCons (wVar 1) (wCons (wC (.int 1)) wNil))) wNil))) [1]) wNil)))
def w__law_p_slope (K : PySem.W.Frag) (s__law_times s__law_poly : DF) : DS := (w__law_p_slope_0 K s__law_times s__law_poly)
def w__law_p_moved_0 (K : PySem.W.Frag) (s__law_poly s__law_p_times s__law_p_plus : DF) : DS := (wPar 3 4 (wCons (wLst wNil) (wCons (wCall s__law_poly (wCons (wLst (wCons (wVar 1) (wCons (wVar 2) wNil))) wNil)) wNil)))
def w__law_p_moved_1_0 (K : PySem.W.Frag) (s__law_poly s__law_p_times s__law_p_plus : DF) : DS := (wAsg (wCall s__law_p_plus (wCons (wCall s__law_p_times (wCons (wVar 3) (wCons (wVar 4) wNil))) (wCons (wCall s__law_poly (wCons (wLst (wCons (wVar 5) wNil)) wNil)) wNil))) (wName 3))
def w__law_p_moved_1 (K : PySem.W.Frag) (s__law_poly s__law_p_times s__law_p_plus : DF) : DS := (wFor (wISeq (wRev (wVar 0))) (wName 5) (w__law_p_moved_1_0 K s__law_poly s__law_p_times s__law_p_plus))
def w__law_p_moved_2 (K : PySem.W.Frag) (s__law_poly s__law_p_times s__law_p_plus : DF) : DS := (wRet (wVar 3))
def w__law_p_moved (K : PySem.W.Frag) (s__law_poly s__law_p_times s__law_p_plus : DF) : DS := (wSeq (w__law_p_moved_0 K s__law_poly s__law_p_times s__law_p_plus) (wSeq (w__law_p_moved_1 K s__law_poly s__law_p_times s__law_p_plus) (w__law_p_moved_2 K s__law_poly s__law_p_times s__law_p_plus)))
def w__law_made_poly_0 (K : PySem.W.Frag) (a_Poly : Addr) (s__law_passed s__law_draw s__law_pick s_Poly : DF) : DS := (wAsg (wBin gAdd (wLc (wISeq (wVar 1)) (wName 3) wYes (wCall s__law_passed (wCons (wVar 0) (wCons (wVar 3) wNil))) [3]) (wBin gRep (wLst (wCons (wC (.int 0)) wNil)) (wCall s__law_draw (wCons (wVar 0) (wCons (wC (.int 2)) wNil))))) (wName 2))
def w__law_made_poly_1 (K : PySem.W.Frag) (a_Poly : Addr) (s__law_passed s__law_draw s__law_pick s_Poly : DF) : DS := (wRet (wCall s_Poly (wCons (wCall s__law_pick (wCons (wVar 0) (wCons (wLst (wCons (wCB (gOne gTuple) (wCons (wVar 2) wNil)) (wCons (wVar 2) wNil))) wNil))) wNil)))
def w__law_made_poly (K : PySem.W.Frag) (a_Poly : Addr) (s__law_passed s__law_draw s__law_pick s_Poly : DF) : DS := (wSeq (w__law_made_poly_0 K a_Poly s__law_passed s__law_draw s__law_pick s_Poly) (w__law_made_poly_1 K a_Poly s__law_passed s__law_draw s__law_pick s_Poly))
def w__law_drawn_0 (K : PySem.W.Frag) (s__law_draw s__law_ratio s__law_poly : DF) : DS := (wRet (wCall s__law_poly (wCons (wLc (wIRng1 (wCons (wBin gAdd (wC (.int 1)) (wCall s__law_draw (wCons (wVar 0) (wCons (wBin gAdd (wVar 1) (wC (.int 1))) wNil)))) wNil)) (wName 3) wYes (wCall s__law_ratio (wCons (wVar 0) (wCons (wVar 2) wNil))) [3]) wNil)))
def w__law_drawn (K : PySem.W.Frag) (s__law_draw s__law_ratio s__law_poly : DF) : DS := (w__law_drawn_0 K s__law_draw s__law_ratio s__law_poly)
def w__law_any_0 (K : PySem.W.Frag) (s__law_pick : DF) : DS := (wAsg (wLst (wCons (wC .non) (wCons (wC (.bl true)) (wCons (wC (.str "1")) (wCons (wTup (wCons (wC (.int 1)) (wCons (wC (.int 0)) wNil))) (wCons (wTup (wCons (wC (.int 1)) (wCons (wUn gNeg (wC (.int 2))) wNil))) (wCons (wTup (wCons (wC (.int 1)) (wCons (wC (.bl true)) wNil))) (wCons (wLst (wCons (wC (.int 1)) wNil)) (wCons (wTup (wCons (wC (.int 1)) (wCons (wC (.int 2)) (wCons (wC (.int 3)) wNil)))) (wCons (wDct (((wC (.str "a")), (wC (.int 1))) :: [])) (wCons (wTup (wCons (wC (.str "1")) (wCons (wC (.int 2)) wNil))) (wCons (wTup (wCons (wC .non) (wCons (wC (.int 1)) wNil))) (wCons (wTup (wCons (wC (.bl true)) (wCons (wC (.int 2)) wNil))) wNil))))))))))))) (wName 1))
def w__law_any_1 (K : PySem.W.Frag) (s__law_pick : DF) : DS := (wRet (wCall s__law_pick (wCons (wVar 0) (wCons (wBin gAdd (wVar 1) (wLst (wCons (wLst (wCons (wC (.int 2)) (wCons (wC (.bl false)) wNil))) (wCons (wTup (wCons (wTup (wCons (wC (.int 1)) (wCons (wC (.int 2)) wNil))) (wCons (wC (.int 3)) wNil))) (wCons (wTup wNil) wNil))))) wNil))))
def w__law_any (K : PySem.W.Frag) (s__law_pick : DF) : DS := (wSeq (w__law_any_0 K s__law_pick) (w__law_any_1 K s__law_pick))
/-! ### drawn ratios -/
def N99 : Nat := 69720375229712477164533808935312303556800
/-- a drawn ratio -/
structure Dr (most : Nat) (q : Rat) : Prop where
  dv : q.den ∣ N99
  dl : q.den ≤ 100
  bd : Bd q.den most q
theorem all99 : ∀ d, d < 100 → 0 < d → d ∣ N99 := by decide +kernel
theorem Dr.bn {most : Nat} {q : Rat} (h : Dr most q) : Bd N99 most q := h.bd.mono h.dv (Nat.le_refl _)
theorem bd_of_int {t b : Int} {N most : Nat} (hb : 0 < b) (h1 : (Rat.divInt t b).den ∣ N) (ht : t.natAbs ≤ most * b.natAbs) : Bd N most (Rat.divInt t b) := by
  have hp : (0 : Rat) < (b : Rat) := by exact_mod_cast hb
  have e : Rat.divInt t b * (b : Rat) = (t : Rat) := by
    rw [Rat.divInt_eq_div]
    grind
  have h3 : (t : Rat) ≤ (most : Rat) * (b : Rat) := by
    have : t ≤ (most : Int) * b := by
      have : ((most * b.natAbs : Nat) : Int) = (most : Int) * b := by
        push_cast
        congr 1
        omega
      omega
    exact_mod_cast this
  have h4 : -((most : Rat) * (b : Rat)) ≤ (t : Rat) := by
    have h5 : -((most : Int) * b) ≤ t := by
      have : ((most * b.natAbs : Nat) : Int) = (most : Int) * b := by
        push_cast
        congr 1
        omega
      omega
    have := Rat.intCast_le_intCast.mpr h5
    push_cast at this
    exact this
  generalize Rat.divInt t b = q at *
  refine ⟨h1, ?_, ?_⟩
  · rcases Rat.le_total (a := q) (b := (most : Rat)) with h | h
    · exact h
    · have := Rat.mul_nonneg (a := q - (most : Rat)) (b := (b : Rat)) (by grind) (by grind)
      have z : (q - (most : Rat)) * (b : Rat) = 0 := by grind
      rcases Rat.mul_eq_zero.mp z with z | z <;> grind
  · rcases Rat.le_total (a := -(most : Rat)) (b := q) with h | h
    · exact h
    · have := Rat.mul_nonneg (a := -(most : Rat) - q) (b := (b : Rat)) (by grind) (by grind)
      have z : (-(most : Rat) - q) * (b : Rat) = 0 := by grind
      rcases Rat.mul_eq_zero.mp z with z | z <;> grind
theorem dr_of {t b : Int} {most : Nat} (hb : 0 < b) (hb2 : b < 100) (ht : t.natAbs ≤ most * b.natAbs) : Dr most (Rat.divInt t b) := by
  have hd : (Rat.divInt t b).den ∣ b.natAbs := by
    refine den_dvd.mpr ⟨t, ?_⟩
    have hp : (0 : Rat) < (b : Rat) := by exact_mod_cast hb
    have e : ((b.natAbs : Nat) : Rat) = (b : Rat) := by
      have : ((b.natAbs : Nat) : Int) = b := by omega
      exact_mod_cast congrArg (fun i : Int => (i : Rat)) this
    rw [e, Rat.divInt_eq_div]
    grind
  have hl : (Rat.divInt t b).den ≤ b.natAbs := Nat.le_of_dvd (by omega) hd
  exact ⟨all99 _ (by omega) (den_pos _), by omega, bd_of_int hb (Nat.dvd_refl _) ht⟩
theorem mul_small2 {i j : Int} (h1 : i.natAbs < 2 ^ 400) (h2 : j.natAbs < 2 ^ 400) : CMulX i j := mul_w h1 h2
def s__law_ratio : DF := fun ds μ Q _ => ∃ (p : Addr) (most m : Nat), ds = [.obj p, .int most] ∧ most ≤ 10 ^ 12 ∧ Pen p μ m ∧ m + 3 ≤ 1000000 ∧ ∀ q μ', Dr most q → Only p μ μ' → Pen p μ' (m + 3) → Q (qd q) μ'
theorem p__law_ratio (K : PySem.W.Frag) : ∀ ds μ Q F, s__law_ratio ds μ Q F → ds.length = 2 ∧ w__law_ratio K s__law_draw s__law_pick s__law_q { nx := fun _ μ' => Q .non μ', rt := Q } F (dstart ["_law_pen_here", "_law_most", "_law_bottom"] ds) μ := by
  rintro _ μ Q F ⟨p, most, m, rfl, h1, pen, hm, q⟩
  refine ⟨rfl, ?_⟩
  simp only [w__law_ratio, w__law_ratio_0, w__law_ratio_1, wRet, wRetN, wSeq, wNext, wIfS, wAsg, wName, wPar, wDrop, wDPut, wFor, wISeq, wIRng1, wIRng2, wVar, wC, wNil, wCons, wBin, wUn, wCB, wTst, wAnd, wOr, DL.wNot, wAndV, wOrV, wNotV, wIf, wTup, wLst, wLstM, wCall, wGTup, wGCons, wGNil, wBrk, wCnt, wRaise, gI, gU, gOne , DL.gSub, gMul, gMod, gDiv, gPow, gLt, gLe, gGt, gGe, gNeg, gAbs, gMax2, gMin2, gInt2, wChain, wPar3, wSl, wNoPart, wPart, wIEnumA, wIZipA, wIRng3, wLc, wLcM, wYes, wFld, wAug, wApp, wPop, wRev, wSubG, wMet, wBinO, wUnO, dstart, List.map_cons, List.map_nil, List.length_cons, List.length_nil, List.replicate, List.cons_append, List.nil_append, List.append_nil, List.getElem?_cons_zero, List.getElem?_cons_succ, List.set_cons_zero, List.set_cons_succ, Option.some.injEq, exists_eq_left', exists_eq_left, D.int.injEq, D.bl.injEq, D.str.injEq, D.tup.injEq, D.lst.injEq, D.obj.injEq, List.cons.injEq, and_true, true_and, Nat.zero_add, Nat.reduceAdd, Nat.reduceSub, decide_eq_true_eq, Bool.not_eq_true', decide_eq_false_iff_not, exists_and_left, exists_and_right, and_assoc, Bool.true_eq_false, Bool.false_eq_true, if_true, if_false, ne_eq, gAdd_int]
  refine ⟨p, 99, m, rfl, by decide, by decide, pen, by omega, fun v μ1 v0 v1 u1 pen1 => ?_⟩
  simp only [dstart, List.map_cons, List.map_nil, List.length_cons, List.length_nil, List.replicate, List.cons_append, List.nil_append, List.append_nil, List.getElem?_cons_zero, List.getElem?_cons_succ, List.set_cons_zero, List.set_cons_succ, Option.some.injEq, exists_eq_left', exists_eq_left, D.int.injEq, D.bl.injEq, D.str.injEq, D.tup.injEq, D.lst.injEq, D.obj.injEq, List.cons.injEq, and_true, true_and, Nat.zero_add, Nat.reduceAdd, Nat.reduceSub, decide_eq_true_eq, Bool.not_eq_true', decide_eq_false_iff_not, exists_and_left, exists_and_right, and_assoc, Bool.true_eq_false, Bool.false_eq_true, if_true, if_false, ne_eq, gAdd_int]
  refine ⟨by decide, p, _, _, .inl rfl, by simp, by simp, pen1, by omega, fun b hb μ2 u2 pen2 => ?_⟩
  obtain ⟨j, rfl, j0, j1⟩ : ∃ j : Int, b = .int j ∧ 0 < j ∧ j < 100 := by
    simp only [List.mem_cons, List.not_mem_nil, or_false] at hb
    rcases hb with rfl | rfl | rfl | rfl | rfl | rfl | rfl
    · exact ⟨1, rfl, by decide, by decide⟩
    · exact ⟨1, rfl, by decide, by decide⟩
    · exact ⟨2, rfl, by decide, by decide⟩
    · exact ⟨3, rfl, by decide, by decide⟩
    · exact ⟨7, rfl, by decide, by decide⟩
    · exact ⟨10, rfl, by decide, by decide⟩
    · exact ⟨_, rfl, by omega, by omega⟩
  obtain ⟨jn, rfl⟩ : ∃ jn : Nat, j = (jn : Int) := ⟨j.toNat, by omega⟩
  have mj : most * jn ≤ 10 ^ 12 * 100 := Nat.mul_le_mul h1 (by omega)
  have e1 : (most : Int) * (jn : Int) = ((most * jn : Nat) : Int) := by push_cast; rfl
  have e2 : 2 * (most : Int) * (jn : Int) = ((2 * (most * jn) : Nat) : Int) := by push_cast; rw [Int.mul_assoc]
  simp only [dstart, List.map_cons, List.map_nil, List.length_cons, List.length_nil, List.replicate, List.cons_append, List.nil_append, List.append_nil, List.getElem?_cons_zero, List.getElem?_cons_succ, List.set_cons_zero, List.set_cons_succ, Option.some.injEq, exists_eq_left', exists_eq_left, D.int.injEq, D.bl.injEq, D.str.injEq, D.tup.injEq, D.lst.injEq, D.obj.injEq, List.cons.injEq, and_true, true_and, Nat.zero_add, Nat.reduceAdd, Nat.reduceSub, decide_eq_true_eq, Bool.not_eq_true', decide_eq_false_iff_not, exists_and_left, exists_and_right, and_assoc, Bool.true_eq_false, Bool.false_eq_true, if_true, if_false, ne_eq, gAdd_int, wRet, wRetN, wSeq, wNext, wIfS, wAsg, wName, wPar, wDrop, wDPut, wFor, wISeq, wIRng1, wIRng2, wVar, wC, wNil, wCons, wBin, wUn, wCB, wTst, wAnd, wOr, DL.wNot, wAndV, wOrV, wNotV, wIf, wTup, wLst, wLstM, wCall, wGTup, wGCons, wGNil, wBrk, wCnt, wRaise, gI, gU, gOne , DL.gSub, gMul, gMod, gDiv, gPow, gLt, gLe, gGt, gGe, gNeg, gAbs, gMax2, gMin2, gInt2, wChain, wPar3, wSl, wNoPart, wPart, wIEnumA, wIZipA, wIRng3, wLc, wLcM, wYes, wFld, wAug, wApp, wPop, wRev, wSubG, wMet, wBinO, wUnO]
  refine ⟨mul_small2 (by omega) (by omega), mul_small2 (by omega) (by omega), p, _, _, rfl, by omega, by omega, pen2, by omega, fun v μ3 v0 v1 u3 pen3 => ?_⟩
  refine ⟨mul_small2 (by omega) (by omega), v, rfl, v - most * jn, jn, rfl, by omega, ?_, ?_, q _ μ3 (dr_of j0 j1 ?_) ((u1.trans u2).trans u3) (pen3.mono (by omega))⟩
  · exact Nat.lt_of_le_of_lt (show (v - most * jn).natAbs ≤ 10 ^ 15 by omega) (by decide +kernel)
  · exact Nat.lt_of_le_of_lt (show (jn : Int).natAbs ≤ 10 ^ 15 by omega) (by decide +kernel)
  · show (v - most * jn).natAbs ≤ most * (jn : Int).natAbs
    rw [Int.natAbs_natCast]
    omega
/-! ### a ratio as it is passed -/
def pass (q : Rat) (v : D) : Prop := (q.den = 1 ∧ v = .int q.num) ∨ ∃ k : Int, 0 < k ∧ k ≤ 3 ∧ (v = .tup [.int (q.num * k), .int (q.den * k)] ∨ v = .lst [.int (q.num * k), .int (q.den * k)])
theorem divInt_k {q : Rat} {k : Int} (hk : 0 < k) : Rat.divInt (q.num * k) (q.den * k) = q := by
  rw [Rat.divInt_eq_div]
  have e := q_den_mul q
  have h1 : (0 : Rat) < (k : Rat) := by exact_mod_cast hk
  have h2 : (0 : Rat) < ((q.den : Nat) : Rat) := by exact_mod_cast den_pos q
  push_cast
  have h3 : ((q.den : Nat) : Rat) * (k : Rat) ≠ 0 := by
    intro z
    rcases Rat.mul_eq_zero.mp z with z | z <;> grind
  have e2 : (q.num : Rat) * (k : Rat) = q * (((q.den : Nat) : Rat) * (k : Rat)) := by rw [← e]; grind
  rw [e2]
  grind
theorem pass_ok {q : Rat} {v : D} {μ : M} (h : pass q v) (hz : Sz q) : view μ v = v ∧ okD v ∧ ratV v = some q ∧ (∃ t, tyN v = some t ∧ t ∈ (["int", "bool", "NoneType", "str", "tuple", "list", "dict"] : List String)) := by
  rcases h with ⟨h1, rfl⟩ | ⟨k, h1, h2, h⟩
  · refine ⟨rfl, rfl, ?_, _, rfl, by simp⟩
    rw [ratV_int]
    have e := q_den_mul q
    rw [h1] at e
    congr 1
    grind
  · have hd : 0 < (q.den : Int) * k := Int.mul_pos (by have := den_pos q; omega) h1
    have hl : ((q.den : Int) * k).natAbs < 2 ^ 24998 := by
      have h3 : k.natAbs < 2 ^ 2 := by omega
      exact up (mul_sz (a := 12000) (b := 2) (show ((q.den : Nat) : Int).natAbs < 2 ^ 12000 from hz.2) h3)
    have hr : (if 0 < (q.den : Int) * k then some (Rat.divInt (q.num * k) (q.den * k)) else none) = some q := by rw [if_pos hd, divInt_k h1]
    rcases h with rfl | rfl
    · exact ⟨rfl, ⟨rfl, rfl, fun e he => by cases he; exact hl⟩, hr, _, rfl, by simp⟩
    · exact ⟨rfl, ⟨rfl, rfl, fun e he => by cases he; exact hl⟩, hr, _, rfl, by simp⟩
def s__law_passed : DF := fun ds μ Q _ => ∃ p q m, ds = [.obj p, qd q] ∧ Sz q ∧ Pen p μ m ∧ m + 3 ≤ 1000000 ∧ ∀ v μ', pass q v → Only p μ μ' → Pen p μ' (m + 3) → Q v μ'
theorem p__law_passed (K : PySem.W.Frag) : ∀ ds μ Q F, s__law_passed ds μ Q F → ds.length = 2 ∧ w__law_passed K s__law_draw s__law_pick { nx := fun _ μ' => Q .non μ', rt := Q } F (dstart ["_law_pen_here", "_law_ratio_here", "_law_by"] ds) μ := by
  rintro _ μ Q F ⟨p, q, m, rfl, hz, pen, hm, k⟩
  refine ⟨rfl, ?_⟩
  have tail : ∀ (μ1 : M) (m1 : Nat) (c : Option D), Only p μ μ1 → Pen p μ1 m1 → m1 ≤ m + 1 → wSeq (w__law_passed_1 K s__law_draw s__law_pick) (w__law_passed_2 K s__law_draw s__law_pick) { nx := fun _ μ' => Q .non μ', rt := Q } F [some (.obj p), some (qd q), c] μ1 := by
    intro μ1 m1 c o1 p1 hm1
    simp only [w__law_passed_1, w__law_passed_2, wRet, wRetN, wSeq, wNext, wIfS, wAsg, wName, wPar, wDrop, wDPut, wFor, wISeq, wIRng1, wIRng2, wVar, wC, wNil, wCons, wBin, wUn, wCB, wTst, wAnd, wOr, DL.wNot, wAndV, wOrV, wNotV, wIf, wTup, wLst, wLstM, wCall, wGTup, wGCons, wGNil, wBrk, wCnt, wRaise, gI, gU, gOne , DL.gSub, gMul, gMod, gDiv, gPow, gLt, gLe, gGt, gGe, gNeg, gAbs, gMax2, gMin2, gInt2, wChain, wPar3, wSl, wNoPart, wPart, wIEnumA, wIZipA, wIRng3, wLc, wLcM, wYes, wFld, wAug, wApp, wPop, wRev, wSubG, wMet, wBinO, wUnO, dstart, List.map_cons, List.map_nil, List.length_cons, List.length_nil, List.replicate, List.cons_append, List.nil_append, List.append_nil, List.getElem?_cons_zero, List.getElem?_cons_succ, List.set_cons_zero, List.set_cons_succ, Option.some.injEq, exists_eq_left', exists_eq_left, D.int.injEq, D.bl.injEq, D.str.injEq, D.tup.injEq, D.lst.injEq, D.obj.injEq, List.cons.injEq, and_true, true_and, Nat.zero_add, Nat.reduceAdd, Nat.reduceSub, decide_eq_true_eq, Bool.not_eq_true', decide_eq_false_iff_not, exists_and_left, exists_and_right, and_assoc, Bool.true_eq_false, Bool.false_eq_true, if_true, if_false, ne_eq]
    refine ⟨by decide, p, _, _, .inl rfl, by simp, by simp, p1, by omega, fun b hb μ2 o2 p2 => ?_⟩
    obtain ⟨j, rfl, j0, j1⟩ : ∃ j : Int, b = .int j ∧ 0 < j ∧ j ≤ 3 := by
      simp only [List.mem_cons, List.not_mem_nil, or_false] at hb
      rcases hb with rfl | rfl | rfl | rfl
      · exact ⟨1, rfl, by decide, by decide⟩
      · exact ⟨1, rfl, by decide, by decide⟩
      · exact ⟨2, rfl, by decide, by decide⟩
      · exact ⟨3, rfl, by decide, by decide⟩
    have hj : j.natAbs < 2 ^ 2 := by omega
    have hd : ((q.den : Nat) : Int).natAbs < 2 ^ 12000 := hz.2
    simp only [wRet, wRetN, wSeq, wNext, wIfS, wAsg, wName, wPar, wDrop, wDPut, wFor, wISeq, wIRng1, wIRng2, wVar, wC, wNil, wCons, wBin, wUn, wCB, wTst, wAnd, wOr, DL.wNot, wAndV, wOrV, wNotV, wIf, wTup, wLst, wLstM, wCall, wGTup, wGCons, wGNil, wBrk, wCnt, wRaise, gI, gU, gOne , DL.gSub, gMul, gMod, gDiv, gPow, gLt, gLe, gGt, gGe, gNeg, gAbs, gMax2, gMin2, gInt2, wChain, wPar3, wSl, wNoPart, wPart, wIEnumA, wIZipA, wIRng3, wLc, wLcM, wYes, wFld, wAug, wApp, wPop, wRev, wSubG, wMet, wBinO, wUnO, dstart, List.map_cons, List.map_nil, List.length_cons, List.length_nil, List.replicate, List.cons_append, List.nil_append, List.append_nil, List.getElem?_cons_zero, List.getElem?_cons_succ, List.set_cons_zero, List.set_cons_succ, Option.some.injEq, exists_eq_left', exists_eq_left, D.int.injEq, D.bl.injEq, D.str.injEq, D.tup.injEq, D.lst.injEq, D.obj.injEq, List.cons.injEq, and_true, true_and, Nat.zero_add, Nat.reduceAdd, Nat.reduceSub, decide_eq_true_eq, Bool.not_eq_true', decide_eq_false_iff_not, exists_and_left, exists_and_right, and_assoc, Bool.true_eq_false, Bool.false_eq_true, if_true, if_false, ne_eq, gIx_q0, gIx_q1]
    refine ⟨mul_w hz.1 hj, mul_w hd hj, by decide, mul_w hz.1 hj, mul_w hd hj, by decide, by decide, p, _, _, .inl rfl, by simp, by simp, p2, by omega, fun v hv μ3 o3 p3 => ?_⟩
    refine k v μ3 (.inr ⟨j, j0, j1, ?_⟩) ((o1.trans o2).trans o3) (p3.mono (by omega))
    simpa using hv
  show w__law_passed_0 K s__law_draw s__law_pick { nx := fun δ μ => wSeq (w__law_passed_1 K s__law_draw s__law_pick) (w__law_passed_2 K s__law_draw s__law_pick) { nx := fun _ μ' => Q .non μ', rt := Q } F δ μ, rt := Q } F _ _
  generalize wSeq (w__law_passed_1 K s__law_draw s__law_pick) (w__law_passed_2 K s__law_draw s__law_pick) = tl at tail ⊢
  simp only [w__law_passed_0, wRet, wRetN, wSeq, wNext, wIfS, wAsg, wName, wPar, wDrop, wDPut, wFor, wISeq, wIRng1, wIRng2, wVar, wC, wNil, wCons, wBin, wUn, wCB, wTst, wAnd, wOr, DL.wNot, wAndV, wOrV, wNotV, wIf, wTup, wLst, wLstM, wCall, wGTup, wGCons, wGNil, wBrk, wCnt, wRaise, gI, gU, gOne , DL.gSub, gMul, gMod, gDiv, gPow, gLt, gLe, gGt, gGe, gNeg, gAbs, gMax2, gMin2, gInt2, wChain, wPar3, wSl, wNoPart, wPart, wIEnumA, wIZipA, wIRng3, wLc, wLcM, wYes, wFld, wAug, wApp, wPop, wRev, wSubG, wMet, wBinO, wUnO, dstart, List.map_cons, List.map_nil, List.length_cons, List.length_nil, List.replicate, List.cons_append, List.nil_append, List.append_nil, List.getElem?_cons_zero, List.getElem?_cons_succ, List.set_cons_zero, List.set_cons_succ, Option.some.injEq, exists_eq_left', exists_eq_left, D.int.injEq, D.bl.injEq, D.str.injEq, D.tup.injEq, D.lst.injEq, D.obj.injEq, List.cons.injEq, and_true, true_and, Nat.zero_add, Nat.reduceAdd, Nat.reduceSub, decide_eq_true_eq, Bool.not_eq_true', decide_eq_false_iff_not, exists_and_left, exists_and_right, and_assoc, Bool.true_eq_false, Bool.false_eq_true, if_true, if_false, ne_eq, gIx_q0, gIx_q1, gEq_int]
  by_cases h : ((q.den : Int) == 1) = true
  · rw [if_pos h]
    refine ⟨p, 2, m, rfl, by decide, by decide, pen, by omega, fun v μ1 v0 v1 o1 p1 => ?_⟩
    simp only [wRet, wRetN, wSeq, wNext, wIfS, wAsg, wName, wPar, wDrop, wDPut, wFor, wISeq, wIRng1, wIRng2, wVar, wC, wNil, wCons, wBin, wUn, wCB, wTst, wAnd, wOr, DL.wNot, wAndV, wOrV, wNotV, wIf, wTup, wLst, wLstM, wCall, wGTup, wGCons, wGNil, wBrk, wCnt, wRaise, gI, gU, gOne , DL.gSub, gMul, gMod, gDiv, gPow, gLt, gLe, gGt, gGe, gNeg, gAbs, gMax2, gMin2, gInt2, wChain, wPar3, wSl, wNoPart, wPart, wIEnumA, wIZipA, wIRng3, wLc, wLcM, wYes, wFld, wAug, wApp, wPop, wRev, wSubG, wMet, wBinO, wUnO, dstart, List.map_cons, List.map_nil, List.length_cons, List.length_nil, List.replicate, List.cons_append, List.nil_append, List.append_nil, List.getElem?_cons_zero, List.getElem?_cons_succ, List.set_cons_zero, List.set_cons_succ, Option.some.injEq, exists_eq_left', exists_eq_left, D.int.injEq, D.bl.injEq, D.str.injEq, D.tup.injEq, D.lst.injEq, D.obj.injEq, List.cons.injEq, and_true, true_and, Nat.zero_add, Nat.reduceAdd, Nat.reduceSub, decide_eq_true_eq, Bool.not_eq_true', decide_eq_false_iff_not, exists_and_left, exists_and_right, and_assoc, Bool.true_eq_false, Bool.false_eq_true, if_true, if_false, ne_eq, gIx_q0, gIx_q1, gEq_int]
    by_cases h2 : (v == 0) = true
    · rw [if_pos h2]
      exact k _ _ (.inl ⟨by have := beq_iff_eq.mp h; omega, rfl⟩) o1 (p1.mono (by omega))
    · rw [if_neg h2]
      exact tail _ _ _ o1 p1 (Nat.le_refl _)
  · rw [if_neg h]
    exact tail _ _ _ (fun _ _ => rfl) pen (by omega)
/-! ### without zeros behind -/
theorem trim_full {p : List Rat} (h : p = [] ∨ coef p (p.length - 1) ≠ 0) : trim p = p := by
  rcases h with rfl | h
  · rfl
  · have hl : 0 < p.length := by
      apply Classical.byContradiction
      intro hn
      have : p = [] := List.length_eq_zero_iff.mp (by omega)
      subst this
      exact h rfl
    have := trim_cut (p := p) (m := p.length) (.inr ⟨p.length - 1, by omega, by omega, h⟩) fun k hk _ => by omega
    rw [List.take_length] at this
    exact this.symm
theorem trim_drop {p : List Rat} {n : Nat} (h : ∀ k, n ≤ k → coef p k = 0) : trim (p.take n) = trim p := trim_ext fun k => by
  unfold coef
  rw [List.getElem?_take]
  split
  · rfl
  · exact (h k (by omega)).symm
def s__law_poly : DF := fun ds μ Q _ => ∃ (x : D) (p : List Rat), ds = [x] ∧ seqOf μ x = some (p.map qd) ∧ p.length ≤ 100000 ∧ Q (ld (trim p)) μ
theorem gLen_ld {p : List Rat} {μ : M} {Q : DK} : gLen (ld p) μ Q ↔ Q (.int p.length) μ := by unfold ld; rw [gLen_lst, List.length_map]
theorem gEq_view {neg : Bool} {μ : M} {a : Addr} {xs : List D} {y : D} {Q : DK} (h : μ a = some (.lst xs)) (q : gEq neg (.lst xs) y μ Q) : gEq neg (.obj a) y μ Q := by
  obtain ⟨p, r, e1, e2, s1, s2, q⟩ := q
  refine ⟨p, r, ?_, e2, s1, s2, q⟩
  show (match μ a with | some (.lst xs) => (D.pyA xs).map .list | _ => none) = some p
  rw [h]
  exact e1
theorem atI_last {α : Type} {xs : List α} (h : 0 < xs.length) : atI xs (-1) = some (xs[xs.length - 1]'(by omega)) := by
  unfold atI ixN
  rw [if_neg (by decide), if_pos (by omega)]
  have e : (-1 + (xs.length : Int)).toNat = xs.length - 1 := by omega
  have e' : ((xs.length : Int) + -1).toNat = xs.length - 1 := by omega
  simp only [e, e', Option.bind_some]
  rw [List.getElem?_eq_getElem]
theorem p__law_poly (K : PySem.W.Frag) : ∀ ds μ Q F, s__law_poly ds μ Q F → ds.length = 1 ∧ w__law_poly K { nx := fun _ μ' => dn Q .non μ', rt := dn Q } (dnF F) (dstart ["_law_numbers", "_law_found", "_law_lap"] ds) μ := by
  rintro _ μ Q F ⟨x, p, rfl, hx, hl, q⟩
  refine ⟨rfl, ?_⟩
  simp only [w__law_poly, w__law_poly_0, w__law_poly_1_0, w__law_poly_1_1, w__law_poly_1, w__law_poly_2, wRet, wRetN, wSeq, wNext, wIfS, wAsg, wName, wPar, wDrop, wDPut, wFor, wISeq, wIRng1, wIRng2, wVar, wC, wNil, wCons, wBin, wUn, wCB, wTst, wAnd, wOr, DL.wNot, wAndV, wOrV, wNotV, wIf, wTup, wLst, wLstM, wCall, wGTup, wGCons, wGNil, wBrk, wCnt, wRaise, gI, gU, gOne , DL.gSub, gMul, gMod, gDiv, gPow, gLt, gLe, gGt, gGe, gNeg, gAbs, gMax2, gMin2, gInt2, wChain, wPar3, wSl, wNoPart, wPart, wIEnumA, wIZipA, wIRng3, wLc, wLcM, wYes, wFld, wAug, wApp, wPop, wRev, wSubG, wMet, wBinO, wUnO, dstart, List.map_cons, List.map_nil, List.length_cons, List.length_nil, List.replicate, List.cons_append, List.nil_append, List.append_nil, List.getElem?_cons_zero, List.getElem?_cons_succ, List.set_cons_zero, List.set_cons_succ, Option.some.injEq, exists_eq_left', exists_eq_left, D.int.injEq, D.bl.injEq, D.str.injEq, D.tup.injEq, D.lst.injEq, D.obj.injEq, List.cons.injEq, and_true, true_and, Nat.zero_add, Nat.reduceAdd, Nat.reduceSub, decide_eq_true_eq, Bool.not_eq_true', decide_eq_false_iff_not, exists_and_left, exists_and_right, and_assoc, Bool.true_eq_false, Bool.false_eq_true, if_true, if_false, ne_eq]
  refine ⟨p.map qd, hx, fun a ha => ?_⟩
  have hx2 : seqOf (mput μ a (.lst (p.map qd))) x = some (p.map qd) := by
    cases x with
    | obj b =>
      have : b ≠ a := fun e => by
        subst e
        simp only [seqOf, lstOf, ha] at hx
        cases hx
      simp only [seqOf, lstOf, mput_ne this] at hx ⊢
      exact hx
    | _ => exact hx
  refine .inl ⟨_, hx2, ?_⟩
  rw [List.length_map]
  refine ⟨_, rfl, by omega, by omega, ?_⟩
  have fin : ∀ (n : Nat), n ≤ p.length → (∀ k, n ≤ k → coef p k = 0) → (n = 0 ∨ coef p (n - 1) ≠ 0) → dn Q (.obj a) (mput μ a (.lst ((p.take n).map qd))) := by
    intro n hn h0 h1
    refine dn_lst mput_same ?_
    have hl2 : (p.take n).length = n := by rw [List.length_take]; omega
    have e : p.take n = trim p := by
      rw [← trim_drop h0]
      refine (trim_full ?_).symm
      rcases h1 with rfl | h1
      · exact .inl rfl
      · right
        rw [hl2]
        have : coef (p.take n) (n - 1) = coef p (n - 1) := by
          unfold coef
          by_cases hz : n = 0
          · subst hz
            exact absurd (h0 0 (Nat.le_refl _)) h1
          · rw [List.getElem?_take_of_lt (by omega)]
        rw [this]
        exact h1
    rw [e, mdel_put' ha]
    exact q
  refine laps_inv _ (fun i δ μ' => ∃ n d, δ = [some x, some (.obj a), d] ∧ μ' = mput μ a (.lst ((p.take n).map qd)) ∧ n + i = p.length ∧ ∀ k, n ≤ k → coef p k = 0) ⟨p.length, none, rfl, by rw [List.take_length], by omega, fun k hk => coef_ge hk⟩ (fun _ _ _ _ => trivial) ?_ ?_
  · rintro i d hi δ μ2 ⟨n, d0, rfl, rfl, hn, h0⟩ R next
    have hi' : i < p.length := by rw [intsD_len] at hi; omega
    have hl2 : (p.take n).length = n := by rw [List.length_take]; omega
    have hn0 : 0 < (p.take n).length := by omega
    simp only [wRet, wRetN, wSeq, wNext, wIfS, wAsg, wName, wPar, wDrop, wDPut, wFor, wISeq, wIRng1, wIRng2, wVar, wC, wNil, wCons, wBin, wUn, wCB, wTst, wAnd, wOr, DL.wNot, wAndV, wOrV, wNotV, wIf, wTup, wLst, wLstM, wCall, wGTup, wGCons, wGNil, wBrk, wCnt, wRaise, gI, gU, gOne , DL.gSub, gMul, gMod, gDiv, gPow, gLt, gLe, gGt, gGe, gNeg, gAbs, gMax2, gMin2, gInt2, wChain, wPar3, wSl, wNoPart, wPart, wIEnumA, wIZipA, wIRng3, wLc, wLcM, wYes, wFld, wAug, wApp, wPop, wRev, wSubG, wMet, wBinO, wUnO, dstart, List.map_cons, List.map_nil, List.length_cons, List.length_nil, List.replicate, List.cons_append, List.nil_append, List.append_nil, List.getElem?_cons_zero, List.getElem?_cons_succ, List.set_cons_zero, List.set_cons_succ, Option.some.injEq, exists_eq_left', exists_eq_left, D.int.injEq, D.bl.injEq, D.str.injEq, D.tup.injEq, D.lst.injEq, D.obj.injEq, List.cons.injEq, and_true, true_and, Nat.zero_add, Nat.reduceAdd, Nat.reduceSub, decide_eq_true_eq, Bool.not_eq_true', decide_eq_false_iff_not, exists_and_left, exists_and_right, and_assoc, Bool.true_eq_false, Bool.false_eq_true, if_true, if_false, ne_eq]
    refine ⟨by decide, gEq_view mput_same (eq_pl (x := ld (p.take n)) (y := ld []) pl_ld pl_ld (fun e => ?_) (fun _ => ?_) dp_ld dp_ld)⟩
    · have := ld_inj.mp e
      rw [this] at hn0
      simp at hn0
    · refine ⟨_, rfl, ?_⟩
      rw [if_neg (by decide)]
      have hm : n - 1 < p.length := by omega
      refine gIx_obj mput_same (atI_last (by simpa using hn0)) ?_
      have ex : ∀ h, ((p.take n).map qd)[((p.take n).map qd).length - 1]'h = qd (coef p (n - 1)) := fun h => by
        rw [coef_lt hm]
        simp [hl2]
        congr 1
        congr 1
        omega
      rw [ex]
      rw [gIx_q0, gEq_int]
      refine ⟨_, rfl, ?_⟩
      by_cases hz : coef p (n - 1) = 0
      · have hz' : (coef p (n - 1)).num = 0 := Rat.num_eq_zero.mpr hz
        rw [if_neg (by rw [hz']; decide)]
        refine ⟨_, mput_same, ⟨_, List.getElem?_eq_getElem (by simp only [List.length_map]; omega)⟩, ?_⟩
        rw [mput_mput]
        refine next _ _ ⟨n - 1, _, rfl, ?_, by omega, fun k hk => ?_⟩
        · rw [← List.map_dropLast, List.dropLast_eq_take, hl2, List.take_take, Nat.min_eq_left (by omega)]
        · by_cases e : k = n - 1
          · rw [e]; exact hz
          · exact h0 k (by omega)
      · have hz' : (coef p (n - 1)).num ≠ 0 := fun z => hz (Rat.num_eq_zero.mp z)
        rw [if_pos (by simpa using hz')]
        exact fin n (by omega) h0 (.inr hz)
  · rintro δ μ2 ⟨n, d0, rfl, rfl, hn, h0⟩
    have e : (intsD 0 (p.length : Int).toNat).length = p.length := by rw [intsD_len]; omega
    rw [e] at hn
    exact ⟨_, rfl, fin n (by omega) h0 (.inl (by omega))⟩
theorem poly_ld {p : List Rat} {μ : M} {Q : DK} {F : FK} (hl : p.length ≤ 100000) (q : Q (ld (trim p)) μ) : s__law_poly [ld p] μ Q F := ⟨_, p, rfl, rfl, hl, q⟩
/-! ### sums, products -/
def s__law_p_plus : DF := fun ds μ Q _ => ∃ p r, ds = [ld p, ld r] ∧ Pair p r ∧ Q (ld (padd p r)) μ
theorem p__law_p_plus (K : PySem.W.Frag) : ∀ ds μ Q F, s__law_p_plus ds μ Q F → ds.length = 2 ∧ w__law_p_plus K (s__law_two fun p q => qd (p + q)) s__law_poly { nx := fun _ μ' => Q .non μ', rt := Q } F (dstart ["_law_one", "_law_two", "_law_many", "_law_first", "_law_second", "_law_a", "_law_b"] ds) μ := by
  rintro _ μ Q F ⟨p, r, rfl, hp, q⟩
  refine ⟨rfl, ?_⟩
  obtain ⟨z1, z2, z3, z4, _, _⟩ := hp.sz
  have l1 := hp.1
  have l2 := hp.2.1
  simp only [w__law_p_plus, w__law_p_plus_0, w__law_p_plus_1, w__law_p_plus_2, wRet, wRetN, wSeq, wNext, wIfS, wAsg, wName, wPar, wDrop, wDPut, wFor, wISeq, wIRng1, wIRng2, wVar, wC, wNil, wCons, wBin, wUn, wCB, wTst, wAnd, wOr, DL.wNot, wAndV, wOrV, wNotV, wIf, wTup, wLst, wLstM, wCall, wGTup, wGCons, wGNil, wBrk, wCnt, wRaise, gI, gU, gOne , DL.gSub, gMul, gMod, gDiv, gPow, gLt, gLe, gGt, gGe, gNeg, gAbs, gMax2, gMin2, gInt2, wChain, wPar3, wSl, wNoPart, wPart, wIEnumA, wIZipA, wIRng3, wLc, wLcM, wYes, wFld, wAug, wApp, wPop, wRev, wSubG, wMet, wBinO, wUnO, dstart, List.map_cons, List.map_nil, List.length_cons, List.length_nil, List.replicate, List.cons_append, List.nil_append, List.append_nil, List.getElem?_cons_zero, List.getElem?_cons_succ, List.set_cons_zero, List.set_cons_succ, Option.some.injEq, exists_eq_left', exists_eq_left, D.int.injEq, D.bl.injEq, D.str.injEq, D.tup.injEq, D.lst.injEq, D.obj.injEq, List.cons.injEq, and_true, true_and, Nat.zero_add, Nat.reduceAdd, Nat.reduceSub, decide_eq_true_eq, Bool.not_eq_true', decide_eq_false_iff_not, exists_and_left, exists_and_right, and_assoc, Bool.true_eq_false, Bool.false_eq_true, if_true, if_false, ne_eq, gLen_ld]
  refine ⟨by decide, [p.length, r.length], .inl rfl, by simp, fun m h1 h2 => ?_⟩
  obtain rfl := max_two h1 h2
  refine ⟨by decide, by decide, _, rfl, gRep_lst (by omega) (by omega) (by simp; omega) ?_⟩
  unfold ld
  refine gAdd_lst.mpr ⟨?_, ?_⟩
  · rw [← zero_qd, rep_qd, List.length_map, List.length_map, List.length_replicate]
    omega
  refine ⟨by decide, by decide, _, rfl, gRep_lst (by omega) (by omega) (by simp; omega) ?_⟩
  refine gAdd_lst.mpr ⟨?_, ?_⟩
  · rw [← zero_qd, rep_qd, List.length_map, List.length_map, List.length_replicate]
    omega
  rw [← zero_qd, pad_qd, pad_qd]
  refine ⟨_, _, .inl ⟨rfl, rfl⟩, fun a ha => ?_⟩
  rw [pairs_qd]
  have e1 : (((max p.length r.length : Nat) : Int) - (p.length : Int)).toNat = max p.length r.length - p.length := by omega
  have e2 : (((max p.length r.length : Nat) : Int) - (r.length : Int)).toNat = max p.length r.length - r.length := by omega
  rw [e1, e2]
  have hpl : (pad (max p.length r.length - p.length) p).length = max p.length r.length := by simp only [pad, List.length_append, List.length_replicate]; omega
  have hrl : (pad (max p.length r.length - r.length) r).length = max p.length r.length := by simp only [pad, List.length_append, List.length_replicate]; omega
  have hps : ∀ k, Sz (coef (pad (max p.length r.length - p.length) p) k) := fun k => by rw [coef_pad]; exact z1 k
  have hrs : ∀ k, Sz (coef (pad (max p.length r.length - r.length) r) k) := fun k => by rw [coef_pad]; exact z2 k
  have cp : ∀ k, coef (pad (max p.length r.length - p.length) p) k = coef p k := coef_pad _ _
  have cr : ∀ k, coef (pad (max p.length r.length - r.length) r) k = coef r k := coef_pad _ _
  generalize pad (max p.length r.length - p.length) p = p' at *
  generalize pad (max p.length r.length - r.length) r = r' at *
  refine cmp_map (fun d => match d with | .tup [.tup [.int n, .int d], .tup [.int m, .int e]] => qd (Rat.divInt n d + Rat.divInt m e) | _ => .non) ha (by simp only [List.length_map, List.length_zip]; omega) (fun _ _ => trivial) (fun d hd μ' hb R' hR => ?_) ?_
  · obtain ⟨⟨a, b⟩, hm, rfl⟩ := List.mem_map.mp hd
    have hsa : Sz a := by
      obtain ⟨k, rfl⟩ := mem_coef (List.of_mem_zip hm).1
      exact hps k
    have hsb : Sz b := by
      obtain ⟨k, rfl⟩ := mem_coef (List.of_mem_zip hm).2
      exact hrs k
    simp only [wipeD, wRet, wRetN, wSeq, wNext, wIfS, wAsg, wName, wPar, wDrop, wDPut, wFor, wISeq, wIRng1, wIRng2, wVar, wC, wNil, wCons, wBin, wUn, wCB, wTst, wAnd, wOr, DL.wNot, wAndV, wOrV, wNotV, wIf, wTup, wLst, wLstM, wCall, wGTup, wGCons, wGNil, wBrk, wCnt, wRaise, gI, gU, gOne , DL.gSub, gMul, gMod, gDiv, gPow, gLt, gLe, gGt, gGe, gNeg, gAbs, gMax2, gMin2, gInt2, wChain, wPar3, wSl, wNoPart, wPart, wIEnumA, wIZipA, wIRng3, wLc, wLcM, wYes, wFld, wAug, wApp, wPop, wRev, wSubG, wMet, wBinO, wUnO, dstart, List.map_cons, List.map_nil, List.length_cons, List.length_nil, List.replicate, List.cons_append, List.nil_append, List.append_nil, List.getElem?_cons_zero, List.getElem?_cons_succ, List.set_cons_zero, List.set_cons_succ, Option.some.injEq, exists_eq_left', exists_eq_left, D.int.injEq, D.bl.injEq, D.str.injEq, D.tup.injEq, D.lst.injEq, D.obj.injEq, List.cons.injEq, and_true, true_and, Nat.zero_add, Nat.reduceAdd, Nat.reduceSub, decide_eq_true_eq, Bool.not_eq_true', decide_eq_false_iff_not, exists_and_left, exists_and_right, and_assoc, Bool.true_eq_false, Bool.false_eq_true, if_true, if_false, ne_eq, s__law_two]
    refine ⟨a, rfl, b, rfl, hsa, hsb, ?_⟩
    have := hR
    simp only [qd, divInt_nd] at this
    exact this
  · rw [List.map_map]
    have e : (List.map ((fun d => match d with | .tup [.tup [.int n, .int d], .tup [.int m, .int e]] => qd (Rat.divInt n d + Rat.divInt m e) | _ => D.non) ∘ fun z => D.tup [qd z.1, qd z.2]) (p'.zip r')) = ((p'.zip r').map fun z => z.1 + z.2).map qd := by
      rw [List.map_map]
      refine List.map_congr_left fun z _ => ?_
      simp only [Function.comp, qd, divInt_nd]
    rw [e]
    refine poly_ld (by simp only [List.length_map, List.length_zip]; omega) ?_
    have : trim ((p'.zip r').map fun z => z.1 + z.2) = padd p r := canon_ext (trim_canon _) (canon_padd _ _) fun k => by rw [coef_trim, coef_zipAdd (fun a b => a + b) (by omega) (by grind), cp, cr, coef_padd]
    rw [this]
    exact q
def s__law_p_scaled : DF := fun ds μ Q _ => ∃ p c, ds = [ld p, qd c] ∧ p.length ≤ 1000 ∧ Sz c ∧ (∀ x ∈ p, Sz x) ∧ Q (ld (pscale c p)) μ
theorem p__law_p_scaled (K : PySem.W.Frag) : ∀ ds μ Q F, s__law_p_scaled ds μ Q F → ds.length = 2 ∧ w__law_p_scaled K (s__law_two fun p q => qd (p * q)) s__law_poly { nx := fun _ μ' => Q .non μ', rt := Q } F (dstart ["_law_one", "_law_by", "_law_a"] ds) μ := by
  rintro _ μ Q F ⟨p, c, rfl, hl, hc, hz, q⟩
  refine ⟨rfl, ?_⟩
  simp only [w__law_p_scaled, w__law_p_scaled_0, wRet, wRetN, wSeq, wNext, wIfS, wAsg, wName, wPar, wDrop, wDPut, wFor, wISeq, wIRng1, wIRng2, wVar, wC, wNil, wCons, wBin, wUn, wCB, wTst, wAnd, wOr, DL.wNot, wAndV, wOrV, wNotV, wIf, wTup, wLst, wLstM, wCall, wGTup, wGCons, wGNil, wBrk, wCnt, wRaise, gI, gU, gOne , DL.gSub, gMul, gMod, gDiv, gPow, gLt, gLe, gGt, gGe, gNeg, gAbs, gMax2, gMin2, gInt2, wChain, wPar3, wSl, wNoPart, wPart, wIEnumA, wIZipA, wIRng3, wLc, wLcM, wYes, wFld, wAug, wApp, wPop, wRev, wSubG, wMet, wBinO, wUnO, dstart, List.map_cons, List.map_nil, List.length_cons, List.length_nil, List.replicate, List.cons_append, List.nil_append, List.append_nil, List.getElem?_cons_zero, List.getElem?_cons_succ, List.set_cons_zero, List.set_cons_succ, Option.some.injEq, exists_eq_left', exists_eq_left, D.int.injEq, D.bl.injEq, D.str.injEq, D.tup.injEq, D.lst.injEq, D.obj.injEq, List.cons.injEq, and_true, true_and, Nat.zero_add, Nat.reduceAdd, Nat.reduceSub, decide_eq_true_eq, Bool.not_eq_true', decide_eq_false_iff_not, exists_and_left, exists_and_right, and_assoc, Bool.true_eq_false, Bool.false_eq_true, if_true, if_false, ne_eq]
  refine .inl ⟨p.map qd, .inl rfl, fun a ha => ?_⟩
  refine cmp_map (fun d => match d with | .tup [.int n, .int d] => qd (Rat.divInt n d * c) | _ => .non) ha (by simp only [List.length_map]; omega) (fun _ _ => trivial) (fun d hd μ' hb R' hR => ?_) ?_
  · obtain ⟨x, hx, rfl⟩ := List.mem_map.mp hd
    simp only [wipeD, wRet, wRetN, wSeq, wNext, wIfS, wAsg, wName, wPar, wDrop, wDPut, wFor, wISeq, wIRng1, wIRng2, wVar, wC, wNil, wCons, wBin, wUn, wCB, wTst, wAnd, wOr, DL.wNot, wAndV, wOrV, wNotV, wIf, wTup, wLst, wLstM, wCall, wGTup, wGCons, wGNil, wBrk, wCnt, wRaise, gI, gU, gOne , DL.gSub, gMul, gMod, gDiv, gPow, gLt, gLe, gGt, gGe, gNeg, gAbs, gMax2, gMin2, gInt2, wChain, wPar3, wSl, wNoPart, wPart, wIEnumA, wIZipA, wIRng3, wLc, wLcM, wYes, wFld, wAug, wApp, wPop, wRev, wSubG, wMet, wBinO, wUnO, dstart, List.map_cons, List.map_nil, List.length_cons, List.length_nil, List.replicate, List.cons_append, List.nil_append, List.append_nil, List.getElem?_cons_zero, List.getElem?_cons_succ, List.set_cons_zero, List.set_cons_succ, Option.some.injEq, exists_eq_left', exists_eq_left, D.int.injEq, D.bl.injEq, D.str.injEq, D.tup.injEq, D.lst.injEq, D.obj.injEq, List.cons.injEq, and_true, true_and, Nat.zero_add, Nat.reduceAdd, Nat.reduceSub, decide_eq_true_eq, Bool.not_eq_true', decide_eq_false_iff_not, exists_and_left, exists_and_right, and_assoc, Bool.true_eq_false, Bool.false_eq_true, if_true, if_false, ne_eq, s__law_two]
    refine ⟨x, rfl, c, rfl, hz x hx, hc, ?_⟩
    have := hR
    simp only [qd, divInt_nd] at this
    exact this
  · rw [comp_qd (g := fun x => x * c) fun x => by simp only [qd, divInt_nd]]
    refine poly_ld (by simp only [List.length_map]; omega) ?_
    have : trim (p.map fun x => x * c) = pscale c p := canon_ext (trim_canon _) (canon_pscale _ _) fun k => by
      rw [coef_trim, coef_mapf (by grind), coef_pscale]
      grind
    rw [this]
    exact q
theorem padd_neg (p r : List Rat) : padd p (pscale (-1) r) = psub p r := canon_ext (canon_padd _ _) (canon_psub _ _) fun k => by rw [coef_padd, coef_pscale, coef_psub]; grind
theorem Pair.negr {p r : List Rat} (h : Pair p r) : Pair p (pscale (-1) r) := by
  obtain ⟨a, b, N, V, M, W, h1, h2, h3, h4, h5⟩ := h
  refine ⟨a, Nat.le_trans (scale_len _ _) b, N, V, M, W, h1, h2, h3, PB.mk fun k _ => ?_, h5⟩
  have := (h4.coef k).neg
  rwa [show -coef r k = -1 * coef r k by grind] at this
def s__law_p_minus : DF := fun ds μ Q _ => ∃ p r, ds = [ld p, ld r] ∧ Pair p r ∧ Q (ld (psub p r)) μ
theorem Sz.one : Sz 1 := ⟨by decide, by decide⟩
theorem qd_neg1 : D.tup [.int (-1), .int 1] = qd (-1) := by
  unfold qd
  simp
theorem p__law_p_minus (K : PySem.W.Frag) : ∀ ds μ Q F, s__law_p_minus ds μ Q F → ds.length = 2 ∧ w__law_p_minus K s__law_p_scaled s__law_p_plus { nx := fun _ μ' => Q .non μ', rt := Q } F (dstart ["_law_one", "_law_two"] ds) μ := by
  rintro _ μ Q F ⟨p, r, rfl, hp, q⟩
  refine ⟨rfl, ?_⟩
  obtain ⟨z1, z2, _⟩ := hp.sz
  simp only [w__law_p_minus, w__law_p_minus_0, wRet, wRetN, wSeq, wNext, wIfS, wAsg, wName, wPar, wDrop, wDPut, wFor, wISeq, wIRng1, wIRng2, wVar, wC, wNil, wCons, wBin, wUn, wCB, wTst, wAnd, wOr, DL.wNot, wAndV, wOrV, wNotV, wIf, wTup, wLst, wLstM, wCall, wGTup, wGCons, wGNil, wBrk, wCnt, wRaise, gI, gU, gOne , DL.gSub, gMul, gMod, gDiv, gPow, gLt, gLe, gGt, gGe, gNeg, gAbs, gMax2, gMin2, gInt2, wChain, wPar3, wSl, wNoPart, wPart, wIEnumA, wIZipA, wIRng3, wLc, wLcM, wYes, wFld, wAug, wApp, wPop, wRev, wSubG, wMet, wBinO, wUnO, dstart, List.map_cons, List.map_nil, List.length_cons, List.length_nil, List.replicate, List.cons_append, List.nil_append, List.append_nil, List.getElem?_cons_zero, List.getElem?_cons_succ, List.set_cons_zero, List.set_cons_succ, Option.some.injEq, exists_eq_left', exists_eq_left, D.int.injEq, D.bl.injEq, D.str.injEq, D.tup.injEq, D.lst.injEq, D.obj.injEq, List.cons.injEq, and_true, true_and, Nat.zero_add, Nat.reduceAdd, Nat.reduceSub, decide_eq_true_eq, Bool.not_eq_true', decide_eq_false_iff_not, exists_and_left, exists_and_right, and_assoc, Bool.true_eq_false, Bool.false_eq_true, if_true, if_false, ne_eq]
  refine ⟨by decide, ?_⟩
  have e : D.tup [.int (-1), .int 1] = qd (-1) := qd_neg1
  rw [e]
  refine ⟨r, -1, rfl, Nat.le_trans hp.2.1 (by decide), Sz.one.neg, fun x hx => ?_, p, _, rfl, hp.negr, ?_⟩
  · obtain ⟨k, rfl⟩ := mem_coef hx
    exact z2 k
  · rw [padd_neg]
    exact q
/-- the first i rows of the product -/
def part (p r : List Rat) (i k : Nat) : Rat := sm i fun a => coef p a * coef r (if a ≤ k then k - a else r.length)
theorem part_zero (p r : List Rat) (k : Nat) : part p r 0 k = 0 := rfl
theorem part_succ (p r : List Rat) (i k : Nat) : part p r (i + 1) k = part p r i k + coef p i * coef r (if i ≤ k then k - i else r.length) := rfl
theorem part_conv (p r : List Rat) (k : Nat) : part p r p.length k = conv p r k := by
  unfold part conv
  rcases Nat.le_total (k + 1) p.length with h | h
  · rw [sm_more h fun i h1 h2 => ?_]
    · exact sm_congr fun i hi => by rw [if_pos (by omega)]
    · rw [if_neg (by omega), coef_ge (p := r) (Nat.le_refl _)]
      grind
  · rw [sm_more h fun i h1 h2 => ?_]
    · exact sm_congr fun i hi => by rw [if_pos (by omega)]
    · rw [coef_ge (p := p) h1]
      grind
def s__law_p_times : DF := fun ds μ Q _ => ∃ p r, ds = [ld p, ld r] ∧ Pair p r ∧ Q (ld (pmul p r)) μ
theorem gIx_ld {p : List Rat} {i : Int} {μ : M} {Q : DK} (h0 : 0 ≤ i) (h : i < p.length) (q : Q (qd (coef p i.toNat)) μ) : gIx (ld p) (.int i) μ Q := by
  unfold ld
  refine gIx_lst.mpr ?_
  obtain ⟨hl, e⟩ := at_nn h0 (show i < (p.map qd).length by simpa using h)
  refine ⟨_, e, ?_⟩
  have hl' : i.toNat < p.length := by simpa using hl
  rw [coef_lt hl'] at q
  simpa using q
theorem atI_qd {p : List Rat} {i : Int} (h0 : 0 ≤ i) (h : i < p.length) : atI (p.map qd) i = some (qd (coef p i.toNat)) := by
  obtain ⟨hl, e⟩ := at_nn h0 (show i < (p.map qd).length by simpa using h)
  have hl' : i.toNat < p.length := by simpa using hl
  rw [e, coef_lt hl']
  simp
theorem ints_get {n i : Nat} {d : D} (h : (intsD 0 n)[i]? = some d) : i < n ∧ d = .int i := by
  unfold intsD at h
  rw [List.getElem?_map] at h
  obtain ⟨k, hk, rfl⟩ := Option.map_eq_some_iff.mp h
  obtain ⟨h1, h2⟩ := List.getElem?_eq_some_iff.mp hk
  rw [List.getElem_range] at h2
  subst h2
  exact ⟨by simpa using h1, by rw [Int.zero_add]⟩
theorem p__law_p_times (K : PySem.W.Frag) : ∀ ds μ Q F, s__law_p_times ds μ Q F → ds.length = 2 ∧ w__law_p_times K (s__law_two fun p q => qd (p * q)) (s__law_two fun p q => qd (p + q)) s__law_poly { nx := fun _ μ' => dn Q .non μ', rt := dn Q } (dnF F) (dstart ["_law_one", "_law_two", "_law_found", "_law_i", "_law_k"] ds) μ := by
  rintro _ μ Q F ⟨p, r, rfl, hp, q⟩
  refine ⟨rfl, ?_⟩
  obtain ⟨z1, z2, _, _, z5, z6⟩ := hp.sz
  have l1 := hp.1
  have l2 := hp.2.1
  simp only [w__law_p_times, w__law_p_times_0, w__law_p_times_1_0_0, w__law_p_times_1_0, w__law_p_times_1, w__law_p_times_2, wRet, wRetN, wSeq, wNext, wIfS, wAsg, wName, wPar, wDrop, wDPut, wFor, wISeq, wIRng1, wIRng2, wVar, wC, wNil, wCons, wBin, wUn, wCB, wTst, wAnd, wOr, DL.wNot, wAndV, wOrV, wNotV, wIf, wTup, wLst, wLstM, wCall, wGTup, wGCons, wGNil, wBrk, wCnt, wRaise, gI, gU, gOne , DL.gSub, gMul, gMod, gDiv, gPow, gLt, gLe, gGt, gGe, gNeg, gAbs, gMax2, gMin2, gInt2, wChain, wPar3, wSl, wNoPart, wPart, wIEnumA, wIZipA, wIRng3, wLc, wLcM, wYes, wFld, wAug, wApp, wPop, wRev, wSubG, wMet, wBinO, wUnO, dstart, List.map_cons, List.map_nil, List.length_cons, List.length_nil, List.replicate, List.cons_append, List.nil_append, List.append_nil, List.getElem?_cons_zero, List.getElem?_cons_succ, List.set_cons_zero, List.set_cons_succ, Option.some.injEq, exists_eq_left', exists_eq_left, D.int.injEq, D.bl.injEq, D.str.injEq, D.tup.injEq, D.lst.injEq, D.obj.injEq, List.cons.injEq, and_true, true_and, Nat.zero_add, Nat.reduceAdd, Nat.reduceSub, decide_eq_true_eq, Bool.not_eq_true', decide_eq_false_iff_not, exists_and_left, exists_and_right, and_assoc, Bool.true_eq_false, Bool.false_eq_true, if_true, if_false, ne_eq, gLen_ld, gAdd_int]
  refine ⟨by decide, by decide, by decide, [0, (p.length : Int) + r.length - 1], .inl rfl, by simp, fun m h1 h2 => ?_⟩
  obtain rfl := mm_two h1 h2
  refine ⟨_, _, rfl, rfl, by omega, by omega, by simp; omega, fun b hb => ?_⟩
  have e0 : (max 0 ((p.length : Int) + r.length - 1)).toNat = p.length + r.length - 1 := by omega
  rw [e0, ← zero_qd, rep_qd]
  dsimp only
  refine ⟨by omega, by omega, ?_⟩
  refine loop_inv _ (fun i δ μ' => ∃ f d3 d4, δ = [some (ld p), some (ld r), some (.obj b), d3, d4] ∧ μ' = mput μ b (.lst (f.map qd)) ∧ f.length = p.length + r.length - 1 ∧ i ≤ p.length ∧ ∀ k, coef f k = part p r i k)
    ⟨List.replicate (p.length + r.length - 1) 0, _, _, rfl, rfl, by simp, Nat.zero_le _, fun k => ?_⟩ (fun _ _ _ _ => trivial) ?_ ?_
  · rw [part_zero]
    unfold coef
    rw [List.getElem?_replicate]
    split <;> rfl
  · rintro i d hi δ μ2 ⟨f, d3, d4, rfl, rfl, hfl, hip, hf⟩ R next
    obtain ⟨hi', rfl⟩ := ints_get hi
    have hip' : i < p.length := by omega
    simp only [wRet, wRetN, wSeq, wNext, wIfS, wAsg, wName, wPar, wDrop, wDPut, wFor, wISeq, wIRng1, wIRng2, wVar, wC, wNil, wCons, wBin, wUn, wCB, wTst, wAnd, wOr, DL.wNot, wAndV, wOrV, wNotV, wIf, wTup, wLst, wLstM, wCall, wGTup, wGCons, wGNil, wBrk, wCnt, wRaise, gI, gU, gOne , DL.gSub, gMul, gMod, gDiv, gPow, gLt, gLe, gGt, gGe, gNeg, gAbs, gMax2, gMin2, gInt2, wChain, wPar3, wSl, wNoPart, wPart, wIEnumA, wIZipA, wIRng3, wLc, wLcM, wYes, wFld, wAug, wApp, wPop, wRev, wSubG, wMet, wBinO, wUnO, dstart, List.map_cons, List.map_nil, List.length_cons, List.length_nil, List.replicate, List.cons_append, List.nil_append, List.append_nil, List.getElem?_cons_zero, List.getElem?_cons_succ, List.set_cons_zero, List.set_cons_succ, Option.some.injEq, exists_eq_left', exists_eq_left, D.int.injEq, D.bl.injEq, D.str.injEq, D.tup.injEq, D.lst.injEq, D.obj.injEq, List.cons.injEq, and_true, true_and, Nat.zero_add, Nat.reduceAdd, Nat.reduceSub, decide_eq_true_eq, Bool.not_eq_true', decide_eq_false_iff_not, exists_and_left, exists_and_right, and_assoc, Bool.true_eq_false, Bool.false_eq_true, if_true, if_false, ne_eq, gLen_ld]
    refine ⟨by omega, by omega, ?_⟩
    refine loop_inv _ (fun j δ μ' => ∃ f d4, δ = [some (ld p), some (ld r), some (.obj b), some (.int i), d4] ∧ μ' = mput μ b (.lst (f.map qd)) ∧ f.length = p.length + r.length - 1 ∧ j ≤ r.length ∧ ∀ k, coef f k = if i ≤ k ∧ k < i + j then part p r (i + 1) k else part p r i k)
      ⟨f, _, rfl, rfl, hfl, Nat.zero_le _, fun k => by rw [if_neg (by omega), hf]⟩ (fun _ _ _ _ => trivial) ?_ ?_
    · rintro j d hj δ μ3 ⟨g, d5, rfl, rfl, hgl, hjr, hg⟩ R2 next2
      obtain ⟨hj', rfl⟩ := ints_get hj
      have hjr' : j < r.length := by omega
      have hgl2 : i + j < g.length := by omega
      have ei : ((i : Int) + (j : Int)).toNat = i + j := by omega
      simp only [wRet, wRetN, wSeq, wNext, wIfS, wAsg, wName, wPar, wDrop, wDPut, wFor, wISeq, wIRng1, wIRng2, wVar, wC, wNil, wCons, wBin, wUn, wCB, wTst, wAnd, wOr, DL.wNot, wAndV, wOrV, wNotV, wIf, wTup, wLst, wLstM, wCall, wGTup, wGCons, wGNil, wBrk, wCnt, wRaise, gI, gU, gOne , DL.gSub, gMul, gMod, gDiv, gPow, gLt, gLe, gGt, gGe, gNeg, gAbs, gMax2, gMin2, gInt2, wChain, wPar3, wSl, wNoPart, wPart, wIEnumA, wIZipA, wIRng3, wLc, wLcM, wYes, wFld, wAug, wApp, wPop, wRev, wSubG, wMet, wBinO, wUnO, dstart, List.map_cons, List.map_nil, List.length_cons, List.length_nil, List.replicate, List.cons_append, List.nil_append, List.append_nil, List.getElem?_cons_zero, List.getElem?_cons_succ, List.set_cons_zero, List.set_cons_succ, Option.some.injEq, exists_eq_left', exists_eq_left, D.int.injEq, D.bl.injEq, D.str.injEq, D.tup.injEq, D.lst.injEq, D.obj.injEq, List.cons.injEq, and_true, true_and, Nat.zero_add, Nat.reduceAdd, Nat.reduceSub, decide_eq_true_eq, Bool.not_eq_true', decide_eq_false_iff_not, exists_and_left, exists_and_right, and_assoc, Bool.true_eq_false, Bool.false_eq_true, if_true, if_false, ne_eq, gAdd_int, s__law_two, wSubG]
      refine gIx_obj mput_same (atI_qd (by omega) (by omega)) (gIx_ld (by omega) (by omega) (gIx_ld (by omega) (by omega) ?_))
      rw [ei]
      have en : ((i : Nat) : Int).toNat = i := by omega
      have en2 : ((j : Nat) : Int).toNat = j := by omega
      rw [en, en2]
      have hsp : ∀ i k, i ≤ p.length → Sz (part p r i k) := fun i k h => z6 i id (fun a => if a ≤ k then k - a else r.length) (by omega)
      have hpk : part p r (i + 1) (i + j) = part p r i (i + j) + coef p i * coef r j := by
        rw [part_succ, if_pos (by omega), show i + j - i = j by omega]
      have hgk : coef g (i + j) = part p r i (i + j) := by rw [hg, if_neg (by omega)]
      refine ⟨_, rfl, _, rfl, z1 i, z2 j, _, rfl, _, rfl, ?_, z5 i j, ?_⟩
      · rw [hgk]
        exact hsp _ _ (by omega)
      · refine ⟨_, mput_same, i + j, ?_, ?_⟩
        · unfold ixN
          rw [List.length_map, if_pos (by omega), if_pos (by omega), ei]
        · rw [mput_mput, ← List.map_set]
          refine next2 _ _ ⟨_, _, rfl, rfl, by rw [List.length_set]; exact hgl, by omega, fun k => ?_⟩
          by_cases hk : k = i + j
          · rw [if_pos (by omega), hk, hpk, ← hgk]
            unfold coef
            rw [List.getElem?_set_self hgl2]
            rfl
          · have : coef (g.set (i + j) (coef g (i + j) + coef p i * coef r j)) k = coef g k := by
              unfold coef
              rw [List.getElem?_set_ne (by omega)]
            rw [this, hg]
            by_cases h5 : i ≤ k ∧ k < i + j
            · rw [if_pos h5, if_pos (by omega)]
            · rw [if_neg h5, if_neg (by omega)]
    · rintro δ μ3 ⟨g, d5, rfl, rfl, hgl, hjr, hg⟩
      have e1 : (intsD 0 (r.length : Int).toNat).length = r.length := by rw [intsD_len]; omega
      rw [e1] at hg
      refine next _ _ ⟨g, _, _, rfl, rfl, hgl, by omega, fun k => ?_⟩
      rw [hg]
      split
      · rfl
      · rename_i h
        rw [part_succ]
        by_cases h1 : i ≤ k
        · rw [if_pos h1, coef_ge (p := r) (by omega)]
          grind
        · rw [if_neg h1, coef_ge (p := r) (Nat.le_refl _)]
          grind
  · rintro δ μ2 ⟨f, d3, d4, rfl, rfl, hfl, hip, hf⟩
    rw [intsD_len] at hf
    have e1 : (p.length : Int).toNat = p.length := by omega
    rw [e1] at hf
    refine ⟨_, rfl, _, f, rfl, ?_, by omega, ?_⟩
    · simp only [seqOf, mput_same]
    · refine dn_del b ?_
      rw [mdel_put' hb]
      refine dn_i ?_
      have : trim f = pmul p r := canon_ext (trim_canon _) (canon_pmul _ _) fun k => by rw [coef_trim, hf, part_conv, coef_pmul]
      rw [this]
      exact q
/-! ### values, slopes, rows moved -/
/-- all on the way to the value at s is of a fit size -/
def PatOk (p : List Rat) (s : Rat) : Prop := Sz s ∧ ∀ c q l, p = l ++ c :: q → Sz c ∧ Sz (pat s q) ∧ Sz (pat s q * s)
def s__law_p_at : DF := fun ds μ Q _ => ∃ p s, ds = [ld p, qd s] ∧ PatOk p s ∧ Q (qd (pat s p)) μ
theorem p__law_p_at (K : PySem.W.Frag) : ∀ ds μ Q F, s__law_p_at ds μ Q F → ds.length = 2 ∧ w__law_p_at K (s__law_two fun p q => qd (p * q)) (s__law_two fun p q => qd (p + q)) { nx := fun _ μ' => Q .non μ', rt := Q } F (dstart ["_law_one", "_law_point", "_law_total", "_law_number"] ds) μ := by
  rintro _ μ Q F ⟨p, s, rfl, ⟨hs, hz⟩, q⟩
  refine ⟨rfl, ?_⟩
  simp only [w__law_p_at, w__law_p_at_0, w__law_p_at_1_0, w__law_p_at_1, w__law_p_at_2, wRet, wRetN, wSeq, wNext, wIfS, wAsg, wName, wPar, wDrop, wDPut, wFor, wISeq, wIRng1, wIRng2, wVar, wC, wNil, wCons, wBin, wUn, wCB, wTst, wAnd, wOr, DL.wNot, wAndV, wOrV, wNotV, wIf, wTup, wLst, wLstM, wCall, wGTup, wGCons, wGNil, wBrk, wCnt, wRaise, gI, gU, gOne , DL.gSub, gMul, gMod, gDiv, gPow, gLt, gLe, gGt, gGe, gNeg, gAbs, gMax2, gMin2, gInt2, wChain, wPar3, wSl, wNoPart, wPart, wIEnumA, wIZipA, wIRng3, wLc, wLcM, wYes, wFld, wAug, wApp, wPop, wRev, wSubG, wMet, wBinO, wUnO, dstart, List.map_cons, List.map_nil, List.length_cons, List.length_nil, List.replicate, List.cons_append, List.nil_append, List.append_nil, List.getElem?_cons_zero, List.getElem?_cons_succ, List.set_cons_zero, List.set_cons_succ, Option.some.injEq, exists_eq_left', exists_eq_left, D.int.injEq, D.bl.injEq, D.str.injEq, D.tup.injEq, D.lst.injEq, D.obj.injEq, List.cons.injEq, and_true, true_and, Nat.zero_add, Nat.reduceAdd, Nat.reduceSub, decide_eq_true_eq, Bool.not_eq_true', decide_eq_false_iff_not, exists_and_left, exists_and_right, and_assoc, Bool.true_eq_false, Bool.false_eq_true, if_true, if_false, ne_eq, s__law_two]
  refine ⟨by decide, .inl ⟨_, .inl rfl, .inl ⟨_, .inl rfl, ?_⟩⟩⟩
  refine loop_inv _ (fun i δ μ' => μ' = μ ∧ ∃ d, δ = [some (ld p), some (qd s), some (qd (pat s (p.drop (p.length - i)))), d] ∧ i ≤ p.length) ⟨rfl, none, by simp [pat, zero_qd], Nat.zero_le _⟩ (fun _ _ _ _ => trivial) ?_ ?_
  · rintro i d hd δ μ2 ⟨e8, d0, rfl, hi⟩ R' hR
    subst e8
    obtain ⟨c, rfl, hcm, hi', hdr⟩ := rev_get hd
    obtain ⟨l, hsp⟩ := drop_split hdr
    obtain ⟨hc, h1, h2⟩ := hz c _ l hsp
    simp only [wRet, wRetN, wSeq, wNext, wIfS, wAsg, wName, wPar, wDrop, wDPut, wFor, wISeq, wIRng1, wIRng2, wVar, wC, wNil, wCons, wBin, wUn, wCB, wTst, wAnd, wOr, DL.wNot, wAndV, wOrV, wNotV, wIf, wTup, wLst, wLstM, wCall, wGTup, wGCons, wGNil, wBrk, wCnt, wRaise, gI, gU, gOne , DL.gSub, gMul, gMod, gDiv, gPow, gLt, gLe, gGt, gGe, gNeg, gAbs, gMax2, gMin2, gInt2, wChain, wPar3, wSl, wNoPart, wPart, wIEnumA, wIZipA, wIRng3, wLc, wLcM, wYes, wFld, wAug, wApp, wPop, wRev, wSubG, wMet, wBinO, wUnO, dstart, List.map_cons, List.map_nil, List.length_cons, List.length_nil, List.replicate, List.cons_append, List.nil_append, List.append_nil, List.getElem?_cons_zero, List.getElem?_cons_succ, List.set_cons_zero, List.set_cons_succ, Option.some.injEq, exists_eq_left', exists_eq_left, D.int.injEq, D.bl.injEq, D.str.injEq, D.tup.injEq, D.lst.injEq, D.obj.injEq, List.cons.injEq, and_true, true_and, Nat.zero_add, Nat.reduceAdd, Nat.reduceSub, decide_eq_true_eq, Bool.not_eq_true', decide_eq_false_iff_not, exists_and_left, exists_and_right, and_assoc, Bool.true_eq_false, Bool.false_eq_true, if_true, if_false, ne_eq, s__law_two]
    refine ⟨_, rfl, _, rfl, h1, hs, _, rfl, _, rfl, h2, hc, hR _ _ ⟨rfl, some (qd c), ?_, by omega⟩⟩
    rw [hdr]
    rfl
  · rintro δ μ2 ⟨e8, d0, rfl, hi⟩
    subst e8
    simp only [wRet, wRetN, wSeq, wNext, wIfS, wAsg, wName, wPar, wDrop, wDPut, wFor, wISeq, wIRng1, wIRng2, wVar, wC, wNil, wCons, wBin, wUn, wCB, wTst, wAnd, wOr, DL.wNot, wAndV, wOrV, wNotV, wIf, wTup, wLst, wLstM, wCall, wGTup, wGCons, wGNil, wBrk, wCnt, wRaise, gI, gU, gOne , DL.gSub, gMul, gMod, gDiv, gPow, gLt, gLe, gGt, gGe, gNeg, gAbs, gMax2, gMin2, gInt2, wChain, wPar3, wSl, wNoPart, wPart, wIEnumA, wIZipA, wIRng3, wLc, wLcM, wYes, wFld, wAug, wApp, wPop, wRev, wSubG, wMet, wBinO, wUnO, dstart, List.map_cons, List.map_nil, List.length_cons, List.length_nil, List.replicate, List.cons_append, List.nil_append, List.append_nil, List.getElem?_cons_zero, List.getElem?_cons_succ, List.set_cons_zero, List.set_cons_succ, Option.some.injEq, exists_eq_left', exists_eq_left, D.int.injEq, D.bl.injEq, D.str.injEq, D.tup.injEq, D.lst.injEq, D.obj.injEq, List.cons.injEq, and_true, true_and, Nat.zero_add, Nat.reduceAdd, Nat.reduceSub, decide_eq_true_eq, Bool.not_eq_true', decide_eq_false_iff_not, exists_and_left, exists_and_right, and_assoc, Bool.true_eq_false, Bool.false_eq_true, if_true, if_false, ne_eq]
    have hn : (p.map qd).reverse.length = p.length := by simp
    rw [hn, Nat.sub_self, List.drop_zero]
    exact q
def s__law_p_slope : DF := fun ds μ Q _ => ∃ p, ds = [ld p] ∧ p.length ≤ 1000 ∧ (∀ k, Sz (coef p k)) ∧ Q (ld (pslope p)) μ
theorem nat_qd (k : Nat) : D.tup [.int k, .int 1] = qd (k : Rat) := by
  unfold qd
  rw [Rat.num_natCast, Rat.den_natCast]
  rfl
theorem p__law_p_slope (K : PySem.W.Frag) : ∀ ds μ Q F, s__law_p_slope ds μ Q F → ds.length = 1 ∧ w__law_p_slope K (s__law_two fun p q => qd (p * q)) s__law_poly { nx := fun _ μ' => Q .non μ', rt := Q } F (dstart ["_law_one", "_law_k"] ds) μ := by
  rintro _ μ Q F ⟨p, rfl, hl, hz, q⟩
  refine ⟨rfl, ?_⟩
  simp only [w__law_p_slope, w__law_p_slope_0, wRet, wRetN, wSeq, wNext, wIfS, wAsg, wName, wPar, wDrop, wDPut, wFor, wISeq, wIRng1, wIRng2, wVar, wC, wNil, wCons, wBin, wUn, wCB, wTst, wAnd, wOr, DL.wNot, wAndV, wOrV, wNotV, wIf, wTup, wLst, wLstM, wCall, wGTup, wGCons, wGNil, wBrk, wCnt, wRaise, gI, gU, gOne , DL.gSub, gMul, gMod, gDiv, gPow, gLt, gLe, gGt, gGe, gNeg, gAbs, gMax2, gMin2, gInt2, wChain, wPar3, wSl, wNoPart, wPart, wIEnumA, wIZipA, wIRng3, wLc, wLcM, wYes, wFld, wAug, wApp, wPop, wRev, wSubG, wMet, wBinO, wUnO, dstart, List.map_cons, List.map_nil, List.length_cons, List.length_nil, List.replicate, List.cons_append, List.nil_append, List.append_nil, List.getElem?_cons_zero, List.getElem?_cons_succ, List.set_cons_zero, List.set_cons_succ, Option.some.injEq, exists_eq_left', exists_eq_left, D.int.injEq, D.bl.injEq, D.str.injEq, D.tup.injEq, D.lst.injEq, D.obj.injEq, List.cons.injEq, and_true, true_and, Nat.zero_add, Nat.reduceAdd, Nat.reduceSub, decide_eq_true_eq, Bool.not_eq_true', decide_eq_false_iff_not, exists_and_left, exists_and_right, and_assoc, Bool.true_eq_false, Bool.false_eq_true, if_true, if_false, ne_eq, gLen_ld]
  refine ⟨by decide, by decide, by omega, by omega, fun a ha => ?_⟩
  have e1 : ((p.length : Int) - 1).toNat = p.length - 1 := by omega
  rw [e1]
  refine cmp_map (fun d => match d with | .int i => qd (coef p i.toNat * (i.toNat : Rat)) | _ => .non) ha (by rw [intsD_len]; omega) (fun _ _ => trivial) (fun d hd μ' hb R' hR => ?_) ?_
  · obtain ⟨i, hi, rfl⟩ := List.mem_map.mp hd
    have hi' : i < p.length - 1 := by simpa using hi
    simp only [wipeD, wRet, wRetN, wSeq, wNext, wIfS, wAsg, wName, wPar, wDrop, wDPut, wFor, wISeq, wIRng1, wIRng2, wVar, wC, wNil, wCons, wBin, wUn, wCB, wTst, wAnd, wOr, DL.wNot, wAndV, wOrV, wNotV, wIf, wTup, wLst, wLstM, wCall, wGTup, wGCons, wGNil, wBrk, wCnt, wRaise, gI, gU, gOne , DL.gSub, gMul, gMod, gDiv, gPow, gLt, gLe, gGt, gGe, gNeg, gAbs, gMax2, gMin2, gInt2, wChain, wPar3, wSl, wNoPart, wPart, wIEnumA, wIZipA, wIRng3, wLc, wLcM, wYes, wFld, wAug, wApp, wPop, wRev, wSubG, wMet, wBinO, wUnO, dstart, List.map_cons, List.map_nil, List.length_cons, List.length_nil, List.replicate, List.cons_append, List.nil_append, List.append_nil, List.getElem?_cons_zero, List.getElem?_cons_succ, List.set_cons_zero, List.set_cons_succ, Option.some.injEq, exists_eq_left', exists_eq_left, D.int.injEq, D.bl.injEq, D.str.injEq, D.tup.injEq, D.lst.injEq, D.obj.injEq, List.cons.injEq, and_true, true_and, Nat.zero_add, Nat.reduceAdd, Nat.reduceSub, decide_eq_true_eq, Bool.not_eq_true', decide_eq_false_iff_not, exists_and_left, exists_and_right, and_assoc, Bool.true_eq_false, Bool.false_eq_true, if_true, if_false, ne_eq]
    refine gIx_ld (by omega) (by omega) ?_
    have e : ((1 : Int) + (i : Int)) = ((i + 1 : Nat) : Int) := by omega
    rw [e]
    refine ⟨by decide, ?_⟩
    rw [nat_qd]
    rw [e] at hR
    have e2 : (((i + 1 : Nat) : Int)).toNat = i + 1 := by omega
    dsimp only at hR
    rw [e2] at hR ⊢
    exact ⟨_, _, rfl, hz _, Sz.nat (by omega), hR⟩
  · have e4 : (intsD 1 (p.length - 1)).map (fun d => match d with | .int i => qd (coef p i.toNat * (i.toNat : Rat)) | _ => D.non) = ((List.range (p.length - 1)).map fun k => coef p (k + 1) * ((k + 1 : Nat) : Rat)).map qd := by
      unfold intsD
      rw [List.map_map, List.map_map]
      refine List.map_congr_left fun i _ => ?_
      have : ((1 : Int) + (i : Int)).toNat = i + 1 := by omega
      simp only [Function.comp, this]
    rw [e4]
    refine poly_ld (by simp only [List.length_map, List.length_range]; omega) ?_
    have : trim ((List.range (p.length - 1)).map fun k => coef p (k + 1) * ((k + 1 : Nat) : Rat)) = pslope p := canon_ext (trim_canon _) (canon_pslope _) fun k => by
      rw [coef_trim, coef_map, coef_pslope]
      split
      · grind
      · rw [coef_ge (p := p) (by omega)]
        grind
    rw [this]
    exact q
def s__law_p_moved : DF := fun ds μ Q _ => ∃ p a b, ds = [ld p, qd a, qd b] ∧ MovOk p a b ∧ Q (ld (pmoved a b p)) μ
theorem p__law_p_moved (K : PySem.W.Frag) : ∀ ds μ Q F, s__law_p_moved ds μ Q F → ds.length = 3 ∧ w__law_p_moved K s__law_poly s__law_p_times s__law_p_plus { nx := fun _ μ' => Q .non μ', rt := Q } F (dstart ["_law_one", "_law_start", "_law_step", "_law_found", "_law_line", "_law_number"] ds) μ := by
  rintro _ μ Q F ⟨p, a, b, rfl, ⟨ha, hb, hl, hm⟩, q⟩
  refine ⟨rfl, ?_⟩
  simp only [w__law_p_moved, w__law_p_moved_0, w__law_p_moved_1_0, w__law_p_moved_1, w__law_p_moved_2, wRet, wRetN, wSeq, wNext, wIfS, wAsg, wName, wPar, wDrop, wDPut, wFor, wISeq, wIRng1, wIRng2, wVar, wC, wNil, wCons, wBin, wUn, wCB, wTst, wAnd, wOr, DL.wNot, wAndV, wOrV, wNotV, wIf, wTup, wLst, wLstM, wCall, wGTup, wGCons, wGNil, wBrk, wCnt, wRaise, gI, gU, gOne , DL.gSub, gMul, gMod, gDiv, gPow, gLt, gLe, gGt, gGe, gNeg, gAbs, gMax2, gMin2, gInt2, wChain, wPar3, wSl, wNoPart, wPart, wIEnumA, wIZipA, wIRng3, wLc, wLcM, wYes, wFld, wAug, wApp, wPop, wRev, wSubG, wMet, wBinO, wUnO, dstart, List.map_cons, List.map_nil, List.length_cons, List.length_nil, List.replicate, List.cons_append, List.nil_append, List.append_nil, List.getElem?_cons_zero, List.getElem?_cons_succ, List.set_cons_zero, List.set_cons_succ, Option.some.injEq, exists_eq_left', exists_eq_left, D.int.injEq, D.bl.injEq, D.str.injEq, D.tup.injEq, D.lst.injEq, D.obj.injEq, List.cons.injEq, and_true, true_and, Nat.zero_add, Nat.reduceAdd, Nat.reduceSub, decide_eq_true_eq, Bool.not_eq_true', decide_eq_false_iff_not, exists_and_left, exists_and_right, and_assoc, Bool.true_eq_false, Bool.false_eq_true, if_true, if_false, ne_eq]
  refine ⟨by decide, by decide, poly_ld (p := [a, b]) (by simp) ?_⟩
  refine .inl ⟨_, .inl rfl, .inl ⟨_, .inl rfl, ?_⟩⟩
  refine loop_inv _ (fun i δ μ' => μ' = μ ∧ ∃ d, δ = [some (ld p), some (qd a), some (qd b), some (ld (pmoved a b (p.drop (p.length - i)))), some (ld (trim [a, b])), d] ∧ i ≤ p.length) ⟨rfl, none, by simp [pmoved]; rfl, Nat.zero_le _⟩ (fun _ _ _ _ => trivial) ?_ ?_
  · rintro i d hd δ μ2 ⟨e8, d0, rfl, hi⟩ R' hR
    subst e8
    obtain ⟨c, rfl, hcm, hi', hdr⟩ := rev_get hd
    obtain ⟨l, hsp⟩ := drop_split hdr
    obtain ⟨hc, h1, h2⟩ := hm c _ l hsp
    simp only [wRet, wRetN, wSeq, wNext, wIfS, wAsg, wName, wPar, wDrop, wDPut, wFor, wISeq, wIRng1, wIRng2, wVar, wC, wNil, wCons, wBin, wUn, wCB, wTst, wAnd, wOr, DL.wNot, wAndV, wOrV, wNotV, wIf, wTup, wLst, wLstM, wCall, wGTup, wGCons, wGNil, wBrk, wCnt, wRaise, gI, gU, gOne , DL.gSub, gMul, gMod, gDiv, gPow, gLt, gLe, gGt, gGe, gNeg, gAbs, gMax2, gMin2, gInt2, wChain, wPar3, wSl, wNoPart, wPart, wIEnumA, wIZipA, wIRng3, wLc, wLcM, wYes, wFld, wAug, wApp, wPop, wRev, wSubG, wMet, wBinO, wUnO, dstart, List.map_cons, List.map_nil, List.length_cons, List.length_nil, List.replicate, List.cons_append, List.nil_append, List.append_nil, List.getElem?_cons_zero, List.getElem?_cons_succ, List.set_cons_zero, List.set_cons_succ, Option.some.injEq, exists_eq_left', exists_eq_left, D.int.injEq, D.bl.injEq, D.str.injEq, D.tup.injEq, D.lst.injEq, D.obj.injEq, List.cons.injEq, and_true, true_and, Nat.zero_add, Nat.reduceAdd, Nat.reduceSub, decide_eq_true_eq, Bool.not_eq_true', decide_eq_false_iff_not, exists_and_left, exists_and_right, and_assoc, Bool.true_eq_false, Bool.false_eq_true, if_true, if_false, ne_eq]
    refine ⟨_, _, rfl, h1, by decide, poly_ld (p := [c]) (by simp) ⟨_, _, rfl, h2, hR _ _ ⟨rfl, some (qd c), ?_, by omega⟩⟩⟩
    rw [hdr]
    rfl
  · rintro δ μ2 ⟨e8, d0, rfl, hi⟩
    subst e8
    simp only [wRet, wRetN, wSeq, wNext, wIfS, wAsg, wName, wPar, wDrop, wDPut, wFor, wISeq, wIRng1, wIRng2, wVar, wC, wNil, wCons, wBin, wUn, wCB, wTst, wAnd, wOr, DL.wNot, wAndV, wOrV, wNotV, wIf, wTup, wLst, wLstM, wCall, wGTup, wGCons, wGNil, wBrk, wCnt, wRaise, gI, gU, gOne , DL.gSub, gMul, gMod, gDiv, gPow, gLt, gLe, gGt, gGe, gNeg, gAbs, gMax2, gMin2, gInt2, wChain, wPar3, wSl, wNoPart, wPart, wIEnumA, wIZipA, wIRng3, wLc, wLcM, wYes, wFld, wAug, wApp, wPop, wRev, wSubG, wMet, wBinO, wUnO, dstart, List.map_cons, List.map_nil, List.length_cons, List.length_nil, List.replicate, List.cons_append, List.nil_append, List.append_nil, List.getElem?_cons_zero, List.getElem?_cons_succ, List.set_cons_zero, List.set_cons_succ, Option.some.injEq, exists_eq_left', exists_eq_left, D.int.injEq, D.bl.injEq, D.str.injEq, D.tup.injEq, D.lst.injEq, D.obj.injEq, List.cons.injEq, and_true, true_and, Nat.zero_add, Nat.reduceAdd, Nat.reduceSub, decide_eq_true_eq, Bool.not_eq_true', decide_eq_false_iff_not, exists_and_left, exists_and_right, and_assoc, Bool.true_eq_false, Bool.false_eq_true, if_true, if_false, ne_eq]
    have hn : (p.map qd).reverse.length = p.length := by simp
    rw [hn, Nat.sub_self, List.drop_zero]
    exact q
end NC

set_option maxHeartbeats 2000000
namespace NC
open PySem PySem.Spec PyProof.Rows L2 DL LL PL
/-! ### elements that are drawn, one by one -/
inductive All2 (E : D → D → Prop) : List D → List D → Prop
  | nil : All2 E [] []
  | cons {x y : D} {xs ys : List D} : E x y → All2 E xs ys → All2 E (x :: xs) (y :: ys)
theorem All2.snoc {E : D → D → Prop} {x y : D} : ∀ {xs ys : List D}, All2 E xs ys → E x y → All2 E (xs ++ [x]) (ys ++ [y])
  | _, _, .nil, h => .cons h .nil
  | _, _, .cons a r, h => .cons a (r.snoc h)
theorem All2.len {E : D → D → Prop} : ∀ {xs ys : List D}, All2 E xs ys → xs.length = ys.length
  | _, _, .nil => rfl
  | _, _, .cons _ r => by simp only [List.length_cons, r.len]
theorem cmp_drawR {Gd : M → Prop} {tg : DG} {we : DW} {p a : Addr} {δ : DSt} {Q : DK} {ds : List D} {μ : M} {m c : Nat} (E : D → D → Prop) (hp : μ p = none) (hl : ds.length ≤ 1000000) (pen : Pen a μ m) (hm : m + ds.length * c ≤ 1000000) (hG : ∀ μ', Gd μ')
    (el : ∀ d, d ∈ ds → ∀ μ' k, Pen a μ' k → k + c ≤ 1000000 → ∀ R : D → M → Prop, (∀ y μ2, E d y → Only a μ' μ2 → Pen a μ2 (k + c) → R y μ2) → tg d δ μ' fun δ1 μ1 => we δ1 μ1 R FF)
    (q : ∀ ys μ', All2 E ds ys → Only a μ μ' → Pen a μ' (m + ds.length * c) → Q (.lst ys) μ') : wCmp Gd tg wYes we p δ ds [] (mput μ p (.lst [])) Q := by
  have hpa : p ≠ a := fun e => by
    obtain ⟨cs, x, d, n, f, h, _⟩ := pen
    rw [← e, hp] at h
    cases h
  have pen_put : ∀ {μ : M} {m : Nat} {o : MO}, Pen a μ m → Pen a (mput μ p o) m := fun {μ m o} h => by
    obtain ⟨cs, x, d, n, f, h, r⟩ := h
    exact ⟨cs, x, d, n, f, by rw [mput_ne (Ne.symm hpa)]; exact h, r⟩
  refine cmp_inv ds (fun i acc μ' => (∀ b, b ≠ p → b ≠ a → μ' b = μ b) ∧ μ' p = some (.lst acc) ∧ Pen a μ' (m + i * c) ∧ i ≤ ds.length ∧ All2 E (ds.take i) acc) ⟨fun b hb _ => mput_ne hb, mput_same, by simpa using pen_put pen, Nat.zero_le _, .nil⟩ (fun i acc μ' h => ⟨hG μ', h.2.1⟩) ?_ ?_
  · rintro i d hd acc μ' ⟨h1, h2, h3, h4, h5⟩ R hR
    have hmm : d ∈ ds := List.mem_of_getElem? hd
    have hi : i < ds.length := by
      obtain ⟨h, _⟩ := List.getElem?_eq_some_iff.mp hd
      exact h
    have hb : (i + 1) * c ≤ ds.length * c := Nat.mul_le_mul_right _ hi
    have hb' : (i + 1) * c = i * c + c := Nat.succ_mul _ _
    have hal := h5.len
    rw [List.length_take] at hal
    refine el d hmm μ' _ h3 (by omega) _ fun y μ2 hy o2 p2 => ?_
    refine ⟨(o2 p hpa).trans h2, by omega, hR _ _ ⟨fun b hb hb2 => (mput_ne hb).trans ((o2 b hb2).trans (h1 b hb hb2)), mput_same, pen_put (by rw [hb', ← Nat.add_assoc]; exact p2), hi, ?_⟩⟩
    rw [List.take_add_one, hd]
    exact h5.snoc hy
  · rintro acc μ' ⟨h1, h2, h3, h4, h5⟩
    rw [List.take_length] at h5
    refine q acc _ h5 (fun b hb => ?_) ?_
    · by_cases e : b = p
      · rw [e, mdel_same, hp]
      · rw [mdel_ne e]
        exact h1 b e hb
    · obtain ⟨cs, x, d, n, f, h, r⟩ := h3
      exact ⟨cs, x, d, n, f, by rw [mdel_ne (Ne.symm hpa)]; exact h, r⟩
/-! ### polynomials, handed in -/
def passD (d v : D) : Prop := ∃ q, d = qd q ∧ Sz q ∧ pass q v
theorem rats_pass {μ : M} : ∀ {p : List Rat} {ys : List D}, All2 passD (p.map qd) ys → rats μ ys = some p ∧ ∀ y ∈ ys, okD (view μ y) ∧ view μ y = y
  | [], _, h => by
    cases h
    exact ⟨rfl, by simp⟩
  | c :: p, _, h => by
    cases h with
    | cons h r =>
      obtain ⟨q, e, hz, hp⟩ := h
      obtain rfl := qd_inj.mp e
      obtain ⟨a1, a2, a3, _⟩ := pass_ok (μ := μ) hp hz
      obtain ⟨b1, b2⟩ := rats_pass (μ := μ) r
      refine ⟨by simp only [rats, a1, a3, b1], fun y hy => ?_⟩
      rcases List.mem_cons.mp hy with rfl | hy
      · exact ⟨by rw [a1]; exact a2, a1⟩
      · exact b2 y hy
theorem rats_app {μ : M} : ∀ {xs ys : List D} {p q : List Rat}, rats μ xs = some p → rats μ ys = some q → rats μ (xs ++ ys) = some (p ++ q)
  | [], _, _, _, h, h2 => by cases h; exact h2
  | x :: xs, ys, p, q, h, h2 => by
    unfold rats at h
    split at h
    · rename_i a b e1 e2
      cases h
      have := rats_app (xs := xs) e2 h2
      simp only [List.cons_append, rats, e1, this]
    · cases h
theorem rats_zero {μ : M} : ∀ n, rats μ (List.replicate n (.int 0)) = some (List.replicate n 0)
  | 0 => rfl
  | n + 1 => by
    simp only [List.replicate_succ, rats, view_int, ratV_int, rats_zero n]
    rfl
theorem trim_zeros (p : List Rat) (n : Nat) : trim (p ++ List.replicate n 0) = trim p := trim_ext fun k => coef_pad n p k
theorem rep_one {x : D} : ∀ n, (List.replicate n [x]).flatten = List.replicate n x
  | 0 => rfl
  | n + 1 => by rw [List.replicate_succ, List.flatten_cons, rep_one n]; rfl
def s__law_made_poly (C : Addr) : DF := fun ds μ Q _ => ∃ q p m, ds = [.obj q, ld p] ∧ p.length ≤ 100 ∧ (∀ c ∈ p, Sz c) ∧ Pen q μ m ∧ m + 400 ≤ 1000000 ∧ ∀ μ', Only q μ μ' → Pen q μ' (m + 400) → Q (po C (trim p)) μ'
theorem p__law_made_poly (K : PySem.W.Frag) (R C : Addr) : ∀ ds μ Q F, s__law_made_poly C ds μ Q F → ds.length = 2 ∧ w__law_made_poly K C s__law_passed s__law_draw s__law_pick (s_Poly R C) { nx := fun _ μ' => Q .non μ', rt := Q } F (dstart ["_law_pen_here", "_law_one", "_law_numbers", "_law_number"] ds) μ := by
  rintro _ μ Q F ⟨q, p, m, rfl, hl, hz, pen, hm, k⟩
  refine ⟨rfl, ?_⟩
  simp only [w__law_made_poly, w__law_made_poly_0, w__law_made_poly_1, s_Poly, wRet, wRetN, wSeq, wNext, wIfS, wAsg, wName, wPar, wDrop, wDPut, wFor, wISeq, wIRng1, wIRng2, wVar, wC, wNil, wCons, wBin, wUn, wCB, wTst, wAnd, wOr, DL.wNot, wAndV, wOrV, wNotV, wIf, wTup, wLst, wLstM, wCall, wGTup, wGCons, wGNil, wBrk, wCnt, wRaise, gI, gU, gOne , DL.gSub, gMul, gMod, gDiv, gPow, gLt, gLe, gGt, gGe, gNeg, gAbs, gMax2, gMin2, gInt2, wChain, wPar3, wSl, wNoPart, wPart, wIEnumA, wIZipA, wIRng3, wLc, wLcM, wYes, wFld, wAug, wApp, wPop, wRev, wSubG, wMet, wBinO, wUnO, dstart, List.map_cons, List.map_nil, List.length_cons, List.length_nil, List.replicate, List.cons_append, List.nil_append, List.append_nil, List.getElem?_cons_zero, List.getElem?_cons_succ, List.set_cons_zero, List.set_cons_succ, Option.some.injEq, exists_eq_left', exists_eq_left, D.int.injEq, D.bl.injEq, D.str.injEq, D.tup.injEq, D.lst.injEq, D.obj.injEq, List.cons.injEq, and_true, true_and, Nat.zero_add, Nat.reduceAdd, Nat.reduceSub, decide_eq_true_eq, Bool.not_eq_true', decide_eq_false_iff_not, exists_and_left, exists_and_right, and_assoc, Bool.true_eq_false, Bool.false_eq_true, if_true, if_false, ne_eq]
  refine .inl ⟨p.map qd, .inl rfl, fun a ha => ?_⟩
  refine cmp_drawR (c := 3) passD ha (by simp only [List.length_map]; omega) pen (by simp only [List.length_map]; omega) (fun _ => trivial) (fun d hd μ' j pn hj R' hR => ?_) fun ys μ1 hy o1 p1 => ?_
  · obtain ⟨c, hc, rfl⟩ := List.mem_map.mp hd
    simp only [wipeD, wRet, wRetN, wSeq, wNext, wIfS, wAsg, wName, wPar, wDrop, wDPut, wFor, wISeq, wIRng1, wIRng2, wVar, wC, wNil, wCons, wBin, wUn, wCB, wTst, wAnd, wOr, DL.wNot, wAndV, wOrV, wNotV, wIf, wTup, wLst, wLstM, wCall, wGTup, wGCons, wGNil, wBrk, wCnt, wRaise, gI, gU, gOne , DL.gSub, gMul, gMod, gDiv, gPow, gLt, gLe, gGt, gGe, gNeg, gAbs, gMax2, gMin2, gInt2, wChain, wPar3, wSl, wNoPart, wPart, wIEnumA, wIZipA, wIRng3, wLc, wLcM, wYes, wFld, wAug, wApp, wPop, wRev, wSubG, wMet, wBinO, wUnO, dstart, List.map_cons, List.map_nil, List.length_cons, List.length_nil, List.replicate, List.cons_append, List.nil_append, List.append_nil, List.getElem?_cons_zero, List.getElem?_cons_succ, List.set_cons_zero, List.set_cons_succ, Option.some.injEq, exists_eq_left', exists_eq_left, D.int.injEq, D.bl.injEq, D.str.injEq, D.tup.injEq, D.lst.injEq, D.obj.injEq, List.cons.injEq, and_true, true_and, Nat.zero_add, Nat.reduceAdd, Nat.reduceSub, decide_eq_true_eq, Bool.not_eq_true', decide_eq_false_iff_not, exists_and_left, exists_and_right, and_assoc, Bool.true_eq_false, Bool.false_eq_true, if_true, if_false, ne_eq]
    exact ⟨q, c, j, rfl, hz c hc, pn, hj, fun v μ2 hv o2 p2 => hR v μ2 ⟨c, rfl, hz c hc, hv⟩ o2 p2⟩
  · have hyl := hy.len
    rw [List.length_map] at hyl p1
    refine ⟨by decide, q, 2, _, rfl, by decide, by decide, p1, by omega, fun v μ2 v0 v1 o2 p2 => ?_⟩
    dsimp only
    refine gRep_lst (by omega) (by omega) (by simp; omega) ?_
    rw [rep_one]
    refine gAdd_lst.mpr ⟨by simp; omega, ?_⟩
    refine .inl ⟨_, .inl rfl, by decide, q, _, _, .inl rfl, by simp, by simp, p2, by omega, fun w hw μ3 o3 p3 => ?_⟩
    obtain ⟨r1, r2⟩ := rats_pass (μ := μ3) hy
    have rr : rats μ3 (ys ++ List.replicate v.toNat (.int 0)) = some (p ++ List.replicate v.toNat 0) := rats_app r1 (rats_zero _)
    have ok : ∀ y ∈ ys ++ List.replicate v.toNat (D.int 0), okD (view μ3 y) := fun y h => by
      rcases List.mem_append.mp h with h | h
      · exact (r2 y h).1
      · rw [(List.mem_replicate.mp h).2]
        rfl
    have hlen : (ys ++ List.replicate v.toNat (D.int 0)).length ≤ 100000 := by
      rw [List.length_append, List.length_replicate]
      omega
    have fin := k μ3 ((o1.trans o2).trans o3) (p3.mono (by omega))
    rcases List.mem_cons.mp hw with rfl | hw
    · refine ⟨okRow_tup hlen ok, ?_⟩
      unfold rowV
      rw [view_tup]
      show onP (rats μ3 _) _ _
      rw [rr, onP_some, trim_zeros]
      exact fin
    · rw [List.mem_singleton.mp hw]
      refine ⟨⟨hlen, ok⟩, ?_⟩
      unfold rowV
      rw [show view μ3 (.lst (ys ++ List.replicate v.toNat (D.int 0))) = .lst (ys ++ List.replicate v.toNat (D.int 0)) from rfl]
      show onP (rats μ3 _) _ _
      rw [rr, onP_some, trim_zeros]
      exact fin
/-! ### drawn polynomials -/
def s__law_drawn : DF := fun ds μ Q _ => ∃ (p : Addr) (deg most m : Nat), ds = [.obj p, .int deg, .int most] ∧ deg ≤ 50 ∧ most ≤ 10 ^ 12 ∧ Pen p μ m ∧ m + 200 ≤ 1000000 ∧ ∀ rs μ', rs.length ≤ deg + 1 → (∀ c ∈ rs, Dr most c) → Only p μ μ' → Pen p μ' (m + 200) → Q (ld (trim rs)) μ'
theorem p__law_drawn (K : PySem.W.Frag) : ∀ ds μ Q F, s__law_drawn ds μ Q F → ds.length = 3 ∧ w__law_drawn K s__law_draw s__law_ratio s__law_poly { nx := fun _ μ' => Q .non μ', rt := Q } F (dstart ["_law_pen_here", "_law_degree", "_law_most", "_law_k"] ds) μ := by
  rintro _ μ Q F ⟨p, deg, most, m, rfl, hd, hmo, pen, hm, k⟩
  refine ⟨rfl, ?_⟩
  simp only [w__law_drawn, w__law_drawn_0, wRet, wRetN, wSeq, wNext, wIfS, wAsg, wName, wPar, wDrop, wDPut, wFor, wISeq, wIRng1, wIRng2, wVar, wC, wNil, wCons, wBin, wUn, wCB, wTst, wAnd, wOr, DL.wNot, wAndV, wOrV, wNotV, wIf, wTup, wLst, wLstM, wCall, wGTup, wGCons, wGNil, wBrk, wCnt, wRaise, gI, gU, gOne , DL.gSub, gMul, gMod, gDiv, gPow, gLt, gLe, gGt, gGe, gNeg, gAbs, gMax2, gMin2, gInt2, wChain, wPar3, wSl, wNoPart, wPart, wIEnumA, wIZipA, wIRng3, wLc, wLcM, wYes, wFld, wAug, wApp, wPop, wRev, wSubG, wMet, wBinO, wUnO, dstart, List.map_cons, List.map_nil, List.length_cons, List.length_nil, List.replicate, List.cons_append, List.nil_append, List.append_nil, List.getElem?_cons_zero, List.getElem?_cons_succ, List.set_cons_zero, List.set_cons_succ, Option.some.injEq, exists_eq_left', exists_eq_left, D.int.injEq, D.bl.injEq, D.str.injEq, D.tup.injEq, D.lst.injEq, D.obj.injEq, List.cons.injEq, and_true, true_and, Nat.zero_add, Nat.reduceAdd, Nat.reduceSub, decide_eq_true_eq, Bool.not_eq_true', decide_eq_false_iff_not, exists_and_left, exists_and_right, and_assoc, Bool.true_eq_false, Bool.false_eq_true, if_true, if_false, ne_eq, gAdd_int]
  refine ⟨p, _, m, rfl, by omega, by omega, pen, by omega, fun v μ1 v0 v1 o1 p1 => ?_⟩
  simp only [wRet, wRetN, wSeq, wNext, wIfS, wAsg, wName, wPar, wDrop, wDPut, wFor, wISeq, wIRng1, wIRng2, wVar, wC, wNil, wCons, wBin, wUn, wCB, wTst, wAnd, wOr, DL.wNot, wAndV, wOrV, wNotV, wIf, wTup, wLst, wLstM, wCall, wGTup, wGCons, wGNil, wBrk, wCnt, wRaise, gI, gU, gOne , DL.gSub, gMul, gMod, gDiv, gPow, gLt, gLe, gGt, gGe, gNeg, gAbs, gMax2, gMin2, gInt2, wChain, wPar3, wSl, wNoPart, wPart, wIEnumA, wIZipA, wIRng3, wLc, wLcM, wYes, wFld, wAug, wApp, wPop, wRev, wSubG, wMet, wBinO, wUnO, dstart, List.map_cons, List.map_nil, List.length_cons, List.length_nil, List.replicate, List.cons_append, List.nil_append, List.append_nil, List.getElem?_cons_zero, List.getElem?_cons_succ, List.set_cons_zero, List.set_cons_succ, Option.some.injEq, exists_eq_left', exists_eq_left, D.int.injEq, D.bl.injEq, D.str.injEq, D.tup.injEq, D.lst.injEq, D.obj.injEq, List.cons.injEq, and_true, true_and, Nat.zero_add, Nat.reduceAdd, Nat.reduceSub, decide_eq_true_eq, Bool.not_eq_true', decide_eq_false_iff_not, exists_and_left, exists_and_right, and_assoc, Bool.true_eq_false, Bool.false_eq_true, if_true, if_false, ne_eq, gAdd_int]
  refine ⟨by omega, by omega, fun a ha => ?_⟩
  refine cmp_drawR (c := 3) (fun _ y => ∃ c, y = qd c ∧ Dr most c) ha (by rw [intsD_len]; omega) p1 (by rw [intsD_len]; omega) (fun _ => trivial) (fun d hd μ' j pn hj R' hR => ?_) fun ys μ2 hy o2 p2 => ?_
  · obtain ⟨i, hi, rfl⟩ := List.mem_map.mp hd
    simp only [wipeD, wRet, wRetN, wSeq, wNext, wIfS, wAsg, wName, wPar, wDrop, wDPut, wFor, wISeq, wIRng1, wIRng2, wVar, wC, wNil, wCons, wBin, wUn, wCB, wTst, wAnd, wOr, DL.wNot, wAndV, wOrV, wNotV, wIf, wTup, wLst, wLstM, wCall, wGTup, wGCons, wGNil, wBrk, wCnt, wRaise, gI, gU, gOne , DL.gSub, gMul, gMod, gDiv, gPow, gLt, gLe, gGt, gGe, gNeg, gAbs, gMax2, gMin2, gInt2, wChain, wPar3, wSl, wNoPart, wPart, wIEnumA, wIZipA, wIRng3, wLc, wLcM, wYes, wFld, wAug, wApp, wPop, wRev, wSubG, wMet, wBinO, wUnO, dstart, List.map_cons, List.map_nil, List.length_cons, List.length_nil, List.replicate, List.cons_append, List.nil_append, List.append_nil, List.getElem?_cons_zero, List.getElem?_cons_succ, List.set_cons_zero, List.set_cons_succ, Option.some.injEq, exists_eq_left', exists_eq_left, D.int.injEq, D.bl.injEq, D.str.injEq, D.tup.injEq, D.lst.injEq, D.obj.injEq, List.cons.injEq, and_true, true_and, Nat.zero_add, Nat.reduceAdd, Nat.reduceSub, decide_eq_true_eq, Bool.not_eq_true', decide_eq_false_iff_not, exists_and_left, exists_and_right, and_assoc, Bool.true_eq_false, Bool.false_eq_true, if_true, if_false, ne_eq]
    exact ⟨p, most, j, rfl, hmo, pn, hj, fun c μ3 hc o3 p3 => hR _ _ ⟨c, rfl, hc⟩ o3 p3⟩
  · have hl := hy.len
    rw [intsD_len] at hl p2
    have : ∀ {xs ys : List D}, All2 (fun _ y => ∃ c, y = qd c ∧ Dr most c) xs ys → ∃ rs : List Rat, ys = rs.map qd ∧ ∀ c ∈ rs, Dr most c := by
      intro xs ys h
      induction h with
      | nil => exact ⟨[], rfl, by simp⟩
      | cons h _ ih =>
        obtain ⟨c, rfl, hc⟩ := h
        obtain ⟨rs, rfl, hr⟩ := ih
        exact ⟨c :: rs, rfl, fun x hx => by
          rcases List.mem_cons.mp hx with rfl | hx
          · exact hc
          · exact hr x hx⟩
    obtain ⟨rs, rfl, hr⟩ := this hy
    rw [List.length_map] at hl
    exact poly_ld (by omega) (k rs _ (by omega) hr (o1.trans o2) (p2.mono (by omega)))
end NC

set_option maxHeartbeats 2000000
namespace NC
open PySem PySem.Spec PyProof.Rows L2 DL LL PL
def w__law_why_0 (K : PySem.W.Frag) (a_BadNumber a_BadRow a_BadText a_Pole a_TooMany a_TooWide a_Unlike : Addr) (wl : DW) : DS := (wTryE K wl (⟨.ref a_BadText, 1, fun a cls d => (wRet (wTup (wCons (wC (.str "text")) (wCons (wXf a cls d a_BadText "column" (wVar 1)) wNil))))⟩ :: (⟨.ref a_BadNumber, 1, fun a cls d => (wRet (wTup (wCons (wC (.str "number")) (wCons (wXf a cls d a_BadNumber "what" (wVar 1)) (wCons (wCB (gOne gRepr) (wCons (wXf a cls d a_BadNumber "number" (wVar 1)) wNil)) wNil)))))⟩ :: (⟨.ref a_BadRow, 1, fun a cls d => (wRet (wTup (wCons (wC (.str "row")) (wCons (wCB (gOne gRepr) (wCons (wXf a cls d a_BadRow "row" (wVar 1)) wNil)) wNil))))⟩ :: (⟨.ref a_TooMany, 1, fun a cls d => (wRet (wTup (wCons (wC (.str "many")) (wCons (wXf a cls d a_TooMany "what" (wVar 1)) (wCons (wXf a cls d a_TooMany "limit" (wVar 1)) wNil)))))⟩ :: (⟨.ref a_Unlike, 1, fun a cls d => (wRet (wTup (wCons (wC (.str "unlike")) (wCons (wXf a cls d a_Unlike "what" (wVar 1)) wNil))))⟩ :: (⟨.ref a_TooWide, 1, fun a cls d => (wRet (wTup (wCons (wC (.str "wide")) wNil)))⟩ :: (⟨.ref a_Pole, 1, fun a cls d => (wRet (wTup (wCons (wC (.str "pole")) wNil)))⟩ :: []))))))))
def w__law_why_1 (K : PySem.W.Frag) (a_BadNumber a_BadRow a_BadText a_Pole a_TooMany a_TooWide a_Unlike : Addr) (wl : DW) : DS := (wRet (wC .non))
def w__law_why (K : PySem.W.Frag) (a_BadNumber a_BadRow a_BadText a_Pole a_TooMany a_TooWide a_Unlike : Addr) (wl : DW) : DS := (wSeq (w__law_why_0 K a_BadNumber a_BadRow a_BadText a_Pole a_TooMany a_TooWide a_Unlike wl) (w__law_why_1 K a_BadNumber a_BadRow a_BadText a_Pole a_TooMany a_TooWide a_Unlike wl))
def w__law_some_ratio_0 (K : PySem.W.Frag) (s__law_far s__law_q : DF) : DS := (wRet (wCall s__law_q (wCons (wCall s__law_far (wCons (wVar 0) wNil)) (wCons (wBin gAdd (wC (.int 1)) (wCB gAbs (wCons (wCall s__law_far (wCons (wVar 0) wNil)) wNil))) wNil))))
def w__law_some_ratio (K : PySem.W.Frag) (s__law_far s__law_q : DF) : DS := (w__law_some_ratio_0 K s__law_far s__law_q)
/-! ### _law_why -/
theorem gRepr_imp {x : D} {μ : M} {Q Q' : DK} (h : gRepr x μ Q) (k : ∀ d μ', Q d μ' → Q' d μ') : gRepr x μ Q' := by
  obtain ⟨p, h1, h2, h3, h4, h5, q⟩ := h
  exact ⟨p, h1, h2, h3, h4, h5, k _ _ q⟩
def whyE (N R T : Addr) (Q : DK) : FK := fun er μ =>
  (∃ what num, er = ⟨.ref N, [("number", num), ("what", what)]⟩ ∧ gRepr num μ fun s μ1 => Q (.tup [.str "number", what, s]) μ1) ∨
  (∃ row, er = ⟨.ref R, [("row", row)]⟩ ∧ gRepr row μ fun s μ1 => Q (.tup [.str "row", s]) μ1) ∨
  ∃ col, er = ⟨.ref T, [("column", col)]⟩ ∧ Q (.tup [.str "text", col]) μ
def t__law_why (N R T : Addr) : (M → DK → FK → Prop) → M → DK → Prop := fun wl μ Q => ∀ F : FK, (∀ er μ', whyE N R T Q er μ' → F er μ') → wl μ (fun _ μ' => Q .non μ') F
theorem p__law_why (K : PySem.W.Frag) (N R T P M' W U : Addr) (h1 : PySem.W.exmOne K (.ref N) (.ref T) = some false) (h2 : PySem.W.exmOne K (.ref N) (.ref N) = some true)
    (h3 : PySem.W.exmOne K (.ref R) (.ref T) = some false) (h4 : PySem.W.exmOne K (.ref R) (.ref N) = some false) (h5 : PySem.W.exmOne K (.ref R) (.ref R) = some true) (h6 : PySem.W.exmOne K (.ref T) (.ref T) = some true) :
    ∀ (wl : M → DK → FK → Prop) (μ : M) (Q : DK), t__law_why N R T wl μ Q → ∀ (f : Addr) (G0 : Hp), w__law_why K N R T P M' W U (wLam f G0 wl) { nx := fun _ μ' => Q .non μ', rt := Q } (fun _ _ => False) (dstart ["_law_call", "e"] [.lam f G0]) μ := by
  intro wl μ Q h f G0
  simp only [w__law_why, w__law_why_0, w__law_why_1, wRet, wRetN, wSeq, wNext, wIfS, wAsg, wName, wPar, wDrop, wDPut, wFor, wISeq, wIRng1, wIRng2, wVar, wC, wNil, wCons, wBin, wUn, wCB, wTst, wAnd, wOr, DL.wNot, wAndV, wOrV, wNotV, wIf, wTup, wLst, wLstM, wCall, wGTup, wGCons, wGNil, wBrk, wCnt, wRaise, gI, gU, gOne , DL.gSub, gMul, gMod, gDiv, gPow, gLt, gLe, gGt, gGe, gNeg, gAbs, gMax2, gMin2, gInt2, wChain, wPar3, wSl, wNoPart, wPart, wIEnumA, wIZipA, wIRng3, wLc, wLcM, wYes, wFld, wAug, wApp, wPop, wRev, wSubG, wMet, wBinO, wUnO, dstart, List.map_cons, List.map_nil, List.length_cons, List.length_nil, List.replicate, List.cons_append, List.nil_append, List.append_nil, List.getElem?_cons_zero, List.getElem?_cons_succ, List.set_cons_zero, List.set_cons_succ, Option.some.injEq, exists_eq_left', exists_eq_left, D.int.injEq, D.bl.injEq, D.str.injEq, D.tup.injEq, D.lst.injEq, D.obj.injEq, List.cons.injEq, and_true, true_and, Nat.zero_add, Nat.reduceAdd, Nat.reduceSub, decide_eq_true_eq, Bool.not_eq_true', decide_eq_false_iff_not, exists_and_left, exists_and_right, and_assoc, Bool.true_eq_false, Bool.false_eq_true, if_true, if_false, ne_eq, wTryE, wLam, wClD]
  refine h _ fun er μ1 hw => ?_
  rcases hw with ⟨what, num, rfl, q⟩ | ⟨row, rfl, q⟩ | ⟨col, rfl, q⟩
  · refine ⟨false, h1, ?_⟩
    rw [if_neg (by decide)]
    refine ⟨true, h2, ?_⟩
    rw [if_pos rfl]
    intro a dd _
    simp only [wXf, wRet, wRetN, wSeq, wNext, wIfS, wAsg, wName, wPar, wDrop, wDPut, wFor, wISeq, wIRng1, wIRng2, wVar, wC, wNil, wCons, wBin, wUn, wCB, wTst, wAnd, wOr, DL.wNot, wAndV, wOrV, wNotV, wIf, wTup, wLst, wLstM, wCall, wGTup, wGCons, wGNil, wBrk, wCnt, wRaise, gI, gU, gOne , DL.gSub, gMul, gMod, gDiv, gPow, gLt, gLe, gGt, gGe, gNeg, gAbs, gMax2, gMin2, gInt2, wChain, wPar3, wSl, wNoPart, wPart, wIEnumA, wIZipA, wIRng3, wLc, wLcM, wYes, wFld, wAug, wApp, wPop, wRev, wSubG, wMet, wBinO, wUnO, dstart, List.map_cons, List.map_nil, List.length_cons, List.length_nil, List.replicate, List.cons_append, List.nil_append, List.append_nil, List.getElem?_cons_zero, List.getElem?_cons_succ, List.set_cons_zero, List.set_cons_succ, Option.some.injEq, exists_eq_left', exists_eq_left, D.int.injEq, D.bl.injEq, D.str.injEq, D.tup.injEq, D.lst.injEq, D.obj.injEq, List.cons.injEq, and_true, true_and, Nat.zero_add, Nat.reduceAdd, Nat.reduceSub, decide_eq_true_eq, Bool.not_eq_true', decide_eq_false_iff_not, exists_and_left, exists_and_right, and_assoc, Bool.true_eq_false, Bool.false_eq_true, if_true, if_false, ne_eq]
    exact ⟨_, rfl, what, rfl, _, rfl, num, rfl, gRepr_imp q fun s μ2 z => ⟨by decide, z⟩⟩
  · refine ⟨false, h3, ?_⟩
    rw [if_neg (by decide)]
    refine ⟨false, h4, ?_⟩
    rw [if_neg (by decide)]
    refine ⟨true, h5, ?_⟩
    rw [if_pos rfl]
    intro a dd _
    simp only [wXf, wRet, wRetN, wSeq, wNext, wIfS, wAsg, wName, wPar, wDrop, wDPut, wFor, wISeq, wIRng1, wIRng2, wVar, wC, wNil, wCons, wBin, wUn, wCB, wTst, wAnd, wOr, DL.wNot, wAndV, wOrV, wNotV, wIf, wTup, wLst, wLstM, wCall, wGTup, wGCons, wGNil, wBrk, wCnt, wRaise, gI, gU, gOne , DL.gSub, gMul, gMod, gDiv, gPow, gLt, gLe, gGt, gGe, gNeg, gAbs, gMax2, gMin2, gInt2, wChain, wPar3, wSl, wNoPart, wPart, wIEnumA, wIZipA, wIRng3, wLc, wLcM, wYes, wFld, wAug, wApp, wPop, wRev, wSubG, wMet, wBinO, wUnO, dstart, List.map_cons, List.map_nil, List.length_cons, List.length_nil, List.replicate, List.cons_append, List.nil_append, List.append_nil, List.getElem?_cons_zero, List.getElem?_cons_succ, List.set_cons_zero, List.set_cons_succ, Option.some.injEq, exists_eq_left', exists_eq_left, D.int.injEq, D.bl.injEq, D.str.injEq, D.tup.injEq, D.lst.injEq, D.obj.injEq, List.cons.injEq, and_true, true_and, Nat.zero_add, Nat.reduceAdd, Nat.reduceSub, decide_eq_true_eq, Bool.not_eq_true', decide_eq_false_iff_not, exists_and_left, exists_and_right, and_assoc, Bool.true_eq_false, Bool.false_eq_true, if_true, if_false, ne_eq]
    exact ⟨_, rfl, row, rfl, gRepr_imp q fun s μ2 z => ⟨by decide, z⟩⟩
  · refine ⟨true, h6, ?_⟩
    rw [if_pos rfl]
    intro a dd _
    simp only [wXf, wRet, wRetN, wSeq, wNext, wIfS, wAsg, wName, wPar, wDrop, wDPut, wFor, wISeq, wIRng1, wIRng2, wVar, wC, wNil, wCons, wBin, wUn, wCB, wTst, wAnd, wOr, DL.wNot, wAndV, wOrV, wNotV, wIf, wTup, wLst, wLstM, wCall, wGTup, wGCons, wGNil, wBrk, wCnt, wRaise, gI, gU, gOne , DL.gSub, gMul, gMod, gDiv, gPow, gLt, gLe, gGt, gGe, gNeg, gAbs, gMax2, gMin2, gInt2, wChain, wPar3, wSl, wNoPart, wPart, wIEnumA, wIZipA, wIRng3, wLc, wLcM, wYes, wFld, wAug, wApp, wPop, wRev, wSubG, wMet, wBinO, wUnO, dstart, List.map_cons, List.map_nil, List.length_cons, List.length_nil, List.replicate, List.cons_append, List.nil_append, List.append_nil, List.getElem?_cons_zero, List.getElem?_cons_succ, List.set_cons_zero, List.set_cons_succ, Option.some.injEq, exists_eq_left', exists_eq_left, D.int.injEq, D.bl.injEq, D.str.injEq, D.tup.injEq, D.lst.injEq, D.obj.injEq, List.cons.injEq, and_true, true_and, Nat.zero_add, Nat.reduceAdd, Nat.reduceSub, decide_eq_true_eq, Bool.not_eq_true', decide_eq_false_iff_not, exists_and_left, exists_and_right, and_assoc, Bool.true_eq_false, Bool.false_eq_true, if_true, if_false, ne_eq]
    exact ⟨_, rfl, col, rfl, by decide, q⟩
/-- the row that _law_why tells is the row that is due -/
theorem why_num {w2 : Str} {x : D} {μ : M} {Q : DK} (sx : showV x) (o2 : okT w2) (q : Q (.bl false) μ) :
    gRepr x μ fun s μ1 => gRepr x μ1 fun d μ2 => 3 ≤ 1000000 ∧ gEq true (.tup [.str "number", .str w2, s]) (.tup [.str "number", .str w2, d]) μ2 Q := by
  refine sx.repr (sx.repr ⟨by decide, ?_⟩)
  have hp : plD (.tup [.str "number", .str w2, .str (shw x)]) = true := by
    have h1 : plD (.str w2) = true := okT_strOk o2
    have h2 := sx.pl
    have h0 : plD (.str "number") = true := by decide +kernel
    simp only [plD, plA, Bool.and_true, Bool.and_eq_true] at h1 h2 h0 ⊢
    exact ⟨h0, h1, h2⟩
  exact eq_pl hp hp (fun _ => q) (fun h => absurd rfl h) (by simp [dpD, dpA]) (by simp [dpD, dpA])
theorem why_row {x : D} {μ : M} {Q : DK} (sx : showV x) (q : Q (.bl false) μ) :
    gRepr x μ fun s μ1 => gRepr x μ1 fun d μ2 => 2 ≤ 1000000 ∧ gEq true (.tup [.str "row", s]) (.tup [.str "row", d]) μ2 Q := by
  refine sx.repr (sx.repr ⟨by decide, ?_⟩)
  have hp : plD (.tup [.str "row", .str (shw x)]) = true := by
    have h2 := sx.pl
    have h0 : plD (.str "row") = true := by decide +kernel
    simp only [plD, plA, Bool.and_true, Bool.and_eq_true] at h2 h0 ⊢
    exact ⟨h0, h2⟩
  exact eq_pl hp hp (fun _ => q) (fun h => absurd rfl h) (by simp [dpD, dpA]) (by simp [dpD, dpA])
/-! ### _law_any -/
def oddL : List D := [.non, .bl true, .str "1", .tup [.int 1, .int 0], .tup [.int 1, .int (-2)], .tup [.int 1, .bl true], .lst [.int 1], .tup [.int 1, .int 2, .int 3], .dct [(.inr "a", .int 1)], .tup [.str "1", .int 2], .tup [.non, .int 1], .tup [.bl true, .int 2],
  .lst [.int 2, .bl false], .tup [.tup [.int 1, .int 2], .int 3], .tup []]
def s__law_any : DF := fun ds μ Q _ => ∃ p m, ds = [.obj p] ∧ Pen p μ m ∧ m ≤ 1000000 ∧ ∀ v ∈ oddL, ∀ μ', Only p μ μ' → Pen p μ' (m + 1) → Q v μ'
theorem p__law_any (K : PySem.W.Frag) : ∀ ds μ Q F, s__law_any ds μ Q F → ds.length = 1 ∧ w__law_any K s__law_pick { nx := fun _ μ' => Q .non μ', rt := Q } F (dstart ["_law_pen_here", "_law_some"] ds) μ := by
  rintro _ μ Q F ⟨p, m, rfl, pen, hm, q⟩
  refine ⟨rfl, ?_⟩
  simp only [w__law_any, w__law_any_0, w__law_any_1, wRet, wRetN, wSeq, wNext, wIfS, wAsg, wName, wPar, wDrop, wDPut, wFor, wISeq, wIRng1, wIRng2, wVar, wC, wNil, wCons, wBin, wUn, wCB, wTst, wAnd, wOr, DL.wNot, wAndV, wOrV, wNotV, wIf, wTup, wLst, wLstM, wCall, wGTup, wGCons, wGNil, wBrk, wCnt, wRaise, gI, gU, gOne , DL.gSub, gMul, gMod, gDiv, gPow, gLt, gLe, gGt, gGe, gNeg, gAbs, gMax2, gMin2, gInt2, wChain, wPar3, wSl, wNoPart, wPart, wIEnumA, wIZipA, wIRng3, wLc, wLcM, wYes, wFld, wAug, wApp, wPop, wRev, wSubG, wMet, wBinO, wUnO, dstart, List.map_cons, List.map_nil, List.length_cons, List.length_nil, List.replicate, List.cons_append, List.nil_append, List.append_nil, List.getElem?_cons_zero, List.getElem?_cons_succ, List.set_cons_zero, List.set_cons_succ, Option.some.injEq, exists_eq_left', exists_eq_left, D.int.injEq, D.bl.injEq, D.str.injEq, D.tup.injEq, D.lst.injEq, D.obj.injEq, List.cons.injEq, and_true, true_and, Nat.zero_add, Nat.reduceAdd, Nat.reduceSub, decide_eq_true_eq, Bool.not_eq_true', decide_eq_false_iff_not, exists_and_left, exists_and_right, and_assoc, Bool.true_eq_false, Bool.false_eq_true, if_true, if_false, ne_eq, wDct, wPairs, gAdd_lst]
  refine ⟨by decide, by decide, by decide, by decide, by decide, fun b hb => ⟨mput_same, by decide, _, rfl, by decide, by decide, by decide, by decide, by decide, by decide, by decide, by decide, by decide, by decide, ?_⟩⟩
  rw [mdel_put' hb]
  exact ⟨p, oddL, m, .inl rfl, by decide, by decide, pen, hm, q⟩
theorem odd_ok {v : D} (h : v ∈ oddL) : (∀ μ, view μ v = v) ∧ okD v ∧ ratV v = none ∧ showV v := by
  simp only [oddL, List.mem_cons, List.not_mem_nil, or_false] at h
  rcases h with rfl | rfl | rfl | rfl | rfl | rfl | rfl | rfl | rfl | rfl | rfl | rfl | rfl | rfl | rfl
  all_goals refine ⟨fun _ => rfl, ?_, rfl, ?_⟩
  all_goals first
    | exact ⟨_, rfl, by decide +kernel, by decide +kernel, by decide +kernel, by decide +kernel⟩
    | rfl
    | (refine ⟨rfl, rfl, ?_⟩; rintro e he; cases he; decide +kernel)
    | (refine ⟨rfl, rfl, ?_⟩; rintro e he; cases he)
/-! ### _law_some_ratio -/
/-- of up to eighteen figures above and below -/
def So (q : Rat) : Prop := q.num.natAbs ≤ 10 ^ 18 ∧ q.den ≤ 10 ^ 18
theorem num_le_of {t b : Int} (hb : 0 < b) : (Rat.divInt t b).num.natAbs ≤ t.natAbs ∧ (Rat.divInt t b).den ≤ b.natAbs := by
  have hp : (0 : Rat) < (b : Rat) := by exact_mod_cast hb
  have e : Rat.divInt t b * ((b.natAbs : Nat) : Rat) = (t : Rat) := by
    have e : ((b.natAbs : Nat) : Rat) = (b : Rat) := by
      have : ((b.natAbs : Nat) : Int) = b := by omega
      exact_mod_cast congrArg (fun i : Int => (i : Rat)) this
    rw [e, Rat.divInt_eq_div]
    grind
  have hd : (Rat.divInt t b).den ∣ b.natAbs := den_dvd.mpr ⟨t, e⟩
  generalize Rat.divInt t b = q at *
  refine ⟨?_, Nat.le_of_dvd (by omega) hd⟩
  obtain ⟨k, hk⟩ := hd
  have e2 := q_den_mul q
  have e3 : q.num * (k : Int) = t := by
    have : ((q.num * (k : Int) : Int) : Rat) = (t : Rat) := by
      rw [← e, hk]
      push_cast
      rw [← e2]
      grind
    exact_mod_cast this
  have hk0 : 0 < k := Nat.pos_of_ne_zero fun z => by
    rw [z, Nat.mul_zero] at hk
    omega
  rw [← e3, Int.natAbs_mul, Int.natAbs_natCast]
  exact Nat.le_mul_of_pos_right _ hk0
def s__law_some_ratio : DF := fun ds μ Q _ => ∃ p m, ds = [.obj p] ∧ Pen p μ m ∧ m + 20 ≤ 1000000 ∧ ∀ q μ', So q → Only p μ μ' → Pen p μ' (m + 20) → Q (qd q) μ'
theorem p__law_some_ratio (K : PySem.W.Frag) : ∀ ds μ Q F, s__law_some_ratio ds μ Q F → ds.length = 1 ∧ w__law_some_ratio K s__law_far s__law_q { nx := fun _ μ' => Q .non μ', rt := Q } F (dstart ["_law_pen_here"] ds) μ := by
  rintro _ μ Q F ⟨p, m, rfl, pen, hm, q⟩
  refine ⟨rfl, ?_⟩
  simp only [w__law_some_ratio, w__law_some_ratio_0, wRet, wRetN, wSeq, wNext, wIfS, wAsg, wName, wPar, wDrop, wDPut, wFor, wISeq, wIRng1, wIRng2, wVar, wC, wNil, wCons, wBin, wUn, wCB, wTst, wAnd, wOr, DL.wNot, wAndV, wOrV, wNotV, wIf, wTup, wLst, wLstM, wCall, wGTup, wGCons, wGNil, wBrk, wCnt, wRaise, gI, gU, gOne , DL.gSub, gMul, gMod, gDiv, gPow, gLt, gLe, gGt, gGe, gNeg, gAbs, gMax2, gMin2, gInt2, wChain, wPar3, wSl, wNoPart, wPart, wIEnumA, wIZipA, wIRng3, wLc, wLcM, wYes, wFld, wAug, wApp, wPop, wRev, wSubG, wMet, wBinO, wUnO, dstart, List.map_cons, List.map_nil, List.length_cons, List.length_nil, List.replicate, List.cons_append, List.nil_append, List.append_nil, List.getElem?_cons_zero, List.getElem?_cons_succ, List.set_cons_zero, List.set_cons_succ, Option.some.injEq, exists_eq_left', exists_eq_left, D.int.injEq, D.bl.injEq, D.str.injEq, D.tup.injEq, D.lst.injEq, D.obj.injEq, List.cons.injEq, and_true, true_and, Nat.zero_add, Nat.reduceAdd, Nat.reduceSub, decide_eq_true_eq, Bool.not_eq_true', decide_eq_false_iff_not, exists_and_left, exists_and_right, and_assoc, Bool.true_eq_false, Bool.false_eq_true, if_true, if_false, ne_eq]
  refine ⟨p, m, rfl, pen, by omega, fun a μ1 ha o1 pen1 => ⟨p, _, rfl, pen1, by omega, fun b μ2 hb o2 pen2 => ⟨b, rfl, ?_⟩⟩⟩
  rw [gAdd_int]
  have e : (if b < 0 then -b else b) = (b.natAbs : Int) := by split <;> omega
  rw [e]
  have hb0 : (1 + (b.natAbs : Int)) ≠ 0 := by omega
  have hn := num_le_of (t := a) (b := 1 + (b.natAbs : Int)) (by omega)
  have t1 : a.natAbs < 2 ^ 24998 := Nat.lt_trans ha (by decide +kernel)
  have t2 : (1 + (b.natAbs : Int)).natAbs < 2 ^ 24998 := Nat.lt_of_le_of_lt (show _ ≤ 10 ^ 18 by omega) (by decide +kernel)
  exact ⟨a, _, rfl, hb0, t1, t2, q _ μ2 ⟨Nat.le_trans hn.1 (by omega), Nat.le_trans hn.2 (by omega)⟩ (o1.trans o2) (pen2.mono (by omega))⟩
/-! ### the law's lap -/
/-- behind a draw -/
structure Go (T : List (Addr × Str)) (p : Addr) (μ : M) (m : Nat) : Prop where
  pen : Pen p μ m
  tab : TabM T μ
theorem Go.go {T : List (Addr × Str)} {p : Addr} {μ μ' : M} {m m' : Nat} (h : Go T p μ m) (o : Only p μ μ') (pn : Pen p μ' m') : Go T p μ' m' := ⟨pn, Pen.tab h.tab o h.pen pn⟩
theorem go_start {T : List (Addr × Str)} {p : Addr} {μ μ1 : M} {m : Nat} (tT : TabM T μ) (hp : μ p = none) (u1 : Only p μ μ1) (pen1 : Pen p μ1 m) : Go T p μ1 m := by
  refine ⟨pen1, ?_⟩
  obtain ⟨cs, a, d, n, f, h0, _⟩ := pen1
  intro x y
  by_cases e : x = p
  · subst e
    rw [h0]
    refine ⟨(by intro z; cases z), fun z => ?_⟩
    have := (tT x y).mpr z
    rw [hp] at this
    cases this
  · rw [u1 x e]
    exact tT x y
/-- the law's promise -/
def s_law (T : List (Addr × Str)) : DF := fun ds μ Q _ => ∃ ns : List Int, ds = [.ro (ns.map .int)] ∧ ns.length ≤ 63 ∧ TabM T μ ∧ ∀ μ', Q (.bl true) μ'
theorem law_due {T : List (Addr × Str)} (μ : M) (ns : List Int) (h : ns.length ≤ 63) (_ : ∀ z ∈ ns, Builtin.Int.intBits z ≤ 1048576) (t : TabM T μ) : s_law T [.ro (ns.map D.int)] μ (fun d _ => d = .bl true) fun _ _ => False := ⟨ns, rfl, h, t, fun _ => rfl⟩
end NC

set_option maxHeartbeats 2000000
namespace NC
open PySem PySem.Spec PyProof.Rows L2 DL LL PL
theorem gTup_ld {p : List Rat} {μ : M} {Q : DK} (q : Q (td p) μ) : gTuple (ld p) μ Q := .inl ⟨_, .inl rfl, q⟩
theorem eqt {p : List Rat} {μ : M} {Q : DK} (q : Q (.bl false) μ) : gEq true (td p) (td p) μ Q := eq_pl pl_td pl_td (fun _ => q) (fun h => absurd rfl h) dp_td dp_td
theorem ne_txt {x : D} {μ : M} {Q : DK} (sx : showV x) (q : Q (.bl false) μ) : gEq true (.str (shw x)) (.str (shw x)) μ Q := eq_pl sx.pl sx.pl (fun _ => q) (fun h => absurd rfl h) (by simp [dpD]) (by simp [dpD])
theorem eqO_sat {C : Addr} {p r : List Rat} {μ : M} {Q : DK} {F : FK} (e : p = r) (q : Q (.bl true) μ) : gOwnEq C (s_Poly___eq__ C) (po C p) (po C r) μ Q F := by
  subst e
  exact eqO_pp.mpr ⟨p, _, rfl, .inl ⟨p, rfl, by rw [decide_eq_true rfl]; exact q⟩⟩
theorem eqO_dec {C : Addr} {p r : List Rat} {μ : M} {Q : DK} {F : FK} (q : Q (.bl (decide (p = r))) μ) : gOwnEq C (s_Poly___eq__ C) (po C p) (po C r) μ Q F := eqO_pp.mpr ⟨p, _, rfl, .inl ⟨r, rfl, q⟩⟩
theorem pass_told {q : Rat} {v : D} {μ : M} (h : pass q v) (hz : Sz q) : okD (view μ v) ∧ ratV (view μ v) = some q := by
  obtain ⟨a1, a2, a3, _⟩ := pass_ok (μ := μ) h hz
  rw [a1]
  exact ⟨a2, a3⟩
theorem odd_told {v : D} {μ : M} (h : v ∈ oddL) : okD (view μ v) ∧ ratV (view μ v) = none := by
  obtain ⟨a, b, c, _⟩ := odd_ok h
  rw [a]
  exact ⟨b, c⟩
theorem pair_of {p r : List Rat} {N V M W : Nat} (l1 : p.length ≤ 400) (l2 : r.length ≤ 400) (h1 : 0 < N) (h2 : 0 < M) (h3 : PB N V p) (h4 : PB M W r) (h5 : N * M * (400 * (V + 1) * (W + 1)) < 2 ^ 6000) : Pair p r := ⟨l1, l2, N, V, M, W, h1, h2, h3, h4, h5⟩
theorem pb_sr {N V : Nat} {p : List Rat} (h : PB N V p) (hN : 0 < N) (h1 : N < 10 ^ 250) (h2 : V < 10 ^ 250) : ∀ c ∈ p, Sr c := fun c hc => NC.Bd.sr (h c hc) hN h1 h2
theorem pb_sz {N V : Nat} {p : List Rat} (h : PB N V p) (hN : 0 < N) (h1 : N < 2 ^ 6000) (h2 : V < 2 ^ 6000) : ∀ c ∈ p, Sz c := fun c hc => (h c hc).sz hN h1 h2
theorem dr_sz {most : Nat} {c : Rat} (h : Dr most c) (hm : most < 2 ^ 6000 := by decide) : Sz c := h.bn.sz (by decide) (by decide +kernel) hm
theorem dr_pb {most : Nat} {rs : List Rat} (h : ∀ c ∈ rs, Dr most c) : PB N99 most (trim rs) := PB.trim fun c hc => (h c hc).bn
end NC

set_option maxHeartbeats 2000000
namespace NC
open PySem PySem.Spec PyProof.Rows L2 DL LL PL
def w_law_0 (K : PySem.W.Frag) (a_Poly : Addr) (s__law_pen s__law_draw s__law_some_ratio s__law_ratio s__law_pick s__law_passed s__law_poly s_Poly s_Poly___eq__ s_Poly_degree s_Poly_lead s__law_any : DF) (T : List (Addr × Str)) (t__law_why : (M → DK → FK → Prop) → M → DK → Prop) : DS := (wAsg (wCall s__law_pen (wCons (wVar 0) wNil)) (wName 1))
def w_law_1_0 (K : PySem.W.Frag) (a_Poly : Addr) (s__law_pen s__law_draw s__law_some_ratio s__law_ratio s__law_pick s__law_passed s__law_poly s_Poly s_Poly___eq__ s_Poly_degree s_Poly_lead s__law_any : DF) (T : List (Addr × Str)) (t__law_why : (M → DK → FK → Prop) → M → DK → Prop) : DS := (wAsg (wLstM wNil) (wName 3))
def w_law_1_1_0 (K : PySem.W.Frag) (a_Poly : Addr) (s__law_pen s__law_draw s__law_some_ratio s__law_ratio s__law_pick s__law_passed s__law_poly s_Poly s_Poly___eq__ s_Poly_degree s_Poly_lead s__law_any : DF) (T : List (Addr × Str)) (t__law_why : (M → DK → FK → Prop) → M → DK → Prop) : DS := (wDrop (wApp (wVar 3) (wCall s__law_pick (wCons (wVar 1) (wCons (wLst (wCons (wTup (wCons (wC (.int 0)) (wCons (wC (.int 1)) wNil))) (wCons (wCall s__law_ratio (wCons (wVar 1) (wCons (wC (.int 9)) wNil))) (wCons (wCall s__law_some_ratio (wCons (wVar 1) wNil)) wNil)))) wNil)))))
def w_law_1_1 (K : PySem.W.Frag) (a_Poly : Addr) (s__law_pen s__law_draw s__law_some_ratio s__law_ratio s__law_pick s__law_passed s__law_poly s_Poly s_Poly___eq__ s_Poly_degree s_Poly_lead s__law_any : DF) (T : List (Addr × Str)) (t__law_why : (M → DK → FK → Prop) → M → DK → Prop) : DS := (wFor (wIRng1 (wCons (wCall s__law_draw (wCons (wVar 1) (wCons (wC (.int 14)) wNil))) wNil)) (wName 4) (w_law_1_1_0 K a_Poly s__law_pen s__law_draw s__law_some_ratio s__law_ratio s__law_pick s__law_passed s__law_poly s_Poly s_Poly___eq__ s_Poly_degree s_Poly_lead s__law_any T t__law_why))
def w_law_1_2 (K : PySem.W.Frag) (a_Poly : Addr) (s__law_pen s__law_draw s__law_some_ratio s__law_ratio s__law_pick s__law_passed s__law_poly s_Poly s_Poly___eq__ s_Poly_degree s_Poly_lead s__law_any : DF) (T : List (Addr × Str)) (t__law_why : (M → DK → FK → Prop) → M → DK → Prop) : DS := (wAsg (wBin gAdd (wVar 3) (wBin gRep (wLst (wCons (wTup (wCons (wC (.int 0)) (wCons (wC (.int 1)) wNil))) wNil)) (wCall s__law_draw (wCons (wVar 1) (wCons (wC (.int 3)) wNil))))) (wName 3))
def w_law_1_3 (K : PySem.W.Frag) (a_Poly : Addr) (s__law_pen s__law_draw s__law_some_ratio s__law_ratio s__law_pick s__law_passed s__law_poly s_Poly s_Poly___eq__ s_Poly_degree s_Poly_lead s__law_any : DF) (T : List (Addr × Str)) (t__law_why : (M → DK → FK → Prop) → M → DK → Prop) : DS := (wAsg (wLcM (wISeq (wSl (wVar 3) wNoPart (wPart (wC (.int 13))))) (wName 6) wYes (wCall s__law_passed (wCons (wVar 1) (wCons (wVar 6) wNil))) [6]) (wName 5))
def w_law_1_4 (K : PySem.W.Frag) (a_Poly : Addr) (s__law_pen s__law_draw s__law_some_ratio s__law_ratio s__law_pick s__law_passed s__law_poly s_Poly s_Poly___eq__ s_Poly_degree s_Poly_lead s__law_any : DF) (T : List (Addr × Str)) (t__law_why : (M → DK → FK → Prop) → M → DK → Prop) : DS := (wAsg (wCB (gOne gTuple) (wCons (wCall s__law_poly (wCons (wSl (wVar 3) wNoPart (wPart (wC (.int 13)))) wNil)) wNil)) (wName 7))
def w_law_1_5 (K : PySem.W.Frag) (a_Poly : Addr) (s__law_pen s__law_draw s__law_some_ratio s__law_ratio s__law_pick s__law_passed s__law_poly s_Poly s_Poly___eq__ s_Poly_degree s_Poly_lead s__law_any : DF) (T : List (Addr × Str)) (t__law_why : (M → DK → FK → Prop) → M → DK → Prop) : DS := (wAsg (wCall s_Poly (wCons (wCall s__law_pick (wCons (wVar 1) (wCons (wLst (wCons (wVar 5) (wCons (wCB (gOne gTuple) (wCons (wVar 5) wNil)) wNil))) wNil))) wNil)) (wName 8))
def w_law_1_6 (K : PySem.W.Frag) (a_Poly : Addr) (s__law_pen s__law_draw s__law_some_ratio s__law_ratio s__law_pick s__law_passed s__law_poly s_Poly s_Poly___eq__ s_Poly_degree s_Poly_lead s__law_any : DF) (T : List (Addr × Str)) (t__law_why : (M → DK → FK → Prop) → M → DK → Prop) : DS := (wAsg (wLcM (wISeq (wSl (wVar 3) wNoPart (wPart (wC (.int 13))))) (wName 6) wYes (wCB (gOne gListM) (wCons (wVar 6) wNil)) [6]) (wName 9))
def w_law_1_7 (K : PySem.W.Frag) (a_Poly : Addr) (s__law_pen s__law_draw s__law_some_ratio s__law_ratio s__law_pick s__law_passed s__law_poly s_Poly s_Poly___eq__ s_Poly_degree s_Poly_lead s__law_any : DF) (T : List (Addr × Str)) (t__law_why : (M → DK → FK → Prop) → M → DK → Prop) : DS := (wAsg (wCall s_Poly (wCons (wVar 9) wNil)) (wName 10))
def w_law_1_8_0 (K : PySem.W.Frag) (a_Poly : Addr) (s__law_pen s__law_draw s__law_some_ratio s__law_ratio s__law_pick s__law_passed s__law_poly s_Poly s_Poly___eq__ s_Poly_degree s_Poly_lead s__law_any : DF) (T : List (Addr × Str)) (t__law_why : (M → DK → FK → Prop) → M → DK → Prop) : DS := (wAsg (wBin gAdd (wBin gIx (wVar 6) (wC (.int 0))) (wC (.int 1))) (wSubG (wVar 6) (wC (.int 0))))
def w_law_1_8 (K : PySem.W.Frag) (a_Poly : Addr) (s__law_pen s__law_draw s__law_some_ratio s__law_ratio s__law_pick s__law_passed s__law_poly s_Poly s_Poly___eq__ s_Poly_degree s_Poly_lead s__law_any : DF) (T : List (Addr × Str)) (t__law_why : (M → DK → FK → Prop) → M → DK → Prop) : DS := (wFor (wISeq (wVar 9)) (wName 6) (w_law_1_8_0 K a_Poly s__law_pen s__law_draw s__law_some_ratio s__law_ratio s__law_pick s__law_passed s__law_poly s_Poly s_Poly___eq__ s_Poly_degree s_Poly_lead s__law_any T t__law_why))
def w_law_1_9 (K : PySem.W.Frag) (a_Poly : Addr) (s__law_pen s__law_draw s__law_some_ratio s__law_ratio s__law_pick s__law_passed s__law_poly s_Poly s_Poly___eq__ s_Poly_degree s_Poly_lead s__law_any : DF) (T : List (Addr × Str)) (t__law_why : (M → DK → FK → Prop) → M → DK → Prop) : DS := (wDrop (wApp (wVar 9) (wTup (wCons (wC (.int 5)) (wCons (wC (.int 1)) wNil)))))
def w_law_1_10 (K : PySem.W.Frag) (a_Poly : Addr) (s__law_pen s__law_draw s__law_some_ratio s__law_ratio s__law_pick s__law_passed s__law_poly s_Poly s_Poly___eq__ s_Poly_degree s_Poly_lead s__law_any : DF) (T : List (Addr × Str)) (t__law_why : (M → DK → FK → Prop) → M → DK → Prop) : DS := (wIfS (wOr (wTst (wBin (gEq true) (wCB (gOne gRepr) (wCons (wFld [a_Poly] "numbers" (wVar 8)) wNil)) (wCB (gOne gRepr) (wCons (wVar 7) wNil)))) (wOr (wTst (wBin (gEq true) (wCB (gOne gRepr) (wCons (wFld [a_Poly] "numbers" (wVar 10)) wNil)) (wCB (gOne gRepr) (wCons (wVar 7) wNil)))) (wNot (wTst (wBinO (gEq false) (gOwnEq a_Poly s_Poly___eq__) (wVar 8) (wVar 10)))))) (wRet (wC (.bl false))) wNext)
def w_law_1_11 (K : PySem.W.Frag) (a_Poly : Addr) (s__law_pen s__law_draw s__law_some_ratio s__law_ratio s__law_pick s__law_passed s__law_poly s_Poly s_Poly___eq__ s_Poly_degree s_Poly_lead s__law_any : DF) (T : List (Addr × Str)) (t__law_why : (M → DK → FK → Prop) → M → DK → Prop) : DS := (wIfS (wOr (wTst (wBin (gEq true) (wMet [(a_Poly, s_Poly_degree)] "degree" (wVar 8) wNil) (wBin gSub (wCB (gOne gLen) (wCons (wVar 7) wNil)) (wC (.int 1))))) (wTst (wBin (gEq true) (wCB (gOne gRepr) (wCons (wMet [(a_Poly, s_Poly_lead)] "lead" (wVar 8) wNil) wNil)) (wCB (gOne gRepr) (wCons (wIf (wTst (wBin (gEq true) (wVar 7) (wTup wNil))) (wBin gIx (wVar 7) (wUn gNeg (wC (.int 1)))) (wTup (wCons (wC (.int 0)) (wCons (wC (.int 1)) wNil)))) wNil))))) (wRet (wC (.bl false))) wNext)
def w_law_1_12 (K : PySem.W.Frag) (a_Poly : Addr) (s__law_pen s__law_draw s__law_some_ratio s__law_ratio s__law_pick s__law_passed s__law_poly s_Poly s_Poly___eq__ s_Poly_degree s_Poly_lead s__law_any : DF) (T : List (Addr × Str)) (t__law_why : (M → DK → FK → Prop) → M → DK → Prop) : DS := (wIfS (wOr (wAnd (wTst (wBin gLt (wCB (gOne gLen) (wCons (wVar 7) wNil)) (wC (.int 13)))) (wTst (wBinO (gEq false) (gOwnEq a_Poly s_Poly___eq__) (wVar 8) (wCall s_Poly (wCons (wBin gAdd (wCB (gOne gList) (wCons (wVar 7) wNil)) (wLst (wCons (wC (.int 1)) wNil))) wNil))))) (wOr (wTst (wBinO (gEq false) (gOwnEq a_Poly s_Poly___eq__) (wVar 8) (wVar 7))) (wTst (wBin (gEq true) (wBinO (gEq false) (gOwnEq a_Poly s_Poly___eq__) (wVar 8) (wCall s_Poly (wCons (wTup wNil) wNil))) (wBin (gEq false) (wVar 7) (wTup wNil)))))) (wRet (wC (.bl false))) wNext)
def w_law_1_13 (K : PySem.W.Frag) (a_Poly : Addr) (s__law_pen s__law_draw s__law_some_ratio s__law_ratio s__law_pick s__law_passed s__law_poly s_Poly s_Poly___eq__ s_Poly_degree s_Poly_lead s__law_any : DF) (T : List (Addr × Str)) (t__law_why : (M → DK → FK → Prop) → M → DK → Prop) : DS := (wAsg (wCall s__law_ratio (wCons (wVar 1) (wCons (wC (.int 3)) wNil))) (wName 11))
def w_law_1_14 (K : PySem.W.Frag) (a_Poly : Addr) (s__law_pen s__law_draw s__law_some_ratio s__law_ratio s__law_pick s__law_passed s__law_poly s_Poly s_Poly___eq__ s_Poly_degree s_Poly_lead s__law_any : DF) (T : List (Addr × Str)) (t__law_why : (M → DK → FK → Prop) → M → DK → Prop) : DS := (wIfS (wOr (wTst (wBinO (gEq false) (gOwnEq a_Poly s_Poly___eq__) (wCall s_Poly (wCons (wTup (wCons (wVar 11) wNil)) wNil)) (wVar 11))) (wTst (wBinO (gEq false) (gOwnEq a_Poly s_Poly___eq__) (wCall s_Poly (wCons (wTup (wCons (wBin gIx (wVar 11) (wC (.int 0))) wNil)) wNil)) (wBin gIx (wVar 11) (wC (.int 0)))))) (wRet (wC (.bl false))) wNext)
def w_law_1_15 (K : PySem.W.Frag) (a_Poly : Addr) (s__law_pen s__law_draw s__law_some_ratio s__law_ratio s__law_pick s__law_passed s__law_poly s_Poly s_Poly___eq__ s_Poly_degree s_Poly_lead s__law_any : DF) (T : List (Addr × Str)) (t__law_why : (M → DK → FK → Prop) → M → DK → Prop) : DS := (wAsg (wCall s__law_any (wCons (wVar 1) wNil)) (wName 12))
def w_law_1_16 (K : PySem.W.Frag) (a_Poly : Addr) (s__law_pen s__law_draw s__law_some_ratio s__law_ratio s__law_pick s__law_passed s__law_poly s_Poly s_Poly___eq__ s_Poly_degree s_Poly_lead s__law_any : DF) (T : List (Addr × Str)) (t__law_why : (M → DK → FK → Prop) → M → DK → Prop) : DS := (wIfS (wTst (wBin (gEq true) (wVar 5) (wLst wNil))) (wSeq (wAsg (wVar 12) (wSubG (wVar 5) (wCall s__law_draw (wCons (wVar 1) (wCons (wCB (gOne gLen) (wCons (wVar 5) wNil)) wNil))))) (wSeq (wAsg (wCall s__law_pick (wCons (wVar 1) (wCons (wLst (wCons (wVar 5) (wCons (wCB (gOne gTuple) (wCons (wVar 5) wNil)) wNil))) wNil))) (wName 13)) (wIfS (wTst (wBin (gEq true) (wLamC T t__law_why (wCall s_Poly (wCons (wVar 13) wNil))) (wTup (wCons (wC (.str "row")) (wCons (wCB (gOne gRepr) (wCons (wVar 13) wNil)) wNil))))) (wRet (wC (.bl false))) wNext))) wNext)
def w_law_1_17 (K : PySem.W.Frag) (a_Poly : Addr) (s__law_pen s__law_draw s__law_some_ratio s__law_ratio s__law_pick s__law_passed s__law_poly s_Poly s_Poly___eq__ s_Poly_degree s_Poly_lead s__law_any : DF) (T : List (Addr × Str)) (t__law_why : (M → DK → FK → Prop) → M → DK → Prop) : DS := (wAsg (wCall s__law_pick (wCons (wVar 1) (wCons (wLst (wCons (wC .non) (wCons (wC (.int 5)) (wCons (wC (.str "12")) (wCons (wDct (((wC (.str "a")), (wC (.int 1))) :: [])) (wCons (wC (.bl true)) wNil)))))) wNil))) (wName 14))
def w_law_1_18 (K : PySem.W.Frag) (a_Poly : Addr) (s__law_pen s__law_draw s__law_some_ratio s__law_ratio s__law_pick s__law_passed s__law_poly s_Poly s_Poly___eq__ s_Poly_degree s_Poly_lead s__law_any : DF) (T : List (Addr × Str)) (t__law_why : (M → DK → FK → Prop) → M → DK → Prop) : DS := (wIfS (wTst (wBin (gEq true) (wLamC T t__law_why (wCall s_Poly (wCons (wVar 14) wNil))) (wTup (wCons (wC (.str "row")) (wCons (wCB (gOne gRepr) (wCons (wVar 14) wNil)) wNil))))) (wRet (wC (.bl false))) wNext)
def w_law_1 (K : PySem.W.Frag) (a_Poly : Addr) (s__law_pen s__law_draw s__law_some_ratio s__law_ratio s__law_pick s__law_passed s__law_poly s_Poly s_Poly___eq__ s_Poly_degree s_Poly_lead s__law_any : DF) (T : List (Addr × Str)) (t__law_why : (M → DK → FK → Prop) → M → DK → Prop) : DS := (wFor (wIRng1 (wCons (wC (.int 6)) wNil)) (wName 2) (wSeq (w_law_1_0 K a_Poly s__law_pen s__law_draw s__law_some_ratio s__law_ratio s__law_pick s__law_passed s__law_poly s_Poly s_Poly___eq__ s_Poly_degree s_Poly_lead s__law_any T t__law_why) (wSeq (w_law_1_1 K a_Poly s__law_pen s__law_draw s__law_some_ratio s__law_ratio s__law_pick s__law_passed s__law_poly s_Poly s_Poly___eq__ s_Poly_degree s_Poly_lead s__law_any T t__law_why) (wSeq (w_law_1_2 K a_Poly s__law_pen s__law_draw s__law_some_ratio s__law_ratio s__law_pick s__law_passed s__law_poly s_Poly s_Poly___eq__ s_Poly_degree s_Poly_lead s__law_any T t__law_why) (wSeq (w_law_1_3 K a_Poly s__law_pen s__law_draw s__law_some_ratio s__law_ratio s__law_pick s__law_passed s__law_poly s_Poly s_Poly___eq__ s_Poly_degree s_Poly_lead s__law_any T t__law_why) (wSeq (w_law_1_4 K a_Poly s__law_pen s__law_draw s__law_some_ratio s__law_ratio s__law_pick s__law_passed s__law_poly s_Poly s_Poly___eq__ s_Poly_degree s_Poly_lead s__law_any T t__law_why) (wSeq (w_law_1_5 K a_Poly s__law_pen s__law_draw s__law_some_ratio s__law_ratio s__law_pick s__law_passed s__law_poly s_Poly s_Poly___eq__ s_Poly_degree s_Poly_lead s__law_any T t__law_why) (wSeq (w_law_1_6 K a_Poly s__law_pen s__law_draw s__law_some_ratio s__law_ratio s__law_pick s__law_passed s__law_poly s_Poly s_Poly___eq__ s_Poly_degree s_Poly_lead s__law_any T t__law_why) (wSeq (w_law_1_7 K a_Poly s__law_pen s__law_draw s__law_some_ratio s__law_ratio s__law_pick s__law_passed s__law_poly s_Poly s_Poly___eq__ s_Poly_degree s_Poly_lead s__law_any T t__law_why) (wSeq (w_law_1_8 K a_Poly s__law_pen s__law_draw s__law_some_ratio s__law_ratio s__law_pick s__law_passed s__law_poly s_Poly s_Poly___eq__ s_Poly_degree s_Poly_lead s__law_any T t__law_why) (wSeq (w_law_1_9 K a_Poly s__law_pen s__law_draw s__law_some_ratio s__law_ratio s__law_pick s__law_passed s__law_poly s_Poly s_Poly___eq__ s_Poly_degree s_Poly_lead s__law_any T t__law_why) (wSeq (w_law_1_10 K a_Poly s__law_pen s__law_draw s__law_some_ratio s__law_ratio s__law_pick s__law_passed s__law_poly s_Poly s_Poly___eq__ s_Poly_degree s_Poly_lead s__law_any T t__law_why) (wSeq (w_law_1_11 K a_Poly s__law_pen s__law_draw s__law_some_ratio s__law_ratio s__law_pick s__law_passed s__law_poly s_Poly s_Poly___eq__ s_Poly_degree s_Poly_lead s__law_any T t__law_why) (wSeq (w_law_1_12 K a_Poly s__law_pen s__law_draw s__law_some_ratio s__law_ratio s__law_pick s__law_passed s__law_poly s_Poly s_Poly___eq__ s_Poly_degree s_Poly_lead s__law_any T t__law_why) (wSeq (w_law_1_13 K a_Poly s__law_pen s__law_draw s__law_some_ratio s__law_ratio s__law_pick s__law_passed s__law_poly s_Poly s_Poly___eq__ s_Poly_degree s_Poly_lead s__law_any T t__law_why) (wSeq (w_law_1_14 K a_Poly s__law_pen s__law_draw s__law_some_ratio s__law_ratio s__law_pick s__law_passed s__law_poly s_Poly s_Poly___eq__ s_Poly_degree s_Poly_lead s__law_any T t__law_why) (wSeq (w_law_1_15 K a_Poly s__law_pen s__law_draw s__law_some_ratio s__law_ratio s__law_pick s__law_passed s__law_poly s_Poly s_Poly___eq__ s_Poly_degree s_Poly_lead s__law_any T t__law_why) (wSeq (w_law_1_16 K a_Poly s__law_pen s__law_draw s__law_some_ratio s__law_ratio s__law_pick s__law_passed s__law_poly s_Poly s_Poly___eq__ s_Poly_degree s_Poly_lead s__law_any T t__law_why) (wSeq (w_law_1_17 K a_Poly s__law_pen s__law_draw s__law_some_ratio s__law_ratio s__law_pick s__law_passed s__law_poly s_Poly s_Poly___eq__ s_Poly_degree s_Poly_lead s__law_any T t__law_why) (w_law_1_18 K a_Poly s__law_pen s__law_draw s__law_some_ratio s__law_ratio s__law_pick s__law_passed s__law_poly s_Poly s_Poly___eq__ s_Poly_degree s_Poly_lead s__law_any T t__law_why))))))))))))))))))))
def w_law_2 (K : PySem.W.Frag) (a_Poly : Addr) (s__law_pen s__law_draw s__law_some_ratio s__law_ratio s__law_pick s__law_passed s__law_poly s_Poly s_Poly___eq__ s_Poly_degree s_Poly_lead s__law_any : DF) (T : List (Addr × Str)) (t__law_why : (M → DK → FK → Prop) → M → DK → Prop) : DS := (wRet (wC (.bl true)))
def w_law (K : PySem.W.Frag) (a_Poly : Addr) (s__law_pen s__law_draw s__law_some_ratio s__law_ratio s__law_pick s__law_passed s__law_poly s_Poly s_Poly___eq__ s_Poly_degree s_Poly_lead s__law_any : DF) (T : List (Addr × Str)) (t__law_why : (M → DK → FK → Prop) → M → DK → Prop) : DS := (wSeq (w_law_0 K a_Poly s__law_pen s__law_draw s__law_some_ratio s__law_ratio s__law_pick s__law_passed s__law_poly s_Poly s_Poly___eq__ s_Poly_degree s_Poly_lead s__law_any T t__law_why) (wSeq (w_law_1 K a_Poly s__law_pen s__law_draw s__law_some_ratio s__law_ratio s__law_pick s__law_passed s__law_poly s_Poly s_Poly___eq__ s_Poly_degree s_Poly_lead s__law_any T t__law_why) (w_law_2 K a_Poly s__law_pen s__law_draw s__law_some_ratio s__law_ratio s__law_pick s__law_passed s__law_poly s_Poly s_Poly___eq__ s_Poly_degree s_Poly_lead s__law_any T t__law_why)))
theorem cmpM_drawR {Gd : M → Prop} {tg : DG} {we : DW} {p a : Addr} {δ : DSt} {Q : DK} {ds : List D} {μ : M} {m c : Nat} (E : D → D → Prop) (hp : μ p = none) (hl : ds.length ≤ 1000000) (pen : Pen a μ m) (hm : m + ds.length * c ≤ 1000000) (hG : ∀ μ', Gd μ')
    (el : ∀ d, d ∈ ds → ∀ μ' k, Pen a μ' k → k + c ≤ 1000000 → ∀ R : D → M → Prop, (∀ y μ2, E d y → Only a μ' μ2 → Pen a μ2 (k + c) → R y μ2) → tg d δ μ' fun δ1 μ1 => we δ1 μ1 R FF)
    (q : ∀ ys μ', All2 E ds ys → (∀ b, b ≠ p → b ≠ a → μ' b = μ b) → Pen a μ' (m + ds.length * c) → μ' p = some (.lst ys) → Q (.obj p) μ') : wCmpM Gd tg wYes we p δ ds [] (mput μ p (.lst [])) Q := by
  have hpa : p ≠ a := fun e => by
    obtain ⟨cs, x, d, n, f, h, _⟩ := pen
    rw [← e, hp] at h
    cases h
  have pen_put : ∀ {μ : M} {m : Nat} {o : MO}, Pen a μ m → Pen a (mput μ p o) m := fun {μ m o} h => by
    obtain ⟨cs, x, d, n, f, h, r⟩ := h
    exact ⟨cs, x, d, n, f, by rw [mput_ne (Ne.symm hpa)]; exact h, r⟩
  refine cmpM_inv ds (fun i acc μ' => (∀ b, b ≠ p → b ≠ a → μ' b = μ b) ∧ μ' p = some (.lst acc) ∧ Pen a μ' (m + i * c) ∧ i ≤ ds.length ∧ All2 E (ds.take i) acc) ⟨fun b hb _ => mput_ne hb, mput_same, by simpa using pen_put pen, Nat.zero_le _, .nil⟩ (fun i acc μ' h => ⟨hG μ', h.2.1⟩) ?_ ?_
  · rintro i d hd acc μ' ⟨h1, h2, h3, h4, h5⟩ R hR
    have hmm : d ∈ ds := List.mem_of_getElem? hd
    have hi : i < ds.length := by
      obtain ⟨h, _⟩ := List.getElem?_eq_some_iff.mp hd
      exact h
    have hb : (i + 1) * c ≤ ds.length * c := Nat.mul_le_mul_right _ hi
    have hb' : (i + 1) * c = i * c + c := Nat.succ_mul _ _
    have hal := h5.len
    rw [List.length_take] at hal
    refine el d hmm μ' _ h3 (by omega) _ fun y μ2 hy o2 p2 => ?_
    refine ⟨(o2 p hpa).trans h2, by omega, hR _ _ ⟨fun b hb hb2 => (mput_ne hb).trans ((o2 b hb2).trans (h1 b hb hb2)), mput_same, pen_put (by rw [hb', ← Nat.add_assoc]; exact p2), hi, ?_⟩⟩
    rw [List.take_add_one, hd]
    exact h5.snoc hy
  · rintro acc μ' ⟨h1, h2, h3, h4, h5⟩
    rw [List.take_length] at h5
    exact q acc _ h5 h1 h3 h2
section
variable (K : PySem.W.Frag) {C CB R TB : Addr} {T : List (Addr × Str)} {pn : Addr} {Q : DK} {F : FK} {B Cc : DSt → M → Prop} {N : DSt → M → Prop}
variable {x0 l o3 o4 o5 o6 o7 o8 o9 o10 o11 o12 o13 o14 : Option D} {μ : M}
theorem Go.put_new {m : Nat} {b : Addr} {xs : List D} (g : Go T pn μ m) (hb : μ b = none) : Go T pn (mput μ b (.lst xs)) m := by
  obtain ⟨⟨cs, x, d, n, f, h, r⟩, t⟩ := g
  have hne : pn ≠ b := fun e => by rw [e, hb] at h; cases h
  refine ⟨⟨cs, x, d, n, f, by rw [mput_ne hne]; exact h, r⟩, fun y z => ?_⟩
  by_cases e : y = b
  · subst e
    rw [mput_same]
    refine ⟨(by intro w; cases w), fun w => ?_⟩
    have := (t y z).mpr w
    rw [hb] at this
    cases this
  · rw [mput_ne e]
    exact t y z
theorem Go.put_lst {m : Nat} {b : Addr} {xs ys : List D} (g : Go T pn μ m) (hb : μ b = some (.lst ys)) : Go T pn (mput μ b (.lst xs)) m := by
  obtain ⟨⟨cs, x, d, n, f, h, r⟩, t⟩ := g
  have hne : pn ≠ b := fun e => by rw [e, hb] at h; cases h
  refine ⟨⟨cs, x, d, n, f, by rw [mput_ne hne]; exact h, r⟩, fun y z => ?_⟩
  by_cases e : y = b
  · subst e
    rw [mput_same]
    refine ⟨(by intro w; cases w), fun w => ?_⟩
    have := (t y z).mpr w
    rw [hb] at this
    cases this
  · rw [mput_ne e]
    exact t y z
theorem Go.ne {m : Nat} {b : Addr} {xs : List D} (g : Go T pn μ m) (hb : μ b = some (.lst xs)) : b ≠ pn := fun e => by
  obtain ⟨⟨cs, x, d, n, f, h, r⟩, t⟩ := g
  rw [← e, hb] at h
  cases h
theorem so_of {c : Rat} (h : Dr 9 c) : So c := by
  have := h.bd.num (den_pos c)
  have h2 := h.dl
  refine ⟨Nat.le_trans this.1 (Nat.le_trans (Nat.mul_le_mul_left 9 h2) (by decide)), Nat.le_trans h2 (by decide)⟩
theorem so_zero : So 0 := ⟨by decide, by decide⟩
theorem So.sr {c : Rat} (h : So c) : Sr c := ⟨Nat.lt_of_le_of_lt h.1 (by decide +kernel), Nat.lt_of_le_of_lt h.2 (by decide +kernel)⟩
theorem So.sz {c : Rat} (h : So c) : Sz c := h.sr.sz
/-- drawn numbers -/
theorem lap_a {m : Nat} (g : Go T pn μ m) (hm : m + 2000 ≤ 1000000)
    (k : ∀ ns o4 μ', ns.length ≤ 15 → (∀ c ∈ ns, So c) → Go T pn μ' (m + 500) → N [x0, some (.obj pn), l, some (ld ns), o4, o5, o6, o7, o8, o9, o10, o11, o12, o13, o14] μ') :
    w_law_1_0 K C s__law_pen s__law_draw s__law_some_ratio s__law_ratio s__law_pick s__law_passed s__law_poly (s_Poly R C) (s_Poly___eq__ C) (s_Poly_degree C) (s_Poly_lead C) s__law_any T (t__law_why CB R TB) { nx := fun δ μ => w_law_1_1 K C s__law_pen s__law_draw s__law_some_ratio s__law_ratio s__law_pick s__law_passed s__law_poly (s_Poly R C) (s_Poly___eq__ C) (s_Poly_degree C) (s_Poly_lead C) s__law_any T (t__law_why CB R TB) { nx := fun δ μ => w_law_1_2 K C s__law_pen s__law_draw s__law_some_ratio s__law_ratio s__law_pick s__law_passed s__law_poly (s_Poly R C) (s_Poly___eq__ C) (s_Poly_degree C) (s_Poly_lead C) s__law_any T (t__law_why CB R TB) { nx := N, rt := Q, bk := B, ct := Cc } F δ μ, rt := Q, bk := B, ct := Cc } F δ μ, rt := Q, bk := B, ct := Cc } F [x0, some (.obj pn), l, o3, o4, o5, o6, o7, o8, o9, o10, o11, o12, o13, o14] μ := by
  simp only [w_law_1_0, wRet, wRetN, wSeq, wNext, wIfS, wAsg, wName, wPar, wDrop, wDPut, wFor, wISeq, wIRng1, wIRng2, wVar, wC, wNil, wCons, wBin, wUn, wCB, wTst, wAnd, wOr, DL.wNot, wAndV, wOrV, wNotV, wIf, wTup, wLst, wLstM, wCall, wGTup, wGCons, wGNil, wBrk, wCnt, wRaise, gI, gU, gOne , DL.gSub, gMul, gMod, gDiv, gPow, gLt, gLe, gGt, gGe, gNeg, gAbs, gMax2, gMin2, gInt2, wChain, wPar3, wSl, wNoPart, wPart, wIEnumA, wIZipA, wIRng3, wLc, wLcM, wYes, wFld, wAug, wApp, wPop, wRev, wSubG, wMet, wBinO, wUnO, dstart, List.map_cons, List.map_nil, List.length_cons, List.length_nil, List.replicate, List.cons_append, List.nil_append, List.append_nil, List.getElem?_cons_zero, List.getElem?_cons_succ, List.set_cons_zero, List.set_cons_succ, Option.some.injEq, exists_eq_left', exists_eq_left, D.int.injEq, D.bl.injEq, D.str.injEq, D.tup.injEq, D.lst.injEq, D.obj.injEq, List.cons.injEq, and_true, true_and, Nat.zero_add, Nat.reduceAdd, Nat.reduceSub, decide_eq_true_eq, Bool.not_eq_true', decide_eq_false_iff_not, exists_and_left, exists_and_right, and_assoc, Bool.true_eq_false, Bool.false_eq_true, if_true, if_false, ne_eq]
  refine ⟨by decide, fun a ha => ?_⟩
  have g0 := g.put_new (xs := []) ha
  simp only [w_law_1_1, wRet, wRetN, wSeq, wNext, wIfS, wAsg, wName, wPar, wDrop, wDPut, wFor, wISeq, wIRng1, wIRng2, wVar, wC, wNil, wCons, wBin, wUn, wCB, wTst, wAnd, wOr, DL.wNot, wAndV, wOrV, wNotV, wIf, wTup, wLst, wLstM, wCall, wGTup, wGCons, wGNil, wBrk, wCnt, wRaise, gI, gU, gOne , DL.gSub, gMul, gMod, gDiv, gPow, gLt, gLe, gGt, gGe, gNeg, gAbs, gMax2, gMin2, gInt2, wChain, wPar3, wSl, wNoPart, wPart, wIEnumA, wIZipA, wIRng3, wLc, wLcM, wYes, wFld, wAug, wApp, wPop, wRev, wSubG, wMet, wBinO, wUnO, dstart, List.map_cons, List.map_nil, List.length_cons, List.length_nil, List.replicate, List.cons_append, List.nil_append, List.append_nil, List.getElem?_cons_zero, List.getElem?_cons_succ, List.set_cons_zero, List.set_cons_succ, Option.some.injEq, exists_eq_left', exists_eq_left, D.int.injEq, D.bl.injEq, D.str.injEq, D.tup.injEq, D.lst.injEq, D.obj.injEq, List.cons.injEq, and_true, true_and, Nat.zero_add, Nat.reduceAdd, Nat.reduceSub, decide_eq_true_eq, Bool.not_eq_true', decide_eq_false_iff_not, exists_and_left, exists_and_right, and_assoc, Bool.true_eq_false, Bool.false_eq_true, if_true, if_false, ne_eq]
  refine ⟨pn, 14, m, rfl, by decide, by decide, g0.pen, by omega, fun v μ1 v0 v1 u1 p1 => ⟨v, rfl, by omega, by omega, ?_⟩⟩
  have g1 := g0.go u1 p1
  have hap : a ≠ pn := g0.ne mput_same
  refine loop_inv _ (fun i δ μ' => ∃ ns d4, δ = [x0, some (.obj pn), l, some (.obj a), d4, o5, o6, o7, o8, o9, o10, o11, o12, o13, o14] ∧ Go T pn μ' (m + 1 + 30 * i) ∧ μ' a = some (.lst (ns.map qd)) ∧ ns.length ≤ i ∧ ∀ c ∈ ns, So c) ⟨[], _, rfl, g1, (u1 a hap).trans mput_same, by simp, by simp⟩ (fun _ _ _ _ => trivial) ?_ ?_
  · rintro i d hd δ μ2 ⟨ns, d4, rfl, g2, h2, hl, hs⟩ R' hR
    obtain ⟨hi, rfl⟩ := ints_get hd
    simp only [w_law_1_1_0, wRet, wRetN, wSeq, wNext, wIfS, wAsg, wName, wPar, wDrop, wDPut, wFor, wISeq, wIRng1, wIRng2, wVar, wC, wNil, wCons, wBin, wUn, wCB, wTst, wAnd, wOr, DL.wNot, wAndV, wOrV, wNotV, wIf, wTup, wLst, wLstM, wCall, wGTup, wGCons, wGNil, wBrk, wCnt, wRaise, gI, gU, gOne , DL.gSub, gMul, gMod, gDiv, gPow, gLt, gLe, gGt, gGe, gNeg, gAbs, gMax2, gMin2, gInt2, wChain, wPar3, wSl, wNoPart, wPart, wIEnumA, wIZipA, wIRng3, wLc, wLcM, wYes, wFld, wAug, wApp, wPop, wRev, wSubG, wMet, wBinO, wUnO, dstart, List.map_cons, List.map_nil, List.length_cons, List.length_nil, List.replicate, List.cons_append, List.nil_append, List.append_nil, List.getElem?_cons_zero, List.getElem?_cons_succ, List.set_cons_zero, List.set_cons_succ, Option.some.injEq, exists_eq_left', exists_eq_left, D.int.injEq, D.bl.injEq, D.str.injEq, D.tup.injEq, D.lst.injEq, D.obj.injEq, List.cons.injEq, and_true, true_and, Nat.zero_add, Nat.reduceAdd, Nat.reduceSub, decide_eq_true_eq, Bool.not_eq_true', decide_eq_false_iff_not, exists_and_left, exists_and_right, and_assoc, Bool.true_eq_false, Bool.false_eq_true, if_true, if_false, ne_eq]
    refine ⟨⟨_, h2⟩, by decide, pn, 9, _, rfl, by decide, g2.pen, by omega, fun c μ3 hc u3 p3 => ⟨pn, _, rfl, p3, by omega, fun c2 μ4 hc2 u4 p4 => ⟨by decide, pn, _, _, .inl rfl, by simp, by simp, p4, by omega, fun v hv μ5 u5 p5 => ?_⟩⟩⟩
    have ha2 : a ≠ pn := g2.ne h2
    have h5 : μ5 a = some (.lst (ns.map qd)) := (u5 a ha2).trans ((u4 a ha2).trans ((u3 a ha2).trans h2))
    obtain ⟨q, rfl, hq⟩ : ∃ q, v = qd q ∧ So q := by
      simp only [List.mem_cons, List.not_mem_nil, or_false] at hv
      rcases hv with rfl | rfl | rfl
      · exact ⟨0, rfl, so_zero⟩
      · exact ⟨_, rfl, so_of hc⟩
      · exact ⟨_, rfl, hc2⟩
    refine ⟨_, h5, by simp; omega, hR _ _ ⟨ns ++ [q], _, rfl, ?_, by rw [mput_same, List.map_append]; rfl, by simp; omega, fun c hc => ?_⟩⟩
    · exact (((g2.go u3 p3).go u4 p4).go u5 (p5.mono (show _ ≤ m + 1 + 30 * (i + 1) by omega))).put_lst h5
    · rcases List.mem_append.mp hc with hc | hc
      · exact hs c hc
      · rw [List.mem_singleton.mp hc]
        exact hq
  · rintro δ μ2 ⟨ns, d4, rfl, g2, h2, hl, hs⟩
    rw [intsD_len] at hl g2
    have hv14 : v.toNat ≤ 13 := by omega
    simp only [w_law_1_2, wRet, wRetN, wSeq, wNext, wIfS, wAsg, wName, wPar, wDrop, wDPut, wFor, wISeq, wIRng1, wIRng2, wVar, wC, wNil, wCons, wBin, wUn, wCB, wTst, wAnd, wOr, DL.wNot, wAndV, wOrV, wNotV, wIf, wTup, wLst, wLstM, wCall, wGTup, wGCons, wGNil, wBrk, wCnt, wRaise, gI, gU, gOne , DL.gSub, gMul, gMod, gDiv, gPow, gLt, gLe, gGt, gGe, gNeg, gAbs, gMax2, gMin2, gInt2, wChain, wPar3, wSl, wNoPart, wPart, wIEnumA, wIZipA, wIRng3, wLc, wLcM, wYes, wFld, wAug, wApp, wPop, wRev, wSubG, wMet, wBinO, wUnO, dstart, List.map_cons, List.map_nil, List.length_cons, List.length_nil, List.replicate, List.cons_append, List.nil_append, List.append_nil, List.getElem?_cons_zero, List.getElem?_cons_succ, List.set_cons_zero, List.set_cons_succ, Option.some.injEq, exists_eq_left', exists_eq_left, D.int.injEq, D.bl.injEq, D.str.injEq, D.tup.injEq, D.lst.injEq, D.obj.injEq, List.cons.injEq, and_true, true_and, Nat.zero_add, Nat.reduceAdd, Nat.reduceSub, decide_eq_true_eq, Bool.not_eq_true', decide_eq_false_iff_not, exists_and_left, exists_and_right, and_assoc, Bool.true_eq_false, Bool.false_eq_true, if_true, if_false, ne_eq]
    refine ⟨by decide, by decide, pn, 3, _, rfl, by decide, by decide, g2.pen, by omega, fun w μ3 w0 w1 u3 p3 => ?_⟩
    have h3 : μ3 a = some (.lst (ns.map qd)) := (u3 a (g2.ne h2)).trans h2
    dsimp only
    refine gRep_lst (by omega) (by omega) (by simp; omega) ?_
    rw [← zero_qd, rep_qd]
    refine .inr (.inr (.inl ⟨ns.map qd, _, by simp only [lstOf, h3], rfl, by simp; omega, ?_⟩))
    rw [← List.map_append]
    refine k (ns ++ List.replicate w.toNat 0) d4 μ3 (by simp; omega) (fun c hc => ?_) (g2.go u3 (p3.mono (by omega)))
    rcases List.mem_append.mp hc with hc | hc
    · exact hs c hc
    · rw [(List.mem_replicate.mp hc).2]
      exact so_zero
theorem cut13 {xs : List D} : DL.cutD xs none (some 13) = xs.take 13 := cutD_to (n := 13)
/-- the numbers handed in, in a list that may be changed -/
theorem lap_b {ns : List Rat} {m : Nat} (g : Go T pn μ m) (hm : m + 2000 ≤ 1000000) (hl : ns.length ≤ 15) (hs : ∀ c ∈ ns, So c)
    (k : ∀ a ys μ', All2 passD ((ns.take 13).map qd) ys → μ' a = some (.lst ys) → Go T pn μ' (m + 500) → N [x0, some (.obj pn), l, some (ld ns), o4, some (.obj a), o6, some (td (trim (ns.take 13))), some (po C (trim (ns.take 13))), o9, o10, o11, o12, o13, o14] μ') :
    w_law_1_3 K C s__law_pen s__law_draw s__law_some_ratio s__law_ratio s__law_pick s__law_passed s__law_poly (s_Poly R C) (s_Poly___eq__ C) (s_Poly_degree C) (s_Poly_lead C) s__law_any T (t__law_why CB R TB) { nx := fun δ μ => w_law_1_4 K C s__law_pen s__law_draw s__law_some_ratio s__law_ratio s__law_pick s__law_passed s__law_poly (s_Poly R C) (s_Poly___eq__ C) (s_Poly_degree C) (s_Poly_lead C) s__law_any T (t__law_why CB R TB) { nx := fun δ μ => w_law_1_5 K C s__law_pen s__law_draw s__law_some_ratio s__law_ratio s__law_pick s__law_passed s__law_poly (s_Poly R C) (s_Poly___eq__ C) (s_Poly_degree C) (s_Poly_lead C) s__law_any T (t__law_why CB R TB) { nx := N, rt := Q, bk := B, ct := Cc } F δ μ, rt := Q, bk := B, ct := Cc } F δ μ, rt := Q, bk := B, ct := Cc } F [x0, some (.obj pn), l, some (ld ns), o4, o5, o6, o7, o8, o9, o10, o11, o12, o13, o14] μ := by
  simp only [w_law_1_3, wRet, wRetN, wSeq, wNext, wIfS, wAsg, wName, wPar, wDrop, wDPut, wFor, wISeq, wIRng1, wIRng2, wVar, wC, wNil, wCons, wBin, wUn, wCB, wTst, wAnd, wOr, DL.wNot, wAndV, wOrV, wNotV, wIf, wTup, wLst, wLstM, wCall, wGTup, wGCons, wGNil, wBrk, wCnt, wRaise, gI, gU, gOne , DL.gSub, gMul, gMod, gDiv, gPow, gLt, gLe, gGt, gGe, gNeg, gAbs, gMax2, gMin2, gInt2, wChain, wPar3, wSl, wNoPart, wPart, wIEnumA, wIZipA, wIRng3, wLc, wLcM, wYes, wFld, wAug, wApp, wPop, wRev, wSubG, wMet, wBinO, wUnO, dstart, List.map_cons, List.map_nil, List.length_cons, List.length_nil, List.replicate, List.cons_append, List.nil_append, List.append_nil, List.getElem?_cons_zero, List.getElem?_cons_succ, List.set_cons_zero, List.set_cons_succ, Option.some.injEq, exists_eq_left', exists_eq_left, D.int.injEq, D.bl.injEq, D.str.injEq, D.tup.injEq, D.lst.injEq, D.obj.injEq, List.cons.injEq, and_true, true_and, Nat.zero_add, Nat.reduceAdd, Nat.reduceSub, decide_eq_true_eq, Bool.not_eq_true', decide_eq_false_iff_not, exists_and_left, exists_and_right, and_assoc, Bool.true_eq_false, Bool.false_eq_true, if_true, if_false, ne_eq]
  unfold ld
  rw [gSl_lst, cut13, ← List.map_take]
  have hl13 : (ns.take 13).length ≤ 13 := by rw [List.length_take]; omega
  have hs13 : ∀ c ∈ ns.take 13, So c := fun c h => hs c (List.mem_of_mem_take h)
  refine .inl ⟨_, .inl rfl, fun a ha => ?_⟩
  have hap : a ≠ pn := (g.put_new (xs := []) ha).ne mput_same
  refine cmpM_drawR (c := 3) passD ha (by rw [List.length_map]; omega) g.pen (by rw [List.length_map]; omega) (fun _ => trivial) (fun d hd μ' j pn hj R' hR => ?_) fun ys μ1 hy f1 p1 h1 => ?_
  · obtain ⟨c, hc, rfl⟩ := List.mem_map.mp hd
    simp only [wipeD, wRet, wRetN, wSeq, wNext, wIfS, wAsg, wName, wPar, wDrop, wDPut, wFor, wISeq, wIRng1, wIRng2, wVar, wC, wNil, wCons, wBin, wUn, wCB, wTst, wAnd, wOr, DL.wNot, wAndV, wOrV, wNotV, wIf, wTup, wLst, wLstM, wCall, wGTup, wGCons, wGNil, wBrk, wCnt, wRaise, gI, gU, gOne , DL.gSub, gMul, gMod, gDiv, gPow, gLt, gLe, gGt, gGe, gNeg, gAbs, gMax2, gMin2, gInt2, wChain, wPar3, wSl, wNoPart, wPart, wIEnumA, wIZipA, wIRng3, wLc, wLcM, wYes, wFld, wAug, wApp, wPop, wRev, wSubG, wMet, wBinO, wUnO, dstart, List.map_cons, List.map_nil, List.length_cons, List.length_nil, List.replicate, List.cons_append, List.nil_append, List.append_nil, List.getElem?_cons_zero, List.getElem?_cons_succ, List.set_cons_zero, List.set_cons_succ, Option.some.injEq, exists_eq_left', exists_eq_left, D.int.injEq, D.bl.injEq, D.str.injEq, D.tup.injEq, D.lst.injEq, D.obj.injEq, List.cons.injEq, and_true, true_and, Nat.zero_add, Nat.reduceAdd, Nat.reduceSub, decide_eq_true_eq, Bool.not_eq_true', decide_eq_false_iff_not, exists_and_left, exists_and_right, and_assoc, Bool.true_eq_false, Bool.false_eq_true, if_true, if_false, ne_eq]
    exact ⟨_, c, j, rfl, (hs13 c hc).sz, pn, hj, fun v μ2 hv o2 p2 => hR v μ2 ⟨c, rfl, (hs13 c hc).sz, hv⟩ o2 p2⟩
  · have hyl := hy.len
    rw [List.length_map] at hyl p1
    have g1 : Go T pn μ1 (m + (ns.take 13).length * 3) := by
      have g0 := g.put_new (xs := ys) ha
      refine g0.go (fun b hb => ?_) p1
      by_cases e : b = a
      · rw [e, h1, mput_same]
      · rw [mput_ne e]
        exact f1 b e hb
    simp only [w_law_1_4, wRet, wRetN, wSeq, wNext, wIfS, wAsg, wName, wPar, wDrop, wDPut, wFor, wISeq, wIRng1, wIRng2, wVar, wC, wNil, wCons, wBin, wUn, wCB, wTst, wAnd, wOr, DL.wNot, wAndV, wOrV, wNotV, wIf, wTup, wLst, wLstM, wCall, wGTup, wGCons, wGNil, wBrk, wCnt, wRaise, gI, gU, gOne , DL.gSub, gMul, gMod, gDiv, gPow, gLt, gLe, gGt, gGe, gNeg, gAbs, gMax2, gMin2, gInt2, wChain, wPar3, wSl, wNoPart, wPart, wIEnumA, wIZipA, wIRng3, wLc, wLcM, wYes, wFld, wAug, wApp, wPop, wRev, wSubG, wMet, wBinO, wUnO, dstart, List.map_cons, List.map_nil, List.length_cons, List.length_nil, List.replicate, List.cons_append, List.nil_append, List.append_nil, List.getElem?_cons_zero, List.getElem?_cons_succ, List.set_cons_zero, List.set_cons_succ, Option.some.injEq, exists_eq_left', exists_eq_left, D.int.injEq, D.bl.injEq, D.str.injEq, D.tup.injEq, D.lst.injEq, D.obj.injEq, List.cons.injEq, and_true, true_and, Nat.zero_add, Nat.reduceAdd, Nat.reduceSub, decide_eq_true_eq, Bool.not_eq_true', decide_eq_false_iff_not, exists_and_left, exists_and_right, and_assoc, Bool.true_eq_false, Bool.false_eq_true, if_true, if_false, ne_eq]
    rw [gSl_lst, cut13, ← List.map_take]
    refine poly_ld (by omega) (gTup_ld ?_)
    simp only [w_law_1_5, wRet, wRetN, wSeq, wNext, wIfS, wAsg, wName, wPar, wDrop, wDPut, wFor, wISeq, wIRng1, wIRng2, wVar, wC, wNil, wCons, wBin, wUn, wCB, wTst, wAnd, wOr, DL.wNot, wAndV, wOrV, wNotV, wIf, wTup, wLst, wLstM, wCall, wGTup, wGCons, wGNil, wBrk, wCnt, wRaise, gI, gU, gOne , DL.gSub, gMul, gMod, gDiv, gPow, gLt, gLe, gGt, gGe, gNeg, gAbs, gMax2, gMin2, gInt2, wChain, wPar3, wSl, wNoPart, wPart, wIEnumA, wIZipA, wIRng3, wLc, wLcM, wYes, wFld, wAug, wApp, wPop, wRev, wSubG, wMet, wBinO, wUnO, dstart, List.map_cons, List.map_nil, List.length_cons, List.length_nil, List.replicate, List.cons_append, List.nil_append, List.append_nil, List.getElem?_cons_zero, List.getElem?_cons_succ, List.set_cons_zero, List.set_cons_succ, Option.some.injEq, exists_eq_left', exists_eq_left, D.int.injEq, D.bl.injEq, D.str.injEq, D.tup.injEq, D.lst.injEq, D.obj.injEq, List.cons.injEq, and_true, true_and, Nat.zero_add, Nat.reduceAdd, Nat.reduceSub, decide_eq_true_eq, Bool.not_eq_true', decide_eq_false_iff_not, exists_and_left, exists_and_right, and_assoc, Bool.true_eq_false, Bool.false_eq_true, if_true, if_false, ne_eq]
    refine .inl ⟨ys, .inl (by simp only [lstOf, h1]), by decide, pn, _, _, .inl rfl, by simp, by simp, g1.pen, by omega, fun w hw μ3 u3 p3 => ?_⟩
    have h3 : μ3 a = some (.lst ys) := (u3 a hap).trans h1
    obtain ⟨r1, r2⟩ := rats_pass (μ := μ3) hy
    have ok : ∀ y ∈ ys, okD (view μ3 y) := fun y h => (r2 y h).1
    have fin := k a ys μ3 hy h3 (g1.go u3 (p3.mono (by omega)))
    have vw : view μ3 (.obj a) = .lst ys := by simp only [view, h3]
    rcases List.mem_cons.mp hw with rfl | hw
    · refine ⟨_, rfl, ?_, ?_⟩
      · unfold okRow
        rw [vw]
        exact ⟨by omega, ok⟩
      · unfold rowV
        rw [vw]
        show onP (rats μ3 ys) _ _
        rw [r1, onP_some]
        exact fin
    · rw [List.mem_singleton.mp hw]
      refine ⟨_, rfl, okRow_tup (by omega) ok, ?_⟩
      unfold rowV
      rw [view_tup]
      show onP (rats μ3 ys) _ _
      rw [r1, onP_some]
      exact fin
/-- lists of two integers behind handles -/
def Box (μ : M) (d y : D) : Prop := ∃ b c, d = qd c ∧ y = .obj b ∧ μ b = some (.lst [.int (c : Rat).num, .int c.den])
theorem All2.imp {E E' : D → D → Prop} : ∀ {xs ys : List D}, All2 E xs ys → (∀ x y, E x y → E' x y) → All2 E' xs ys
  | _, _, .nil, _ => .nil
  | _, _, .cons a r, h => .cons (h _ _ a) (r.imp h)
theorem rats_box {μ : M} : ∀ {p : List Rat} {ys : List D}, All2 (Box μ) (p.map qd) ys → (∀ c ∈ p, Sz c) → rats μ ys = some p ∧ ∀ y ∈ ys, okD (view μ y)
  | [], _, h, _ => by
    cases h
    exact ⟨rfl, by simp⟩
  | c :: p, _, h, hz => by
    cases h with
    | cons h r =>
      obtain ⟨b, q, e, rfl, hb⟩ := h
      obtain rfl := qd_inj.mp e
      have hv : view μ (.obj b) = .lst [.int (c : Rat).num, .int c.den] := by simp only [view, hb]
      have hr : ratV (.lst [.int (c : Rat).num, .int c.den]) = some c := by
        show (if (0 : Int) < (c.den : Int) then some (Rat.divInt c.num c.den) else none) = some c
        rw [if_pos (by have := den_pos c; omega), divInt_nd]
      obtain ⟨b1, b2⟩ := rats_box r fun x hx => hz x (List.mem_cons_of_mem _ hx)
      refine ⟨by simp only [rats, hv, hr, b1], fun y hy => ?_⟩
      rcases List.mem_cons.mp hy with rfl | hy
      · rw [hv]
        refine ⟨rfl, rfl, ?_⟩
        rintro e' he
        cases he
        exact up (show ((c.den : Nat) : Int).natAbs < 2 ^ 12000 from (hz c (List.mem_cons_self ..)).2)
      · exact b2 y hy
theorem lap_c {ns : List Rat} {g0 : Addr} {gs : List D} {m : Nat} (g : Go T pn μ m) (hl : ns.length ≤ 15) (hs : ∀ c ∈ ns, So c) (hg : μ g0 = some (.lst gs))
    (k : ∀ h o6 μ', μ' g0 = some (.lst gs) → Go T pn μ' m → N [x0, some (.obj pn), l, some (ld ns), o4, some (.obj g0), o6, o7, o8, some (.obj h), some (po C (trim (ns.take 13))), o11, o12, o13, o14] μ') :
    w_law_1_6 K C s__law_pen s__law_draw s__law_some_ratio s__law_ratio s__law_pick s__law_passed s__law_poly (s_Poly R C) (s_Poly___eq__ C) (s_Poly_degree C) (s_Poly_lead C) s__law_any T (t__law_why CB R TB) { nx := fun δ μ => w_law_1_7 K C s__law_pen s__law_draw s__law_some_ratio s__law_ratio s__law_pick s__law_passed s__law_poly (s_Poly R C) (s_Poly___eq__ C) (s_Poly_degree C) (s_Poly_lead C) s__law_any T (t__law_why CB R TB) { nx := fun δ μ => w_law_1_8 K C s__law_pen s__law_draw s__law_some_ratio s__law_ratio s__law_pick s__law_passed s__law_poly (s_Poly R C) (s_Poly___eq__ C) (s_Poly_degree C) (s_Poly_lead C) s__law_any T (t__law_why CB R TB) { nx := fun δ μ => w_law_1_9 K C s__law_pen s__law_draw s__law_some_ratio s__law_ratio s__law_pick s__law_passed s__law_poly (s_Poly R C) (s_Poly___eq__ C) (s_Poly_degree C) (s_Poly_lead C) s__law_any T (t__law_why CB R TB) { nx := N, rt := Q, bk := B, ct := Cc } F δ μ, rt := Q, bk := B, ct := Cc } F δ μ, rt := Q, bk := B, ct := Cc } F δ μ, rt := Q, bk := B, ct := Cc } F [x0, some (.obj pn), l, some (ld ns), o4, some (.obj g0), o6, o7, o8, o9, o10, o11, o12, o13, o14] μ := by
  simp only [w_law_1_6, wRet, wRetN, wSeq, wNext, wIfS, wAsg, wName, wPar, wDrop, wDPut, wFor, wISeq, wIRng1, wIRng2, wVar, wC, wNil, wCons, wBin, wUn, wCB, wTst, wAnd, wOr, DL.wNot, wAndV, wOrV, wNotV, wIf, wTup, wLst, wLstM, wCall, wGTup, wGCons, wGNil, wBrk, wCnt, wRaise, gI, gU, gOne , DL.gSub, gMul, gMod, gDiv, gPow, gLt, gLe, gGt, gGe, gNeg, gAbs, gMax2, gMin2, gInt2, wChain, wPar3, wSl, wNoPart, wPart, wIEnumA, wIZipA, wIRng3, wLc, wLcM, wYes, wFld, wAug, wApp, wPop, wRev, wSubG, wMet, wBinO, wUnO, dstart, List.map_cons, List.map_nil, List.length_cons, List.length_nil, List.replicate, List.cons_append, List.nil_append, List.append_nil, List.getElem?_cons_zero, List.getElem?_cons_succ, List.set_cons_zero, List.set_cons_succ, Option.some.injEq, exists_eq_left', exists_eq_left, D.int.injEq, D.bl.injEq, D.str.injEq, D.tup.injEq, D.lst.injEq, D.obj.injEq, List.cons.injEq, and_true, true_and, Nat.zero_add, Nat.reduceAdd, Nat.reduceSub, decide_eq_true_eq, Bool.not_eq_true', decide_eq_false_iff_not, exists_and_left, exists_and_right, and_assoc, Bool.true_eq_false, Bool.false_eq_true, if_true, if_false, ne_eq]
  unfold ld
  rw [gSl_lst, cut13, ← List.map_take]
  have hl13 : (ns.take 13).length ≤ 13 := by rw [List.length_take]; omega
  have hs13 : ∀ c ∈ ns.take 13, So c := fun c h => hs c (List.mem_of_mem_take h)
  refine .inl ⟨_, .inl rfl, fun h hh => ?_⟩
  have hgh : g0 ≠ h := fun e => by rw [e, hh] at hg; cases hg
  refine cmpM_inv _ (fun i acc μ' => (∀ b, μ b ≠ none → μ' b = μ b) ∧ μ' h = some (.lst acc) ∧ Go T pn μ' m ∧ i ≤ (ns.take 13).length ∧ acc.length = i ∧ All2 (fun d y => ∃ b c, d = qd c ∧ y = .obj b ∧ b ≠ h ∧ μ b = none ∧ μ' b = some (.lst [.int (c : Rat).num, .int c.den])) (((ns.take 13).map qd).take i) acc) ⟨fun b hb => mput_ne fun e => hb (e ▸ hh), mput_same, g.put_new hh, Nat.zero_le _, rfl, .nil⟩ (fun i acc μ' z => ⟨trivial, z.2.1⟩) ?_ ?_
  · rintro i d hd acc μ' ⟨f1, h1, g1, hi, hal, ha⟩ R hR
    have hd' := hd
    rw [List.getElem?_map] at hd'
    obtain ⟨c, hc, rfl⟩ := Option.map_eq_some_iff.mp hd'
    have hi' : i < (ns.take 13).length := (List.getElem?_eq_some_iff.mp hc).1
    simp only [wipeD, wRet, wRetN, wSeq, wNext, wIfS, wAsg, wName, wPar, wDrop, wDPut, wFor, wISeq, wIRng1, wIRng2, wVar, wC, wNil, wCons, wBin, wUn, wCB, wTst, wAnd, wOr, DL.wNot, wAndV, wOrV, wNotV, wIf, wTup, wLst, wLstM, wCall, wGTup, wGCons, wGNil, wBrk, wCnt, wRaise, gI, gU, gOne , DL.gSub, gMul, gMod, gDiv, gPow, gLt, gLe, gGt, gGe, gNeg, gAbs, gMax2, gMin2, gInt2, wChain, wPar3, wSl, wNoPart, wPart, wIEnumA, wIZipA, wIRng3, wLc, wLcM, wYes, wFld, wAug, wApp, wPop, wRev, wSubG, wMet, wBinO, wUnO, dstart, List.map_cons, List.map_nil, List.length_cons, List.length_nil, List.replicate, List.cons_append, List.nil_append, List.append_nil, List.getElem?_cons_zero, List.getElem?_cons_succ, List.set_cons_zero, List.set_cons_succ, Option.some.injEq, exists_eq_left', exists_eq_left, D.int.injEq, D.bl.injEq, D.str.injEq, D.tup.injEq, D.lst.injEq, D.obj.injEq, List.cons.injEq, and_true, true_and, Nat.zero_add, Nat.reduceAdd, Nat.reduceSub, decide_eq_true_eq, Bool.not_eq_true', decide_eq_false_iff_not, exists_and_left, exists_and_right, and_assoc, Bool.true_eq_false, Bool.false_eq_true, if_true, if_false, ne_eq]
    refine ⟨[.int c.num, .int c.den], rfl, fun b hb => ?_⟩
    have hbh : b ≠ h := fun e => by rw [e, h1] at hb; cases hb
    have hb0 : μ b = none := by
      cases e : μ b with
      | none => rfl
      | some o =>
        have := f1 b (by rw [e]; simp)
        rw [hb, e] at this
        cases this
    refine ⟨by rw [mput_ne (Ne.symm hbh)]; exact h1, by omega, hR _ _ ⟨fun x hx => ?_, mput_same, ?_, by omega, by simp [hal], ?_⟩⟩
    · have e1 : x ≠ h := fun e => hx (e ▸ hh)
      have e2 : x ≠ b := fun e => hx (e ▸ hb0)
      rw [mput_ne e1, mput_ne e2]
      exact f1 x hx
    · exact (g1.put_new hb).put_lst (ys := acc) (by rw [mput_ne (Ne.symm hbh)]; exact h1)
    · rw [List.take_add_one, hd]
      refine All2.snoc (ha.imp ?_) ⟨b, c, rfl, rfl, hbh, hb0, by rw [mput_ne hbh, mput_same]⟩
      rintro x y ⟨b', c', e1, e2, e3, e4, e5⟩
      refine ⟨b', c', e1, e2, e3, e4, ?_⟩
      have : b' ≠ b := fun e => by rw [e, hb] at e5; cases e5
      rw [mput_ne e3, mput_ne this]
      exact e5
  · rintro ys μ1 ⟨f1, h1, g1, hi, hal, ha⟩
    rw [List.length_map, ← List.length_map (f := qd), List.take_length] at ha
    simp only [w_law_1_7, wRet, wRetN, wSeq, wNext, wIfS, wAsg, wName, wPar, wDrop, wDPut, wFor, wISeq, wIRng1, wIRng2, wVar, wC, wNil, wCons, wBin, wUn, wCB, wTst, wAnd, wOr, DL.wNot, wAndV, wOrV, wNotV, wIf, wTup, wLst, wLstM, wCall, wGTup, wGCons, wGNil, wBrk, wCnt, wRaise, gI, gU, gOne , DL.gSub, gMul, gMod, gDiv, gPow, gLt, gLe, gGt, gGe, gNeg, gAbs, gMax2, gMin2, gInt2, wChain, wPar3, wSl, wNoPart, wPart, wIEnumA, wIZipA, wIRng3, wLc, wLcM, wYes, wFld, wAug, wApp, wPop, wRev, wSubG, wMet, wBinO, wUnO, dstart, List.map_cons, List.map_nil, List.length_cons, List.length_nil, List.replicate, List.cons_append, List.nil_append, List.append_nil, List.getElem?_cons_zero, List.getElem?_cons_succ, List.set_cons_zero, List.set_cons_succ, Option.some.injEq, exists_eq_left', exists_eq_left, D.int.injEq, D.bl.injEq, D.str.injEq, D.tup.injEq, D.lst.injEq, D.obj.injEq, List.cons.injEq, and_true, true_and, Nat.zero_add, Nat.reduceAdd, Nat.reduceSub, decide_eq_true_eq, Bool.not_eq_true', decide_eq_false_iff_not, exists_and_left, exists_and_right, and_assoc, Bool.true_eq_false, Bool.false_eq_true, if_true, if_false, ne_eq]
    have hgs : μ1 g0 = some (.lst gs) := (f1 g0 (by rw [hg]; simp)).trans hg
    obtain ⟨r1, r2⟩ := rats_box (μ := μ1) (ha.imp fun x y ⟨b, c, e1, e2, e3, e4, e5⟩ => ⟨b, c, e1, e2, e5⟩) fun c hc => (hs13 c hc).sz
    have vw : view μ1 (.obj h) = .lst ys := by simp only [view, h1]
    rw [List.length_map] at hal
    refine ⟨_, rfl, ?_, ?_⟩
    · unfold okRow
      rw [vw]
      exact ⟨by omega, r2⟩
    · unfold rowV
      rw [vw]
      show onP (rats μ1 ys) _ _
      rw [r1, onP_some]
      simp only [w_law_1_8, wRet, wRetN, wSeq, wNext, wIfS, wAsg, wName, wPar, wDrop, wDPut, wFor, wISeq, wIRng1, wIRng2, wVar, wC, wNil, wCons, wBin, wUn, wCB, wTst, wAnd, wOr, DL.wNot, wAndV, wOrV, wNotV, wIf, wTup, wLst, wLstM, wCall, wGTup, wGCons, wGNil, wBrk, wCnt, wRaise, gI, gU, gOne , DL.gSub, gMul, gMod, gDiv, gPow, gLt, gLe, gGt, gGe, gNeg, gAbs, gMax2, gMin2, gInt2, wChain, wPar3, wSl, wNoPart, wPart, wIEnumA, wIZipA, wIRng3, wLc, wLcM, wYes, wFld, wAug, wApp, wPop, wRev, wSubG, wMet, wBinO, wUnO, dstart, List.map_cons, List.map_nil, List.length_cons, List.length_nil, List.replicate, List.cons_append, List.nil_append, List.append_nil, List.getElem?_cons_zero, List.getElem?_cons_succ, List.set_cons_zero, List.set_cons_succ, Option.some.injEq, exists_eq_left', exists_eq_left, D.int.injEq, D.bl.injEq, D.str.injEq, D.tup.injEq, D.lst.injEq, D.obj.injEq, List.cons.injEq, and_true, true_and, Nat.zero_add, Nat.reduceAdd, Nat.reduceSub, decide_eq_true_eq, Bool.not_eq_true', decide_eq_false_iff_not, exists_and_left, exists_and_right, and_assoc, Bool.true_eq_false, Bool.false_eq_true, if_true, if_false, ne_eq]
      refine .inr ⟨ys, h1, ?_⟩
      have nb : ∀ y ∈ ys, ∃ b n e, y = .obj b ∧ b ≠ h ∧ b ≠ g0 ∧ μ1 b = some (.lst [.int n, .int e]) := by
        have : ∀ {xs ys : List D}, All2 (fun d y => ∃ b c, d = qd c ∧ y = .obj b ∧ b ≠ h ∧ μ b = none ∧ μ1 b = some (.lst [.int (c : Rat).num, .int c.den])) xs ys → ∀ y ∈ ys, ∃ b n e, y = .obj b ∧ b ≠ h ∧ b ≠ g0 ∧ μ1 b = some (.lst [.int n, .int e]) := by
          intro xs ys hh2
          induction hh2 with
          | nil => simp
          | cons h1 _ ih =>
            intro y hy
            rcases List.mem_cons.mp hy with rfl | hy
            · obtain ⟨b, c, _, e2, e3, e4, e5⟩ := h1
              exact ⟨b, _, _, e2, e3, (fun e => by rw [e, hg] at e4; cases e4), e5⟩
            · exact ih y hy
        exact this ha
      refine loop_inv ys (fun i δ μ' => ∃ d6, δ = [x0, some (.obj pn), l, some (ld ns), o4, some (.obj g0), d6, o7, o8, some (.obj h), some (po C (trim (ns.take 13))), o11, o12, o13, o14] ∧ μ' h = some (.lst ys) ∧ μ' g0 = some (.lst gs) ∧ Go T pn μ' m ∧ ∀ y ∈ ys, ∃ b n e, y = .obj b ∧ b ≠ h ∧ b ≠ g0 ∧ μ' b = some (.lst [.int n, .int e])) ⟨_, rfl, h1, hgs, g1, nb⟩ (fun i δ μ' z => by obtain ⟨_, _, z, _⟩ := z; exact z) ?_ ?_
      · rintro i d hd δ μ2 ⟨d6, rfl, h2, hg2, g2, nb2⟩ R hR
        obtain ⟨b, n, e, rfl, e1, e2, e3⟩ := nb2 d (List.mem_of_getElem? hd)
        simp only [w_law_1_8_0, wRet, wRetN, wSeq, wNext, wIfS, wAsg, wName, wPar, wDrop, wDPut, wFor, wISeq, wIRng1, wIRng2, wVar, wC, wNil, wCons, wBin, wUn, wCB, wTst, wAnd, wOr, DL.wNot, wAndV, wOrV, wNotV, wIf, wTup, wLst, wLstM, wCall, wGTup, wGCons, wGNil, wBrk, wCnt, wRaise, gI, gU, gOne , DL.gSub, gMul, gMod, gDiv, gPow, gLt, gLe, gGt, gGe, gNeg, gAbs, gMax2, gMin2, gInt2, wChain, wPar3, wSl, wNoPart, wPart, wIEnumA, wIZipA, wIRng3, wLc, wLcM, wYes, wFld, wAug, wApp, wPop, wRev, wSubG, wMet, wBinO, wUnO, dstart, List.map_cons, List.map_nil, List.length_cons, List.length_nil, List.replicate, List.cons_append, List.nil_append, List.append_nil, List.getElem?_cons_zero, List.getElem?_cons_succ, List.set_cons_zero, List.set_cons_succ, Option.some.injEq, exists_eq_left', exists_eq_left, D.int.injEq, D.bl.injEq, D.str.injEq, D.tup.injEq, D.lst.injEq, D.obj.injEq, List.cons.injEq, and_true, true_and, Nat.zero_add, Nat.reduceAdd, Nat.reduceSub, decide_eq_true_eq, Bool.not_eq_true', decide_eq_false_iff_not, exists_and_left, exists_and_right, and_assoc, Bool.true_eq_false, Bool.false_eq_true, if_true, if_false, ne_eq]
        refine gIx_obj e3 atI_0 ?_
        refine gAdd_int.mpr ?_
        refine ⟨_, e3, 0, rfl, hR _ _ ⟨_, rfl, ?_, ?_, g2.put_lst e3, fun y hy => ?_⟩⟩
        · rw [mput_ne (Ne.symm e1)]; exact h2
        · rw [mput_ne (Ne.symm e2)]; exact hg2
        · obtain ⟨b', n', e', f1, f2, f3, f4⟩ := nb2 y hy
          by_cases hb : b' = b
          · subst hb
            exact ⟨b', n + 1, e, f1, f2, f3, mput_same⟩
          · exact ⟨b', n', e', f1, f2, f3, by rw [mput_ne hb]; exact f4⟩
      · rintro δ μ2 ⟨d6, rfl, h2, hg2, g2, nb2⟩
        simp only [w_law_1_9, wRet, wRetN, wSeq, wNext, wIfS, wAsg, wName, wPar, wDrop, wDPut, wFor, wISeq, wIRng1, wIRng2, wVar, wC, wNil, wCons, wBin, wUn, wCB, wTst, wAnd, wOr, DL.wNot, wAndV, wOrV, wNotV, wIf, wTup, wLst, wLstM, wCall, wGTup, wGCons, wGNil, wBrk, wCnt, wRaise, gI, gU, gOne , DL.gSub, gMul, gMod, gDiv, gPow, gLt, gLe, gGt, gGe, gNeg, gAbs, gMax2, gMin2, gInt2, wChain, wPar3, wSl, wNoPart, wPart, wIEnumA, wIZipA, wIRng3, wLc, wLcM, wYes, wFld, wAug, wApp, wPop, wRev, wSubG, wMet, wBinO, wUnO, dstart, List.map_cons, List.map_nil, List.length_cons, List.length_nil, List.replicate, List.cons_append, List.nil_append, List.append_nil, List.getElem?_cons_zero, List.getElem?_cons_succ, List.set_cons_zero, List.set_cons_succ, Option.some.injEq, exists_eq_left', exists_eq_left, D.int.injEq, D.bl.injEq, D.str.injEq, D.tup.injEq, D.lst.injEq, D.obj.injEq, List.cons.injEq, and_true, true_and, Nat.zero_add, Nat.reduceAdd, Nat.reduceSub, decide_eq_true_eq, Bool.not_eq_true', decide_eq_false_iff_not, exists_and_left, exists_and_right, and_assoc, Bool.true_eq_false, Bool.false_eq_true, if_true, if_false, ne_eq]
        refine ⟨⟨_, h2⟩, by decide, _, h2, by omega, k h d6 _ ?_ (g2.put_lst h2)⟩
        rw [mput_ne hgh]
        exact hg2
variable {pp : List Rat}
/-- the polynomial that is made -/
structure Made (pp : List Rat) : Prop where
  cn : canon pp
  ln : pp.length ≤ 13
  so : ∀ c ∈ pp, So c
theorem Made.show {pp : List Rat} (h : Made pp) : showV (td pp) := show_td (fun c hc => (h.so c hc).sr) (Nat.le_trans h.ln (by decide))
theorem st10 (h : Made pp) (k : N [x0, some (.obj pn), l, o3, o4, o5, o6, some (td pp), some (po C pp), o9, some (po C pp), o11, o12, o13, o14] μ) : w_law_1_10 K C s__law_pen s__law_draw s__law_some_ratio s__law_ratio s__law_pick s__law_passed s__law_poly (s_Poly R C) (s_Poly___eq__ C) (s_Poly_degree C) (s_Poly_lead C) s__law_any T (t__law_why CB R TB) { nx := N, rt := Q, bk := B, ct := Cc } F [x0, some (.obj pn), l, o3, o4, o5, o6, some (td pp), some (po C pp), o9, some (po C pp), o11, o12, o13, o14] μ := by
  simp only [w_law_1_10, wRet, wRetN, wSeq, wNext, wIfS, wAsg, wName, wPar, wDrop, wDPut, wFor, wISeq, wIRng1, wIRng2, wVar, wC, wNil, wCons, wBin, wUn, wCB, wTst, wAnd, wOr, DL.wNot, wAndV, wOrV, wNotV, wIf, wTup, wLst, wLstM, wCall, wGTup, wGCons, wGNil, wBrk, wCnt, wRaise, gI, gU, gOne , DL.gSub, gMul, gMod, gDiv, gPow, gLt, gLe, gGt, gGe, gNeg, gAbs, gMax2, gMin2, gInt2, wChain, wPar3, wSl, wNoPart, wPart, wIEnumA, wIZipA, wIRng3, wLc, wLcM, wYes, wFld, wAug, wApp, wPop, wRev, wSubG, wMet, wBinO, wUnO, dstart, List.map_cons, List.map_nil, List.length_cons, List.length_nil, List.replicate, List.cons_append, List.nil_append, List.append_nil, List.getElem?_cons_zero, List.getElem?_cons_succ, List.set_cons_zero, List.set_cons_succ, Option.some.injEq, exists_eq_left', exists_eq_left, D.int.injEq, D.bl.injEq, D.str.injEq, D.tup.injEq, D.lst.injEq, D.obj.injEq, List.cons.injEq, and_true, true_and, Nat.zero_add, Nat.reduceAdd, Nat.reduceSub, decide_eq_true_eq, Bool.not_eq_true', decide_eq_false_iff_not, exists_and_left, exists_and_right, and_assoc, Bool.true_eq_false, Bool.false_eq_true, if_true, if_false, ne_eq, gFld_po1]
  have sv := h.show
  refine sv.repr (sv.repr (ne_txt sv ⟨_, rfl, ?_⟩))
  rw [if_neg (by decide)]
  refine sv.repr (sv.repr (ne_txt sv ⟨_, rfl, ?_⟩))
  rw [if_neg (by decide)]
  refine .inr (eqO_sat rfl ⟨_, rfl, ?_⟩)
  simp only [dstart, List.map_cons, List.map_nil, List.length_cons, List.length_nil, List.replicate, List.cons_append, List.nil_append, List.append_nil, List.getElem?_cons_zero, List.getElem?_cons_succ, List.set_cons_zero, List.set_cons_succ, Option.some.injEq, exists_eq_left', exists_eq_left, D.int.injEq, D.bl.injEq, D.str.injEq, D.tup.injEq, D.lst.injEq, D.obj.injEq, List.cons.injEq, and_true, true_and, Nat.zero_add, Nat.reduceAdd, Nat.reduceSub, decide_eq_true_eq, Bool.not_eq_true', decide_eq_false_iff_not, exists_and_left, exists_and_right, and_assoc, Bool.true_eq_false, Bool.false_eq_true, if_true, if_false, ne_eq]
  exact k
theorem lead_so (h : Made pp) : So (plead pp) := by
  unfold plead
  by_cases hl : pp.length = 0
  · rw [coef_ge (by omega)]
    exact so_zero
  · rw [coef_lt (by omega)]
    exact h.so _ (List.getElem_mem _)
theorem st11 (h : Made pp) (k : N [x0, some (.obj pn), l, o3, o4, o5, o6, some (td pp), some (po C pp), o9, some (po C pp), o11, o12, o13, o14] μ) : w_law_1_11 K C s__law_pen s__law_draw s__law_some_ratio s__law_ratio s__law_pick s__law_passed s__law_poly (s_Poly R C) (s_Poly___eq__ C) (s_Poly_degree C) (s_Poly_lead C) s__law_any T (t__law_why CB R TB) { nx := N, rt := Q, bk := B, ct := Cc } F [x0, some (.obj pn), l, o3, o4, o5, o6, some (td pp), some (po C pp), o9, some (po C pp), o11, o12, o13, o14] μ := by
  simp only [w_law_1_11, wRet, wRetN, wSeq, wNext, wIfS, wAsg, wName, wPar, wDrop, wDPut, wFor, wISeq, wIRng1, wIRng2, wVar, wC, wNil, wCons, wBin, wUn, wCB, wTst, wAnd, wOr, DL.wNot, wAndV, wOrV, wNotV, wIf, wTup, wLst, wLstM, wCall, wGTup, wGCons, wGNil, wBrk, wCnt, wRaise, gI, gU, gOne , DL.gSub, gMul, gMod, gDiv, gPow, gLt, gLe, gGt, gGe, gNeg, gAbs, gMax2, gMin2, gInt2, wChain, wPar3, wSl, wNoPart, wPart, wIEnumA, wIZipA, wIRng3, wLc, wLcM, wYes, wFld, wAug, wApp, wPop, wRev, wSubG, wMet, wBinO, wUnO, dstart, List.map_cons, List.map_nil, List.length_cons, List.length_nil, List.replicate, List.cons_append, List.nil_append, List.append_nil, List.getElem?_cons_zero, List.getElem?_cons_succ, List.set_cons_zero, List.set_cons_succ, Option.some.injEq, exists_eq_left', exists_eq_left, D.int.injEq, D.bl.injEq, D.str.injEq, D.tup.injEq, D.lst.injEq, D.obj.injEq, List.cons.injEq, and_true, true_and, Nat.zero_add, Nat.reduceAdd, Nat.reduceSub, decide_eq_true_eq, Bool.not_eq_true', decide_eq_false_iff_not, exists_and_left, exists_and_right, and_assoc, Bool.true_eq_false, Bool.false_eq_true, if_true, if_false, ne_eq]
  rw [hMet_po (by decide)]
  refine ⟨_, rfl, gLen_td.mpr ⟨_, rfl, gEq_int.mpr ⟨_, rfl, ?_⟩⟩⟩
  rw [if_neg (by simp), hMet_po (by decide)]
  have sv : showV (qd (plead pp)) := show_qd (lead_so h).sr
  refine ⟨_, rfl, sv.repr ?_⟩
  have fin : gRepr (qd (plead pp)) μ fun y μ2 => gEq true (.str (shw (qd (plead pp)))) y μ2 fun d μ1 => ∃ k, d = D.bl k ∧ if k = true then Q (.bl false) μ1 else N [x0, some (.obj pn), l, o3, o4, o5, o6, some (td pp), some (po C pp), o9, some (po C pp), o11, o12, o13, o14] μ1 := sv.repr (ne_txt sv ⟨_, rfl, by rw [if_neg (by decide)]; exact k⟩)
  refine ⟨by decide, eq_pl (x := td pp) (y := td []) pl_td pl_td (fun e => ?_) (fun e => ?_) dp_td dp_td⟩
  · have e' : pp = [] := td_inj.mp e
    subst e'
    exact ⟨_, rfl, by rw [if_neg (by decide)]; exact ⟨by decide, fin⟩⟩
  · have hl : 0 < pp.length := by
      apply Classical.byContradiction
      intro hn
      exact e (by rw [List.length_eq_zero_iff.mp (show pp.length = 0 by omega)])
    refine ⟨_, rfl, ?_⟩
    rw [if_pos (by decide)]
    unfold td
    refine gIx_tup.mpr ⟨_, atI_last (by simpa using hl), ?_⟩
    have ex : ∀ hh, (pp.map qd)[(pp.map qd).length - 1]'hh = qd (plead pp) := fun hh => by
      unfold plead
      rw [coef_lt (by omega)]
      simp
    rw [ex]
    exact fin
theorem poly_row {p : List Rat} {x : D} {μ : M} {Q : DK} {F : FK} (ho : okRow μ x) (hr : rowV μ x = some p) (q : Q (po C (trim p)) μ) : s_Poly R C [x] μ Q F := ⟨x, rfl, ho, by rw [hr]; exact q⟩
theorem eqO_other {p : List Rat} {y : D} {t : String} {μ : M} {Q : DK} {F : FK} (hy : eqT μ C y) (ht : tyN y = some t) (hm : t ∈ (["int", "bool", "NoneType", "str", "tuple", "list", "dict"] : List String)) (q : Q (.bl false) μ) : gOwnEq C (s_Poly___eq__ C) (po C p) y μ Q F :=
  ⟨_, .inl rfl, hy, p, y, rfl, .inr ⟨t, ht, hm, q⟩⟩
theorem td_nil : D.tup [] = td [] := rfl
theorem app_one {p : List Rat} (h : canon p) : trim (p ++ [1]) = p ++ [1] := by
  refine trim_full (.inr ?_)
  have : coef (p ++ [1]) ((p ++ [1]).length - 1) = 1 := by
    unfold coef
    simp
  rw [this]
  decide
theorem st12 (h : Made pp) (k : N [x0, some (.obj pn), l, o3, o4, o5, o6, some (td pp), some (po C pp), o9, some (po C pp), o11, o12, o13, o14] μ) : w_law_1_12 K C s__law_pen s__law_draw s__law_some_ratio s__law_ratio s__law_pick s__law_passed s__law_poly (s_Poly R C) (s_Poly___eq__ C) (s_Poly_degree C) (s_Poly_lead C) s__law_any T (t__law_why CB R TB) { nx := N, rt := Q, bk := B, ct := Cc } F [x0, some (.obj pn), l, o3, o4, o5, o6, some (td pp), some (po C pp), o9, some (po C pp), o11, o12, o13, o14] μ := by
  simp only [w_law_1_12, wRet, wRetN, wSeq, wNext, wIfS, wAsg, wName, wPar, wDrop, wDPut, wFor, wISeq, wIRng1, wIRng2, wVar, wC, wNil, wCons, wBin, wUn, wCB, wTst, wAnd, wOr, DL.wNot, wAndV, wOrV, wNotV, wIf, wTup, wLst, wLstM, wCall, wGTup, wGCons, wGNil, wBrk, wCnt, wRaise, gI, gU, gOne , DL.gSub, gMul, gMod, gDiv, gPow, gLt, gLe, gGt, gGe, gNeg, gAbs, gMax2, gMin2, gInt2, wChain, wPar3, wSl, wNoPart, wPart, wIEnumA, wIZipA, wIRng3, wLc, wLcM, wYes, wFld, wAug, wApp, wPop, wRev, wSubG, wMet, wBinO, wUnO, dstart, List.map_cons, List.map_nil, List.length_cons, List.length_nil, List.replicate, List.cons_append, List.nil_append, List.append_nil, List.getElem?_cons_zero, List.getElem?_cons_succ, List.set_cons_zero, List.set_cons_succ, Option.some.injEq, exists_eq_left', exists_eq_left, D.int.injEq, D.bl.injEq, D.str.injEq, D.tup.injEq, D.lst.injEq, D.obj.injEq, List.cons.injEq, and_true, true_and, Nat.zero_add, Nat.reduceAdd, Nat.reduceSub, decide_eq_true_eq, Bool.not_eq_true', decide_eq_false_iff_not, exists_and_left, exists_and_right, and_assoc, Bool.true_eq_false, Bool.false_eq_true, if_true, if_false, ne_eq, gLen_td, gEq_po, false_or]
  have rest : gOwnEq C (s_Poly___eq__ C) (po C pp) (td pp) μ (fun d μ1 => ∃ k, d = D.bl k ∧ if k = true then Q (.bl false) μ1 else 0 ≤ 1000000 ∧
      s_Poly R C [.tup []] μ1 (fun y μ2 => gOwnEq C (s_Poly___eq__ C) (po C pp) y μ2 (fun x μ3 => 0 ≤ 1000000 ∧ gEq false (td pp) (.tup []) μ3 fun z μ4 => gEq true x z μ4 fun d μ5 => ∃ k, d = D.bl k ∧ if k = true then Q (.bl false) μ5 else N [x0, some (.obj pn), l, o3, o4, o5, o6, some (td pp), some (po C pp), o9, some (po C pp), o11, o12, o13, o14] μ5) F) F) F := by
    refine eqO_other (.inr (.inr (.inl ⟨_, rfl⟩))) rfl (by simp) ⟨_, rfl, ?_⟩
    rw [if_neg (by decide)]
    refine ⟨by decide, poly_row (p := []) (okRow_td (p := []) (by simp) (by simp)) rfl (eqO_dec ⟨by decide, ?_⟩)⟩
    have hd : ∀ b : Bool, b = decide (pp = []) → gEq true (.bl (decide (pp = []))) (.bl b) μ fun d μ5 => ∃ k, d = D.bl k ∧ if k = true then Q (.bl false) μ5 else N [x0, some (.obj pn), l, o3, o4, o5, o6, some (td pp), some (po C pp), o9, some (po C pp), o11, o12, o13, o14] μ5 := by
      rintro _ rfl
      refine ⟨.bool _, .bool _, rfl, rfl, rfl, rfl, ?_⟩
      refine ⟨_, rfl, ?_⟩
      rw [if_neg (by simp [PyData.eqv])]
      exact k
    refine eq_pl (x := td pp) (y := td []) pl_td pl_td (fun e => ?_) (fun e => ?_) dp_td dp_td
    · exact hd _ (by simp [td_inj.mp e])
    · exact hd _ (by rw [decide_eq_false fun z => e (by rw [z])])
  by_cases hl : (pp.length : Int) < 13
  · rw [if_pos hl]
    refine ⟨_, rfl, by decide, gAdd_lst.mpr ⟨by simp; omega, ?_⟩⟩
    have e1 : pp.map qd ++ [.int 1] = (pp.map qd ++ [D.int 1]) := rfl
    have hr : rowV μ (.lst (pp.map qd ++ [D.int 1])) = some (pp ++ [1]) := rats_app (rats_qd pp) rfl
    refine poly_row ⟨by simp; omega, fun v hv => ?_⟩ hr ?_
    · rcases List.mem_append.mp hv with hv | hv
      · obtain ⟨c, hc, rfl⟩ := List.mem_map.mp hv
        exact okD_qd (h.so c hc).sz
      · rw [List.mem_singleton.mp hv]
        rfl
    · rw [app_one h.cn]
      refine eqO_dec ⟨_, rfl, ?_⟩
      rw [if_neg (by simp)]
      exact rest
  · rw [if_neg hl]
    exact rest
theorem lap_e {m : Nat} (g : Go T pn μ m) (hm : m + 50 ≤ 1000000) (k : ∀ f μ', Only pn μ μ' → Go T pn μ' (m + 3) → N [x0, some (.obj pn), l, o3, o4, o5, o6, o7, o8, o9, o10, some (qd f), o12, o13, o14] μ') :
    w_law_1_13 K C s__law_pen s__law_draw s__law_some_ratio s__law_ratio s__law_pick s__law_passed s__law_poly (s_Poly R C) (s_Poly___eq__ C) (s_Poly_degree C) (s_Poly_lead C) s__law_any T (t__law_why CB R TB) { nx := fun δ μ => w_law_1_14 K C s__law_pen s__law_draw s__law_some_ratio s__law_ratio s__law_pick s__law_passed s__law_poly (s_Poly R C) (s_Poly___eq__ C) (s_Poly_degree C) (s_Poly_lead C) s__law_any T (t__law_why CB R TB) { nx := N, rt := Q, bk := B, ct := Cc } F δ μ, rt := Q, bk := B, ct := Cc } F [x0, some (.obj pn), l, o3, o4, o5, o6, o7, o8, o9, o10, o11, o12, o13, o14] μ := by
  simp only [w_law_1_13, wRet, wRetN, wSeq, wNext, wIfS, wAsg, wName, wPar, wDrop, wDPut, wFor, wISeq, wIRng1, wIRng2, wVar, wC, wNil, wCons, wBin, wUn, wCB, wTst, wAnd, wOr, DL.wNot, wAndV, wOrV, wNotV, wIf, wTup, wLst, wLstM, wCall, wGTup, wGCons, wGNil, wBrk, wCnt, wRaise, gI, gU, gOne , DL.gSub, gMul, gMod, gDiv, gPow, gLt, gLe, gGt, gGe, gNeg, gAbs, gMax2, gMin2, gInt2, wChain, wPar3, wSl, wNoPart, wPart, wIEnumA, wIZipA, wIRng3, wLc, wLcM, wYes, wFld, wAug, wApp, wPop, wRev, wSubG, wMet, wBinO, wUnO, dstart, List.map_cons, List.map_nil, List.length_cons, List.length_nil, List.replicate, List.cons_append, List.nil_append, List.append_nil, List.getElem?_cons_zero, List.getElem?_cons_succ, List.set_cons_zero, List.set_cons_succ, Option.some.injEq, exists_eq_left', exists_eq_left, D.int.injEq, D.bl.injEq, D.str.injEq, D.tup.injEq, D.lst.injEq, D.obj.injEq, List.cons.injEq, and_true, true_and, Nat.zero_add, Nat.reduceAdd, Nat.reduceSub, decide_eq_true_eq, Bool.not_eq_true', decide_eq_false_iff_not, exists_and_left, exists_and_right, and_assoc, Bool.true_eq_false, Bool.false_eq_true, if_true, if_false, ne_eq]
  refine ⟨pn, 3, m, rfl, by decide, g.pen, by omega, fun f μ1 hf u1 p1 => ?_⟩
  simp only [w_law_1_14, wRet, wRetN, wSeq, wNext, wIfS, wAsg, wName, wPar, wDrop, wDPut, wFor, wISeq, wIRng1, wIRng2, wVar, wC, wNil, wCons, wBin, wUn, wCB, wTst, wAnd, wOr, DL.wNot, wAndV, wOrV, wNotV, wIf, wTup, wLst, wLstM, wCall, wGTup, wGCons, wGNil, wBrk, wCnt, wRaise, gI, gU, gOne , DL.gSub, gMul, gMod, gDiv, gPow, gLt, gLe, gGt, gGe, gNeg, gAbs, gMax2, gMin2, gInt2, wChain, wPar3, wSl, wNoPart, wPart, wIEnumA, wIZipA, wIRng3, wLc, wLcM, wYes, wFld, wAug, wApp, wPop, wRev, wSubG, wMet, wBinO, wUnO, dstart, List.map_cons, List.map_nil, List.length_cons, List.length_nil, List.replicate, List.cons_append, List.nil_append, List.append_nil, List.getElem?_cons_zero, List.getElem?_cons_succ, List.set_cons_zero, List.set_cons_succ, Option.some.injEq, exists_eq_left', exists_eq_left, D.int.injEq, D.bl.injEq, D.str.injEq, D.tup.injEq, D.lst.injEq, D.obj.injEq, List.cons.injEq, and_true, true_and, Nat.zero_add, Nat.reduceAdd, Nat.reduceSub, decide_eq_true_eq, Bool.not_eq_true', decide_eq_false_iff_not, exists_and_left, exists_and_right, and_assoc, Bool.true_eq_false, Bool.false_eq_true, if_true, if_false, ne_eq, gEq_po, false_or, gIx_q0]
  have r1 : rats μ1 [qd f] = some [f] := rats_qd [f]
  have hz := dr_sz hf
  refine ⟨by decide, poly_row (p := [f]) (okRow_td (p := [f]) (fun c hc => by rw [List.mem_singleton.mp hc]; exact hz) (by simp)) r1 ?_⟩
  simp only [gEq_po, false_or]
  refine eqO_other (.inr (.inr (.inl ⟨_, rfl⟩))) rfl (by simp) ⟨_, rfl, ?_⟩
  rw [if_neg (by decide)]
  refine ⟨by decide, poly_row (p := [(f.num : Rat)]) (okRow_tup (by simp) (fun v hv => by rw [List.mem_singleton.mp hv]; rfl)) rfl ?_⟩
  simp only [gEq_po, false_or]
  refine eqO_other (.inr (.inl ⟨_, rfl⟩)) rfl (by simp) ⟨_, rfl, ?_⟩
  rw [if_neg (by decide)]
  exact k f μ1 u1 (g.go u1 p1)
/-! rows that are none -/
/-- may be shown, dicts within -/
def NiceN (d : D) (n k : Nat) : Prop := ∃ p, d.py = some p ∧ okN p = true ∧ small p = true ∧ p.depth ≤ k ∧ bnd p ≤ n
theorem NiceN.int {i : Int} (h : i.natAbs < 10 ^ 500) : NiceN (.int i) 3000 4 := ⟨.int i, rfl, rfl, by simpa only [small, decide_eq_true_eq] using h, by simp [PyData.depth], by simp [bnd]⟩
theorem nice_all : ∀ {ys : List D}, (∀ y ∈ ys, NiceN y 3000 4) → ∃ ps, D.pyA ys = some ps ∧ okNA ps = true ∧ smallA ps = true ∧ PyData.depthAll ps ≤ 4 ∧ bndA ps ≤ ys.length * 3002
  | [], _ => ⟨[], rfl, rfl, rfl, by simp [PyData.depthAll], by simp [bndA]⟩
  | y :: ys, h => by
    obtain ⟨p, a1, a2, a3, a4, a5⟩ := h y (List.mem_cons_self ..)
    obtain ⟨ps, b1, b2, b3, b4, b5⟩ := nice_all fun z hz => h z (List.mem_cons_of_mem _ hz)
    refine ⟨p :: ps, by simp only [D.pyA, a1, b1], by simp only [okNA, a2, b2, Bool.and_self], by simp only [smallA, a3, b3, Bool.and_self], ?_, ?_⟩
    · simp only [PyData.depthAll]
      omega
    · simp only [bndA, List.length_cons]
      omega
theorem pass_nice {q : Rat} {v : D} (h : pass q v) (hs : So q) : NiceN v 3000 4 ∧ plD v = true ∧ dpD v ≤ 1 := by
  obtain ⟨h1, h2⟩ := hs
  have l : ∀ k : Int, 0 < k → k ≤ 3 → (q.num * k).natAbs < 10 ^ 500 ∧ ((q.den : Int) * k).natAbs < 10 ^ 500 := fun k k0 k3 => by
    rw [Int.natAbs_mul, Int.natAbs_mul, Int.natAbs_natCast]
    have a : q.num.natAbs * k.natAbs ≤ 10 ^ 18 * 3 := Nat.mul_le_mul h1 (by omega)
    have b : q.den * k.natAbs ≤ 10 ^ 18 * 3 := Nat.mul_le_mul h2 (by omega)
    exact ⟨Nat.lt_of_le_of_lt a (by decide +kernel), Nat.lt_of_le_of_lt b (by decide +kernel)⟩
  rcases h with ⟨_, rfl⟩ | ⟨k, k0, k3, rfl | rfl⟩
  · exact ⟨NiceN.int (Nat.lt_of_le_of_lt h1 (by decide +kernel)), rfl, by simp [dpD]⟩
  · obtain ⟨a, b⟩ := l k k0 k3
    exact ⟨⟨.tuple [.int (q.num * k), .int (q.den * k)], rfl, rfl, by simp only [small, smallA, a, b, decide_true, Bool.and_self], by simp [PyData.depth, PyData.depthAll], by simp [bnd, bndA]⟩, rfl, by simp [dpD, dpA]⟩
  · obtain ⟨a, b⟩ := l k k0 k3
    exact ⟨⟨.list [.int (q.num * k), .int (q.den * k)], rfl, rfl, by simp only [small, smallA, a, b, decide_true, Bool.and_self], by simp [PyData.depth, PyData.depthAll], by simp [bnd, bndA]⟩, rfl, by simp [dpD, dpA]⟩
theorem odd_nice {v : D} (h : v ∈ oddL) : NiceN v 3000 4 := by
  simp only [oddL, List.mem_cons, List.not_mem_nil, or_false] at h
  rcases h with rfl | rfl | rfl | rfl | rfl | rfl | rfl | rfl | rfl | rfl | rfl | rfl | rfl | rfl | rfl
  all_goals exact ⟨_, rfl, by decide +kernel, by decide +kernel, by decide +kernel, by decide +kernel⟩
theorem pass_all {p : List Rat} {ys : List D} (h : All2 passD (p.map qd) ys) (hs : ∀ c ∈ p, So c) : (∀ y ∈ ys, NiceN y 3000 4) ∧ plA ys = true ∧ dpA ys ≤ 1 := by
  induction p generalizing ys with
  | nil =>
    cases h
    exact ⟨by simp, rfl, by simp [dpA]⟩
  | cons c p ih =>
    cases h with
    | cons h r =>
      obtain ⟨q, e, hz, hp⟩ := h
      obtain rfl := qd_inj.mp e
      obtain ⟨a1, a2, a3⟩ := pass_nice hp (hs c (List.mem_cons_self ..))
      obtain ⟨b1, b2, b3⟩ := ih r fun x hx => hs x (List.mem_cons_of_mem _ hx)
      refine ⟨fun y hy => ?_, by simp only [plA, a2, b2, Bool.and_self], by simp only [dpA]; omega⟩
      rcases List.mem_cons.mp hy with rfl | hy
      · exact a1
      · exact b1 y hy
/-- a row that is shown twice -/
theorem why_list {x : D} {ps : List PyData} {p : PyData} {μ : M} {Q : DK} (e : pyOf μ x = some p) (hp : p = .list ps ∨ p = .tuple ps) (h1 : okNA ps = true) (h2 : smallA ps = true) (h3 : PyData.depthAll ps ≤ 4) (h4 : bndA ps ≤ 100000) (q : Q (.bl false) μ) :
    gRepr x μ fun s μ1 => gRepr x μ1 fun d μ2 => 2 ≤ 1000000 ∧ gEq true (.tup [.str "row", s]) (.tup [.str "row", d]) μ2 Q := by
  have hn : okN p = true := by rcases hp with rfl | rfl <;> simpa only [okN] using h1
  have hsm : small p = true := by rcases hp with rfl | rfl <;> simpa only [small] using h2
  have hdp : p.depth ≤ 60 := by rcases hp with rfl | rfl <;> simp only [PyData.depth] <;> omega
  have hbd : bnd p ≤ 1000000 := by rcases hp with rfl | rfl <;> simp only [bnd] <;> omega
  obtain ⟨s1, s2, s3⟩ := shown_small hsm
  refine ⟨p, e, hn, s1, hdp, Nat.le_trans s2 hbd, p, e, hn, s1, hdp, Nat.le_trans s2 hbd, by decide, ?_⟩
  have hpl : plD (.tup [.str "row", .str p.shown]) = true := by
    have h2 : plD (.str p.shown) = true := okT_strOk s3
    have h0 : plD (.str "row") = true := by decide +kernel
    simp only [plD, plA, Bool.and_true, Bool.and_eq_true] at h2 h0 ⊢
    exact ⟨h0, h2⟩
  exact eq_pl hpl hpl (fun _ => q) (fun h => absurd rfl h) (by simp [dpD, dpA]) (by simp [dpD, dpA])
theorem rats_odd {μ : M} {v : D} (hv : v ∈ oddL) : ∀ {ys : List D} {j : Nat}, j < ys.length → rats μ (ys.set j v) = none
  | y :: ys, 0, _ => by
    have := (odd_told (μ := μ) hv).2
    simp only [List.set_cons_zero, rats, this]
  | y :: ys, j + 1, h => by
    have ih := rats_odd (μ := μ) hv (ys := ys) (j := j) (by simpa using h)
    simp only [List.set_cons_succ, rats, ih]
    cases ratV (view μ y) <;> rfl
theorem why_done {wT : DF} {v : D} (hv : showV v) (hr : okRow μ v) (hn : rowV μ v = none) {Q' : DK} (q : Q' (.bl false) μ) (F' : FK)
    (hF : ∀ er μ', whyE CB R TB (fun x μ1 => gRepr v μ1 fun d μ1 => 2 ≤ 1000000 ∧ gEq true x (.tup [.str "row", d]) μ1 Q') er μ' → F' er μ') (Q'' : DK) : s_Poly R C [v] μ Q'' F' := by
  refine ⟨v, rfl, hr, ?_⟩
  rw [hn, onP_none]
  refine hF _ _ (.inr (.inl ⟨_, rfl, ?_⟩))
  exact gRepr_imp (why_row hv q) fun d μ' z => z
theorem lap_f {g0 : Addr} {gs : List D} {p : List Rat} {m : Nat} (g : Go T pn μ m) (hm : m + 50 ≤ 1000000) (hg : μ g0 = some (.lst gs)) (hp : All2 passD (p.map qd) gs) (hl : p.length ≤ 13) (hs : ∀ c ∈ p, So c)
    (k : ∀ o12 o13 o14 μ', Go T pn μ' (m + 10) → N [x0, some (.obj pn), l, o3, o4, some (.obj g0), o6, o7, o8, o9, o10, o11, o12, o13, o14] μ') :
    w_law_1_15 K C s__law_pen s__law_draw s__law_some_ratio s__law_ratio s__law_pick s__law_passed s__law_poly (s_Poly R C) (s_Poly___eq__ C) (s_Poly_degree C) (s_Poly_lead C) s__law_any T (t__law_why CB R TB) { nx := fun δ μ => w_law_1_16 K C s__law_pen s__law_draw s__law_some_ratio s__law_ratio s__law_pick s__law_passed s__law_poly (s_Poly R C) (s_Poly___eq__ C) (s_Poly_degree C) (s_Poly_lead C) s__law_any T (t__law_why CB R TB) { nx := fun δ μ => w_law_1_17 K C s__law_pen s__law_draw s__law_some_ratio s__law_ratio s__law_pick s__law_passed s__law_poly (s_Poly R C) (s_Poly___eq__ C) (s_Poly_degree C) (s_Poly_lead C) s__law_any T (t__law_why CB R TB) { nx := fun δ μ => w_law_1_18 K C s__law_pen s__law_draw s__law_some_ratio s__law_ratio s__law_pick s__law_passed s__law_poly (s_Poly R C) (s_Poly___eq__ C) (s_Poly_degree C) (s_Poly_lead C) s__law_any T (t__law_why CB R TB) { nx := N, rt := Q, bk := B, ct := Cc } F δ μ, rt := Q, bk := B, ct := Cc } F δ μ, rt := Q, bk := B, ct := Cc } F δ μ, rt := Q, bk := B, ct := Cc } F [x0, some (.obj pn), l, o3, o4, some (.obj g0), o6, o7, o8, o9, o10, o11, o12, o13, o14] μ := by
  simp only [w_law_1_15, wRet, wRetN, wSeq, wNext, wIfS, wAsg, wName, wPar, wDrop, wDPut, wFor, wISeq, wIRng1, wIRng2, wVar, wC, wNil, wCons, wBin, wUn, wCB, wTst, wAnd, wOr, DL.wNot, wAndV, wOrV, wNotV, wIf, wTup, wLst, wLstM, wCall, wGTup, wGCons, wGNil, wBrk, wCnt, wRaise, gI, gU, gOne , DL.gSub, gMul, gMod, gDiv, gPow, gLt, gLe, gGt, gGe, gNeg, gAbs, gMax2, gMin2, gInt2, wChain, wPar3, wSl, wNoPart, wPart, wIEnumA, wIZipA, wIRng3, wLc, wLcM, wYes, wFld, wAug, wApp, wPop, wRev, wSubG, wMet, wBinO, wUnO, dstart, List.map_cons, List.map_nil, List.length_cons, List.length_nil, List.replicate, List.cons_append, List.nil_append, List.append_nil, List.getElem?_cons_zero, List.getElem?_cons_succ, List.set_cons_zero, List.set_cons_succ, Option.some.injEq, exists_eq_left', exists_eq_left, D.int.injEq, D.bl.injEq, D.str.injEq, D.tup.injEq, D.lst.injEq, D.obj.injEq, List.cons.injEq, and_true, true_and, Nat.zero_add, Nat.reduceAdd, Nat.reduceSub, decide_eq_true_eq, Bool.not_eq_true', decide_eq_false_iff_not, exists_and_left, exists_and_right, and_assoc, Bool.true_eq_false, Bool.false_eq_true, if_true, if_false, ne_eq]
  refine ⟨pn, m, rfl, g.pen, by omega, fun v hv μ1 u1 p1 => ?_⟩
  have g1 := g.go u1 p1
  have hg1 : μ1 g0 = some (.lst gs) := (u1 g0 (g.ne hg)).trans hg
  have fin : ∀ (d13 : Option D) (μ2 : M) (m2 : Nat), Go T pn μ2 m2 → m2 ≤ m + 5 → w_law_1_17 K C s__law_pen s__law_draw s__law_some_ratio s__law_ratio s__law_pick s__law_passed s__law_poly (s_Poly R C) (s_Poly___eq__ C) (s_Poly_degree C) (s_Poly_lead C) s__law_any T (t__law_why CB R TB) { nx := fun δ μ => w_law_1_18 K C s__law_pen s__law_draw s__law_some_ratio s__law_ratio s__law_pick s__law_passed s__law_poly (s_Poly R C) (s_Poly___eq__ C) (s_Poly_degree C) (s_Poly_lead C) s__law_any T (t__law_why CB R TB) { nx := N, rt := Q, bk := B, ct := Cc } F δ μ, rt := Q, bk := B, ct := Cc } F [x0, some (.obj pn), l, o3, o4, some (.obj g0), o6, o7, o8, o9, o10, o11, some v, d13, o14] μ2 := by
    intro d13 μ2 m2 g2 hm2
    simp only [w_law_1_17, wRet, wRetN, wSeq, wNext, wIfS, wAsg, wName, wPar, wDrop, wDPut, wFor, wISeq, wIRng1, wIRng2, wVar, wC, wNil, wCons, wBin, wUn, wCB, wTst, wAnd, wOr, DL.wNot, wAndV, wOrV, wNotV, wIf, wTup, wLst, wLstM, wCall, wGTup, wGCons, wGNil, wBrk, wCnt, wRaise, gI, gU, gOne , DL.gSub, gMul, gMod, gDiv, gPow, gLt, gLe, gGt, gGe, gNeg, gAbs, gMax2, gMin2, gInt2, wChain, wPar3, wSl, wNoPart, wPart, wIEnumA, wIZipA, wIRng3, wLc, wLcM, wYes, wFld, wAug, wApp, wPop, wRev, wSubG, wMet, wBinO, wUnO, dstart, List.map_cons, List.map_nil, List.length_cons, List.length_nil, List.replicate, List.cons_append, List.nil_append, List.append_nil, List.getElem?_cons_zero, List.getElem?_cons_succ, List.set_cons_zero, List.set_cons_succ, Option.some.injEq, exists_eq_left', exists_eq_left, D.int.injEq, D.bl.injEq, D.str.injEq, D.tup.injEq, D.lst.injEq, D.obj.injEq, List.cons.injEq, and_true, true_and, Nat.zero_add, Nat.reduceAdd, Nat.reduceSub, decide_eq_true_eq, Bool.not_eq_true', decide_eq_false_iff_not, exists_and_left, exists_and_right, and_assoc, Bool.true_eq_false, Bool.false_eq_true, if_true, if_false, ne_eq, wDct, wPairs]
    intro b hb
    refine ⟨mput_same, by decide, _, rfl, by decide, ?_⟩
    rw [mdel_put' hb]
    refine ⟨pn, _, _, .inl rfl, by simp, by simp, g2.pen, by omega, fun s hs2 μ3 u3 p3 => ?_⟩
    have g3 := g2.go u3 p3
    have ok : showV s ∧ okRow μ3 s ∧ rowV μ3 s = none := by
      simp only [List.mem_cons, List.not_mem_nil, or_false] at hs2
      rcases hs2 with rfl | rfl | rfl | rfl | rfl
      · exact ⟨⟨_, rfl, by decide +kernel, by decide +kernel, by decide +kernel, by decide +kernel⟩, rfl, rfl⟩
      · exact ⟨⟨_, rfl, by decide +kernel, by decide +kernel, by decide +kernel, by decide +kernel⟩, rfl, rfl⟩
      · exact ⟨⟨_, rfl, by decide +kernel, by decide +kernel, by decide +kernel, by decide +kernel⟩, rfl, rfl⟩
      · exact ⟨⟨_, rfl, by decide +kernel, by decide +kernel, by decide +kernel, by decide +kernel⟩, rfl, rfl⟩
      · exact ⟨⟨_, rfl, by decide +kernel, by decide +kernel, by decide +kernel, by decide +kernel⟩, rfl, rfl⟩
    simp only [w_law_1_18, wRet, wRetN, wSeq, wNext, wIfS, wAsg, wName, wPar, wDrop, wDPut, wFor, wISeq, wIRng1, wIRng2, wVar, wC, wNil, wCons, wBin, wUn, wCB, wTst, wAnd, wOr, DL.wNot, wAndV, wOrV, wNotV, wIf, wTup, wLst, wLstM, wCall, wGTup, wGCons, wGNil, wBrk, wCnt, wRaise, gI, gU, gOne , DL.gSub, gMul, gMod, gDiv, gPow, gLt, gLe, gGt, gGe, gNeg, gAbs, gMax2, gMin2, gInt2, wChain, wPar3, wSl, wNoPart, wPart, wIEnumA, wIZipA, wIRng3, wLc, wLcM, wYes, wFld, wAug, wApp, wPop, wRev, wSubG, wMet, wBinO, wUnO, dstart, List.map_cons, List.map_nil, List.length_cons, List.length_nil, List.replicate, List.cons_append, List.nil_append, List.append_nil, List.getElem?_cons_zero, List.getElem?_cons_succ, List.set_cons_zero, List.set_cons_succ, Option.some.injEq, exists_eq_left', exists_eq_left, D.int.injEq, D.bl.injEq, D.str.injEq, D.tup.injEq, D.lst.injEq, D.obj.injEq, List.cons.injEq, and_true, true_and, Nat.zero_add, Nat.reduceAdd, Nat.reduceSub, decide_eq_true_eq, Bool.not_eq_true', decide_eq_false_iff_not, exists_and_left, exists_and_right, and_assoc, Bool.true_eq_false, Bool.false_eq_true, if_true, if_false, ne_eq, wLamC]
    refine ⟨g3.tab, fun F' hF => ?_⟩
    simp only [wRet, wRetN, wSeq, wNext, wIfS, wAsg, wName, wPar, wDrop, wDPut, wFor, wISeq, wIRng1, wIRng2, wVar, wC, wNil, wCons, wBin, wUn, wCB, wTst, wAnd, wOr, DL.wNot, wAndV, wOrV, wNotV, wIf, wTup, wLst, wLstM, wCall, wGTup, wGCons, wGNil, wBrk, wCnt, wRaise, gI, gU, gOne , DL.gSub, gMul, gMod, gDiv, gPow, gLt, gLe, gGt, gGe, gNeg, gAbs, gMax2, gMin2, gInt2, wChain, wPar3, wSl, wNoPart, wPart, wIEnumA, wIZipA, wIRng3, wLc, wLcM, wYes, wFld, wAug, wApp, wPop, wRev, wSubG, wMet, wBinO, wUnO, dstart, List.map_cons, List.map_nil, List.length_cons, List.length_nil, List.replicate, List.cons_append, List.nil_append, List.append_nil, List.getElem?_cons_zero, List.getElem?_cons_succ, List.set_cons_zero, List.set_cons_succ, Option.some.injEq, exists_eq_left', exists_eq_left, D.int.injEq, D.bl.injEq, D.str.injEq, D.tup.injEq, D.lst.injEq, D.obj.injEq, List.cons.injEq, and_true, true_and, Nat.zero_add, Nat.reduceAdd, Nat.reduceSub, decide_eq_true_eq, Bool.not_eq_true', decide_eq_false_iff_not, exists_and_left, exists_and_right, and_assoc, Bool.true_eq_false, Bool.false_eq_true, if_true, if_false, ne_eq]
    refine ⟨s, rfl, ok.2.1, ?_⟩
    rw [ok.2.2, onP_none]
    refine hF _ _ (.inr (.inl ⟨_, rfl, ?_⟩))
    refine gRepr_imp (why_row ok.1 ?_) fun d μ' z => z
    exact ⟨_, rfl, by rw [if_neg (by decide)]; exact k _ _ _ _ ⟨g3.pen.mono (by omega), g3.tab⟩⟩
  generalize h17 : w_law_1_17 K C s__law_pen s__law_draw s__law_some_ratio s__law_ratio s__law_pick s__law_passed s__law_poly (s_Poly R C) (s_Poly___eq__ C) (s_Poly_degree C) (s_Poly_lead C) s__law_any T (t__law_why CB R TB) = w17 at fin ⊢
  simp only [w_law_1_16, wRet, wRetN, wSeq, wNext, wIfS, wAsg, wName, wPar, wDrop, wDPut, wFor, wISeq, wIRng1, wIRng2, wVar, wC, wNil, wCons, wBin, wUn, wCB, wTst, wAnd, wOr, DL.wNot, wAndV, wOrV, wNotV, wIf, wTup, wLst, wLstM, wCall, wGTup, wGCons, wGNil, wBrk, wCnt, wRaise, gI, gU, gOne , DL.gSub, gMul, gMod, gDiv, gPow, gLt, gLe, gGt, gGe, gNeg, gAbs, gMax2, gMin2, gInt2, wChain, wPar3, wSl, wNoPart, wPart, wIEnumA, wIZipA, wIRng3, wLc, wLcM, wYes, wFld, wAug, wApp, wPop, wRev, wSubG, wMet, wBinO, wUnO, dstart, List.map_cons, List.map_nil, List.length_cons, List.length_nil, List.replicate, List.cons_append, List.nil_append, List.append_nil, List.getElem?_cons_zero, List.getElem?_cons_succ, List.set_cons_zero, List.set_cons_succ, Option.some.injEq, exists_eq_left', exists_eq_left, D.int.injEq, D.bl.injEq, D.str.injEq, D.tup.injEq, D.lst.injEq, D.obj.injEq, List.cons.injEq, and_true, true_and, Nat.zero_add, Nat.reduceAdd, Nat.reduceSub, decide_eq_true_eq, Bool.not_eq_true', decide_eq_false_iff_not, exists_and_left, exists_and_right, and_assoc, Bool.true_eq_false, Bool.false_eq_true, if_true, if_false, ne_eq]
  obtain ⟨n1, n2, n3⟩ := pass_all hp hs
  have hgl := hp.len
  rw [List.length_map] at hgl
  refine ⟨by decide, gEq_view hg1 (eq_pl (x := .lst gs) (y := .lst []) (by simpa only [plD] using n2) rfl (fun e => ?_) (fun e => ?_) (by simp only [dpD]; omega) (by simp [dpD, dpA]))⟩
  · exact ⟨_, rfl, by rw [if_neg (by decide)]; exact fin _ _ _ g1 (by omega)⟩
  · have hpos : 0 < gs.length := by
      apply Classical.byContradiction
      intro hn
      exact e (by rw [List.length_eq_zero_iff.mp (show gs.length = 0 by omega)])
    refine ⟨_, rfl, ?_⟩
    rw [if_pos (by decide)]
    refine gLen_obj hg1 ⟨pn, gs.length, _, rfl, by omega, by omega, g1.pen, by omega, fun j μ2 j0 j1 u2 p2 => ?_⟩
    have g2 := g1.go u2 p2
    have hg2 : μ2 g0 = some (.lst gs) := (u2 g0 (g1.ne hg1)).trans hg1
    have hix : ixN gs.length j = some j.toNat := by
      unfold ixN
      rw [if_pos j0, if_pos j1]
    refine ⟨_, _, rfl, hg2, _, hix, ?_⟩
    have g3 : Go T pn (mput μ2 g0 (.lst (gs.set j.toNat v))) (m + 2) := (g2.put_lst hg2)
    have nice : ∀ y ∈ gs.set j.toNat v, NiceN y 3000 4 := fun y hy => by
      rcases List.mem_or_eq_of_mem_set hy with hy | rfl
      · exact n1 y hy
      · exact odd_nice hv
    obtain ⟨ps, q1, q2, q3, q4, q5⟩ := nice_all nice
    rw [List.length_set] at q5
    refine .inl ⟨gs.set j.toNat v, .inl (by simp only [lstOf, mput_same]), by decide, pn, _, _, .inl rfl, by simp, by simp, g3.pen, by omega, fun w hw μ4 u4 p4 => ?_⟩
    have g4 := g3.go u4 p4
    have hg4 : μ4 g0 = some (.lst (gs.set j.toNat v)) := (u4 g0 (g3.ne mput_same)).trans mput_same
    have okel : ∀ y ∈ gs.set j.toNat v, okD (view μ4 y) := fun y hy => by
      rcases List.mem_or_eq_of_mem_set hy with hy | rfl
      · exact ((rats_pass (μ := μ4) hp).2 y hy).1
      · exact (odd_told hv).1
    have hno := rats_odd (μ := μ4) hv (ys := gs) (j := j.toNat) (by omega)
    have hw' : okRow μ4 w ∧ rowV μ4 w = none ∧ ∃ p, pyOf μ4 w = some p ∧ (p = .list ps ∨ p = .tuple ps) := by
      have hlen : (gs.set j.toNat v).length ≤ 100000 := by rw [List.length_set]; omega
      rcases List.mem_cons.mp hw with rfl | hw
      · have vw : view μ4 (.obj g0) = .lst (gs.set j.toNat v) := by simp only [view, hg4]
        refine ⟨?_, ?_, .list ps, ?_, .inl rfl⟩
        · unfold okRow
          rw [vw]
          exact ⟨hlen, okel⟩
        · unfold rowV
          rw [vw]
          exact hno
        · simp only [pyOf, hg4, q1, Option.map_some]
      · rw [List.mem_singleton.mp hw]
        exact ⟨okRow_tup hlen okel, hno, .tuple ps, by simp only [pyOf, D.py, q1, Option.map_some], .inr rfl⟩
    obtain ⟨w1, w2, p', w3, w4⟩ := hw'
    simp only [wLamC]
    refine ⟨g4.tab, fun F' hF => ?_⟩
    simp only [wRet, wRetN, wSeq, wNext, wIfS, wAsg, wName, wPar, wDrop, wDPut, wFor, wISeq, wIRng1, wIRng2, wVar, wC, wNil, wCons, wBin, wUn, wCB, wTst, wAnd, wOr, DL.wNot, wAndV, wOrV, wNotV, wIf, wTup, wLst, wLstM, wCall, wGTup, wGCons, wGNil, wBrk, wCnt, wRaise, gI, gU, gOne , DL.gSub, gMul, gMod, gDiv, gPow, gLt, gLe, gGt, gGe, gNeg, gAbs, gMax2, gMin2, gInt2, wChain, wPar3, wSl, wNoPart, wPart, wIEnumA, wIZipA, wIRng3, wLc, wLcM, wYes, wFld, wAug, wApp, wPop, wRev, wSubG, wMet, wBinO, wUnO, dstart, List.map_cons, List.map_nil, List.length_cons, List.length_nil, List.replicate, List.cons_append, List.nil_append, List.append_nil, List.getElem?_cons_zero, List.getElem?_cons_succ, List.set_cons_zero, List.set_cons_succ, Option.some.injEq, exists_eq_left', exists_eq_left, D.int.injEq, D.bl.injEq, D.str.injEq, D.tup.injEq, D.lst.injEq, D.obj.injEq, List.cons.injEq, and_true, true_and, Nat.zero_add, Nat.reduceAdd, Nat.reduceSub, decide_eq_true_eq, Bool.not_eq_true', decide_eq_false_iff_not, exists_and_left, exists_and_right, and_assoc, Bool.true_eq_false, Bool.false_eq_true, if_true, if_false, ne_eq]
    refine ⟨w, rfl, w1, ?_⟩
    rw [w2, onP_none]
    refine hF _ _ (.inr (.inl ⟨_, rfl, ?_⟩))
    refine gRepr_imp (why_list w3 w4 q2 q3 q4 (by omega) ?_) fun d μ' z => z
    exact ⟨_, rfl, by rw [if_neg (by decide)]; exact fin _ _ _ g4 (by omega)⟩
theorem p_law : ∀ ds μ Q F, s_law T ds μ Q F → ds.length = 1 ∧ w_law K C s__law_pen s__law_draw s__law_some_ratio s__law_ratio s__law_pick s__law_passed s__law_poly (s_Poly R C) (s_Poly___eq__ C) (s_Poly_degree C) (s_Poly_lead C) s__law_any T (t__law_why CB R TB) { nx := fun _ μ' => Q .non μ', rt := Q } F (dstart ["_law_script", "_law_pen_here", "_law_lap", "_law_numbers", "_law_k", "_law_given", "_law_number", "_law_due", "_law_made", "_law_lists", "_law_other", "_law_flat", "_law_odd", "_law_wrong", "_law_strange"] ds) μ := by
  rintro _ μ Q F ⟨ns, rfl, hl, tT, q⟩
  refine ⟨rfl, ?_⟩
  unfold w_law
  simp only [w_law_0, w_law_1, w_law_2, wRet, wRetN, wSeq, wNext, wIfS, wAsg, wName, wPar, wDrop, wDPut, wFor, wISeq, wIRng1, wIRng2, wVar, wC, wNil, wCons, wBin, wUn, wCB, wTst, wAnd, wOr, DL.wNot, wAndV, wOrV, wNotV, wIf, wTup, wLst, wLstM, wCall, wGTup, wGCons, wGNil, wBrk, wCnt, wRaise, gI, gU, gOne , DL.gSub, gMul, gMod, gDiv, gPow, gLt, gLe, gGt, gGe, gNeg, gAbs, gMax2, gMin2, gInt2, wChain, wPar3, wSl, wNoPart, wPart, wIEnumA, wIZipA, wIRng3, wLc, wLcM, wYes, wFld, wAug, wApp, wPop, wRev, wSubG, wMet, wBinO, wUnO, dstart, List.map_cons, List.map_nil, List.length_cons, List.length_nil, List.replicate, List.cons_append, List.nil_append, List.append_nil, List.getElem?_cons_zero, List.getElem?_cons_succ, List.set_cons_zero, List.set_cons_succ, Option.some.injEq, exists_eq_left', exists_eq_left, D.int.injEq, D.bl.injEq, D.str.injEq, D.tup.injEq, D.lst.injEq, D.obj.injEq, List.cons.injEq, and_true, true_and, Nat.zero_add, Nat.reduceAdd, Nat.reduceSub, decide_eq_true_eq, Bool.not_eq_true', decide_eq_false_iff_not, exists_and_left, exists_and_right, and_assoc, Bool.true_eq_false, Bool.false_eq_true, if_true, if_false, ne_eq]
  refine ⟨ns, rfl, hl, fun p μ1 hp u1 pen1 => ⟨by decide, by decide, ?_⟩⟩
  refine laps_inv _ (fun i δ μ => ∃ l d3 d4 d5 d6 d7 d8 d9 d10 d11 d12 d13 d14, δ = [some (.ro (ns.map .int)), some (.obj p), l, d3, d4, d5, d6, d7, d8, d9, d10, d11, d12, d13, d14] ∧ Go T p μ (3000 * i)) ⟨_, _, _, _, _, _, _, _, _, _, _, _, _, rfl, go_start tT hp u1 pen1⟩ (fun _ _ _ _ => trivial) ?_ (fun _ _ _ => q _)
  rintro i d hi δ μ2 ⟨l, d3, d4, d5, d6, d7, d8, d9, d10, d11, d12, d13, d14, rfl, g⟩ R next
  have hi6 : i < 6 := by simpa [intsD] using hi
  dsimp only [List.set_cons_zero, List.set_cons_succ]
  refine lap_a K g (by omega) fun rs o4 μ3 hl3 hs3 g3 => ?_
  have hs13 : ∀ c ∈ rs.take 13, So c := fun c h => hs3 c (List.mem_of_mem_take h)
  have hl13 : (rs.take 13).length ≤ 13 := by rw [List.length_take]; omega
  refine lap_b K g3 (by omega) hl3 hs3 fun a ys μ4 hy ha g4 => ?_
  refine lap_c K g4 hl3 hs3 ha fun h o6 μ5 ha5 g5 => ?_
  have md : Made (trim (rs.take 13)) := ⟨trim_canon _, Nat.le_trans (trim_len _) hl13, fun c hc => hs13 c (trim_mem hc)⟩
  refine st10 K md (st11 K md (st12 K md ?_))
  refine lap_e K g5 (by omega) fun f μ6 u6 g6 => ?_
  have ha6 : μ6 a = some (.lst ys) := (u6 a (g5.ne ha5)).trans ha5
  refine lap_f K g6 (by omega) ha6 hy hl13 hs13 fun o12 o13 o14 μ7 g7 => ?_
  exact next _ _ ⟨_, _, _, _, _, _, _, _, _, _, _, _, _, rfl, g7.pen.mono (by omega), g7.tab⟩
end
end NC

set_option maxHeartbeats 2000000
namespace NC
open PySem PySem.Spec PyProof.Rows L2 DL LL PL
def top (i : Nat) : Stmt := PySem.Challenge.pw_nearcurves_k03_polynomials_made.main.body.getD i (.Pass ⟨0, 0, 0, 0⟩)
def mth (i j : Nat) : Stmt := match top i with
  | .ClassDef _ _ _ b _ _ _ _ _ _ _ => b.getD j (.Pass ⟨0, 0, 0, 0⟩)
  | _ => .Pass ⟨0, 0, 0, 0⟩
theorem bt_abs : bootBuiltins "abs" = some (.builtin "abs") := by decide +kernel
theorem bt_all : bootBuiltins "all" = some (.builtin "all") := by decide +kernel
theorem bt_bool : bootBuiltins "bool" = some (.type "bool") := by decide +kernel
theorem bt_enumerate : bootBuiltins "enumerate" = some (.type "enumerate") := by decide +kernel
theorem bt_int : bootBuiltins "int" = some (.type "int") := by decide +kernel
theorem bt_isinstance : bootBuiltins "isinstance" = some (.builtin "isinstance") := by decide +kernel
theorem bt_len : bootBuiltins "len" = some (.builtin "len") := by decide +kernel
theorem bt_list : bootBuiltins "list" = some (.type "list") := by decide +kernel
theorem bt_max : bootBuiltins "max" = some (.builtin "max") := by decide +kernel
theorem bt_min : bootBuiltins "min" = some (.builtin "min") := by decide +kernel
theorem bt_range : bootBuiltins "range" = some (.type "range") := by decide +kernel
theorem bt_repr : bootBuiltins "repr" = some (.builtin "repr") := by decide +kernel
theorem bt_tuple : bootBuiltins "tuple" = some (.type "tuple") := by decide +kernel
theorem bt_zip : bootBuiltins "zip" = some (.type "zip") := by decide +kernel
section
variable {P : Program} {w : World} {K : PySem.W.Frag} {mg : Str → Option Value} {base : Heap}
/-! #### is_whole -/
theorem sc_is_whole : FnScope ["value"] ["value"] (defScope (top 11)) := ⟨rfl, rfl, rfl, by decide +kernel, rfl, by decide +kernel, by decide +kernel⟩
theorem g_is_whole {wp : DF} (D : DefD K mg "is_whole" (top 11)) (B : ∀ x ∈ (["int", "isinstance", "bool"] : List Str), mg x = none) (h : ∀ ds μ Q F, wp ds μ Q F → ds.length = 1 ∧ w_is_whole K { nx := fun _ μ' => Q .non μ', rt := Q } F (dstart ["value"] ds) μ) : CalD P w K mg base 1 "is_whole" wp := by
  refine cal_of (wb := w_is_whole K) D sc_is_whole (fun _ _ _ _ _ _ us hl => match us, hl with | [_], _ => rfl) (fun f cdv A outer s H E c => ?_) h
  exact ⟨_, (pdb_one (pds_ret (pd_and (pd_callB (c_isi K rfl) (B "isinstance" (by decide)) bt_isinstance (pda_cons (pdv 0) (pda_cons (pd_ty (B "int" (by decide)) bt_int) pda_nil))) (pd_one (pd_not (pd_callB (c_isi K rfl) (B "isinstance" (by decide)) bt_isinstance (pda_cons (pdv 0) (pda_cons (pd_ty (B "bool" (by decide)) bt_bool) pda_nil))))))))⟩
/-! #### is_ratio -/
theorem sc_is_ratio : FnScope ["value"] ["value"] (defScope (top 12)) := ⟨rfl, rfl, rfl, by decide +kernel, rfl, by decide +kernel, by decide +kernel⟩
theorem g_is_ratio {wp : DF} {s_is_whole : DF} (D : DefD K mg "is_ratio" (top 12)) (B : ∀ x ∈ (["list", "tuple", "isinstance", "len"] : List Str), mg x = none) (C_is_whole : CalD P w K mg base 1 "is_whole" s_is_whole) (h : ∀ ds μ Q F, wp ds μ Q F → ds.length = 1 ∧ w_is_ratio K s_is_whole { nx := fun _ μ' => Q .non μ', rt := Q } F (dstart ["value"] ds) μ) : CalD P w K mg base 2 "is_ratio" wp := by
  refine cal_of (wb := w_is_ratio K s_is_whole) D sc_is_ratio (fun _ _ _ _ _ _ us hl => match us, hl with | [_], _ => rfl) (fun f cdv A outer s H E c => ?_) h
  exact ⟨_, (pdb_cons (pds_if (pdt_val (pd_call K rfl c C_is_whole (pda_cons (pdv 0) pda_nil))) (pdb_one (pds_ret pd_bl)) pdb_nil) (pdb_cons (pds_if (pdw_or (pdt_not (pdt_val (pd_callB (c_isi K rfl) (B "isinstance" (by decide)) bt_isinstance (pda_cons (pdv 0) (pda_cons (pd_tup (pda_cons (pd_ty (B "tuple" (by decide)) bt_tuple) (pda_cons (pd_ty (B "list" (by decide)) bt_list) pda_nil))) pda_nil))))) (pdw_or1 (pdt_cmp (o_neK K rfl c.hu) (pd_callB (c_lenK K rfl) (B "len" (by decide)) bt_len (pda_cons (pdv 0) pda_nil)) pd_int))).pdt (pdb_one (pds_ret pd_bl)) pdb_nil) (pdb_one (pds_ret (pd_and (pd_call K rfl c C_is_whole (pda_cons (pd_ixK K rfl (pdv 0) pd_int) pda_nil)) (pd_and (pd_call K rfl c C_is_whole (pda_cons (pd_ixK K rfl (pdv 0) pd_int) pda_nil)) (pd_one (pd_cmp o_gt (pd_ixK K rfl (pdv 0) pd_int) pd_int))))))))⟩
/-! #### divisor -/
theorem sc_divisor : FnScope ["one", "other"] ["one", "other"] (defScope (top 13)) := ⟨rfl, rfl, rfl, by decide +kernel, rfl, by decide +kernel, by decide +kernel⟩
theorem g_divisor {wp : DF} (D : DefD K mg "divisor" (top 13)) (B : ∀ x ∈ (["abs"] : List Str), mg x = none) (h : ∀ ds μ Q F, wp ds μ Q F → ds.length = 2 ∧ w_divisor K { nx := fun _ μ' => Q .non μ', rt := Q } F (dstart ["one", "other"] ds) μ) : CalD P w K mg base 1 "divisor" wp := by
  refine cal_of (wb := w_divisor K) D sc_divisor (fun _ _ _ _ _ _ us hl => match us, hl with | [_, _], _ => rfl) (fun f cdv A outer s H E c => ?_) h
  exact ⟨_, (pdb_cons (pds_while (passes_of rfl) (pdt_cmp (o_neK K rfl c.hu) (pdv 1) pd_int) (pdb_one (pds_par 0 1 c.calm sc_divisor.nd (pda_cons (pdv 1) (pda_cons (pd_bin o_mod (pdv 0) (pdv 1)) pda_nil))))) (pdb_one (pds_ret (pd_callB c_abs (B "abs" (by decide)) bt_abs (pda_cons (pdv 0) pda_nil)))))⟩
/-! #### lowest -/
theorem sc_lowest : FnScope ["top", "bottom", "by"] ["top", "bottom"] (defScope (top 14)) := ⟨rfl, rfl, rfl, by decide +kernel, rfl, by decide +kernel, by decide +kernel⟩
theorem g_lowest {wp : DF} {s_divisor : DF} (D : DefD K mg "lowest" (top 14)) (C_divisor : CalD P w K mg base 1 "divisor" s_divisor) (HS : SysP P base) (h : ∀ ds μ Q F, wp ds μ Q F → ds.length = 2 ∧ w_lowest K s_divisor { nx := fun _ μ' => Q .non μ', rt := Q } F (dstart ["top", "bottom", "by"] ds) μ) : CalD P w K mg base 33 "lowest" wp := by
  refine cal_of (wb := w_lowest K s_divisor) D sc_lowest (fun _ _ _ _ _ _ us hl => match us, hl with | [_, _], _ => rfl) (fun f cdv A outer s H E c => ?_) h
  exact ⟨_, (pdb_cons (pds_set 2 sc_lowest.nd (pd_if (pdt_cmp o_gt (pdv 1) pd_int) (pd_call K rfl c C_divisor (pda_cons (pdv 0) (pda_cons (pdv 1) pda_nil))) (pd_un o_neg (pd_call K rfl c C_divisor (pda_cons (pdv 0) (pda_cons (pdv 1) pda_nil)))))) (pdb_one (pds_ret (pd_tup (pda_cons (pd_bin (o_divP K rfl HS c) (pdv 0) (pdv 2)) (pda_cons (pd_bin (o_divP K rfl HS c) (pdv 1) (pdv 2)) pda_nil))))))⟩
/-! #### told -/
theorem sc_told : FnScope ["value", "what"] ["value", "what"] (defScope (top 15)) := ⟨rfl, rfl, rfl, by decide +kernel, rfl, by decide +kernel, by decide +kernel⟩
theorem g_told {wp : DF} {a_BadNumber : Addr} {s_is_ratio s_is_whole s_lowest : DF} (D : DefD K mg "told" (top 15)) (C_is_ratio : CalD P w K mg base 2 "is_ratio" s_is_ratio) (e_BadNumber : ExcD P w K mg base 1 "BadNumber" a_BadNumber ["what", "number"]) (C_is_whole : CalD P w K mg base 1 "is_whole" s_is_whole) (C_lowest : CalD P w K mg base 33 "lowest" s_lowest) (h : ∀ ds μ Q F, wp ds μ Q F → ds.length = 2 ∧ w_told K a_BadNumber s_is_ratio s_is_whole s_lowest { nx := fun _ μ' => Q .non μ', rt := Q } F (dstart ["value", "what"] ds) μ) : CalD P w K mg base 34 "told" wp := by
  refine cal_of (wb := w_told K a_BadNumber s_is_ratio s_is_whole s_lowest) D sc_told (fun _ _ _ _ _ _ us hl => match us, hl with | [_, _], _ => rfl) (fun f cdv A outer s H E c => ?_) h
  exact ⟨_, (pdb_cons (pds_if (pdt_not (pdt_val (pd_call K rfl c C_is_ratio (pda_cons (pdv 0) pda_nil)))) (pdb_one (pds_raise c e_BadNumber (pda_cons (pdv 1) (pda_cons (pdv 0) pda_nil)))) pdb_nil) (pdb_one (pds_ret (pd_if (pdt_val (pd_call K rfl c C_is_whole (pda_cons (pdv 0) pda_nil))) (pd_tup (pda_cons (pdv 0) (pda_cons pd_int pda_nil))) (pd_call K rfl c C_lowest (pda_cons (pd_ixK K rfl (pdv 0) pd_int) (pda_cons (pd_ixK K rfl (pdv 0) pd_int) pda_nil)))))))⟩
/-! #### plus -/
theorem sc_plus : FnScope ["one", "other", "first", "second"] ["one", "other"] (defScope (top 16)) := ⟨rfl, rfl, rfl, by decide +kernel, rfl, by decide +kernel, by decide +kernel⟩
theorem g_plus {wp : DF} {s_told s_lowest : DF} (D : DefD K mg "plus" (top 16)) (C_told : CalD P w K mg base 34 "told" s_told) (C_lowest : CalD P w K mg base 33 "lowest" s_lowest) (h : ∀ ds μ Q F, wp ds μ Q F → ds.length = 2 ∧ w_plus K s_told s_lowest { nx := fun _ μ' => Q .non μ', rt := Q } F (dstart ["one", "other", "first", "second"] ds) μ) : CalD P w K mg base 35 "plus" wp := by
  refine cal_of (wb := w_plus K s_told s_lowest) D sc_plus (fun _ _ _ _ _ _ us hl => match us, hl with | [_, _], _ => rfl) (fun f cdv A outer s H E c => ?_) h
  exact ⟨_, (pdb_cons (pds_par 2 3 c.calm sc_plus.nd (pda_cons (pd_call K rfl c C_told (pda_cons (pdv 0) (pda_cons pd_str pda_nil))) (pda_cons (pd_call K rfl c C_told (pda_cons (pdv 1) (pda_cons pd_str pda_nil))) pda_nil))) (pdb_one (pds_ret (pd_call K rfl c C_lowest (pda_cons (pd_bin (o_addK K rfl) (pd_bin o_mul (pd_ixK K rfl (pdv 2) pd_int) (pd_ixK K rfl (pdv 3) pd_int)) (pd_bin o_mul (pd_ixK K rfl (pdv 3) pd_int) (pd_ixK K rfl (pdv 2) pd_int))) (pda_cons (pd_bin o_mul (pd_ixK K rfl (pdv 2) pd_int) (pd_ixK K rfl (pdv 3) pd_int)) pda_nil))))))⟩
/-! #### times -/
theorem sc_times : FnScope ["one", "other", "first", "second"] ["one", "other"] (defScope (top 17)) := ⟨rfl, rfl, rfl, by decide +kernel, rfl, by decide +kernel, by decide +kernel⟩
theorem g_times {wp : DF} {s_told s_lowest : DF} (D : DefD K mg "times" (top 17)) (C_told : CalD P w K mg base 34 "told" s_told) (C_lowest : CalD P w K mg base 33 "lowest" s_lowest) (h : ∀ ds μ Q F, wp ds μ Q F → ds.length = 2 ∧ w_times K s_told s_lowest { nx := fun _ μ' => Q .non μ', rt := Q } F (dstart ["one", "other", "first", "second"] ds) μ) : CalD P w K mg base 35 "times" wp := by
  refine cal_of (wb := w_times K s_told s_lowest) D sc_times (fun _ _ _ _ _ _ us hl => match us, hl with | [_, _], _ => rfl) (fun f cdv A outer s H E c => ?_) h
  exact ⟨_, (pdb_cons (pds_par 2 3 c.calm sc_times.nd (pda_cons (pd_call K rfl c C_told (pda_cons (pdv 0) (pda_cons pd_str pda_nil))) (pda_cons (pd_call K rfl c C_told (pda_cons (pdv 1) (pda_cons pd_str pda_nil))) pda_nil))) (pdb_one (pds_ret (pd_call K rfl c C_lowest (pda_cons (pd_bin o_mul (pd_ixK K rfl (pdv 2) pd_int) (pd_ixK K rfl (pdv 3) pd_int)) (pda_cons (pd_bin o_mul (pd_ixK K rfl (pdv 2) pd_int) (pd_ixK K rfl (pdv 3) pd_int)) pda_nil))))))⟩
/-! #### Poly.__init__ -/
theorem sc_Poly___init__ : FnScope ["self", "numbers", "ratio", "row", "many", "k"] ["self", "numbers"] (defScope (mth 19 0)) := ⟨rfl, rfl, rfl, by decide +kernel, rfl, by decide +kernel, by decide +kernel⟩
theorem g_Poly___init__ {wp : DF} {a_BadRow a_Poly : Addr} {s_is_ratio s_told : DF} {fm : Addr} (D : DefQ K fm "__init__" "Poly.__init__" (mth 19 0)) (B : ∀ x ∈ (["list", "tuple", "isinstance", "all", "enumerate", "max"] : List Str), mg x = none) (C_is_ratio : CalD P w K mg base 2 "is_ratio" s_is_ratio) (e_BadRow : ExcD P w K mg base 1 "BadRow" a_BadRow ["row"]) (C_told : CalD P w K mg base 34 "told" s_told) (F_numbers : Flds K "numbers" [a_Poly]) (h : ∀ ds μ Q F, wp ds μ Q F → ds.length = 2 ∧ w_Poly___init__ K a_BadRow a_Poly s_is_ratio s_told { nx := fun _ μ' => Q .non μ', rt := Q } F (dstart ["self", "numbers", "ratio", "row", "many", "k"] ds) μ) : FnD P w K mg base 35 fm wp := by
  refine fnD_of (wb := w_Poly___init__ K a_BadRow a_Poly s_is_ratio s_told) D sc_Poly___init__ (fun _ _ _ _ _ _ us hl => match us, hl with | [_, _], _ => rfl) (fun cdv A outer s H E c => ?_) h
  exact ⟨_, (pdb_cons (pds_if (pdw_or (pdt_not (pdt_val (pd_callB (c_isi K rfl) (B "isinstance" (by decide)) bt_isinstance (pda_cons (pdv 1) (pda_cons (pd_tup (pda_cons (pd_ty (B "tuple" (by decide)) bt_tuple) (pda_cons (pd_ty (B "list" (by decide)) bt_list) pda_nil))) pda_nil))))) (pdw_or1 (pdt_not (pdt_val (pd_callB (c_allLK K rfl c.calm) (B "all" (by decide)) bt_all (pda_cons (pd_lc (own := [("ratio", 2)]) c sc_Poly___init__.nd (pdi_seq (pdv 1)) (blkOk_by (N := ["self", "numbers", "ratio", "row", "many", "k"]) (sc := defScope (mth 19 0)) (by decide +kernel)) (fun _ _ _ _ _ => (pdg_name 2 sc_Poly___init__.nd)) (fun _ _ _ _ _ c => pdts_nil) (fun _ _ _ _ _ c => (pd_call K rfl c C_is_ratio (pda_cons (pdv 2) pda_nil)))) pda_nil)))))).pdt (pdb_one (pds_raise c e_BadRow (pda_cons (pdv 1) pda_nil))) pdb_nil) (pdb_cons (pds_set 3 sc_Poly___init__.nd (pd_callT (c_tupleK K rfl) (B "tuple" (by decide)) bt_tuple (pda_cons (pd_lc (own := [("ratio", 2)]) c sc_Poly___init__.nd (pdi_seq (pdv 1)) (blkOk_by (N := ["self", "numbers", "ratio", "row", "many", "k"]) (sc := defScope (mth 19 0)) (by decide +kernel)) (fun _ _ _ _ _ => (pdg_name 2 sc_Poly___init__.nd)) (fun _ _ _ _ _ c => pdts_nil) (fun _ _ _ _ _ c => (pd_call K rfl c C_told (pda_cons (pdv 2) (pda_cons pd_str pda_nil))))) pda_nil))) (pdb_cons (pds_set 4 sc_Poly___init__.nd (pd_callB (c_maxLK K rfl c.calm) (B "max" (by decide)) bt_max (pda_cons (pd_bin (o_addK K rfl) (pd_lst (pda_cons pd_int pda_nil)) (pd_lc (own := [("k", 5), ("ratio", 2)]) c sc_Poly___init__.nd (pdi_enumA (B "enumerate" (by decide)) (pda_cons (pdv 3) pda_nil)) (blkOk_by (N := ["self", "numbers", "ratio", "row", "many", "k"]) (sc := defScope (mth 19 0)) (by decide +kernel)) (fun _ _ _ _ _ => (pdg_tupK K rfl c.calm (pdgs_cons (pdg_name 5 sc_Poly___init__.nd) (pdgs_cons (pdg_name 2 sc_Poly___init__.nd) pdgs_nil)))) (fun _ _ _ _ _ c => (pdts_one (pdt_cmp (o_neK K rfl c.hu) (pd_ixK K rfl (pdv 2) pd_int) pd_int))) (fun _ _ _ _ _ c => (pd_bin (o_addK K rfl) (pdv 5) pd_int)))) pda_nil))) (pdb_one (pds_fst F_numbers (pdv 0) (pd_sliceK K rfl (pdv 3) pdo_none (pdo_some (pdv 4))))))))⟩
/-! #### Poly.__eq__ -/
theorem sc_Poly___eq__ : FnScope ["self", "other"] ["self", "other"] (defScope (mth 19 1)) := ⟨rfl, rfl, rfl, by decide +kernel, rfl, by decide +kernel, by decide +kernel⟩
theorem g_Poly___eq__ {wp : DF} {a_Poly : Addr} {fm : Addr} (D : DefQ K fm "__eq__" "Poly.__eq__" (mth 19 1)) (B : ∀ x ∈ (["isinstance"] : List Str), mg x = none) (m_Poly : mg "Poly" = some (.ref a_Poly)) (F_numbers : Flds K "numbers" [a_Poly]) (h : ∀ ds μ Q F, wp ds μ Q F → ds.length = 2 ∧ w_Poly___eq__ K a_Poly { nx := fun _ μ' => Q .non μ', rt := Q } F (dstart ["self", "other"] ds) μ) : FnD P w K mg base 1 fm wp := by
  refine fnD_of (wb := w_Poly___eq__ K a_Poly) D sc_Poly___eq__ (fun _ _ _ _ _ _ us hl => match us, hl with | [_, _], _ => rfl) (fun cdv A outer s H E c => ?_) h
  exact ⟨_, (pdb_one (pds_ret (pd_and (pd_callB (c_isi K rfl) (B "isinstance" (by decide)) bt_isinstance (pda_cons (pdv 1) (pda_cons (pd_raw m_Poly) pda_nil))) (pd_one (pd_cmp (o_eqK K rfl c.hu) (pd_fldK K rfl F_numbers (pdv 0)) (pd_fldK K rfl F_numbers (pdv 1)))))))⟩
/-! #### summed -/
theorem sc_summed : FnScope ["one", "other", "sign", "wide", "first", "second", "a", "b"] ["one", "other", "sign"] (defScope (top 22)) := ⟨rfl, rfl, rfl, by decide +kernel, rfl, by decide +kernel, by decide +kernel⟩
theorem g_summed {wp : DF} {a_Poly : Addr} {s_plus s_Poly : DF} (D : DefD K mg "summed" (top 22)) (B : ∀ x ∈ (["len", "max", "zip"] : List Str), mg x = none) (F_numbers : Flds K "numbers" [a_Poly]) {i_Poly : DF} (N_Poly : NewD P w K mg base 35 "Poly" a_Poly i_Poly s_Poly) (C_plus : CalD P w K mg base 35 "plus" s_plus) (h : ∀ ds μ Q F, wp ds μ Q F → ds.length = 3 ∧ w_summed K a_Poly s_plus s_Poly { nx := fun _ μ' => Q .non μ', rt := Q } F (dstart ["one", "other", "sign", "wide", "first", "second", "a", "b"] ds) μ) : CalD P w K mg base 37 "summed" wp := by
  refine cal_of (wb := w_summed K a_Poly s_plus s_Poly) D sc_summed (fun _ _ _ _ _ _ us hl => match us, hl with | [_, _, _], _ => rfl) (fun f cdv A outer s H E c => ?_) h
  exact ⟨_, (pdb_cons (pds_set 3 sc_summed.nd (pd_callB (c_maxLK K rfl c.calm) (B "max" (by decide)) bt_max (pda_cons (pd_lst (pda_cons (pd_callB (c_lenK K rfl) (B "len" (by decide)) bt_len (pda_cons (pd_fldK K rfl F_numbers (pdv 0)) pda_nil)) (pda_cons (pd_callB (c_lenK K rfl) (B "len" (by decide)) bt_len (pda_cons (pd_fldK K rfl F_numbers (pdv 1)) pda_nil)) pda_nil))) pda_nil))) (pdb_cons (pds_set 4 sc_summed.nd (pd_bin (o_addK K rfl) (pd_fldK K rfl F_numbers (pdv 0)) (pd_bin (o_repK K rfl) (pd_tup (pda_cons (pd_tup (pda_cons pd_int (pda_cons pd_int pda_nil))) pda_nil)) (pd_bin o_sub (pdv 3) (pd_callB (c_lenK K rfl) (B "len" (by decide)) bt_len (pda_cons (pd_fldK K rfl F_numbers (pdv 0)) pda_nil)))))) (pdb_cons (pds_set 5 sc_summed.nd (pd_bin (o_addK K rfl) (pd_fldK K rfl F_numbers (pdv 1)) (pd_bin (o_repK K rfl) (pd_tup (pda_cons (pd_tup (pda_cons pd_int (pda_cons pd_int pda_nil))) pda_nil)) (pd_bin o_sub (pdv 3) (pd_callB (c_lenK K rfl) (B "len" (by decide)) bt_len (pda_cons (pd_fldK K rfl F_numbers (pdv 1)) pda_nil)))))) (pdb_one (pds_ret (pd_new K rfl c N_Poly (pda_cons (pd_lc (own := [("a", 6), ("b", 7)]) c sc_summed.nd (pdi_zipA (B "zip" (by decide)) (pda_cons (pdv 4) (pda_cons (pdv 5) pda_nil))) (blkOk_by (N := ["one", "other", "sign", "wide", "first", "second", "a", "b"]) (sc := defScope (top 22)) (by decide +kernel)) (fun _ _ _ _ _ => (pdg_tupK K rfl c.calm (pdgs_cons (pdg_name 6 sc_summed.nd) (pdgs_cons (pdg_name 7 sc_summed.nd) pdgs_nil)))) (fun _ _ _ _ _ c => pdts_nil) (fun _ _ _ _ _ c => (pd_call K rfl c C_plus (pda_cons (pdv 6) (pda_cons (pd_tup (pda_cons (pd_bin o_mul (pdv 2) (pd_ixK K rfl (pdv 7) pd_int)) (pda_cons (pd_ixK K rfl (pdv 7) pd_int) pda_nil))) pda_nil))))) pda_nil)))))))⟩
/-! #### poly_told -/
theorem sc_poly_told : FnScope ["value"] ["value"] (defScope (top 21)) := ⟨rfl, rfl, rfl, by decide +kernel, rfl, by decide +kernel, by decide +kernel⟩
theorem g_poly_told {wp : DF} {a_Poly : Addr} {s_Poly : DF} (D : DefD K mg "poly_told" (top 21)) (B : ∀ x ∈ (["isinstance"] : List Str), mg x = none) (m_Poly : mg "Poly" = some (.ref a_Poly)) {i_Poly : DF} (N_Poly : NewD P w K mg base 35 "Poly" a_Poly i_Poly s_Poly) (h : ∀ ds μ Q F, wp ds μ Q F → ds.length = 1 ∧ w_poly_told K a_Poly s_Poly { nx := fun _ μ' => Q .non μ', rt := Q } F (dstart ["value"] ds) μ) : CalD P w K mg base 37 "poly_told" wp := by
  refine cal_of (wb := w_poly_told K a_Poly s_Poly) D sc_poly_told (fun _ _ _ _ _ _ us hl => match us, hl with | [_], _ => rfl) (fun f cdv A outer s H E c => ?_) h
  exact ⟨_, (pdb_one (pds_ret (pd_if (pdt_val (pd_callB (c_isi K rfl) (B "isinstance" (by decide)) bt_isinstance (pda_cons (pdv 0) (pda_cons (pd_raw m_Poly) pda_nil)))) (pdv 0) (pd_new K rfl c N_Poly (pda_cons (pd_tup (pda_cons (pdv 0) pda_nil)) pda_nil)))))⟩
/-! #### Poly.__add__ -/
theorem sc_Poly___add__ : FnScope ["self", "other"] ["self", "other"] (defScope (mth 19 2)) := ⟨rfl, rfl, rfl, by decide +kernel, rfl, by decide +kernel, by decide +kernel⟩
theorem g_Poly___add__ {wp : DF} {s_poly_told s_summed : DF} {fm : Addr} (D : DefQ K fm "__add__" "Poly.__add__" (mth 19 2)) (C_summed : CalD P w K mg base 37 "summed" s_summed) (C_poly_told : CalD P w K mg base 37 "poly_told" s_poly_told) (h : ∀ ds μ Q F, wp ds μ Q F → ds.length = 2 ∧ w_Poly___add__ K s_poly_told s_summed { nx := fun _ μ' => Q .non μ', rt := Q } F (dstart ["self", "other"] ds) μ) : FnD P w K mg base 38 fm wp := by
  refine fnD_of (wb := w_Poly___add__ K s_poly_told s_summed) D sc_Poly___add__ (fun _ _ _ _ _ _ us hl => match us, hl with | [_, _], _ => rfl) (fun cdv A outer s H E c => ?_) h
  exact ⟨_, (pdb_one (pds_ret (pd_call K rfl c C_summed (pda_cons (pdv 0) (pda_cons (pd_call K rfl c C_poly_told (pda_cons (pdv 1) pda_nil)) (pda_cons pd_int pda_nil))))))⟩
/-! #### Poly.__radd__ -/
theorem sc_Poly___radd__ : FnScope ["self", "other"] ["self", "other"] (defScope (mth 19 3)) := ⟨rfl, rfl, rfl, by decide +kernel, rfl, by decide +kernel, by decide +kernel⟩
theorem g_Poly___radd__ {wp : DF} {s_poly_told s_summed : DF} {fm : Addr} (D : DefQ K fm "__radd__" "Poly.__radd__" (mth 19 3)) (C_summed : CalD P w K mg base 37 "summed" s_summed) (C_poly_told : CalD P w K mg base 37 "poly_told" s_poly_told) (h : ∀ ds μ Q F, wp ds μ Q F → ds.length = 2 ∧ w_Poly___radd__ K s_poly_told s_summed { nx := fun _ μ' => Q .non μ', rt := Q } F (dstart ["self", "other"] ds) μ) : FnD P w K mg base 38 fm wp := by
  refine fnD_of (wb := w_Poly___radd__ K s_poly_told s_summed) D sc_Poly___radd__ (fun _ _ _ _ _ _ us hl => match us, hl with | [_, _], _ => rfl) (fun cdv A outer s H E c => ?_) h
  exact ⟨_, (pdb_one (pds_ret (pd_call K rfl c C_summed (pda_cons (pd_call K rfl c C_poly_told (pda_cons (pdv 1) pda_nil)) (pda_cons (pdv 0) (pda_cons pd_int pda_nil))))))⟩
/-! #### Poly.__sub__ -/
theorem sc_Poly___sub__ : FnScope ["self", "other"] ["self", "other"] (defScope (mth 19 4)) := ⟨rfl, rfl, rfl, by decide +kernel, rfl, by decide +kernel, by decide +kernel⟩
theorem g_Poly___sub__ {wp : DF} {s_poly_told s_summed : DF} {fm : Addr} (D : DefQ K fm "__sub__" "Poly.__sub__" (mth 19 4)) (C_summed : CalD P w K mg base 37 "summed" s_summed) (C_poly_told : CalD P w K mg base 37 "poly_told" s_poly_told) (h : ∀ ds μ Q F, wp ds μ Q F → ds.length = 2 ∧ w_Poly___sub__ K s_poly_told s_summed { nx := fun _ μ' => Q .non μ', rt := Q } F (dstart ["self", "other"] ds) μ) : FnD P w K mg base 38 fm wp := by
  refine fnD_of (wb := w_Poly___sub__ K s_poly_told s_summed) D sc_Poly___sub__ (fun _ _ _ _ _ _ us hl => match us, hl with | [_, _], _ => rfl) (fun cdv A outer s H E c => ?_) h
  exact ⟨_, (pdb_one (pds_ret (pd_call K rfl c C_summed (pda_cons (pdv 0) (pda_cons (pd_call K rfl c C_poly_told (pda_cons (pdv 1) pda_nil)) (pda_cons (pd_un o_neg pd_int) pda_nil))))))⟩
/-! #### Poly.__rsub__ -/
theorem sc_Poly___rsub__ : FnScope ["self", "other"] ["self", "other"] (defScope (mth 19 5)) := ⟨rfl, rfl, rfl, by decide +kernel, rfl, by decide +kernel, by decide +kernel⟩
theorem g_Poly___rsub__ {wp : DF} {s_poly_told s_summed : DF} {fm : Addr} (D : DefQ K fm "__rsub__" "Poly.__rsub__" (mth 19 5)) (C_summed : CalD P w K mg base 37 "summed" s_summed) (C_poly_told : CalD P w K mg base 37 "poly_told" s_poly_told) (h : ∀ ds μ Q F, wp ds μ Q F → ds.length = 2 ∧ w_Poly___rsub__ K s_poly_told s_summed { nx := fun _ μ' => Q .non μ', rt := Q } F (dstart ["self", "other"] ds) μ) : FnD P w K mg base 38 fm wp := by
  refine fnD_of (wb := w_Poly___rsub__ K s_poly_told s_summed) D sc_Poly___rsub__ (fun _ _ _ _ _ _ us hl => match us, hl with | [_, _], _ => rfl) (fun cdv A outer s H E c => ?_) h
  exact ⟨_, (pdb_one (pds_ret (pd_call K rfl c C_summed (pda_cons (pd_call K rfl c C_poly_told (pda_cons (pdv 1) pda_nil)) (pda_cons (pdv 0) (pda_cons (pd_un o_neg pd_int) pda_nil))))))⟩
/-! #### added_up -/
theorem sc_added_up : FnScope ["ratios", "found", "ratio"] ["ratios"] (defScope (top 23)) := ⟨rfl, rfl, rfl, by decide +kernel, rfl, by decide +kernel, by decide +kernel⟩
theorem g_added_up {wp : DF} {s_plus : DF} (D : DefD K mg "added_up" (top 23)) (C_plus : CalD P w K mg base 35 "plus" s_plus) (h : ∀ ds μ Q F, wp ds μ Q F → ds.length = 1 ∧ w_added_up K s_plus { nx := fun _ μ' => Q .non μ', rt := Q } F (dstart ["ratios", "found", "ratio"] ds) μ) : CalD P w K mg base 36 "added_up" wp := by
  refine cal_of (wb := w_added_up K s_plus) D sc_added_up (fun _ _ _ _ _ _ us hl => match us, hl with | [_], _ => rfl) (fun f cdv A outer s H E c => ?_) h
  exact ⟨_, (pdb_cons (pds_set 1 sc_added_up.nd (pd_tup (pda_cons pd_int (pda_cons pd_int pda_nil)))) (pdb_cons (pds_for (passes_of rfl) c.calm (pdi_seq (pdv 0)) (pdg_name 2 sc_added_up.nd) (pdb_one (pds_set 1 sc_added_up.nd (pd_call K rfl c C_plus (pda_cons (pdv 1) (pda_cons (pdv 2) pda_nil)))))) (pdb_one (pds_ret (pdv 1)))))⟩
/-! #### power_number -/
theorem sc_power_number : FnScope ["one", "other", "place", "start", "stop", "k"] ["one", "other", "place"] (defScope (top 24)) := ⟨rfl, rfl, rfl, by decide +kernel, rfl, by decide +kernel, by decide +kernel⟩
theorem g_power_number {wp : DF} {a_Poly : Addr} {s_times s_added_up : DF} (D : DefD K mg "power_number" (top 24)) (B : ∀ x ∈ (["len", "min", "max", "range"] : List Str), mg x = none) (F_numbers : Flds K "numbers" [a_Poly]) (C_added_up : CalD P w K mg base 36 "added_up" s_added_up) (C_times : CalD P w K mg base 35 "times" s_times) (h : ∀ ds μ Q F, wp ds μ Q F → ds.length = 3 ∧ w_power_number K a_Poly s_times s_added_up { nx := fun _ μ' => Q .non μ', rt := Q } F (dstart ["one", "other", "place", "start", "stop", "k"] ds) μ) : CalD P w K mg base 37 "power_number" wp := by
  refine cal_of (wb := w_power_number K a_Poly s_times s_added_up) D sc_power_number (fun _ _ _ _ _ _ us hl => match us, hl with | [_, _, _], _ => rfl) (fun f cdv A outer s H E c => ?_) h
  exact ⟨_, (pdb_cons (pds_par 3 4 c.calm sc_power_number.nd (pda_cons (pd_callB (c_maxLK K rfl c.calm) (B "max" (by decide)) bt_max (pda_cons (pd_lst (pda_cons pd_int (pda_cons (pd_bin o_sub (pd_bin (o_addK K rfl) (pdv 2) pd_int) (pd_callB (c_lenK K rfl) (B "len" (by decide)) bt_len (pda_cons (pd_fldK K rfl F_numbers (pdv 1)) pda_nil))) pda_nil))) pda_nil)) (pda_cons (pd_callB (c_minLK K rfl c.calm) (B "min" (by decide)) bt_min (pda_cons (pd_lst (pda_cons (pd_bin (o_addK K rfl) (pdv 2) pd_int) (pda_cons (pd_callB (c_lenK K rfl) (B "len" (by decide)) bt_len (pda_cons (pd_fldK K rfl F_numbers (pdv 0)) pda_nil)) pda_nil))) pda_nil)) pda_nil))) (pdb_one (pds_ret (pd_call K rfl c C_added_up (pda_cons (pd_lc (own := [("k", 5)]) c sc_power_number.nd (pdi_range2 (B "range" (by decide)) (pda_cons (pdv 3) (pda_cons (pdv 4) pda_nil))) (blkOk_by (N := ["one", "other", "place", "start", "stop", "k"]) (sc := defScope (top 24)) (by decide +kernel)) (fun _ _ _ _ _ => (pdg_name 5 sc_power_number.nd)) (fun _ _ _ _ _ c => pdts_nil) (fun _ _ _ _ _ c => (pd_call K rfl c C_times (pda_cons (pd_ixK K rfl (pd_fldK K rfl F_numbers (pdv 0)) (pdv 5)) (pda_cons (pd_ixK K rfl (pd_fldK K rfl F_numbers (pdv 1)) (pd_bin o_sub (pdv 2) (pdv 5))) pda_nil))))) pda_nil)))))⟩
/-! #### multiplied -/
theorem sc_multiplied : FnScope ["one", "other", "k"] ["one", "other"] (defScope (top 25)) := ⟨rfl, rfl, rfl, by decide +kernel, rfl, by decide +kernel, by decide +kernel⟩
theorem g_multiplied {wp : DF} {a_Poly : Addr} {s_power_number s_Poly : DF} (D : DefD K mg "multiplied" (top 25)) (B : ∀ x ∈ (["len", "range"] : List Str), mg x = none) {i_Poly : DF} (N_Poly : NewD P w K mg base 35 "Poly" a_Poly i_Poly s_Poly) (F_numbers : Flds K "numbers" [a_Poly]) (C_power_number : CalD P w K mg base 37 "power_number" s_power_number) (h : ∀ ds μ Q F, wp ds μ Q F → ds.length = 2 ∧ w_multiplied K a_Poly s_power_number s_Poly { nx := fun _ μ' => Q .non μ', rt := Q } F (dstart ["one", "other", "k"] ds) μ) : CalD P w K mg base 38 "multiplied" wp := by
  refine cal_of (wb := w_multiplied K a_Poly s_power_number s_Poly) D sc_multiplied (fun _ _ _ _ _ _ us hl => match us, hl with | [_, _], _ => rfl) (fun f cdv A outer s H E c => ?_) h
  exact ⟨_, (pdb_one (pds_ret (pd_new K rfl c N_Poly (pda_cons (pd_lc (own := [("k", 2)]) c sc_multiplied.nd (pdi_range1 (B "range" (by decide)) (pda_cons (pd_bin (o_addK K rfl) (pd_callB (c_lenK K rfl) (B "len" (by decide)) bt_len (pda_cons (pd_fldK K rfl F_numbers (pdv 0)) pda_nil)) (pd_callB (c_lenK K rfl) (B "len" (by decide)) bt_len (pda_cons (pd_fldK K rfl F_numbers (pdv 1)) pda_nil))) pda_nil)) (blkOk_by (N := ["one", "other", "k"]) (sc := defScope (top 25)) (by decide +kernel)) (fun _ _ _ _ _ => (pdg_name 2 sc_multiplied.nd)) (fun _ _ _ _ _ c => pdts_nil) (fun _ _ _ _ _ c => (pd_call K rfl c C_power_number (pda_cons (pdv 0) (pda_cons (pdv 1) (pda_cons (pdv 2) pda_nil)))))) pda_nil))))⟩
/-! #### Poly.__mul__ -/
theorem sc_Poly___mul__ : FnScope ["self", "other"] ["self", "other"] (defScope (mth 19 6)) := ⟨rfl, rfl, rfl, by decide +kernel, rfl, by decide +kernel, by decide +kernel⟩
theorem g_Poly___mul__ {wp : DF} {s_poly_told s_multiplied : DF} {fm : Addr} (D : DefQ K fm "__mul__" "Poly.__mul__" (mth 19 6)) (C_multiplied : CalD P w K mg base 38 "multiplied" s_multiplied) (C_poly_told : CalD P w K mg base 37 "poly_told" s_poly_told) (h : ∀ ds μ Q F, wp ds μ Q F → ds.length = 2 ∧ w_Poly___mul__ K s_poly_told s_multiplied { nx := fun _ μ' => Q .non μ', rt := Q } F (dstart ["self", "other"] ds) μ) : FnD P w K mg base 39 fm wp := by
  refine fnD_of (wb := w_Poly___mul__ K s_poly_told s_multiplied) D sc_Poly___mul__ (fun _ _ _ _ _ _ us hl => match us, hl with | [_, _], _ => rfl) (fun cdv A outer s H E c => ?_) h
  exact ⟨_, (pdb_one (pds_ret (pd_call K rfl c C_multiplied (pda_cons (pdv 0) (pda_cons (pd_call K rfl c C_poly_told (pda_cons (pdv 1) pda_nil)) pda_nil)))))⟩
/-! #### Poly.__rmul__ -/
theorem sc_Poly___rmul__ : FnScope ["self", "other"] ["self", "other"] (defScope (mth 19 7)) := ⟨rfl, rfl, rfl, by decide +kernel, rfl, by decide +kernel, by decide +kernel⟩
theorem g_Poly___rmul__ {wp : DF} {s_poly_told s_multiplied : DF} {fm : Addr} (D : DefQ K fm "__rmul__" "Poly.__rmul__" (mth 19 7)) (C_multiplied : CalD P w K mg base 38 "multiplied" s_multiplied) (C_poly_told : CalD P w K mg base 37 "poly_told" s_poly_told) (h : ∀ ds μ Q F, wp ds μ Q F → ds.length = 2 ∧ w_Poly___rmul__ K s_poly_told s_multiplied { nx := fun _ μ' => Q .non μ', rt := Q } F (dstart ["self", "other"] ds) μ) : FnD P w K mg base 39 fm wp := by
  refine fnD_of (wb := w_Poly___rmul__ K s_poly_told s_multiplied) D sc_Poly___rmul__ (fun _ _ _ _ _ _ us hl => match us, hl with | [_, _], _ => rfl) (fun cdv A outer s H E c => ?_) h
  exact ⟨_, (pdb_one (pds_ret (pd_call K rfl c C_multiplied (pda_cons (pd_call K rfl c C_poly_told (pda_cons (pdv 1) pda_nil)) (pda_cons (pdv 0) pda_nil)))))⟩
/-! #### Poly.__neg__ -/
theorem sc_Poly___neg__ : FnScope ["self", "top", "bottom"] ["self"] (defScope (mth 19 8)) := ⟨rfl, rfl, rfl, by decide +kernel, rfl, by decide +kernel, by decide +kernel⟩
theorem g_Poly___neg__ {wp : DF} {a_Poly : Addr} {s_Poly : DF} {fm : Addr} (D : DefQ K fm "__neg__" "Poly.__neg__" (mth 19 8)) {i_Poly : DF} (N_Poly : NewD P w K mg base 35 "Poly" a_Poly i_Poly s_Poly) (F_numbers : Flds K "numbers" [a_Poly]) (h : ∀ ds μ Q F, wp ds μ Q F → ds.length = 1 ∧ w_Poly___neg__ K a_Poly s_Poly { nx := fun _ μ' => Q .non μ', rt := Q } F (dstart ["self", "top", "bottom"] ds) μ) : FnD P w K mg base 37 fm wp := by
  refine fnD_of (wb := w_Poly___neg__ K a_Poly s_Poly) D sc_Poly___neg__ (fun _ _ _ _ _ _ us hl => match us, hl with | [_], _ => rfl) (fun cdv A outer s H E c => ?_) h
  exact ⟨_, (pdb_one (pds_ret (pd_new K rfl c N_Poly (pda_cons (pd_lc (own := [("top", 1), ("bottom", 2)]) c sc_Poly___neg__.nd (pdi_seq (pd_fldK K rfl F_numbers (pdv 0))) (blkOk_by (N := ["self", "top", "bottom"]) (sc := defScope (mth 19 8)) (by decide +kernel)) (fun _ _ _ _ _ => (pdg_tupK K rfl c.calm (pdgs_cons (pdg_name 1 sc_Poly___neg__.nd) (pdgs_cons (pdg_name 2 sc_Poly___neg__.nd) pdgs_nil)))) (fun _ _ _ _ _ c => pdts_nil) (fun _ _ _ _ _ c => (pd_tup (pda_cons (pd_un o_neg (pdv 1)) (pda_cons (pdv 2) pda_nil))))) pda_nil))))⟩
/-! #### Poly.degree -/
theorem sc_Poly_degree : FnScope ["self"] ["self"] (defScope (mth 19 9)) := ⟨rfl, rfl, rfl, by decide +kernel, rfl, by decide +kernel, by decide +kernel⟩
theorem g_Poly_degree {wp : DF} {a_Poly : Addr} {fm : Addr} (D : DefQ K fm "degree" "Poly.degree" (mth 19 9)) (B : ∀ x ∈ (["len"] : List Str), mg x = none) (F_numbers : Flds K "numbers" [a_Poly]) (h : ∀ ds μ Q F, wp ds μ Q F → ds.length = 1 ∧ w_Poly_degree K a_Poly { nx := fun _ μ' => Q .non μ', rt := Q } F (dstart ["self"] ds) μ) : FnD P w K mg base 1 fm wp := by
  refine fnD_of (wb := w_Poly_degree K a_Poly) D sc_Poly_degree (fun _ _ _ _ _ _ us hl => match us, hl with | [_], _ => rfl) (fun cdv A outer s H E c => ?_) h
  exact ⟨_, (pdb_one (pds_ret (pd_bin o_sub (pd_callB (c_lenK K rfl) (B "len" (by decide)) bt_len (pda_cons (pd_fldK K rfl F_numbers (pdv 0)) pda_nil)) pd_int)))⟩
/-! #### Poly.lead -/
theorem sc_Poly_lead : FnScope ["self"] ["self"] (defScope (mth 19 10)) := ⟨rfl, rfl, rfl, by decide +kernel, rfl, by decide +kernel, by decide +kernel⟩
theorem g_Poly_lead {wp : DF} {a_Poly : Addr} {fm : Addr} (D : DefQ K fm "lead" "Poly.lead" (mth 19 10)) (B : ∀ x ∈ (["len"] : List Str), mg x = none) (F_numbers : Flds K "numbers" [a_Poly]) (h : ∀ ds μ Q F, wp ds μ Q F → ds.length = 1 ∧ w_Poly_lead K a_Poly { nx := fun _ μ' => Q .non μ', rt := Q } F (dstart ["self"] ds) μ) : FnD P w K mg base 1 fm wp := by
  refine fnD_of (wb := w_Poly_lead K a_Poly) D sc_Poly_lead (fun _ _ _ _ _ _ us hl => match us, hl with | [_], _ => rfl) (fun cdv A outer s H E c => ?_) h
  exact ⟨_, (pdb_one (pds_ret (pd_if (pdt_cmp o_gt (pd_callB (c_lenK K rfl) (B "len" (by decide)) bt_len (pda_cons (pd_fldK K rfl F_numbers (pdv 0)) pda_nil)) pd_int) (pd_ixK K rfl (pd_fldK K rfl F_numbers (pdv 0)) (pd_un o_neg pd_int)) (pd_tup (pda_cons pd_int (pda_cons pd_int pda_nil))))))⟩
/-! #### divisor_of -/
theorem sc_divisor_of : FnScope ["one", "other"] ["one", "other"] (defScope (top 20)) := ⟨rfl, rfl, rfl, by decide +kernel, rfl, by decide +kernel, by decide +kernel⟩
theorem g_divisor_of {wp : DF} (D : DefD K mg "divisor_of" (top 20)) (h : ∀ ds μ Q F, wp ds μ Q F → ds.length = 2 ∧ w_divisor_of K { nx := fun _ μ' => Q .non μ', rt := Q } F (dstart ["one", "other"] ds) μ) : CalD P w K mg base 1 "divisor_of" wp := by
  refine cal_of (wb := w_divisor_of K) D sc_divisor_of (fun _ _ _ _ _ _ us hl => match us, hl with | [_, _], _ => rfl) (fun f cdv A outer s H E c => ?_) h
  exact ⟨_, (pdb_cons (pds_while (passes_of rfl) (pdt_cmp (o_neK K rfl c.hu) (pdv 1) pd_int) (pdb_one (pds_par 0 1 c.calm sc_divisor_of.nd (pda_cons (pdv 1) (pda_cons (pd_bin o_mod (pdv 0) (pdv 1)) pda_nil))))) (pdb_one (pds_ret (pdv 0))))⟩
/-! #### Poly.at -/
theorem sc_Poly_at : FnScope ["self", "point", "top", "bottom", "found", "power", "common_bottom", "under", "number"] ["self", "point"] (defScope (mth 19 11)) := ⟨rfl, rfl, rfl, by decide +kernel, rfl, by decide +kernel, by decide +kernel⟩
theorem g_Poly_at {wp : DF} {a_Poly : Addr} {s_told s_divisor_of s_lowest : DF} {fm : Addr} (D : DefQ K fm "at" "Poly.at" (mth 19 11)) (B : ∀ x ∈ (["len"] : List Str), mg x = none) (C_told : CalD P w K mg base 34 "told" s_told) (F_numbers : Flds K "numbers" [a_Poly]) (HS : SysP P base) (C_divisor_of : CalD P w K mg base 1 "divisor_of" s_divisor_of) (C_lowest : CalD P w K mg base 33 "lowest" s_lowest) (h : ∀ ds μ Q F, wp ds μ Q F → ds.length = 2 ∧ w_Poly_at K a_Poly s_told s_divisor_of s_lowest { nx := fun _ μ' => Q .non μ', rt := Q } F (dstart ["self", "point", "top", "bottom", "found", "power", "common_bottom", "under", "number"] ds) μ) : FnD P w K mg base 35 fm wp := by
  refine fnD_of (wb := w_Poly_at K a_Poly s_told s_divisor_of s_lowest) D sc_Poly_at (fun _ _ _ _ _ _ us hl => match us, hl with | [_, _], _ => rfl) (fun cdv A outer s H E c => ?_) h
  exact ⟨_, (pdb_cons (pds_asg (pd_call K rfl c C_told (pda_cons (pdv 1) (pda_cons pd_str pda_nil))) (pdg_tupK K rfl c.calm (pdgs_cons (pdg_name 2 sc_Poly_at.nd) (pdgs_cons (pdg_name 3 sc_Poly_at.nd) pdgs_nil)))) (pdb_cons (pds_asg (pd_tup (pda_cons pd_int (pda_cons pd_int pda_nil))) (pdg_tupK K rfl c.calm (pdgs_cons (pdg_name 4 sc_Poly_at.nd) (pdgs_cons (pdg_name 5 sc_Poly_at.nd) pdgs_nil)))) (pdb_cons (pds_set 6 sc_Poly_at.nd pd_int) (pdb_cons (pds_for (passes_of rfl) c.calm (pdi_seq (pd_lc (own := [("number", 8)]) c sc_Poly_at.nd (pdi_seq (pd_fldK K rfl F_numbers (pdv 0))) (blkOk_by (N := ["self", "point", "top", "bottom", "found", "power", "common_bottom", "under", "number"]) (sc := defScope (mth 19 11)) (by decide +kernel)) (fun _ _ _ _ _ => (pdg_name 8 sc_Poly_at.nd)) (fun _ _ _ _ _ c => pdts_nil) (fun _ _ _ _ _ c => (pd_ixK K rfl (pdv 8) pd_int)))) (pdg_name 7 sc_Poly_at.nd) (pdb_one (pds_set 6 sc_Poly_at.nd (pd_bin (o_divP K rfl HS c) (pd_bin o_mul (pdv 6) (pdv 7)) (pd_call K rfl c C_divisor_of (pda_cons (pdv 6) (pda_cons (pdv 7) pda_nil))))))) (pdb_cons (pds_for (passes_of rfl) c.calm (pdi_seq (pd_revK K rfl (pd_fldK K rfl F_numbers (pdv 0)))) (pdg_name 8 sc_Poly_at.nd) (pdb_cons (pds_set 4 sc_Poly_at.nd (pd_bin (o_addK K rfl) (pd_bin o_mul (pdv 4) (pdv 2)) (pd_bin o_mul (pd_bin o_mul (pd_ixK K rfl (pdv 8) pd_int) (pd_bin (o_divP K rfl HS c) (pdv 6) (pd_ixK K rfl (pdv 8) pd_int))) (pdv 5)))) (pdb_one (pds_set 5 sc_Poly_at.nd (pd_bin o_mul (pdv 5) (pdv 3)))))) (pdb_one (pds_ret (pd_call K rfl c C_lowest (pda_cons (pdv 4) (pda_cons (pd_bin o_mul (pdv 6) (pd_if (pdt_cmp o_gt (pd_callB (c_lenK K rfl) (B "len" (by decide)) bt_len (pda_cons (pd_fldK K rfl F_numbers (pdv 0)) pda_nil)) pd_int) (pd_bin (o_divP K rfl HS c) (pdv 5) (pdv 3)) pd_int)) pda_nil))))))))))⟩
/-! #### _law_pen -/
theorem sc__law_pen : FnScope ["_law_script", "_law_fold", "_law_cell"] ["_law_script"] (defScope (top 27)) := ⟨rfl, rfl, rfl, by decide +kernel, rfl, by decide +kernel, by decide +kernel⟩
theorem g__law_pen {wp : DF} (D : DefD K mg "_law_pen" (top 27)) (B : ∀ x ∈ (["int", "list"] : List Str), mg x = none) (h : ∀ ds μ Q F, wp ds μ Q F → ds.length = 1 ∧ w__law_pen K { nx := fun _ μ' => Q .non μ', rt := Q } F (dstart ["_law_script", "_law_fold", "_law_cell"] ds) μ) : CalD P w K mg base 1 "_law_pen" wp := by
  refine cal_of (wb := w__law_pen K) D sc__law_pen (fun _ _ _ _ _ _ us hl => match us, hl with | [_], _ => rfl) (fun f cdv A outer s H E c => ?_) h
  exact ⟨_, (pdb_cons (pds_set 1 sc__law_pen.nd pd_int) (pdb_cons (pds_for (passes_of rfl) c.calm (pdi_seq (pdv 0)) (pdg_name 2 sc__law_pen.nd) (pdb_one (pds_set 1 sc__law_pen.nd (pd_bin o_mod (pd_callT c_int (B "int" (by decide)) bt_int (pda_cons (pd_bin (o_addK K rfl) (pd_bin o_mul (pdv 1) pd_int) (pdv 2)) pda_nil)) pd_int)))) (pdb_one (pds_ret (pd_dctM (PPD.cons pd_str (pd_callT (c_listK K rfl) (B "list" (by decide)) bt_list (pda_cons (pdv 0) pda_nil)) (PPD.cons pd_str pd_int (PPD.cons pd_str pd_int (PPD.cons pd_str pd_int (PPD.cons pd_str (pdv 1) PPD.nil))))))))))⟩
/-! #### _law_draw -/
theorem sc__law_draw : FnScope ["_law_pen_here", "_law_many", "_law_cell", "_law_digit", "_law_mixed"] ["_law_pen_here", "_law_many"] (defScope (top 28)) := ⟨rfl, rfl, rfl, by decide +kernel, rfl, by decide +kernel, by decide +kernel⟩
theorem g__law_draw {wp : DF} (D : DefD K mg "_law_draw" (top 28)) (B : ∀ x ∈ (["len", "int"] : List Str), mg x = none) (HS : SysP P base) (h : ∀ ds μ Q F, wp ds μ Q F → ds.length = 2 ∧ w__law_draw K { nx := fun _ μ' => Q .non μ', rt := Q } F (dstart ["_law_pen_here", "_law_many", "_law_cell", "_law_digit", "_law_mixed"] ds) μ) : CalD P w K mg base 33 "_law_draw" wp := by
  refine cal_of (wb := w__law_draw K) D sc__law_draw (fun _ _ _ _ _ _ us hl => match us, hl with | [_, _], _ => rfl) (fun f cdv A outer s H E c => ?_) h
  exact ⟨_, (pdb_cons (pds_dput c.hu1 (pdv 0) pd_str (pd_bin (o_addK K rfl) (pd_dget c.hu1 (pdv 0) pd_str) pd_int)) (pdb_cons (pds_if (pdw_and (pdt_cmp (o_eqK K rfl c.hu) (pd_dget c.hu1 (pdv 0) pd_str) pd_int) (pdw_and1 (pdt_cmp o_lt (pd_dget c.hu1 (pdv 0) pd_str) (pd_callB (c_lenK K rfl) (B "len" (by decide)) bt_len (pda_cons (pd_dget c.hu1 (pdv 0) pd_str) pda_nil))))).pdt (pdb_cons (pds_set 2 sc__law_draw.nd (pd_ixK K rfl (pd_dget c.hu1 (pdv 0) pd_str) (pd_dget c.hu1 (pdv 0) pd_str))) (pdb_cons (pds_dput c.hu1 (pdv 0) pd_str (pd_bin (o_addK K rfl) (pd_dget c.hu1 (pdv 0) pd_str) pd_int)) (pdb_one (pds_if (pdt_cmp o_ge (pdv 2) (pd_bin o_pow pd_int pd_int)) (pdb_one (pds_dput c.hu1 (pdv 0) pd_str (pd_bin o_sub (pdv 2) (pd_bin o_pow pd_int pd_int)))) (pdb_one (pds_dput c.hu1 (pdv 0) pd_str (pd_bin o_mod (pd_callT c_int (B "int" (by decide)) bt_int (pda_cons (pd_bin (o_addK K rfl) (pd_bin o_mul (pd_dget c.hu1 (pdv 0) pd_str) pd_int) (pdv 2)) pda_nil)) pd_int))))))) pdb_nil) (pdb_cons (pds_if (pdt_cmp o_gt (pd_dget c.hu1 (pdv 0) pd_str) pd_int) (pdb_cons (pds_set 3 sc__law_draw.nd (pd_bin o_mod (pd_callT c_int (B "int" (by decide)) bt_int (pda_cons (pd_dget c.hu1 (pdv 0) pd_str) pda_nil)) (pdv 1))) (pdb_cons (pds_dput c.hu1 (pdv 0) pd_str (pd_bin (o_divP K rfl HS c) (pd_dget c.hu1 (pdv 0) pd_str) (pdv 1))) (pdb_one (pds_ret (pdv 3))))) pdb_nil) (pdb_cons (pds_set 4 sc__law_draw.nd (pd_bin (o_addK K rfl) (pd_bin (o_addK K rfl) (pd_dget c.hu1 (pdv 0) pd_str) (pd_bin o_mul (pd_dget c.hu1 (pdv 0) pd_str) pd_int)) pd_int)) (pdb_one (pds_ret (pd_bin o_mod (pd_bin (o_divP K rfl HS c) (pd_callT c_int (B "int" (by decide)) bt_int (pda_cons (pd_bin o_mod (pd_bin o_pow (pdv 4) pd_int) pd_int) pda_nil)) pd_int) (pdv 1))))))))⟩
/-! #### _law_pick -/
theorem sc__law_pick : FnScope ["_law_pen_here", "_law_some"] ["_law_pen_here", "_law_some"] (defScope (top 29)) := ⟨rfl, rfl, rfl, by decide +kernel, rfl, by decide +kernel, by decide +kernel⟩
theorem g__law_pick {wp : DF} {s__law_draw : DF} (D : DefD K mg "_law_pick" (top 29)) (B : ∀ x ∈ (["len"] : List Str), mg x = none) (C__law_draw : CalD P w K mg base 33 "_law_draw" s__law_draw) (h : ∀ ds μ Q F, wp ds μ Q F → ds.length = 2 ∧ w__law_pick K s__law_draw { nx := fun _ μ' => Q .non μ', rt := Q } F (dstart ["_law_pen_here", "_law_some"] ds) μ) : CalD P w K mg base 34 "_law_pick" wp := by
  refine cal_of (wb := w__law_pick K s__law_draw) D sc__law_pick (fun _ _ _ _ _ _ us hl => match us, hl with | [_, _], _ => rfl) (fun f cdv A outer s H E c => ?_) h
  exact ⟨_, (pdb_one (pds_ret (pd_ixK K rfl (pdv 1) (pd_call K rfl c C__law_draw (pda_cons (pdv 0) (pda_cons (pd_callB (c_lenK K rfl) (B "len" (by decide)) bt_len (pda_cons (pdv 1) pda_nil)) pda_nil))))))⟩
/-! #### _law_gcd -/
theorem sc__law_gcd : FnScope ["_law_one", "_law_two", "_law_lap"] ["_law_one", "_law_two"] (defScope (top 30)) := ⟨rfl, rfl, rfl, by decide +kernel, rfl, by decide +kernel, by decide +kernel⟩
theorem g__law_gcd {wp : DF} (D : DefD K mg "_law_gcd" (top 30)) (B : ∀ x ∈ (["abs", "range", "int"] : List Str), mg x = none) (h : ∀ ds μ Q F, wp ds μ Q F → ds.length = 2 ∧ w__law_gcd K { nx := fun _ μ' => Q .non μ', rt := Q } F (dstart ["_law_one", "_law_two", "_law_lap"] ds) μ) : CalD P w K mg base 1 "_law_gcd" wp := by
  refine cal_of (wb := w__law_gcd K) D sc__law_gcd (fun _ _ _ _ _ _ us hl => match us, hl with | [_, _], _ => rfl) (fun f cdv A outer s H E c => ?_) h
  exact ⟨_, (pdb_cons (pds_par 0 1 c.calm sc__law_gcd.nd (pda_cons (pd_callB c_abs (B "abs" (by decide)) bt_abs (pda_cons (pdv 0) pda_nil)) (pda_cons (pd_callB c_abs (B "abs" (by decide)) bt_abs (pda_cons (pdv 1) pda_nil)) pda_nil))) (pdb_cons (pds_for (passes_of rfl) c.calm (pdi_range1 (B "range" (by decide)) (pda_cons pd_int pda_nil)) (pdg_name 2 sc__law_gcd.nd) (pdb_cons (pds_if (pdt_cmp (o_eqK K rfl c.hu) (pdv 1) pd_int) (pdb_one pds_brk) pdb_nil) (pdb_one (pds_par 0 1 c.calm sc__law_gcd.nd (pda_cons (pdv 1) (pda_cons (pd_bin o_mod (pd_callT c_int (B "int" (by decide)) bt_int (pda_cons (pdv 0) pda_nil)) (pdv 1)) pda_nil)))))) (pdb_one (pds_ret (pdv 0)))))⟩
/-! #### _law_q -/
theorem sc__law_q : FnScope ["_law_top", "_law_bottom", "_law_by"] ["_law_top", "_law_bottom"] (defScope (top 31)) := ⟨rfl, rfl, rfl, by decide +kernel, rfl, by decide +kernel, by decide +kernel⟩
theorem g__law_q {wp : DF} {s__law_gcd : DF} (D : DefD K mg "_law_q" (top 31)) (C__law_gcd : CalD P w K mg base 1 "_law_gcd" s__law_gcd) (HS : SysP P base) (h : ∀ ds μ Q F, wp ds μ Q F → ds.length = 2 ∧ w__law_q K s__law_gcd { nx := fun _ μ' => Q .non μ', rt := Q } F (dstart ["_law_top", "_law_bottom", "_law_by"] ds) μ) : CalD P w K mg base 33 "_law_q" wp := by
  refine cal_of (wb := w__law_q K s__law_gcd) D sc__law_q (fun _ _ _ _ _ _ us hl => match us, hl with | [_, _], _ => rfl) (fun f cdv A outer s H E c => ?_) h
  exact ⟨_, (pdb_cons (pds_set 2 sc__law_q.nd (pd_call K rfl c C__law_gcd (pda_cons (pdv 0) (pda_cons (pdv 1) pda_nil)))) (pdb_cons (pds_set 2 sc__law_q.nd (pd_if (pdt_cmp o_lt (pdv 1) pd_int) (pd_un o_neg (pdv 2)) (pdv 2))) (pdb_one (pds_ret (pd_tup (pda_cons (pd_bin (o_divP K rfl HS c) (pdv 0) (pdv 2)) (pda_cons (pd_bin (o_divP K rfl HS c) (pdv 1) (pdv 2)) pda_nil)))))))⟩
/-! #### _law_passed -/
theorem sc__law_passed : FnScope ["_law_pen_here", "_law_ratio_here", "_law_by"] ["_law_pen_here", "_law_ratio_here"] (defScope (top 32)) := ⟨rfl, rfl, rfl, by decide +kernel, rfl, by decide +kernel, by decide +kernel⟩
theorem g__law_passed {wp : DF} {s__law_draw s__law_pick : DF} (D : DefD K mg "_law_passed" (top 32)) (C__law_draw : CalD P w K mg base 33 "_law_draw" s__law_draw) (C__law_pick : CalD P w K mg base 34 "_law_pick" s__law_pick) (h : ∀ ds μ Q F, wp ds μ Q F → ds.length = 2 ∧ w__law_passed K s__law_draw s__law_pick { nx := fun _ μ' => Q .non μ', rt := Q } F (dstart ["_law_pen_here", "_law_ratio_here", "_law_by"] ds) μ) : CalD P w K mg base 35 "_law_passed" wp := by
  refine cal_of (wb := w__law_passed K s__law_draw s__law_pick) D sc__law_passed (fun _ _ _ _ _ _ us hl => match us, hl with | [_, _], _ => rfl) (fun f cdv A outer s H E c => ?_) h
  exact ⟨_, (pdb_cons (pds_if (pdw_and (pdt_cmp (o_eqK K rfl c.hu) (pd_ixK K rfl (pdv 1) pd_int) pd_int) (pdw_and1 (pdt_cmp (o_eqK K rfl c.hu) (pd_call K rfl c C__law_draw (pda_cons (pdv 0) (pda_cons pd_int pda_nil))) pd_int))).pdt (pdb_one (pds_ret (pd_ixK K rfl (pdv 1) pd_int))) pdb_nil) (pdb_cons (pds_set 2 sc__law_passed.nd (pd_call K rfl c C__law_pick (pda_cons (pdv 0) (pda_cons (pd_lst (pda_cons pd_int (pda_cons pd_int (pda_cons pd_int (pda_cons pd_int pda_nil))))) pda_nil)))) (pdb_one (pds_ret (pd_call K rfl c C__law_pick (pda_cons (pdv 0) (pda_cons (pd_lst (pda_cons (pd_tup (pda_cons (pd_bin o_mul (pd_ixK K rfl (pdv 1) pd_int) (pdv 2)) (pda_cons (pd_bin o_mul (pd_ixK K rfl (pdv 1) pd_int) (pdv 2)) pda_nil))) (pda_cons (pd_lst (pda_cons (pd_bin o_mul (pd_ixK K rfl (pdv 1) pd_int) (pdv 2)) (pda_cons (pd_bin o_mul (pd_ixK K rfl (pdv 1) pd_int) (pdv 2)) pda_nil))) pda_nil))) pda_nil)))))))⟩
/-! #### _law_ratio -/
theorem sc__law_ratio : FnScope ["_law_pen_here", "_law_most", "_law_bottom"] ["_law_pen_here", "_law_most"] (defScope (top 33)) := ⟨rfl, rfl, rfl, by decide +kernel, rfl, by decide +kernel, by decide +kernel⟩
theorem g__law_ratio {wp : DF} {s__law_draw s__law_pick s__law_q : DF} (D : DefD K mg "_law_ratio" (top 33)) (C__law_pick : CalD P w K mg base 34 "_law_pick" s__law_pick) (C__law_draw : CalD P w K mg base 33 "_law_draw" s__law_draw) (C__law_q : CalD P w K mg base 33 "_law_q" s__law_q) (h : ∀ ds μ Q F, wp ds μ Q F → ds.length = 2 ∧ w__law_ratio K s__law_draw s__law_pick s__law_q { nx := fun _ μ' => Q .non μ', rt := Q } F (dstart ["_law_pen_here", "_law_most", "_law_bottom"] ds) μ) : CalD P w K mg base 35 "_law_ratio" wp := by
  refine cal_of (wb := w__law_ratio K s__law_draw s__law_pick s__law_q) D sc__law_ratio (fun _ _ _ _ _ _ us hl => match us, hl with | [_, _], _ => rfl) (fun f cdv A outer s H E c => ?_) h
  exact ⟨_, (pdb_cons (pds_set 2 sc__law_ratio.nd (pd_call K rfl c C__law_pick (pda_cons (pdv 0) (pda_cons (pd_lst (pda_cons pd_int (pda_cons pd_int (pda_cons pd_int (pda_cons pd_int (pda_cons pd_int (pda_cons pd_int (pda_cons (pd_bin (o_addK K rfl) pd_int (pd_call K rfl c C__law_draw (pda_cons (pdv 0) (pda_cons pd_int pda_nil)))) pda_nil)))))))) pda_nil)))) (pdb_one (pds_ret (pd_call K rfl c C__law_q (pda_cons (pd_bin o_sub (pd_call K rfl c C__law_draw (pda_cons (pdv 0) (pda_cons (pd_bin (o_addK K rfl) (pd_bin o_mul (pd_bin o_mul pd_int (pdv 1)) (pdv 2)) pd_int) pda_nil))) (pd_bin o_mul (pdv 1) (pdv 2))) (pda_cons (pdv 2) pda_nil))))))⟩
/-! #### _law_poly -/
theorem sc__law_poly : FnScope ["_law_numbers", "_law_found", "_law_lap"] ["_law_numbers"] (defScope (top 34)) := ⟨rfl, rfl, rfl, by decide +kernel, rfl, by decide +kernel, by decide +kernel⟩
theorem g__law_poly {wp : DF} (D : DefD K mg "_law_poly" (top 34)) (B : ∀ x ∈ (["list", "len", "range"] : List Str), mg x = none) (h : ∀ ds μ Q F, wp ds μ Q F → ds.length = 1 ∧ w__law_poly K { nx := fun _ μ' => Q .non μ', rt := Q } F (dstart ["_law_numbers", "_law_found", "_law_lap"] ds) μ) : CalD P w K mg base 1 "_law_poly" wp := by
  refine cal_of (wb := w__law_poly K) D sc__law_poly (fun _ _ _ _ _ _ us hl => match us, hl with | [_], _ => rfl) (fun f cdv A outer s H E c => ?_) h
  exact ⟨_, (pdb_cons (pds_set 1 sc__law_poly.nd (pd_callT (c_listMK K rfl) (B "list" (by decide)) bt_list (pda_cons (pdv 0) pda_nil))) (pdb_cons (pds_for (passes_of rfl) c.calm (pdi_range1 (B "range" (by decide)) (pda_cons (pd_callB (c_lenK K rfl) (B "len" (by decide)) bt_len (pda_cons (pdv 0) pda_nil)) pda_nil)) (pdg_name 2 sc__law_poly.nd) (pdb_cons (pds_if (pdw_or (pdt_cmp (o_eqK K rfl c.hu) (pdv 1) (pd_lst pda_nil)) (pdw_or1 (pdt_cmp (o_neK K rfl c.hu) (pd_ixK K rfl (pd_ixK K rfl (pdv 1) (pd_un o_neg pd_int)) pd_int) pd_int))).pdt (pdb_one pds_brk) pdb_nil) (pdb_one (pds_expr (pd_pop (pdv 1)))))) (pdb_one (pds_ret (pdv 1)))))⟩
/-! #### _law_why -/
theorem sc__law_why : FnScope ["_law_call", "e"] ["_law_call"] (defScope (top 35)) := ⟨rfl, rfl, rfl, by decide +kernel, rfl, by decide +kernel, by decide +kernel⟩
theorem g__law_why {wT : (M → DK → FK → Prop) → M → DK → Prop} {a_BadNumber a_BadRow a_BadText a_Pole a_TooMany a_TooWide a_Unlike : Addr} (D : DefD K mg "_law_why" (top 35)) (B : ∀ x ∈ (["repr"] : List Str), mg x = none) (HS : SysP P base) (x_Pole : ExF K mg "Pole" a_Pole []) (x_TooWide : ExF K mg "TooWide" a_TooWide []) (x_Unlike : ExF K mg "Unlike" a_Unlike ["what"]) (x_TooMany : ExF K mg "TooMany" a_TooMany ["limit", "what"]) (x_BadRow : ExF K mg "BadRow" a_BadRow ["row"]) (x_BadNumber : ExF K mg "BadNumber" a_BadNumber ["number", "what"]) (x_BadText : ExF K mg "BadText" a_BadText ["column"]) (h : ∀ (wl : M → DK → FK → Prop) (μ : M) (Q : DK), wT wl μ Q → ∀ (f : Addr) (G0 : Hp), w__law_why K a_BadNumber a_BadRow a_BadText a_Pole a_TooMany a_TooWide a_Unlike (wLam f G0 wl) { nx := fun _ μ' => Q .non μ', rt := Q } (fun _ _ => False) (dstart ["_law_call", "e"] [.lam f G0]) μ) : LamD P w K mg base 0 "_law_why" wT := by
  refine lam_of (w__law_why K a_BadNumber a_BadRow a_BadText a_Pole a_TooMany a_TooWide a_Unlike) D sc__law_why rfl (Or.inl rfl) (by decide) (by decide) (fun _ _ _ _ _ _ us hl => match us, hl with | [_], _ => rfl) (fun g cdv A outer s H wl c te act => ?_) h
  exact ⟨_, (pdb_cons (pds_tryE c sc__law_why.nd (fun W' pn xe c => (act W' pn xe _ _ c.tk)) (ClD.cons (c := .ref a_BadText) ⟨rfl, by decide, Or.inl x_BadText.gC⟩ (i := 1) rfl rfl (fun a oe cls d pn cs z hf => (pdb_one (pds_ret (pd_tup (pda_cons pd_str (pda_cons (pd_xf x_BadText.xf (x_BadText.no "column" (by decide)) z hf (pdv 1)) pda_nil)))))) (ClD.cons (c := .ref a_BadNumber) ⟨rfl, by decide, Or.inl x_BadNumber.gC⟩ (i := 1) rfl rfl (fun a oe cls d pn cs z hf => (pdb_one (pds_ret (pd_tup (pda_cons pd_str (pda_cons (pd_xf x_BadNumber.xf (x_BadNumber.no "what" (by decide)) z hf (pdv 1)) (pda_cons (pd_callB (c_repr K rfl HS.b cs.gd cs.hu) (B "repr" (by decide)) bt_repr (pda_cons (pd_xf x_BadNumber.xf (x_BadNumber.no "number" (by decide)) z hf (pdv 1)) pda_nil)) pda_nil))))))) (ClD.cons (c := .ref a_BadRow) ⟨rfl, by decide, Or.inl x_BadRow.gC⟩ (i := 1) rfl rfl (fun a oe cls d pn cs z hf => (pdb_one (pds_ret (pd_tup (pda_cons pd_str (pda_cons (pd_callB (c_repr K rfl HS.b cs.gd cs.hu) (B "repr" (by decide)) bt_repr (pda_cons (pd_xf x_BadRow.xf (x_BadRow.no "row" (by decide)) z hf (pdv 1)) pda_nil)) pda_nil)))))) (ClD.cons (c := .ref a_TooMany) ⟨rfl, by decide, Or.inl x_TooMany.gC⟩ (i := 1) rfl rfl (fun a oe cls d pn cs z hf => (pdb_one (pds_ret (pd_tup (pda_cons pd_str (pda_cons (pd_xf x_TooMany.xf (x_TooMany.no "what" (by decide)) z hf (pdv 1)) (pda_cons (pd_xf x_TooMany.xf (x_TooMany.no "limit" (by decide)) z hf (pdv 1)) pda_nil))))))) (ClD.cons (c := .ref a_Unlike) ⟨rfl, by decide, Or.inl x_Unlike.gC⟩ (i := 1) rfl rfl (fun a oe cls d pn cs z hf => (pdb_one (pds_ret (pd_tup (pda_cons pd_str (pda_cons (pd_xf x_Unlike.xf (x_Unlike.no "what" (by decide)) z hf (pdv 1)) pda_nil)))))) (ClD.cons (c := .ref a_TooWide) ⟨rfl, by decide, Or.inl x_TooWide.gC⟩ (i := 1) rfl rfl (fun a oe cls d pn cs z hf => (pdb_one (pds_ret (pd_tup (pda_cons pd_str pda_nil))))) (ClD.cons (c := .ref a_Pole) ⟨rfl, by decide, Or.inl x_Pole.gC⟩ (i := 1) rfl rfl (fun a oe cls d pn cs z hf => (pdb_one (pds_ret (pd_tup (pda_cons pd_str pda_nil))))) ClD.nil)))))))) (pdb_one (pds_ret pd_non)))⟩
/-! #### _law_any -/
theorem sc__law_any : FnScope ["_law_pen_here", "_law_some"] ["_law_pen_here"] (defScope (top 36)) := ⟨rfl, rfl, rfl, by decide +kernel, rfl, by decide +kernel, by decide +kernel⟩
theorem g__law_any {wp : DF} {s__law_pick : DF} (D : DefD K mg "_law_any" (top 36)) (C__law_pick : CalD P w K mg base 34 "_law_pick" s__law_pick) (h : ∀ ds μ Q F, wp ds μ Q F → ds.length = 1 ∧ w__law_any K s__law_pick { nx := fun _ μ' => Q .non μ', rt := Q } F (dstart ["_law_pen_here", "_law_some"] ds) μ) : CalD P w K mg base 35 "_law_any" wp := by
  refine cal_of (wb := w__law_any K s__law_pick) D sc__law_any (fun _ _ _ _ _ _ us hl => match us, hl with | [_], _ => rfl) (fun f cdv A outer s H E c => ?_) h
  exact ⟨_, (pdb_cons (pds_set 1 sc__law_any.nd (pd_lst (pda_cons pd_non (pda_cons pd_bl (pda_cons pd_str (pda_cons (pd_tup (pda_cons pd_int (pda_cons pd_int pda_nil))) (pda_cons (pd_tup (pda_cons pd_int (pda_cons (pd_un o_neg pd_int) pda_nil))) (pda_cons (pd_tup (pda_cons pd_int (pda_cons pd_bl pda_nil))) (pda_cons (pd_lst (pda_cons pd_int pda_nil)) (pda_cons (pd_tup (pda_cons pd_int (pda_cons pd_int (pda_cons pd_int pda_nil)))) (pda_cons (pd_dct (PPD.cons pd_str pd_int PPD.nil)) (pda_cons (pd_tup (pda_cons pd_str (pda_cons pd_int pda_nil))) (pda_cons (pd_tup (pda_cons pd_non (pda_cons pd_int pda_nil))) (pda_cons (pd_tup (pda_cons pd_bl (pda_cons pd_int pda_nil))) pda_nil)))))))))))))) (pdb_one (pds_ret (pd_call K rfl c C__law_pick (pda_cons (pdv 0) (pda_cons (pd_bin (o_addK K rfl) (pdv 1) (pd_lst (pda_cons (pd_lst (pda_cons pd_int (pda_cons pd_bl pda_nil))) (pda_cons (pd_tup (pda_cons (pd_tup (pda_cons pd_int (pda_cons pd_int pda_nil))) (pda_cons pd_int pda_nil))) (pda_cons (pd_tup pda_nil) pda_nil))))) pda_nil))))))⟩
/-! #### _law_far -/
theorem sc__law_far : FnScope ["_law_pen_here", "_law_found", "_law_k"] ["_law_pen_here"] (defScope (top 37)) := ⟨rfl, rfl, rfl, by decide +kernel, rfl, by decide +kernel, by decide +kernel⟩
theorem g__law_far {wp : DF} {s__law_pick s__law_draw : DF} (D : DefD K mg "_law_far" (top 37)) (B : ∀ x ∈ (["range"] : List Str), mg x = none) (C__law_pick : CalD P w K mg base 34 "_law_pick" s__law_pick) (C__law_draw : CalD P w K mg base 33 "_law_draw" s__law_draw) (h : ∀ ds μ Q F, wp ds μ Q F → ds.length = 1 ∧ w__law_far K s__law_pick s__law_draw { nx := fun _ μ' => Q .non μ', rt := Q } F (dstart ["_law_pen_here", "_law_found", "_law_k"] ds) μ) : CalD P w K mg base 35 "_law_far" wp := by
  refine cal_of (wb := w__law_far K s__law_pick s__law_draw) D sc__law_far (fun _ _ _ _ _ _ us hl => match us, hl with | [_], _ => rfl) (fun f cdv A outer s H E c => ?_) h
  exact ⟨_, (pdb_cons (pds_set 1 sc__law_far.nd pd_int) (pdb_cons (pds_for (passes_of rfl) c.calm (pdi_range1 (B "range" (by decide)) (pda_cons (pd_call K rfl c C__law_pick (pda_cons (pdv 0) (pda_cons (pd_lst (pda_cons pd_int (pda_cons pd_int (pda_cons pd_int (pda_cons pd_int (pda_cons pd_int pda_nil)))))) pda_nil))) pda_nil)) (pdg_name 2 sc__law_far.nd) (pdb_one (pds_set 1 sc__law_far.nd (pd_bin (o_addK K rfl) (pd_bin o_mul (pdv 1) pd_int) (pd_call K rfl c C__law_draw (pda_cons (pdv 0) (pda_cons pd_int pda_nil))))))) (pdb_one (pds_ret (pd_if (pdt_cmp o_gt (pd_call K rfl c C__law_draw (pda_cons (pdv 0) (pda_cons pd_int pda_nil))) pd_int) (pdv 1) (pd_un o_neg (pdv 1)))))))⟩
/-! #### _law_some_ratio -/
theorem sc__law_some_ratio : FnScope ["_law_pen_here"] ["_law_pen_here"] (defScope (top 38)) := ⟨rfl, rfl, rfl, by decide +kernel, rfl, by decide +kernel, by decide +kernel⟩
theorem g__law_some_ratio {wp : DF} {s__law_far s__law_q : DF} (D : DefD K mg "_law_some_ratio" (top 38)) (B : ∀ x ∈ (["abs"] : List Str), mg x = none) (C__law_q : CalD P w K mg base 33 "_law_q" s__law_q) (C__law_far : CalD P w K mg base 35 "_law_far" s__law_far) (h : ∀ ds μ Q F, wp ds μ Q F → ds.length = 1 ∧ w__law_some_ratio K s__law_far s__law_q { nx := fun _ μ' => Q .non μ', rt := Q } F (dstart ["_law_pen_here"] ds) μ) : CalD P w K mg base 36 "_law_some_ratio" wp := by
  refine cal_of (wb := w__law_some_ratio K s__law_far s__law_q) D sc__law_some_ratio (fun _ _ _ _ _ _ us hl => match us, hl with | [_], _ => rfl) (fun f cdv A outer s H E c => ?_) h
  exact ⟨_, (pdb_one (pds_ret (pd_call K rfl c C__law_q (pda_cons (pd_call K rfl c C__law_far (pda_cons (pdv 0) pda_nil)) (pda_cons (pd_bin (o_addK K rfl) pd_int (pd_callB c_abs (B "abs" (by decide)) bt_abs (pda_cons (pd_call K rfl c C__law_far (pda_cons (pdv 0) pda_nil)) pda_nil))) pda_nil)))))⟩
/-! #### law -/
theorem sc_law : FnScope ["_law_script", "_law_pen_here", "_law_lap", "_law_numbers", "_law_k", "_law_given", "_law_number", "_law_due", "_law_made", "_law_lists", "_law_other", "_law_flat", "_law_odd", "_law_wrong", "_law_strange"] ["_law_script"] (defScope (top 39)) := ⟨rfl, rfl, rfl, by decide +kernel, rfl, by decide +kernel, by decide +kernel⟩
theorem g_law {wp : DF} {a_Poly : Addr} {s__law_pen s__law_draw s__law_some_ratio s__law_ratio s__law_pick s__law_passed s__law_poly s_Poly s_Poly___eq__ s_Poly_degree s_Poly_lead s__law_any : DF} {T : List (Addr × Str)} {t__law_why : (M → DK → FK → Prop) → M → DK → Prop} {cc P0 : Addr} (TB : LamX.TabB base mg cc P0) (hmT : (P0, ("law.<locals>.<lambda>" : Str)) ∈ T) (D : DefT K mg "law" (top 39) cc) (B : ∀ x ∈ (["range", "tuple", "list", "repr", "len"] : List Str), mg x = none) (C__law_pen : CalD P w K mg base 1 "_law_pen" s__law_pen) (C__law_draw : CalD P w K mg base 33 "_law_draw" s__law_draw) (C__law_pick : CalD P w K mg base 34 "_law_pick" s__law_pick) (C__law_some_ratio : CalD P w K mg base 36 "_law_some_ratio" s__law_some_ratio) (C__law_ratio : CalD P w K mg base 35 "_law_ratio" s__law_ratio) (C__law_passed : CalD P w K mg base 35 "_law_passed" s__law_passed) (C__law_poly : CalD P w K mg base 1 "_law_poly" s__law_poly) {i_Poly : DF} (N_Poly : NewD P w K mg base 35 "Poly" a_Poly i_Poly s_Poly) (F_numbers : Flds K "numbers" [a_Poly]) (HS : SysP P base) (Q_Poly : OwnEq P w K mg base 1 a_Poly s_Poly___eq__) (M_degree : ∀ p ∈ ([(a_Poly, s_Poly_degree)] : List (Addr × DF)), MetD P w K mg base 1 p.1 "degree" p.2) (M_lead : ∀ p ∈ ([(a_Poly, s_Poly_lead)] : List (Addr × DF)), MetD P w K mg base 1 p.1 "lead" p.2) (C__law_any : CalD P w K mg base 35 "_law_any" s__law_any) (L__law_why : LamD P w K mg base 0 "_law_why" t__law_why) (h : ∀ ds μ Q F, wp ds μ Q F → ds.length = 1 ∧ w_law K a_Poly s__law_pen s__law_draw s__law_some_ratio s__law_ratio s__law_pick s__law_passed s__law_poly s_Poly s_Poly___eq__ s_Poly_degree s_Poly_lead s__law_any T t__law_why { nx := fun _ μ' => Q .non μ', rt := Q } F (dstart ["_law_script", "_law_pen_here", "_law_lap", "_law_numbers", "_law_k", "_law_given", "_law_number", "_law_due", "_law_made", "_law_lists", "_law_other", "_law_flat", "_law_odd", "_law_wrong", "_law_strange"] ds) μ) : CalD P w K mg base 39 "law" wp := by
  refine cal_ofT (wb := w_law K a_Poly s__law_pen s__law_draw s__law_some_ratio s__law_ratio s__law_pick s__law_passed s__law_poly s_Poly s_Poly___eq__ s_Poly_degree s_Poly_lead s__law_any T t__law_why) D sc_law (fun _ _ _ _ _ _ us hl => match us, hl with | [_], _ => rfl) (fun f A outer s H E c => ?_) h
  exact ⟨_, (pdb_cons (pds_set 1 sc_law.nd (pd_call K rfl c C__law_pen (pda_cons (pdv 0) pda_nil))) (pdb_cons (pds_for (passes_of rfl) c.calm (pdi_range1 (B "range" (by decide)) (pda_cons pd_int pda_nil)) (pdg_name 2 sc_law.nd) (pdb_cons (pds_set 3 sc_law.nd (pd_lstM pda_nil)) (pdb_cons (pds_for (passes_of rfl) c.calm (pdi_range1 (B "range" (by decide)) (pda_cons (pd_call K rfl c C__law_draw (pda_cons (pdv 1) (pda_cons pd_int pda_nil))) pda_nil)) (pdg_name 4 sc_law.nd) (pdb_one (pds_expr (pd_app (pdv 3) (pd_call K rfl c C__law_pick (pda_cons (pdv 1) (pda_cons (pd_lst (pda_cons (pd_tup (pda_cons pd_int (pda_cons pd_int pda_nil))) (pda_cons (pd_call K rfl c C__law_ratio (pda_cons (pdv 1) (pda_cons pd_int pda_nil))) (pda_cons (pd_call K rfl c C__law_some_ratio (pda_cons (pdv 1) pda_nil)) pda_nil)))) pda_nil))))))) (pdb_cons (pds_set 3 sc_law.nd (pd_bin (o_addK K rfl) (pdv 3) (pd_bin (o_repK K rfl) (pd_lst (pda_cons (pd_tup (pda_cons pd_int (pda_cons pd_int pda_nil))) pda_nil)) (pd_call K rfl c C__law_draw (pda_cons (pdv 1) (pda_cons pd_int pda_nil)))))) (pdb_cons (pds_setLcM 5 (own := [("_law_number", 6)]) c sc_law.nd (pdi_seq (pd_sliceK K rfl (pdv 3) pdo_none (pdo_some pd_int))) (blkOk_by (N := ["_law_script", "_law_pen_here", "_law_lap", "_law_numbers", "_law_k", "_law_given", "_law_number", "_law_due", "_law_made", "_law_lists", "_law_other", "_law_flat", "_law_odd", "_law_wrong", "_law_strange"]) (sc := defScope (top 39)) (by decide +kernel)) (fun _ _ _ _ _ => (pdg_name 6 sc_law.nd)) (fun _ _ _ _ _ c => pdts_nil) (fun _ _ _ _ _ c => (pd_call K rfl c C__law_passed (pda_cons (pdv 1) (pda_cons (pdv 6) pda_nil))))) (pdb_cons (pds_set 7 sc_law.nd (pd_callT (c_tupleK K rfl) (B "tuple" (by decide)) bt_tuple (pda_cons (pd_call K rfl c C__law_poly (pda_cons (pd_sliceK K rfl (pdv 3) pdo_none (pdo_some pd_int)) pda_nil)) pda_nil))) (pdb_cons (pds_set 8 sc_law.nd (pd_new K rfl c N_Poly (pda_cons (pd_call K rfl c C__law_pick (pda_cons (pdv 1) (pda_cons (pd_lst (pda_cons (pdv 5) (pda_cons (pd_callT (c_tupleK K rfl) (B "tuple" (by decide)) bt_tuple (pda_cons (pdv 5) pda_nil)) pda_nil))) pda_nil))) pda_nil))) (pdb_cons (pds_setLcM 9 (own := [("_law_number", 6)]) c sc_law.nd (pdi_seq (pd_sliceK K rfl (pdv 3) pdo_none (pdo_some pd_int))) (blkOk_by (N := ["_law_script", "_law_pen_here", "_law_lap", "_law_numbers", "_law_k", "_law_given", "_law_number", "_law_due", "_law_made", "_law_lists", "_law_other", "_law_flat", "_law_odd", "_law_wrong", "_law_strange"]) (sc := defScope (top 39)) (by decide +kernel)) (fun _ _ _ _ _ => (pdg_name 6 sc_law.nd)) (fun _ _ _ _ _ c => pdts_nil) (fun _ _ _ _ _ c => (pd_callT (c_listMK K rfl) (B "list" (by decide)) bt_list (pda_cons (pdv 6) pda_nil)))) (pdb_cons (pds_set 10 sc_law.nd (pd_new K rfl c N_Poly (pda_cons (pdv 9) pda_nil))) (pdb_cons (pds_for (passes_of rfl) c.calm (pdi_seq (pdv 9)) (pdg_name 6 sc_law.nd) (pdb_one (pds_asg (pd_bin (o_addK K rfl) (pd_ixK K rfl (pdv 6) pd_int) pd_int) (pdg_sub (W := WD E) (pdv 6) pd_int)))) (pdb_cons (pds_expr (pd_app (pdv 9) (pd_tup (pda_cons pd_int (pda_cons pd_int pda_nil))))) (pdb_cons (pds_if (pdw_or (pdt_cmp (o_neK K rfl c.hu) (pd_callB (c_repr K rfl HS.b c.gd c.hu) (B "repr" (by decide)) bt_repr (pda_cons (pd_fldK K rfl F_numbers (pdv 8)) pda_nil)) (pd_callB (c_repr K rfl HS.b c.gd c.hu) (B "repr" (by decide)) bt_repr (pda_cons (pdv 7) pda_nil))) (pdw_or (pdt_cmp (o_neK K rfl c.hu) (pd_callB (c_repr K rfl HS.b c.gd c.hu) (B "repr" (by decide)) bt_repr (pda_cons (pd_fldK K rfl F_numbers (pdv 10)) pda_nil)) (pd_callB (c_repr K rfl HS.b c.gd c.hu) (B "repr" (by decide)) bt_repr (pda_cons (pdv 7) pda_nil))) (pdw_or1 (pdt_not (pdt_eqO K rfl c Q_Poly (o_eqK K rfl c.hu) (pdv 8) (pdv 10)))))).pdt (pdb_one (pds_ret pd_bl)) pdb_nil) (pdb_cons (pds_if (pdw_or (pdt_cmp (o_neK K rfl c.hu) (pd_met0 (k := 1) K rfl c M_degree (pdv 8)) (pd_bin o_sub (pd_callB (c_lenK K rfl) (B "len" (by decide)) bt_len (pda_cons (pdv 7) pda_nil)) pd_int)) (pdw_or1 (pdt_cmp (o_neK K rfl c.hu) (pd_callB (c_repr K rfl HS.b c.gd c.hu) (B "repr" (by decide)) bt_repr (pda_cons (pd_met0 (k := 1) K rfl c M_lead (pdv 8)) pda_nil)) (pd_callB (c_repr K rfl HS.b c.gd c.hu) (B "repr" (by decide)) bt_repr (pda_cons (pd_if (pdt_cmp (o_neK K rfl c.hu) (pdv 7) (pd_tup pda_nil)) (pd_ixK K rfl (pdv 7) (pd_un o_neg pd_int)) (pd_tup (pda_cons pd_int (pda_cons pd_int pda_nil)))) pda_nil))))).pdt (pdb_one (pds_ret pd_bl)) pdb_nil) (pdb_cons (pds_if (pdw_or (pdw_and (pdt_cmp o_lt (pd_callB (c_lenK K rfl) (B "len" (by decide)) bt_len (pda_cons (pdv 7) pda_nil)) pd_int) (pdw_and1 (pdt_eqO K rfl c Q_Poly (o_eqK K rfl c.hu) (pdv 8) (pd_new K rfl c N_Poly (pda_cons (pd_bin (o_addK K rfl) (pd_callT (c_listK K rfl) (B "list" (by decide)) bt_list (pda_cons (pdv 7) pda_nil)) (pd_lst (pda_cons pd_int pda_nil))) pda_nil))))).pdt (pdw_or (pdt_eqO K rfl c Q_Poly (o_eqK K rfl c.hu) (pdv 8) (pdv 7)) (pdw_or1 (pdt_cmp (o_neK K rfl c.hu) (pd_eqO K rfl c Q_Poly (o_eqK K rfl c.hu) (pdv 8) (pd_new K rfl c N_Poly (pda_cons (pd_tup pda_nil) pda_nil))) (pd_cmp (o_eqK K rfl c.hu) (pdv 7) (pd_tup pda_nil)))))).pdt (pdb_one (pds_ret pd_bl)) pdb_nil) (pdb_cons (pds_set 11 sc_law.nd (pd_call K rfl c C__law_ratio (pda_cons (pdv 1) (pda_cons pd_int pda_nil)))) (pdb_cons (pds_if (pdw_or (pdt_eqO K rfl c Q_Poly (o_eqK K rfl c.hu) (pd_new K rfl c N_Poly (pda_cons (pd_tup (pda_cons (pdv 11) pda_nil)) pda_nil)) (pdv 11)) (pdw_or1 (pdt_eqO K rfl c Q_Poly (o_eqK K rfl c.hu) (pd_new K rfl c N_Poly (pda_cons (pd_tup (pda_cons (pd_ixK K rfl (pdv 11) pd_int) pda_nil)) pda_nil)) (pd_ixK K rfl (pdv 11) pd_int)))).pdt (pdb_one (pds_ret pd_bl)) pdb_nil) (pdb_cons (pds_set 12 sc_law.nd (pd_call K rfl c C__law_any (pda_cons (pdv 1) pda_nil))) (pdb_cons (pds_if (pdt_cmp (o_neK K rfl c.hu) (pdv 5) (pd_lst pda_nil)) (pdb_cons (pds_asg (pdv 12) (pdg_sub (W := WD E) (pdv 5) (pd_call K rfl c C__law_draw (pda_cons (pdv 1) (pda_cons (pd_callB (c_lenK K rfl) (B "len" (by decide)) bt_len (pda_cons (pdv 5) pda_nil)) pda_nil))))) (pdb_cons (pds_set 13 sc_law.nd (pd_call K rfl c C__law_pick (pda_cons (pdv 1) (pda_cons (pd_lst (pda_cons (pdv 5) (pda_cons (pd_callT (c_tupleK K rfl) (B "tuple" (by decide)) bt_tuple (pda_cons (pdv 5) pda_nil)) pda_nil))) pda_nil)))) (pdb_one (pds_if (pdt_cmp (o_neK K rfl c.hu) (pd_lamcall (kb := 36) c L__law_why TB rfl hmT (LamX.lamS_by (sc := defScope (top 39)) (by decide +kernel)) rfl (fun _ _ _ _ _ => rfl) (fun A outer s H E f c2 c => (pd_new K rfl c N_Poly (pda_cons (pdv 13) pda_nil)))) (pd_tup (pda_cons pd_str (pda_cons (pd_callB (c_repr K rfl HS.b c.gd c.hu) (B "repr" (by decide)) bt_repr (pda_cons (pdv 13) pda_nil)) pda_nil)))) (pdb_one (pds_ret pd_bl)) pdb_nil)))) pdb_nil) (pdb_cons (pds_set 14 sc_law.nd (pd_call K rfl c C__law_pick (pda_cons (pdv 1) (pda_cons (pd_lst (pda_cons pd_non (pda_cons pd_int (pda_cons pd_str (pda_cons (pd_dct (PPD.cons pd_str pd_int PPD.nil)) (pda_cons pd_bl pda_nil)))))) pda_nil)))) (pdb_one (pds_if (pdt_cmp (o_neK K rfl c.hu) (pd_lamcall (kb := 36) c L__law_why TB rfl hmT (LamX.lamS_by (sc := defScope (top 39)) (by decide +kernel)) rfl (fun _ _ _ _ _ => rfl) (fun A outer s H E f c2 c => (pd_new K rfl c N_Poly (pda_cons (pdv 14) pda_nil)))) (pd_tup (pda_cons pd_str (pda_cons (pd_callB (c_repr K rfl HS.b c.gd c.hu) (B "repr" (by decide)) bt_repr (pda_cons (pdv 14) pda_nil)) pda_nil)))) (pdb_one (pds_ret pd_bl)) pdb_nil))))))))))))))))))))) (pdb_one (pds_ret pd_bl))))⟩
end
end NC

set_option maxHeartbeats 0
namespace NC
open PySem PySem.Spec PyProof.Rows L2 DL LL PL
open He
def hfn : List He.DefD := [dIni "BadNumber" "BadNumber.__init__" (mth 4 0),
  dIni "BadRow" "BadRow.__init__" (mth 5 0),
  dTop "is_whole" (top 11),
  dTop "is_ratio" (top 12),
  dTop "divisor" (top 13),
  dTop "lowest" (top 14),
  dTop "told" (top 15),
  dTop "plus" (top 16),
  dTop "times" (top 17),
  dMet "Poly" "__init__" "Poly.__init__" (mth 19 0),
  dMet "Poly" "__eq__" "Poly.__eq__" (mth 19 1),
  dTop "summed" (top 22),
  dTop "poly_told" (top 21),
  dMet "Poly" "__add__" "Poly.__add__" (mth 19 2),
  dMet "Poly" "__radd__" "Poly.__radd__" (mth 19 3),
  dMet "Poly" "__sub__" "Poly.__sub__" (mth 19 4),
  dMet "Poly" "__rsub__" "Poly.__rsub__" (mth 19 5),
  dTop "added_up" (top 23),
  dTop "power_number" (top 24),
  dTop "multiplied" (top 25),
  dMet "Poly" "__mul__" "Poly.__mul__" (mth 19 6),
  dMet "Poly" "__rmul__" "Poly.__rmul__" (mth 19 7),
  dMet "Poly" "__neg__" "Poly.__neg__" (mth 19 8),
  dMet "Poly" "degree" "Poly.degree" (mth 19 9),
  dMet "Poly" "lead" "Poly.lead" (mth 19 10),
  dTop "divisor_of" (top 20),
  dMet "Poly" "at" "Poly.at" (mth 19 11),
  dTop "_law_pen" (top 27),
  dTop "_law_draw" (top 28),
  dTop "_law_pick" (top 29),
  dTop "_law_gcd" (top 30),
  dTop "_law_q" (top 31),
  dTop "_law_passed" (top 32),
  dTop "_law_ratio" (top 33),
  dTop "_law_poly" (top 34),
  dTop "_law_why" (top 35),
  dTop "_law_any" (top 36),
  dTop "_law_far" (top 37),
  dTop "_law_some_ratio" (top 38),
  dTop "law" (top 39)]
def hfb : List Fb := [.a (.glo "CurveError"),
  .cin "CurveError",
  .a (.glo "BadNumber"),
  .oex "BadNumber",
  .ini "BadNumber",
  .a (.noat "BadNumber" "what"),
  .a (.noat "BadNumber" "number"),
  .a (.glo "BadRow"),
  .oex "BadRow",
  .ini "BadRow",
  .a (.noat "BadRow" "row"),
  .a (.glo "Pole"),
  .xf "Pole",
  .a (.glo "TooWide"),
  .xf "TooWide",
  .a (.glo "Unlike"),
  .xf "Unlike",
  .a (.noat "Unlike" "what"),
  .a (.glo "TooMany"),
  .xf "TooMany",
  .a (.noat "TooMany" "limit"),
  .a (.noat "TooMany" "what"),
  .xf "BadRow",
  .xf "BadNumber",
  .a (.glo "BadText"),
  .xf "BadText",
  .a (.noat "BadText" "column"),
  .a (.cls "Poly"),
  .a (.noat "Poly" "numbers"),
  .a (.glo "Poly"),
  .a (.free "int"),
  .a (.free "isinstance"),
  .a (.free "bool"),
  .a (.free "list"),
  .a (.free "tuple"),
  .a (.free "len"),
  .a (.free "abs"),
  .a (.free "all"),
  .a (.free "enumerate"),
  .a (.free "max"),
  .a (.free "zip"),
  .a (.free "min"),
  .a (.free "range"),
  .a (.free "repr"),
  .isi "Poly",
  .a (.exm "BadNumber" "BadText" false),
  .a (.exm "BadNumber" "BadNumber" true),
  .a (.exm "BadRow" "BadText" false),
  .a (.exm "BadRow" "BadNumber" false),
  .a (.exm "BadRow" "BadRow" true),
  .a (.exm "BadText" "BadText" true),
  .a (.glo "is_whole"),
  .a (.glo "is_ratio"),
  .a (.glo "divisor"),
  .a (.glo "lowest"),
  .a (.glo "told"),
  .a (.glo "plus"),
  .a (.glo "times"),
  .a (.meth "Poly" "__eq__"),
  .a (.mkr "Poly"),
  .a (.glo "summed"),
  .a (.glo "poly_told"),
  .a (.meth "Poly" "__add__"),
  .a (.meth "Poly" "__radd__"),
  .a (.meth "Poly" "__sub__"),
  .a (.meth "Poly" "__rsub__"),
  .a (.glo "added_up"),
  .a (.glo "power_number"),
  .a (.glo "multiplied"),
  .a (.meth "Poly" "__mul__"),
  .a (.meth "Poly" "__rmul__"),
  .a (.meth "Poly" "__neg__"),
  .a (.meth "Poly" "degree"),
  .a (.meth "Poly" "lead"),
  .a (.glo "divisor_of"),
  .a (.meth "Poly" "at"),
  .a (.glo "_law_pen"),
  .a (.glo "_law_draw"),
  .a (.glo "_law_pick"),
  .a (.glo "_law_gcd"),
  .a (.glo "_law_q"),
  .a (.glo "_law_passed"),
  .a (.glo "_law_ratio"),
  .a (.glo "_law_poly"),
  .a (.glo "_law_why"),
  .a (.glo "_law_any"),
  .a (.glo "_law_far"),
  .a (.glo "_law_some_ratio"),
  .a (.glo "law"),
  .apart (([("law", "law.<locals>.<lambda>")] : List (Str × Str)).map fun p => (p.1, none))]
def htf : List (Str × Str) := [("law", "law.<locals>.<lambda>")]
theorem all_of {P : Program} {w : World} {K : PySem.W.Frag} {h : Heap} {mg : Str → Option Value} (X : K.In h) (G : h.Ns mainGlobals mg) (c : SaysL hfn hfb (htf.map fun p => (p.1, none)) h K) :
    ∃ wp : DF, (∀ (μ : M) (ns : List Int), ns.length ≤ 63 → (∀ z ∈ ns, Builtin.Int.intBits z ≤ 1048576) → TabM (htf.map fun p => ((cT K (p.1, none)).2, p.2)) μ → wp [.ro (ns.map D.int)] μ (fun d _ => d = .bl true) fun _ _ => False) ∧
      ∀ base : Heap, K.In base → base.Ns mainGlobals mg → SysP P base → (∀ p ∈ htf, LamX.TabB base mg (cT K (p.1, none)).1 (cT K (p.1, none)).2) → CalD P w K mg base 39 "law" wp := by
  have e_BadNumber : ∀ base : Heap, ExcD P w K mg base 1 "BadNumber" (ga K "BadNumber") ["what", "number"] := fun base => by
    obtain ⟨fd, F⟩ := c.iniF 0 (x := "BadNumber") (q := "BadNumber.__init__") (st := mth 4 0)
    have iC := c.ini 4 (x := "BadNumber")
    have mB := c.glo X G 0 (x := "CurveError")
    have cB := cinB_ok (B := ga K "CurveError") (c.f 1 (f := .cin "CurveError"))
    refine excd2 (z := "A number that is not allowed.") F (oexB_ok (c.f 3 (f := .oex "BadNumber"))) iC.1 iC.2 (c.glo X G 2) (c.noat 5) (c.noat 6) ⟨rfl, rfl, rfl, by decide +kernel, rfl, by decide +kernel, by decide +kernel⟩ (F.binds (ps := ["self", "what", "number"]) (fun _ _ _ _ _ _ us hl => match us, hl with | [_, _, _], _ => rfl)) (fun cdv A outer s H E => ?_)
    exact pss_cons (ps_expr (pe_ceinit (pl := _) mB cB.1 cB.2 (pa_cons (pv 0) (pa_cons pe_str pa_nil)))) (pss_cons (ps_ost (pv 0) (pv 1)) (pss_one (ps_ost (pv 0) (pv 2))))
  have e_BadRow : ∀ base : Heap, ExcD P w K mg base 1 "BadRow" (ga K "BadRow") ["row"] := fun base => by
    obtain ⟨fd, F⟩ := c.iniF 1 (x := "BadRow") (q := "BadRow.__init__") (st := mth 5 0)
    have iC := c.ini 9 (x := "BadRow")
    have mB := c.glo X G 0 (x := "CurveError")
    have cB := cinB_ok (B := ga K "CurveError") (c.f 1 (f := .cin "CurveError"))
    refine excd1 (z := "A value that is no such row.") F (oexB_ok (c.f 8 (f := .oex "BadRow"))) iC.1 iC.2 (c.glo X G 7) (c.noat 10) ⟨rfl, rfl, rfl, by decide +kernel, rfl, by decide +kernel, by decide +kernel⟩ (F.binds (ps := ["self", "row"]) (fun _ _ _ _ _ _ us hl => match us, hl with | [_, _], _ => rfl)) (fun cdv A outer s H E => ?_)
    exact pss_cons (ps_expr (pe_ceinit (pl := _) mB cB.1 cB.2 (pa_cons (pv 0) (pa_cons pe_str pa_nil)))) (pss_one (ps_ost (pv 0) (pv 1)))
  have x_Pole : ExF K mg "Pole" (ga K "Pole") [] := c.exf X G 11 12 (by rintro f hf; cases hf)
  have x_TooWide : ExF K mg "TooWide" (ga K "TooWide") [] := c.exf X G 13 14 (by rintro f hf; cases hf)
  have x_Unlike : ExF K mg "Unlike" (ga K "Unlike") ["what"] := c.exf X G 15 16 (by rintro f hf; simp only [List.mem_cons, List.not_mem_nil, or_false] at hf; rcases hf with rfl <;> first | exact c.noat 17)
  have x_TooMany : ExF K mg "TooMany" (ga K "TooMany") ["limit", "what"] := c.exf X G 18 19 (by rintro f hf; simp only [List.mem_cons, List.not_mem_nil, or_false] at hf; rcases hf with rfl | rfl <;> first | exact c.noat 20 | exact c.noat 21)
  have x_BadRow : ExF K mg "BadRow" (ga K "BadRow") ["row"] := c.exf X G 7 22 (by rintro f hf; simp only [List.mem_cons, List.not_mem_nil, or_false] at hf; rcases hf with rfl <;> first | exact c.noat 10)
  have x_BadNumber : ExF K mg "BadNumber" (ga K "BadNumber") ["number", "what"] := c.exf X G 2 23 (by rintro f hf; simp only [List.mem_cons, List.not_mem_nil, or_false] at hf; rcases hf with rfl | rfl <;> first | exact c.noat 6 | exact c.noat 5)
  have x_BadText : ExF K mg "BadText" (ga K "BadText") ["column"] := c.exf X G 24 25 (by rintro f hf; simp only [List.mem_cons, List.not_mem_nil, or_false] at hf; rcases hf with rfl <;> first | exact c.noat 26)
  have F_numbers : Flds K "numbers" [ga K "Poly"] := (by rintro f hf; simp only [List.mem_cons, List.not_mem_nil, or_false] at hf; rcases hf with rfl <;> first | exact ⟨c.cls 27 (x := "Poly"), c.noat 28 (x := "Poly")⟩)
  have m_Poly := c.glo X G 29 (x := "Poly")
  have isP := c.isi 44 (x := "Poly")
  have hNT := c.exm 45 (x := "BadNumber") (y := "BadText") (b := false)
  have hNN := c.exm 46 (x := "BadNumber") (y := "BadNumber") (b := true)
  have hRT := c.exm 47 (x := "BadRow") (y := "BadText") (b := false)
  have hRN := c.exm 48 (x := "BadRow") (y := "BadNumber") (b := false)
  have hRR := c.exm 49 (x := "BadRow") (y := "BadRow") (b := true)
  have hTT := c.exm 50 (x := "BadText") (y := "BadText") (b := true)
  have D_is_whole := c.def_ X G 2 51 (x := "is_whole") (st := top 11)
  have D_is_ratio := c.def_ X G 3 52 (x := "is_ratio") (st := top 12)
  have D_divisor := c.def_ X G 4 53 (x := "divisor") (st := top 13)
  have D_lowest := c.def_ X G 5 54 (x := "lowest") (st := top 14)
  have D_told := c.def_ X G 6 55 (x := "told") (st := top 15)
  have D_plus := c.def_ X G 7 56 (x := "plus") (st := top 16)
  have D_times := c.def_ X G 8 57 (x := "times") (st := top 17)
  have D_Poly___init__ := c.metQ 9 (x := "Poly") (m := "__init__") (q := "Poly.__init__") (st := mth 19 0)
  have D_Poly___eq__ := c.metQ 10 (x := "Poly") (m := "__eq__") (q := "Poly.__eq__") (st := mth 19 1)
  have D_summed := c.def_ X G 11 60 (x := "summed") (st := top 22)
  have D_poly_told := c.def_ X G 12 61 (x := "poly_told") (st := top 21)
  have D_Poly___add__ := c.metQ 13 (x := "Poly") (m := "__add__") (q := "Poly.__add__") (st := mth 19 2)
  have D_Poly___radd__ := c.metQ 14 (x := "Poly") (m := "__radd__") (q := "Poly.__radd__") (st := mth 19 3)
  have D_Poly___sub__ := c.metQ 15 (x := "Poly") (m := "__sub__") (q := "Poly.__sub__") (st := mth 19 4)
  have D_Poly___rsub__ := c.metQ 16 (x := "Poly") (m := "__rsub__") (q := "Poly.__rsub__") (st := mth 19 5)
  have D_added_up := c.def_ X G 17 66 (x := "added_up") (st := top 23)
  have D_power_number := c.def_ X G 18 67 (x := "power_number") (st := top 24)
  have D_multiplied := c.def_ X G 19 68 (x := "multiplied") (st := top 25)
  have D_Poly___mul__ := c.metQ 20 (x := "Poly") (m := "__mul__") (q := "Poly.__mul__") (st := mth 19 6)
  have D_Poly___rmul__ := c.metQ 21 (x := "Poly") (m := "__rmul__") (q := "Poly.__rmul__") (st := mth 19 7)
  have D_Poly___neg__ := c.metQ 22 (x := "Poly") (m := "__neg__") (q := "Poly.__neg__") (st := mth 19 8)
  have D_Poly_degree := c.metQ 23 (x := "Poly") (m := "degree") (q := "Poly.degree") (st := mth 19 9)
  have D_Poly_lead := c.metQ 24 (x := "Poly") (m := "lead") (q := "Poly.lead") (st := mth 19 10)
  have D_divisor_of := c.def_ X G 25 74 (x := "divisor_of") (st := top 20)
  have D_Poly_at := c.metQ 26 (x := "Poly") (m := "at") (q := "Poly.at") (st := mth 19 11)
  have D__law_pen := c.def_ X G 27 76 (x := "_law_pen") (st := top 27)
  have D__law_draw := c.def_ X G 28 77 (x := "_law_draw") (st := top 28)
  have D__law_pick := c.def_ X G 29 78 (x := "_law_pick") (st := top 29)
  have D__law_gcd := c.def_ X G 30 79 (x := "_law_gcd") (st := top 30)
  have D__law_q := c.def_ X G 31 80 (x := "_law_q") (st := top 31)
  have D__law_passed := c.def_ X G 32 81 (x := "_law_passed") (st := top 32)
  have D__law_ratio := c.def_ X G 33 82 (x := "_law_ratio") (st := top 33)
  have D__law_poly := c.def_ X G 34 83 (x := "_law_poly") (st := top 34)
  have D__law_why := c.def_ X G 35 84 (x := "_law_why") (st := top 35)
  have D__law_any := c.def_ X G 36 85 (x := "_law_any") (st := top 36)
  have D__law_far := c.def_ X G 37 86 (x := "_law_far") (st := top 37)
  have D__law_some_ratio := c.def_ X G 38 87 (x := "_law_some_ratio") (st := top 38)
  have D_law := c.defT_ X G 39 88 (x := "law") (st := top 39)
  refine ⟨(s_law (htf.map fun p => ((cT K (p.1, none)).2, p.2))), law_due, fun base KB hB hSys hTB => ?_⟩
  have TB_law : LamX.TabB base mg (cT K ("law", none)).1 (cT K ("law", none)).2 := hTB ("law", "law.<locals>.<lambda>") (by unfold htf; simp)
  have hTm_law : ((cT K ("law", none)).2, ("law.<locals>.<lambda>" : Str)) ∈ (htf.map fun p => ((cT K (p.1, none)).2, p.2)) := by unfold htf; simp
  generalize (htf.map fun p => ((cT K (p.1, none)).2, p.2)) = T at hTm_law ⊢
  have C_is_whole : CalD P w K mg base 1 "is_whole" s_is_wholeA := g_is_whole (D := D_is_whole) (B := by rintro x hx; simp only [List.mem_cons, List.not_mem_nil, or_false] at hx; rcases hx with rfl | rfl | rfl <;> first | exact c.free X G 30 | exact c.free X G 31 | exact c.free X G 32) (h := p_is_wholeA K)
  have C_is_ratio : CalD P w K mg base 2 "is_ratio" s_is_ratio := g_is_ratio (D := D_is_ratio) (B := by rintro x hx; simp only [List.mem_cons, List.not_mem_nil, or_false] at hx; rcases hx with rfl | rfl | rfl | rfl <;> first | exact c.free X G 33 | exact c.free X G 34 | exact c.free X G 31 | exact c.free X G 35) (C_is_whole := C_is_whole) (h := p_is_ratio K)
  have C_divisor : CalD P w K mg base 1 "divisor" s_divisor := g_divisor (D := D_divisor) (B := by rintro x hx; simp only [List.mem_cons, List.not_mem_nil, or_false] at hx; rcases hx with rfl <;> first | exact c.free X G 36) (h := p_divisor K)
  have C_lowest : CalD P w K mg base 33 "lowest" s_lowest := g_lowest (D := D_lowest) (C_divisor := C_divisor) (HS := hSys) (h := p_lowest K)
  have C_told : CalD P w K mg base 34 "told" (s_told (ga K "BadNumber")) := g_told (D := D_told) (C_is_ratio := C_is_ratio) (e_BadNumber := e_BadNumber base) (C_is_whole := C_is_whole) (C_lowest := C_lowest) (h := p_told K (ga K "BadNumber"))
  have C_plus : CalD P w K mg base 35 "plus" (s_two (ga K "BadNumber") fun p q => qd (p + q)) := g_plus (D := D_plus) (C_told := C_told) (C_lowest := C_lowest) (h := p_plus K (ga K "BadNumber"))
  have C_times : CalD P w K mg base 35 "times" (s_two (ga K "BadNumber") fun p q => qd (p * q)) := g_times (D := D_times) (C_told := C_told) (C_lowest := C_lowest) (h := p_times K (ga K "BadNumber"))
  have F_Poly___init__ : FnD P w K mg base 35 (ma K (ga K "Poly") "__init__") (s_Poly___init__ (ga K "BadRow") (ga K "Poly")) := g_Poly___init__ (D := D_Poly___init__) (B := by rintro x hx; simp only [List.mem_cons, List.not_mem_nil, or_false] at hx; rcases hx with rfl | rfl | rfl | rfl | rfl | rfl <;> first | exact c.free X G 33 | exact c.free X G 34 | exact c.free X G 31 | exact c.free X G 37 | exact c.free X G 38 | exact c.free X G 39) (C_is_ratio := C_is_ratio) (e_BadRow := e_BadRow base) (C_told := C_told) (F_numbers := F_numbers) (h := p_Poly___init__ K _ _ _)
  have F_Poly___eq__ : FnD P w K mg base 1 (ma K (ga K "Poly") "__eq__") (s_Poly___eq__ (ga K "Poly")) := g_Poly___eq__ (D := D_Poly___eq__) (B := by rintro x hx; simp only [List.mem_cons, List.not_mem_nil, or_false] at hx; rcases hx with rfl <;> first | exact c.free X G 31) (m_Poly := m_Poly) (F_numbers := F_numbers) (h := p_Poly___eq__ K isP)
  have M_Poly___eq__ : MetD P w K mg base 1 (ga K "Poly") "__eq__" (s_Poly___eq__ (ga K "Poly")) := met_of (c.cls 27 (x := "Poly")) (c.meth 58 (x := "Poly") (m := "__eq__")) F_Poly___eq__
  have N_Poly : NewD P w K mg base 35 "Poly" (ga K "Poly") (s_Poly___init__ (ga K "BadRow") (ga K "Poly")) (s_Poly (ga K "BadRow") (ga K "Poly")) := ⟨mak_of (c.glo X G 29 (x := "Poly")) (c.mkr 59 (x := "Poly")) F_Poly___init__, n_Poly _ _⟩
  have C_summed : CalD P w K mg base 37 "summed" (s_summed (ga K "Poly")) := g_summed (D := D_summed) (B := by rintro x hx; simp only [List.mem_cons, List.not_mem_nil, or_false] at hx; rcases hx with rfl | rfl | rfl <;> first | exact c.free X G 35 | exact c.free X G 39 | exact c.free X G 40) (F_numbers := F_numbers) (N_Poly := N_Poly) (C_plus := C_plus) (h := p_summed K _ _ _)
  have C_poly_told : CalD P w K mg base 37 "poly_told" (s_poly_told (ga K "BadRow") (ga K "Poly")) := g_poly_told (D := D_poly_told) (B := by rintro x hx; simp only [List.mem_cons, List.not_mem_nil, or_false] at hx; rcases hx with rfl <;> first | exact c.free X G 31) (m_Poly := m_Poly) (N_Poly := N_Poly) (h := p_poly_told K isP)
  have F_Poly___add__ : FnD P w K mg base 38 (ma K (ga K "Poly") "__add__") (s_bin (ga K "Poly") padd) := g_Poly___add__ (D := D_Poly___add__) (C_summed := C_summed) (C_poly_told := C_poly_told) (h := p_Poly___add__ K _ _)
  have M_Poly___add__ : MetD P w K mg base 38 (ga K "Poly") "__add__" (s_bin (ga K "Poly") padd) := met_of (c.cls 27 (x := "Poly")) (c.meth 62 (x := "Poly") (m := "__add__")) F_Poly___add__
  have F_Poly___radd__ : FnD P w K mg base 38 (ma K (ga K "Poly") "__radd__") (s_bin (ga K "Poly") fun p r => padd r p) := g_Poly___radd__ (D := D_Poly___radd__) (C_summed := C_summed) (C_poly_told := C_poly_told) (h := p_Poly___radd__ K _ _)
  have M_Poly___radd__ : MetD P w K mg base 38 (ga K "Poly") "__radd__" (s_bin (ga K "Poly") fun p r => padd r p) := met_of (c.cls 27 (x := "Poly")) (c.meth 63 (x := "Poly") (m := "__radd__")) F_Poly___radd__
  have F_Poly___sub__ : FnD P w K mg base 38 (ma K (ga K "Poly") "__sub__") (s_bin (ga K "Poly") psub) := g_Poly___sub__ (D := D_Poly___sub__) (C_summed := C_summed) (C_poly_told := C_poly_told) (h := p_Poly___sub__ K _ _)
  have M_Poly___sub__ : MetD P w K mg base 38 (ga K "Poly") "__sub__" (s_bin (ga K "Poly") psub) := met_of (c.cls 27 (x := "Poly")) (c.meth 64 (x := "Poly") (m := "__sub__")) F_Poly___sub__
  have F_Poly___rsub__ : FnD P w K mg base 38 (ma K (ga K "Poly") "__rsub__") (s_bin (ga K "Poly") fun p r => psub r p) := g_Poly___rsub__ (D := D_Poly___rsub__) (C_summed := C_summed) (C_poly_told := C_poly_told) (h := p_Poly___rsub__ K _ _)
  have M_Poly___rsub__ : MetD P w K mg base 38 (ga K "Poly") "__rsub__" (s_bin (ga K "Poly") fun p r => psub r p) := met_of (c.cls 27 (x := "Poly")) (c.meth 65 (x := "Poly") (m := "__rsub__")) F_Poly___rsub__
  have C_added_up : CalD P w K mg base 36 "added_up" (s_added_up) := g_added_up (D := D_added_up) (C_plus := C_plus) (h := p_added_up K _)
  have C_power_number : CalD P w K mg base 37 "power_number" (s_power_number (ga K "Poly")) := g_power_number (D := D_power_number) (B := by rintro x hx; simp only [List.mem_cons, List.not_mem_nil, or_false] at hx; rcases hx with rfl | rfl | rfl | rfl <;> first | exact c.free X G 35 | exact c.free X G 41 | exact c.free X G 39 | exact c.free X G 42) (F_numbers := F_numbers) (C_added_up := C_added_up) (C_times := C_times) (h := p_power_number K _ _)
  have C_multiplied : CalD P w K mg base 38 "multiplied" (s_multiplied (ga K "Poly")) := g_multiplied (D := D_multiplied) (B := by rintro x hx; simp only [List.mem_cons, List.not_mem_nil, or_false] at hx; rcases hx with rfl | rfl <;> first | exact c.free X G 35 | exact c.free X G 42) (N_Poly := N_Poly) (F_numbers := F_numbers) (C_power_number := C_power_number) (h := p_multiplied K _ _)
  have F_Poly___mul__ : FnD P w K mg base 39 (ma K (ga K "Poly") "__mul__") (s_bin (ga K "Poly") pmul) := g_Poly___mul__ (D := D_Poly___mul__) (C_multiplied := C_multiplied) (C_poly_told := C_poly_told) (h := p_Poly___mul__ K _ _)
  have M_Poly___mul__ : MetD P w K mg base 39 (ga K "Poly") "__mul__" (s_bin (ga K "Poly") pmul) := met_of (c.cls 27 (x := "Poly")) (c.meth 69 (x := "Poly") (m := "__mul__")) F_Poly___mul__
  have F_Poly___rmul__ : FnD P w K mg base 39 (ma K (ga K "Poly") "__rmul__") (s_bin (ga K "Poly") fun p r => pmul r p) := g_Poly___rmul__ (D := D_Poly___rmul__) (C_multiplied := C_multiplied) (C_poly_told := C_poly_told) (h := p_Poly___rmul__ K _ _)
  have M_Poly___rmul__ : MetD P w K mg base 39 (ga K "Poly") "__rmul__" (s_bin (ga K "Poly") fun p r => pmul r p) := met_of (c.cls 27 (x := "Poly")) (c.meth 70 (x := "Poly") (m := "__rmul__")) F_Poly___rmul__
  have F_Poly___neg__ : FnD P w K mg base 37 (ma K (ga K "Poly") "__neg__") (s_Poly___neg__ (ga K "Poly")) := g_Poly___neg__ (D := D_Poly___neg__) (N_Poly := N_Poly) (F_numbers := F_numbers) (h := p_Poly___neg__ K _ _)
  have M_Poly___neg__ : MetD P w K mg base 37 (ga K "Poly") "__neg__" (s_Poly___neg__ (ga K "Poly")) := met_of (c.cls 27 (x := "Poly")) (c.meth 71 (x := "Poly") (m := "__neg__")) F_Poly___neg__
  have F_Poly_degree : FnD P w K mg base 1 (ma K (ga K "Poly") "degree") (s_Poly_degree (ga K "Poly")) := g_Poly_degree (D := D_Poly_degree) (B := by rintro x hx; simp only [List.mem_cons, List.not_mem_nil, or_false] at hx; rcases hx with rfl <;> first | exact c.free X G 35) (F_numbers := F_numbers) (h := p_Poly_degree K _)
  have M_Poly_degree : MetD P w K mg base 1 (ga K "Poly") "degree" (s_Poly_degree (ga K "Poly")) := met_of (c.cls 27 (x := "Poly")) (c.meth 72 (x := "Poly") (m := "degree")) F_Poly_degree
  have F_Poly_lead : FnD P w K mg base 1 (ma K (ga K "Poly") "lead") (s_Poly_lead (ga K "Poly")) := g_Poly_lead (D := D_Poly_lead) (B := by rintro x hx; simp only [List.mem_cons, List.not_mem_nil, or_false] at hx; rcases hx with rfl <;> first | exact c.free X G 35) (F_numbers := F_numbers) (h := p_Poly_lead K _)
  have M_Poly_lead : MetD P w K mg base 1 (ga K "Poly") "lead" (s_Poly_lead (ga K "Poly")) := met_of (c.cls 27 (x := "Poly")) (c.meth 73 (x := "Poly") (m := "lead")) F_Poly_lead
  have C_divisor_of : CalD P w K mg base 1 "divisor_of" s_divN := g_divisor_of (D := D_divisor_of) (h := p_divisor_of K)
  have F_Poly_at : FnD P w K mg base 35 (ma K (ga K "Poly") "at") (s_Poly_at (ga K "BadNumber") (ga K "Poly")) := g_Poly_at (D := D_Poly_at) (B := by rintro x hx; simp only [List.mem_cons, List.not_mem_nil, or_false] at hx; rcases hx with rfl <;> first | exact c.free X G 35) (C_told := C_told) (F_numbers := F_numbers) (HS := hSys) (C_divisor_of := C_divisor_of) (C_lowest := C_lowest) (h := p_Poly_at K _ _)
  have M_Poly_at : MetD P w K mg base 35 (ga K "Poly") "at" (s_Poly_at (ga K "BadNumber") (ga K "Poly")) := met_of (c.cls 27 (x := "Poly")) (c.meth 75 (x := "Poly") (m := "at")) F_Poly_at
  have C__law_pen : CalD P w K mg base 1 "_law_pen" s__law_pen := g__law_pen (D := D__law_pen) (B := by rintro x hx; simp only [List.mem_cons, List.not_mem_nil, or_false] at hx; rcases hx with rfl | rfl <;> first | exact c.free X G 30 | exact c.free X G 33) (h := p__law_pen K)
  have C__law_draw : CalD P w K mg base 33 "_law_draw" s__law_draw := g__law_draw (D := D__law_draw) (B := by rintro x hx; simp only [List.mem_cons, List.not_mem_nil, or_false] at hx; rcases hx with rfl | rfl <;> first | exact c.free X G 35 | exact c.free X G 30) (HS := hSys) (h := p__law_draw K)
  have C__law_pick : CalD P w K mg base 34 "_law_pick" s__law_pick := g__law_pick (D := D__law_pick) (B := by rintro x hx; simp only [List.mem_cons, List.not_mem_nil, or_false] at hx; rcases hx with rfl <;> first | exact c.free X G 35) (C__law_draw := C__law_draw) (h := p__law_pick K)
  have C__law_gcd : CalD P w K mg base 1 "_law_gcd" s__law_gcd := g__law_gcd (D := D__law_gcd) (B := by rintro x hx; simp only [List.mem_cons, List.not_mem_nil, or_false] at hx; rcases hx with rfl | rfl | rfl <;> first | exact c.free X G 36 | exact c.free X G 42 | exact c.free X G 30) (h := p__law_gcd K)
  have C__law_q : CalD P w K mg base 33 "_law_q" s__law_q := g__law_q (D := D__law_q) (C__law_gcd := C__law_gcd) (HS := hSys) (h := p__law_q K)
  have C__law_passed : CalD P w K mg base 35 "_law_passed" s__law_passed := g__law_passed (D := D__law_passed) (C__law_draw := C__law_draw) (C__law_pick := C__law_pick) (h := p__law_passed K)
  have C__law_ratio : CalD P w K mg base 35 "_law_ratio" s__law_ratio := g__law_ratio (D := D__law_ratio) (C__law_pick := C__law_pick) (C__law_draw := C__law_draw) (C__law_q := C__law_q) (h := p__law_ratio K)
  have C__law_poly : CalD P w K mg base 1 "_law_poly" s__law_poly := (g__law_poly (h := fun _ _ _ _ z => z) (D := D__law_poly) (B := by rintro x hx; simp only [List.mem_cons, List.not_mem_nil, or_false] at hx; rcases hx with rfl | rfl | rfl <;> first | exact c.free X G 33 | exact c.free X G 35 | exact c.free X G 42)).dn.imp (p__law_poly K)
  have L__law_why : LamD P w K mg base 0 "_law_why" (t__law_why (ga K "BadNumber") (ga K "BadRow") (ga K "BadText")) := g__law_why (D := D__law_why) (B := by rintro x hx; simp only [List.mem_cons, List.not_mem_nil, or_false] at hx; rcases hx with rfl <;> first | exact c.free X G 43) (HS := hSys) (x_Pole := x_Pole) (x_TooWide := x_TooWide) (x_Unlike := x_Unlike) (x_TooMany := x_TooMany) (x_BadRow := x_BadRow) (x_BadNumber := x_BadNumber) (x_BadText := x_BadText) (h := (p__law_why K _ _ _ _ _ _ _ hNT hNN hRT hRN hRR hTT))
  have C__law_any : CalD P w K mg base 35 "_law_any" s__law_any := g__law_any (D := D__law_any) (C__law_pick := C__law_pick) (h := p__law_any K)
  have C__law_far : CalD P w K mg base 35 "_law_far" s__law_far := g__law_far (D := D__law_far) (B := by rintro x hx; simp only [List.mem_cons, List.not_mem_nil, or_false] at hx; rcases hx with rfl <;> first | exact c.free X G 42) (C__law_pick := C__law_pick) (C__law_draw := C__law_draw) (h := p__law_far K)
  have C__law_some_ratio : CalD P w K mg base 36 "_law_some_ratio" s__law_some_ratio := g__law_some_ratio (D := D__law_some_ratio) (B := by rintro x hx; simp only [List.mem_cons, List.not_mem_nil, or_false] at hx; rcases hx with rfl <;> first | exact c.free X G 36) (C__law_q := C__law_q) (C__law_far := C__law_far) (h := p__law_some_ratio K)
  have M_degree : ∀ p ∈ ([(ga K "Poly", (s_Poly_degree (ga K "Poly")))] : List (Addr × DF)), MetD P w K mg base 1 p.1 "degree" p.2 := by
    rintro p hp; simp only [List.mem_cons, List.not_mem_nil, or_false] at hp; rcases hp with rfl
    · exact MetD.mono (M_Poly_degree) (by decide)
  have M_lead : ∀ p ∈ ([(ga K "Poly", (s_Poly_lead (ga K "Poly")))] : List (Addr × DF)), MetD P w K mg base 1 p.1 "lead" p.2 := by
    rintro p hp; simp only [List.mem_cons, List.not_mem_nil, or_false] at hp; rcases hp with rfl
    · exact MetD.mono (M_Poly_lead) (by decide)
  have C_law : CalD P w K mg base 39 "law" (s_law T) := g_law (D := D_law) (TB := TB_law) (T := T) (hmT := hTm_law) (B := by rintro x hx; simp only [List.mem_cons, List.not_mem_nil, or_false] at hx; rcases hx with rfl | rfl | rfl | rfl | rfl <;> first | exact c.free X G 42 | exact c.free X G 34 | exact c.free X G 33 | exact c.free X G 43 | exact c.free X G 35) (C__law_pen := C__law_pen) (C__law_draw := C__law_draw) (C__law_pick := C__law_pick) (C__law_some_ratio := C__law_some_ratio) (C__law_ratio := C__law_ratio) (C__law_passed := C__law_passed) (C__law_poly := C__law_poly) (N_Poly := N_Poly) (F_numbers := F_numbers) (HS := hSys) (Q_Poly := ⟨M_Poly___eq__⟩) (M_degree := M_degree) (M_lead := M_lead) (C__law_any := C__law_any) (L__law_why := L__law_why) (h := p_law K)
  exact C_law
/-! ### the head -/
abbrev HR : PySem.W.OpenRow := PySem.W.OpenLaw.row PySem.Challenge.rw_nearcurves_k03_polynomials_made
abbrev hk : PySem.W.Hook := hookL 5 hfn hfb (htf.map fun p => (p.1, none))
def hob (s : PySem.W.SharedT) : List FnW × Bool := obsL 5 hfn hfb (htf.map fun p => (p.1, none)) (HandSHeadRun.getT s)
theorem hob_eq (s : PySem.W.SharedT) : hob s = hk.obs s.abs := obsL_eq (HandSHeadRun.getT_eq s)
def pw_names0 : List PySem.Str := ["_wall", "__name__", "CurveError", "BadText", "BadNumber", "BadRow", "Unlike", "TooMany", "TooWide", "Pole", "is_whole", "is_ratio", "divisor", "lowest", "told", "plus", "times", "Poly", "divisor_of", "poly_told", "summed", "added_up", "power_number", "multiplied", "_law_pen", "_law_draw", "_law_pick", "_law_gcd", "_law_q", "_law_passed"]
def pw_names1 : List PySem.Str := ["_law_ratio", "_law_poly", "_law_why", "_law_any", "_law_far", "_law_some_ratio", "law"]
def pw_names : List PySem.Str := pw_names0 ++ pw_names1
def loose : List PySem.Str := pw_names.filter fun x => x != "law"
theorem hrun (w : World) : HandSHeadRun.RunEq HR (PySem.W.view HR.prog [39]) hk hob 20000 loose w := by
  intro os
  kernel_rfl
end NC
open PySem PySem.W PySem.Calls PyProof.Rows
theorem PySem.Challenge.cw_nearcurves_k03_polynomials_made_holds : PySem.Challenge.rw_nearcurves_k03_polynomials_made.Holds := by
  w_on; o_law
  refine HandSHeadRun.head_any (r := OpenLaw.row PySem.Challenge.rw_nearcurves_k03_polynomials_made) (q := view (OpenLaw.row PySem.Challenge.rw_nearcurves_k03_polynomials_made).prog [39]) (H := NC.hk) (ob := NC.hob) (M := 20000) (loose := NC.loose) (d := HandSHeadRun.topDef (OpenLaw.row PySem.Challenge.rw_nearcurves_k03_polynomials_made).prog 39) (kwd := []) NC.hob_eq
    (by kernel_rfl) (fun s => by kernel_rfl) NC.hrun (by kernel_rfl) (by kernel_rfl) (by kernel_rfl) (by rfl) (by first | assumption | decide +kernel) (by decide +kernel) ⟨rfl, rfl, rfl, rfl, rfl, by decide +kernel⟩ ?hw ?hc
  case hw => w_witness2
  case hc =>
    refine DL.walk_l (l := PySem.Challenge.rw_nearcurves_k03_polynomials_made) (n := 63) (k := 39) (ja := 89) rfl (by decide) (by kernel_rfl) ⟨rfl, by decide, by decide⟩ (by decide +kernel) rfl rfl ?F
    intro w mg K h KX G c
    have e : (HandSHeadRun.topDef (OpenLaw.row PySem.Challenge.rw_nearcurves_k03_polynomials_made).prog 39).name = ("law" : PySem.Str) := by kernel_rfl
    rw [e]
    exact NC.all_of KX G c
