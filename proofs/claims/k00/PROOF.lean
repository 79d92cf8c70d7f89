import PyProof.Rows.All
import Wide.All
import OpenK.AllK
import Wide.FinOn
import HandS.ForMost
import HandS.ForExc
import HandS.Wide
import HandS.Walk
import HandS.IsInst
import HandS.ExcInit
import HandS.ExcField
import HandS.TryMany
import HandS.Lambda
import HandS.Flow
import HandS.Style
import HandS.TupAny
import HandS.Conv
import HandS.RaiseMore
import HandS.ClsMeth
import HandS.Comp
import HandS.EndTab
import HandS.EndOwn
import HandS.Text
import HandS.Head0
import HandS.Head1
import HandS.Head2
import HandS.HeadHook1
import HandS.HeadHook2
import HandS.HeadHook4
import HandS.HeadWalk
import HandS.Zip
import HandS.TupMul
import KE.GoesMore
import KE.KOpsOwn
import HandS.More
import PyProof.ZipIter
import HandS.Zip0
import KE.GoesEnum
import HandS.WideBits
import PyProof.StrOps2
import HandS.Defaults
import HandS.Small
import HandS.SortInts
import KE.KExcIs
import PySem.Challenge.RW_nearcurves_k00_errors
set_option Elab.async false
set_option linter.all false
set_option maxRecDepth 100000
set_option maxHeartbeats 2000000
/-! A layer over HandS: Python values as data (D), weakest preconditions over data. -/
namespace DL
open PySem PySem.Spec PyProof.Rows L2

abbrev St := L2.St
/-! ### data -/
/-- a value told by what it holds. obj: a handle on a thing that may change; ro: a list that is only read; raw: a def, a class, a type -/
inductive D where
  | non | bl (b : Bool) | int (i : Int) | str (x : Str)
  | lst (xs : List D) | tup (xs : List D) | dct (kvs : List (Key × D))
  | ro (xs : List D) | obj (a : Addr) | raw (v : V) | exc (a : Addr) (dd : Option Addr) (fs : List (Str × D)) | lam (a : Addr) (G : Hp) | ins (C : Addr) (fs : List (Str × D))
/-- what a handle stands for -/
inductive MO where
  | lst (xs : List D) | dct (kvs : List (Key × D)) | ins (C : Addr) (fs : List (Str × D)) | tbl (q : Str)
abbrev M := Addr → Option MO
def mput (μ : M) (a : Addr) (m : MO) : M := fun b => if b = a then some m else μ b
theorem mput_same {μ : M} {a : Addr} {m : MO} : mput μ a m a = some m := if_pos rfl
theorem mput_ne {μ : M} {a b : Addr} {m : MO} (h : b ≠ a) : mput μ a m b = μ b := if_neg h

mutual
inductive R (K : PySem.W.Frag) (G : Hp) : V → D → Prop
  | non : R K G .non .non
  | bl (b : Bool) : R K G (.bl b) (.bl b)
  | int (i : Int) : R K G (.int i) (.int i)
  | str (x : Str) : R K G (.str x) (.str x)
  | lst {a : Addr} {vs : List V} {ds : List D} : G a = some (.lst vs) → RA K G vs ds → R K G (.ref a) (.lst ds)
  | tup {a : Addr} {vs : List V} {ds : List D} : SqT K G a vs → RA K G vs ds → R K G (.ref a) (.tup ds)
  | dct {a : Addr} {kvs : List (Key × V)} {ks : List (Key × D)} : G a = some (.dK kvs) → RK K G kvs ks → R K G (.ref a) (.dct ks)
  | ro {a : Addr} {vs : List V} {ds : List D} : SqL K G a vs → RA K G vs ds → R K G (.ref a) (.ro ds)
  | obj (a : Addr) : R K G (.ref a) (.obj a)
  | raw (v : V) : R K G v (.raw v)
  | exc0 (a : Addr) (dd : Option Addr) : R K G (.ref a) (.exc a dd [])
  | lam (a : Addr) {G0 : Hp} : Same G0 G → R K G (.ref a) (.lam a G0)
  | ins {a C dx : Addr} {fvs : List (Str × V)} {fs : List (Str × D)} : G a = some (.ins C dx fvs) → RF K G fvs fs → R K G (.ref a) (.ins C fs)
  | exc1 {a d : Addr} {fvs : List (Str × V)} {fs : List (Str × D)} : G d = some (.xd fvs) → RF K G fvs fs → R K G (.ref a) (.exc a (some d) fs)
inductive RA (K : PySem.W.Frag) (G : Hp) : List V → List D → Prop
  | nil : RA K G [] []
  | cons {v : V} {d : D} {vs : List V} {ds : List D} : R K G v d → RA K G vs ds → RA K G (v :: vs) (d :: ds)
inductive RK (K : PySem.W.Frag) (G : Hp) : List (Key × V) → List (Key × D) → Prop
  | nil : RK K G [] []
  | cons {k : Key} {v : V} {d : D} {vs : List (Key × V)} {ds : List (Key × D)} : R K G v d → RK K G vs ds → RK K G ((k, v) :: vs) ((k, d) :: ds)
inductive RF (K : PySem.W.Frag) (G : Hp) : List (Str × V) → List (Str × D) → Prop
  | nil : RF K G [] []
  | cons {k : Str} {v : V} {d : D} {vs : List (Str × V)} {ds : List (Str × D)} : R K G v d → RF K G vs ds → RF K G ((k, v) :: vs) ((k, d) :: ds)
end

section
variable {K : PySem.W.Frag} {G G' : Hp}
theorem same_t {a : Addr} {xs : List V} (e : Same G G') (h : SqT K G a xs) : SqT K G' a xs := by
  rcases h with (h | ⟨o, h⟩) | h
  · exact .inl (.inl (e _ _ h))
  · exact .inl (.inr ⟨o, e _ _ h⟩)
  · exact .inr h
mutual
theorem R.mono (e : Same G G') : ∀ {v : V} {d : D}, R K G v d → R K G' v d
  | _, _, .non => .non
  | _, _, .bl b => .bl b
  | _, _, .int i => .int i
  | _, _, .str x => .str x
  | _, _, .lst h r => .lst (e _ _ h) (RA.mono e r)
  | _, _, .tup h r => .tup (same_t e h) (RA.mono e r)
  | _, _, .dct h r => .dct (e _ _ h) (RK.mono e r)
  | _, _, .ro h r => .ro (e.seq h) (RA.mono e r)
  | _, _, .obj a => .obj a
  | _, _, .raw v => .raw v
  | _, _, .exc0 a dd => .exc0 a dd
  | _, _, .lam a h => .lam a (h.trans e)
  | _, _, .exc1 h r => .exc1 (e _ _ h) (RF.mono e r)
  | _, _, .ins h r => .ins (e _ _ h) (RF.mono e r)
theorem RA.mono (e : Same G G') : ∀ {v : List V} {d : List D}, RA K G v d → RA K G' v d
  | _, _, .nil => .nil
  | _, _, .cons h r => .cons (R.mono e h) (RA.mono e r)
theorem RK.mono (e : Same G G') : ∀ {v : List (Key × V)} {d : List (Key × D)}, RK K G v d → RK K G' v d
  | _, _, .nil => .nil
  | _, _, .cons h r => .cons (R.mono e h) (RK.mono e r)
theorem RF.mono (e : Same G G') : ∀ {v : List (Str × V)} {d : List (Str × D)}, RF K G v d → RF K G' v d
  | _, _, .nil => .nil
  | _, _, .cons h r => .cons (R.mono e h) (RF.mono e r)
end
theorem RF.val {k : Str} {d : D} : ∀ {fvs : List (Str × V)} {fs : List (Str × D)}, RF K G fvs fs → fs.lookup k = some d → ∃ v, fvs.lookup k = some v ∧ R K G v d
  | _, _, .nil, h => by cases h
  | _, _, .cons (k := k1) (vs := vs) (ds := ds) q r, h => by
    rw [List.lookup_cons] at h ⊢
    cases e : (k == k1) with
    | true =>
      rw [e] at h
      cases h
      exact ⟨_, rfl, q⟩
    | false =>
      rw [e] at h
      exact RF.val r h
theorem RA.length : ∀ {vs : List V} {ds : List D}, RA K G vs ds → vs.length = ds.length
  | _, _, .nil => rfl
  | _, _, .cons _ r => congrArg (· + 1) r.length
theorem RK.length : ∀ {vs : List (Key × V)} {ds : List (Key × D)}, RK K G vs ds → vs.length = ds.length
  | _, _, .nil => rfl
  | _, _, .cons _ r => congrArg (· + 1) r.length
theorem RA.get : ∀ {vs : List V} {ds : List D} {i : Nat} {d : D}, RA K G vs ds → ds[i]? = some d → ∃ v, vs[i]? = some v ∧ R K G v d
  | _, _, _, _, .nil, h => by simp at h
  | _, _, 0, _, .cons h _, e => by
    simp at e
    subst e
    exact ⟨_, rfl, h⟩
  | _, _, i + 1, _, .cons _ r, e => by
    obtain ⟨v, h1, h2⟩ := RA.get (i := i) r e
    exact ⟨v, h1, h2⟩
theorem RA.get' {vs : List V} {ds : List D} {i : Nat} {v : V} (r : RA K G vs ds) (h : vs[i]? = some v) : ∃ d, ds[i]? = some d ∧ R K G v d := by
  obtain ⟨hi, _⟩ := List.getElem?_eq_some_iff.mp h
  have hd : i < ds.length := by rw [← r.length]; exact hi
  obtain ⟨w, h1, h2⟩ := r.get (i := i) (d := ds[i]) (List.getElem?_eq_getElem hd)
  rw [h] at h1
  cases h1
  exact ⟨_, List.getElem?_eq_getElem hd, h2⟩
theorem RA.append : ∀ {vs ws : List V} {ds es : List D}, RA K G vs ds → RA K G ws es → RA K G (vs ++ ws) (ds ++ es)
  | _, _, _, _, .nil, s => s
  | _, _, _, _, .cons h r, s => .cons h (r.append s)
theorem RA.take : ∀ {vs : List V} {ds : List D} (n : Nat), RA K G vs ds → RA K G (vs.take n) (ds.take n)
  | _, _, 0, _ => .nil
  | _, _, _ + 1, .nil => .nil
  | _, _, n + 1, .cons h r => .cons h (r.take n)
theorem RA.drop : ∀ {vs : List V} {ds : List D} (n : Nat), RA K G vs ds → RA K G (vs.drop n) (ds.drop n)
  | _, _, 0, r => r
  | _, _, _ + 1, .nil => .nil
  | _, _, n + 1, .cons _ r => r.drop n
theorem RA.rev {vs : List V} {ds : List D} (r : RA K G vs ds) : RA K G vs.reverse ds.reverse := by
  induction r using RA.rec (motive_1 := fun _ _ _ => True) (motive_3 := fun _ _ _ => True) (motive_4 := fun _ _ _ => True) with
  | nil => exact .nil
  | cons h r _ ih =>
    rw [List.reverse_cons, List.reverse_cons]
    exact ih.append (.cons h .nil)
  | _ => trivial
theorem RA.set {v : V} {d : D} (h : R K G v d) : ∀ {vs : List V} {ds : List D} (n : Nat), RA K G vs ds → RA K G (vs.set n v) (ds.set n d)
  | _, _, _, .nil => .nil
  | _, _, 0, .cons _ r => .cons h r
  | _, _, n + 1, .cons q r => .cons q (r.set h n)
theorem RA.ints : ∀ ns : List Int, RA K G (ns.map V.int) (ns.map D.int)
  | [] => .nil
  | n :: ns => .cons (.int n) (RA.ints ns)
theorem R.int_inv {v : V} {i : Int} (r : R K G v (.int i)) : v = .int i := by cases r; rfl
theorem R.bl_inv {v : V} {b : Bool} (r : R K G v (.bl b)) : v = .bl b := by cases r; rfl
theorem R.str_inv {v : V} {x : Str} (r : R K G v (.str x)) : v = .str x := by cases r; rfl
theorem R.raw_inv {v w : V} (r : R K G v (.raw w)) : v = w := by cases r; rfl
theorem R.obj_inv {v : V} {a : Addr} (r : R K G v (.obj a)) : v = .ref a := by cases r; rfl
theorem RK.val {k : Key} {d : D} : ∀ {kvs : List (Key × V)} {ks : List (Key × D)}, RK K G kvs ks → (ks.find? fun p => decide (p.1 = k)).map (·.2) = some d → ∃ v, valV kvs k = some v ∧ R K G v d
  | _, _, .nil, h => by simp at h
  | _, _, .cons (k := k1) (vs := vs) (ds := ds) q r, h => by
    by_cases e : k1 = k
    · rw [List.find?_cons_of_pos (by simpa using e)] at h
      cases h
      refine ⟨_, ?_, q⟩
      unfold valV
      rw [List.find?_cons_of_pos (by simpa using e)] <;> rfl
    · rw [List.find?_cons_of_neg (by simpa using e)] at h
      obtain ⟨v, h1, h2⟩ := RK.val r h
      refine ⟨v, ?_, h2⟩
      unfold valV at h1 ⊢
      rw [List.find?_cons_of_neg (by simpa using e)]
      exact h1
end

/-! ### the heap without what the handles stand for -/
def notTbl : HO → Bool
  | .tbl _ => false
  | _ => true
def hid (H : Hp) (μ : M) : Hp := fun b => match μ b with
  | some _ => none
  | none => (H b).filter notTbl
theorem hid_some {H : Hp} {μ : M} {b : Addr} {o : HO} : hid H μ b = some o ↔ (μ b = none ∧ notTbl o = true) ∧ H b = some o := by
  unfold hid
  cases μ b with
  | some _ => simp
  | none =>
    simp only [Option.filter_eq_some_iff, true_and]
    exact and_comm
theorem hid_sub {H : Hp} {μ : M} : Same (hid H μ) H := fun _ _ h => (hid_some.mp h).2
def MOk (K : PySem.W.Frag) (H : Hp) (μ : M) (a : Addr) : MO → Prop
  | .lst ds => ∃ vs, H a = some (.lst vs) ∧ RA K (hid H μ) vs ds
  | .dct ks => ∃ kvs, H a = some (.dK kvs) ∧ RK K (hid H μ) kvs ks
  | .ins C fs => ∃ dx fvs, H a = some (.ins C dx fvs) ∧ RF K (hid H μ) fvs fs
  | .tbl q => ∃ ps : Array Value, H a = some (.tbl ps) ∧ TriplesOk ps.toList ∧ ∀ (pos : Pos) (cv : Value), codeAmong pos ps.toList = some cv → ∃ c, cv = .ref c ∧ hid H μ c = some (LamX.CodeO c q)
def MR (K : PySem.W.Frag) (H : Hp) (μ : M) : Prop := ∀ a m, μ a = some m → MOk K H μ a m
theorem MR.some {K : PySem.W.Frag} {H : Hp} {μ : M} (h : MR K H μ) {a : Addr} {m : MO} (e : μ a = some m) : ∃ o, H a = some o := by
  have q := h a m e
  cases m with
  | lst ds => obtain ⟨vs, q, _⟩ := q; exact ⟨_, q⟩
  | dct ds => obtain ⟨vs, q, _⟩ := q; exact ⟨_, q⟩
  | ins C fs => obtain ⟨dx, vs, q, _⟩ := q; exact ⟨_, q⟩
  | tbl _ => obtain ⟨vs, q, _⟩ := q; exact ⟨_, q⟩
/-- a new address is no handle -/
theorem MR.fresh {K : PySem.W.Frag} {H : Hp} {μ : M} (h : MR K H μ) {p : Addr} (e : H p = none) : μ p = none := by
  cases q : μ p with
  | none => rfl
  | some m =>
    obtain ⟨o, z⟩ := h.some q
    rw [e] at z
    cases z
/-- from one state to a later one: the data stays -/
structure Mv (K : PySem.W.Frag) (H : Hp) (μ : M) (H' : Hp) (μ' : M) : Prop where
  sm : Same (hid H μ) (hid H' μ')
  mr : MR K H' μ'
theorem Mv.trans {K : PySem.W.Frag} {H H1 H2 : Hp} {μ μ1 μ2 : M} (a : Mv K H μ H1 μ1) (b : Mv K H1 μ1 H2 μ2) : Mv K H μ H2 μ2 := ⟨a.sm.trans b.sm, b.mr⟩
theorem Mv.refl {K : PySem.W.Frag} {H : Hp} {μ : M} (h : MR K H μ) : Mv K H μ H μ := ⟨Same.refl _, h⟩
theorem hid_upd {H : Hp} {μ : M} {p : Addr} {o : HO} (e : H p = none) : Same (hid H μ) (hid (upd H p o) μ) := fun b u h => by
  obtain ⟨h1, h2⟩ := hid_some.mp h
  exact hid_some.mpr ⟨h1, by rw [upd_ne (ne_of_none h2 e)]; exact h2⟩
theorem MOk.mono {K : PySem.W.Frag} {H H' : Hp} {μ μ' : M} {a : Addr} {m : MO} (h : MOk K H μ a m) (e : Same (hid H μ) (hid H' μ')) (ha : H' a = H a) : MOk K H' μ' a m := by
  cases m with
  | lst ds => obtain ⟨vs, q, r⟩ := h; exact ⟨vs, ha.trans q, r.mono e⟩
  | dct ds => obtain ⟨vs, q, r⟩ := h; exact ⟨vs, ha.trans q, r.mono e⟩
  | ins C fs => obtain ⟨dx, vs, q, r⟩ := h; exact ⟨dx, vs, ha.trans q, r.mono e⟩
  | tbl _ => obtain ⟨vs, q, t, r⟩ := h; exact ⟨vs, ha.trans q, t, fun pos cv z => let ⟨c, h1, h2⟩ := r pos cv z; ⟨c, h1, e _ _ h2⟩⟩
/-- a new object, as data -/
theorem Mv.new {K : PySem.W.Frag} {H : Hp} {μ : M} {p : Addr} {o : HO} (h : MR K H μ) (e : H p = none) : Mv K H μ (upd H p o) μ :=
  ⟨hid_upd e, fun a m q => (h a m q).mono (hid_upd e) (upd_ne fun z => by
    obtain ⟨u, w⟩ := h.some q
    rw [z, e] at w
    cases w)⟩
/-- a handle's object is written -/
theorem Mv.put {K : PySem.W.Frag} {H : Hp} {μ : M} {p : Addr} {o : HO} {m : MO} (h : MR K H μ) (e : H p = none ∨ ∃ m0, μ p = some m0) (new : ∀ {G : Hp}, Same (hid H μ) G → hid (upd H p o) (mput μ p m) = G → MOk K (upd H p o) (mput μ p m) p m) : Mv K H μ (upd H p o) (mput μ p m) := by
  have ne : ∀ b u, hid H μ b = some u → b ≠ p := fun b u q z => by
    obtain ⟨h1, h2⟩ := hid_some.mp q
    rcases e with e | ⟨m0, e⟩
    · rw [z, e] at h2; cases h2
    · have h1 := h1.1
      rw [z, e] at h1; cases h1
  have sm : Same (hid H μ) (hid (upd H p o) (mput μ p m)) := fun b u q => by
    obtain ⟨h1, h2⟩ := hid_some.mp q
    exact hid_some.mpr ⟨⟨by rw [mput_ne (ne b u q)]; exact h1.1, h1.2⟩, by rw [upd_ne (ne b u q)]; exact h2⟩
  refine ⟨sm, fun a m' q => ?_⟩
  by_cases z : a = p
  · subst z
    rw [mput_same] at q
    cases q
    exact new sm rfl
  · rw [mput_ne z] at q
    exact (h a m' q).mono sm (upd_ne z)

/-! ### slots -/
abbrev DSt := List (Option D)
structure SD (K : PySem.W.Frag) (σ : St) (δ : DSt) (H : Hp) (μ : M) : Prop where
  sl : ∀ (i : Nat) (d : D), δ[i]? = some (some d) → ∃ v, σ[i]? = some (some v) ∧ R K (hid H μ) v d
  mr : MR K H μ
  len : σ.length = δ.length
theorem SD.step {K : PySem.W.Frag} {σ : St} {δ : DSt} {H H' : Hp} {μ μ' : M} (s : SD K σ δ H μ) (m : Mv K H μ H' μ') : SD K σ δ H' μ' :=
  ⟨fun i d e => let ⟨v, h, r⟩ := s.sl i d e; ⟨v, h, r.mono m.sm⟩, m.mr, s.len⟩
theorem SD.set {K : PySem.W.Frag} {σ : St} {δ : DSt} {H : Hp} {μ : M} {v : V} {d : D} (s : SD K σ δ H μ) (i : Nat) (r : R K (hid H μ) v d) : SD K (σ.set i (some v)) (δ.set i (some d)) H μ := by
  refine ⟨fun j e h => ?_, s.mr, by rw [List.length_set, List.length_set]; exact s.len⟩
  by_cases z : i = j
  · subst z
    by_cases hi : i < δ.length
    · rw [List.getElem?_set_self hi] at h
      cases h
      exact ⟨v, List.getElem?_set_self (by rw [s.len]; exact hi), r⟩
    · rw [List.getElem?_eq_none (by rw [List.length_set]; omega)] at h
      cases h
  · rw [List.getElem?_set_ne z] at h
    obtain ⟨w, h1, h2⟩ := s.sl j e h
    exact ⟨w, by rw [List.getElem?_set_ne z]; exact h1, h2⟩

/-! ### exceptions -/
/-- an exception: its class, its fields (none: it has no dict of its own) -/
structure Er where
  cls : Value
  fs : List (Str × D)
def ErR (K : PySem.W.Frag) (G : Hp) (cls : Value) (dd : Option Addr) (er : Er) : Prop :=
  cls = er.cls ∧ ∀ a, R K G (.ref a) (.exc a dd er.fs)
theorem ErR.mono {K : PySem.W.Frag} {G G' : Hp} {cls : Value} {dd : Option Addr} {er : Er} (e : Same G G') (h : ErR K G cls dd er) : ErR K G' cls dd er :=
  ⟨h.1, fun a => (h.2 a).mono e⟩
abbrev FK := Er → M → Prop

/-! ### what is wanted, over data -/
abbrev DK := D → M → Prop
abbrev DW := DSt → M → DK → FK → Prop
abbrev DA := DSt → M → (List D → M → Prop) → FK → Prop
abbrev DT := DSt → M → (Bool → M → Prop) → FK → Prop
structure DE where
  nx : DSt → M → Prop
  rt : DK
  bk : DSt → M → Prop := fun _ _ => False
  ct : DSt → M → Prop := fun _ _ => False
abbrev DS := DE → FK → DSt → M → Prop
/-- an exception's way out -/
def Ex1 (K : PySem.W.Frag) (W : WX) (σ : St) (H : Hp) (μ : M) (F : FK) : Prop := ∀ cls dd er H' μ', Mv K H μ H' μ' → ErR K (hid H' μ') cls dd er → F er μ' → W cls dd σ H'
theorem Ex1.step {K : PySem.W.Frag} {W : WX} {σ : St} {H H1 : Hp} {μ μ1 : M} {F : FK} (h : Ex1 K W σ H μ F) (m : Mv K H μ H1 μ1) : Ex1 K W σ H1 μ1 F := fun cls dd er H' μ' m' => h cls dd er H' μ' (m.trans m')
def LE (K : PySem.W.Frag) (W : WX) (t : TE) (w : DW) : Prop := ∀ (σ : St) (δ : DSt) (H : Hp) (μ : M) (Q : VK) (Qd : DK) (F : FK), SD K σ δ H μ → w δ μ Qd F →
  (∀ v d H' μ', Mv K H μ H' μ' → R K (hid H' μ') v d → Qd d μ' → Q v H') → Ex1 K W σ H μ F → t σ H Q
def LA (K : PySem.W.Frag) (W : WX) (t : TA) (w : DA) : Prop := ∀ (σ : St) (δ : DSt) (H : Hp) (μ : M) (Q : List V → Hp → Prop) (Qd : List D → M → Prop) (F : FK), SD K σ δ H μ → w δ μ Qd F →
  (∀ vs ds H' μ', Mv K H μ H' μ' → RA K (hid H' μ') vs ds → Qd ds μ' → Q vs H') → Ex1 K W σ H μ F → t σ H Q
def LT (K : PySem.W.Frag) (W : WX) (t : TT) (w : DT) : Prop := ∀ (σ : St) (δ : DSt) (H : Hp) (μ : M) (Q : Bool → Hp → Prop) (Qd : Bool → M → Prop) (F : FK), SD K σ δ H μ → w δ μ Qd F →
  (∀ b H' μ', Mv K H μ H' μ' → Qd b μ' → Q b H') → Ex1 K W σ H μ F → t σ H Q
/-- a statement, told from the entry's data G0 -/
structure DEn (K : PySem.W.Frag) (W : WX) (G0 : Hp) (D : Ends) (Dd : DE) (F : FK) : Prop where
  nx : ∀ σ δ H μ, Same G0 (hid H μ) → SD K σ δ H μ → Dd.nx δ μ → D.nx σ H
  rt : ∀ v d H μ, Same G0 (hid H μ) → MR K H μ → R K (hid H μ) v d → Dd.rt d μ → D.rt v H
  bk : ∀ σ δ H μ, Same G0 (hid H μ) → SD K σ δ H μ → Dd.bk δ μ → D.bk σ H
  ct : ∀ σ δ H μ, Same G0 (hid H μ) → SD K σ δ H μ → Dd.ct δ μ → D.ct σ H
  er : ∀ cls dd er σ H μ, Same G0 (hid H μ) → MR K H μ → ErR K (hid H μ) cls dd er → F er μ → W cls dd σ H
def LS (K : PySem.W.Frag) (W : WX) (t : TS) (w : DS) : Prop := ∀ (G0 : Hp) (σ : St) (δ : DSt) (H : Hp) (μ : M) (D : Ends) (Dd : DE) (F : FK), Same G0 (hid H μ) → SD K σ δ H μ → w Dd F δ μ → DEn K W G0 D Dd F → t D σ H
theorem DEn.ex1 {K : PySem.W.Frag} {W : WX} {G0 : Hp} {D : Ends} {Dd : DE} {F : FK} (e : DEn K W G0 D Dd F) {σ : St} {H : Hp} {μ : M} (g : Same G0 (hid H μ)) : Ex1 K W σ H μ F :=
  fun cls dd er H' μ' m r f => e.er cls dd er σ H' μ' (g.trans m.sm) m.mr r f

structure PD (X : Cx) (W : WX) (e : Expr) (t : TE) (w : DW) : Prop where
  pe : PE X e t
  le : LE X.K W t w
structure PDA (X : Cx) (W : WX) (es : List Expr) (t : TA) (w : DA) : Prop where
  pa : PA X es t
  la : LA X.K W t w
structure PDT (X : Cx) (W : WX) (e : Expr) (t : TT) (w : DT) : Prop where
  pt : PT X e t
  lt : LT X.K W t w
structure PDS (X : Cx) (W : WX) (st : Stmt) (t : TS) (w : DS) : Prop where
  ps : PS X st t
  ls : LS X.K W t w
structure PDB (X : Cx) (W : WX) (sts : List Stmt) (t : TS) (w : DS) : Prop where
  pss : PSs X sts t
  ls : LS X.K W t w
end DL

set_option maxHeartbeats 2000000
namespace DL
open PySem PySem.Spec PyProof.Rows L2

/-! ### data as the library's data -/
def keyP : Key → PyData
  | .inl i => .int i
  | .inr x => .str x
mutual
def D.py : D → Option PyData
  | .non => some .none
  | .bl b => some (.bool b)
  | .int i => some (.int i)
  | .str x => some (.str x)
  | .lst xs => (D.pyA xs).map .list
  | .ro xs => (D.pyA xs).map .list
  | .tup xs => (D.pyA xs).map .tuple
  | .dct ks => (D.pyK ks).map .dict
  | .obj _ => none
  | .raw _ => none
  | .exc _ _ _ => none
  | .lam _ _ => none
  | .ins _ _ => none
def D.pyA : List D → Option (List PyData)
  | [] => some []
  | d :: ds => match d.py, D.pyA ds with
    | some p, some ps => some (p :: ps)
    | _, _ => none
def D.pyK : List (Key × D) → Option (List (PyData × PyData))
  | [] => some []
  | (k, d) :: ds => match d.py, D.pyK ds with
    | some p, some ps => some ((keyP k, p) :: ps)
    | _, _ => none
end
/-- a list: written, or behind a handle -/
def lstOf (μ : M) : D → Option (List D)
  | .lst xs => some xs
  | .obj a => match μ a with
    | some (.lst xs) => some xs
    | _ => none
  | _ => none
/-- what may be read as a list or a tuple -/
def seqOf (μ : M) : D → Option (List D)
  | .lst xs => some xs
  | .ro xs => some xs
  | .tup xs => some xs
  | .obj a => match μ a with
    | some (.lst xs) => some xs
    | _ => none
  | _ => none
def pyOf (μ : M) : D → Option PyData
  | .obj a => match μ a with
    | some (.lst xs) => (D.pyA xs).map .list
    | _ => none
  | d => d.py

section
variable {K : PySem.W.Frag} {H G : Hp} {μ : M}
theorem lst_of {v : V} {d : D} {ds : List D} (m : MR K H μ) (r : R K (hid H μ) v d) (h : lstOf μ d = some ds) : ∃ a vs, v = .ref a ∧ H a = some (.lst vs) ∧ RA K (hid H μ) vs ds := by
  cases r with
  | @lst a vs ds' e ra =>
    cases h
    exact ⟨a, vs, rfl, (hid_some.mp e).2, ra⟩
  | obj a =>
    unfold lstOf at h
    cases q : μ a with
    | none => simp only [q] at h; cases h
    | some mo =>
      cases mo with
      | lst xs =>
        simp only [q] at h
        cases h
        obtain ⟨vs, e, ra⟩ := m a _ q
        exact ⟨a, vs, rfl, e, ra⟩
      | _ => simp only [q] at h; cases h
  | _ => cases h
theorem seq_of {v : V} {d : D} {ds : List D} (m : MR K H μ) (r : R K (hid H μ) v d) (h : seqOf μ d = some ds) : ∃ a vs, v = .ref a ∧ (SqL K H a vs ∨ SqT K H a vs) ∧ RA K (hid H μ) vs ds := by
  cases r with
  | @lst a vs ds' e ra =>
    cases h
    exact ⟨a, vs, rfl, .inl (SqL.of (hid_some.mp e).2), ra⟩
  | @tup a vs ds' e ra =>
    cases h
    exact ⟨a, vs, rfl, .inr (same_t hid_sub e), ra⟩
  | @ro a vs ds' e ra =>
    cases h
    exact ⟨a, vs, rfl, .inl (hid_sub.seq e), ra⟩
  | obj a =>
    obtain ⟨b, vs, e1, e2, e3⟩ := lst_of (d := .obj a) m (.obj a) (ds := ds) (by
      unfold seqOf at h
      unfold lstOf
      exact h)
    exact ⟨b, vs, e1, .inl (SqL.of e2), e3⟩
  | _ => cases h
end

/-! ### Dp with dicts: for repr -/
mutual
inductive Dq (K : PySem.W.Frag) (H : Hp) : V → PyData → Prop
  | non : Dq K H .non .none
  | bl (b : Bool) : Dq K H (.bl b) (.bool b)
  | int (i : Int) : Dq K H (.int i) (.int i)
  | str (x : Str) : Dq K H (.str x) (.str x)
  | lst {a : Addr} {xs : List V} {ds : List PyData} : SqL K H a xs → DqA K H xs ds → Dq K H (.ref a) (.list ds)
  | tup {a : Addr} {xs : List V} {ds : List PyData} : SqT K H a xs → DqA K H xs ds → Dq K H (.ref a) (.tuple ds)
  | dct {a : Addr} {kvs : List (Key × V)} {ps : List (PyData × PyData)} : H a = some (.dK kvs) → DqK K H kvs ps → Dq K H (.ref a) (.dict ps)
inductive DqA (K : PySem.W.Frag) (H : Hp) : List V → List PyData → Prop
  | nil : DqA K H [] []
  | cons {v : V} {vs : List V} {d : PyData} {ds : List PyData} : Dq K H v d → DqA K H vs ds → DqA K H (v :: vs) (d :: ds)
inductive DqK (K : PySem.W.Frag) (H : Hp) : List (Key × V) → List (PyData × PyData) → Prop
  | nil : DqK K H [] []
  | cons {k : Key} {v : V} {vs : List (Key × V)} {d : PyData} {ds : List (PyData × PyData)} : Dq K H v d → DqK K H vs ds → DqK K H ((k, v) :: vs) ((keyP k, d) :: ds)
end
section
variable {K : PySem.W.Frag} {H : Hp} {μ : M}
mutual
theorem Dq.of_R : ∀ {v : V} {d : D} {p : PyData}, R K (hid H μ) v d → d.py = some p → Dq K H v p
  | _, _, _, .non, e => by cases e; exact .non
  | _, _, _, .bl b, e => by cases e; exact .bl b
  | _, _, _, .int i, e => by cases e; exact .int i
  | _, _, _, .str x, e => by cases e; exact .str x
  | _, _, _, .lst h r, e => by
    simp only [D.py, Option.map_eq_some_iff] at e
    obtain ⟨ps, e1, rfl⟩ := e
    exact .lst (SqL.of (hid_some.mp h).2) (DqA.of_R r e1)
  | _, _, _, .tup h r, e => by
    simp only [D.py, Option.map_eq_some_iff] at e
    obtain ⟨ps, e1, rfl⟩ := e
    exact .tup (same_t hid_sub h) (DqA.of_R r e1)
  | _, _, _, .dct h r, e => by
    simp only [D.py, Option.map_eq_some_iff] at e
    obtain ⟨ps, e1, rfl⟩ := e
    exact .dct (hid_some.mp h).2 (DqK.of_R r e1)
  | _, _, _, .ro h r, e => by
    simp only [D.py, Option.map_eq_some_iff] at e
    obtain ⟨ps, e1, rfl⟩ := e
    exact .lst (hid_sub.seq h) (DqA.of_R r e1)
  | _, _, _, .obj a, e => by cases e
  | _, _, _, .raw v, e => by cases e
  | _, _, _, .exc0 _ _, e => by cases e
  | _, _, _, .lam _ _, e => by cases e
  | _, _, _, .exc1 _ _, e => by cases e
  | _, _, _, .ins _ _, e => by cases e
theorem DqA.of_R : ∀ {v : List V} {d : List D} {p : List PyData}, RA K (hid H μ) v d → D.pyA d = some p → DqA K H v p
  | _, _, _, .nil, e => by cases e; exact .nil
  | _, d :: ds, _, .cons h r, e => by
    cases e1 : d.py with
    | none => simp only [D.pyA, e1] at e; cases e
    | some p1 =>
      cases e2 : D.pyA ds with
      | none => simp only [D.pyA, e1, e2] at e; cases e
      | some p2 =>
        simp only [D.pyA, e1, e2] at e
        cases e
        exact .cons (Dq.of_R h e1) (DqA.of_R r e2)
theorem DqK.of_R : ∀ {v : List (Key × V)} {d : List (Key × D)} {p : List (PyData × PyData)}, RK K (hid H μ) v d → D.pyK d = some p → DqK K H v p
  | _, _, _, .nil, e => by cases e; exact .nil
  | _, (k, d) :: ds, _, .cons h r, e => by
    cases e1 : d.py with
    | none => simp only [D.pyK, e1] at e; cases e
    | some p1 =>
      cases e2 : D.pyK ds with
      | none => simp only [D.pyK, e1, e2] at e; cases e
      | some p2 =>
        simp only [D.pyK, e1, e2] at e
        cases e
        exact .cons (Dq.of_R h e1) (DqK.of_R r e2)
end
mutual
theorem Dp.of_Dq : ∀ {v : V} {p : PyData}, Dq K H v p → p.canLay0 = true → Dp K H v p
  | _, _, .non, _ => .non
  | _, _, .bl b, _ => .bl b
  | _, _, .int i, _ => .int i
  | _, _, .str x, _ => .str x
  | _, _, .lst h r, e => .lst h (DpAll.of_Dq r (by simpa [PyData.canLay0] using e))
  | _, _, .tup h r, e => .tup h (DpAll.of_Dq r (by simpa [PyData.canLay0] using e))
  | _, _, .dct h r, e => by simp [PyData.canLay0] at e
theorem DpAll.of_Dq : ∀ {v : List V} {p : List PyData}, DqA K H v p → PyData.canLayAll0 p = true → DpAll K H v p
  | _, _, .nil, _ => .nil
  | _, _, .cons h r, e => by
    simp only [PyData.canLayAll0, Bool.and_eq_true] at e
    exact .cons (Dp.of_Dq h e.1) (DpAll.of_Dq r e.2)
end
theorem Dq.of_pyOf {v : V} {d : D} {p : PyData} (m : MR K H μ) (r : R K (hid H μ) v d) (e : pyOf μ d = some p) : Dq K H v p := by
  cases d with
  | obj a =>
    cases r
    unfold pyOf at e
    cases q : μ a with
    | none => simp only [q] at e; cases e
    | some mo =>
      cases mo with
      | lst xs =>
        simp only [q, Option.map_eq_some_iff] at e
        obtain ⟨ps, e1, rfl⟩ := e
        obtain ⟨vs, e2, ra⟩ := m a _ q
        exact .lst (SqL.of e2) (DqA.of_R ra e1)
      | _ => simp only [q] at e; cases e
  | _ => exact Dq.of_R r e
end

section
variable {X : Cx} {pins : List (Addr × Obj)} {σ : St} {H : Hp} {s : Shared}
theorem keyP_reads {h : Heap} : ∀ {k : Key} {u : Value}, keyIs k u = true → ∃ as, Reads h u (keyP k) as ∧ as = []
  | .inl i, u, e => by
    obtain ⟨t, rfl⟩ := Value.isInt_shape e
    exact ⟨_, .int i t, rfl⟩
  | .inr x, u, e => by
    obtain ⟨t, rfl⟩ := Value.isStrOf_shape e
    exact ⟨_, .str x t, rfl⟩
/-- a value that holds nothing -/
def scP : PyData → Bool
  | .none => true
  | .bool _ => true
  | .int _ => true
  | .str _ => true
  | _ => false
theorem Dq.reads0 {v : V} {u : Value} : ∀ {d : PyData}, Dq X.K H v d → RelV v u → scP d = true → Reads s.heap u d []
  | .none, h, r, _ => by
    cases h
    cases r
    exact .none
  | .bool b, h, r, _ => by
    cases h
    cases r
    exact .bool b
  | .int i, h, r, _ => by
    cases h
    obtain ⟨t, rfl⟩ := r
    exact .int i t
  | .str x, h, r, _ => by
    cases h
    obtain ⟨t, rfl⟩ := r
    exact .str x t
  | .list _, _, _, e => by cases e
  | .tuple _, _, _, e => by cases e
  | .dict _, _, _, e => by cases e
theorem Dq.keys0 {h : Heap} : ∀ {ps : List (PyData × PyData)} {kvs : List (Key × V)} {vs : List (Key × Value)} {es : List DictEntry}, DqK X.K H kvs ps → KV kvs vs → Pairs (mixKind X.prog X.w) es vs → ReadsAll h (es.map (·.key)) (ps.map (·.1)) []
  | [], _, _, _, a, b, c => by
    cases a
    cases b
    cases c
    exact .nil
  | p :: ps, _, _, _, a, b, c => by
    cases a with
    | cons a1 a2 =>
      cases b with
      | cons b1 b2 =>
        cases c with
        | cons c1 c2 c3 =>
          rename_i k _ _ _ kv _ _ _
          obtain ⟨as, h1, h2⟩ := keyP_reads (h := h) (k := k) (by rw [show k = kv.1 from b1.1]; exact c1)
          subst h2
          exact .cons h1 (Dq.keys0 a2 b2 c3)
theorem Dq.vals0 : ∀ {ps : List (PyData × PyData)} {kvs : List (Key × V)} {vs : List (Key × Value)} {es : List DictEntry}, DqK X.K H kvs ps → KV kvs vs → Pairs (mixKind X.prog X.w) es vs → (ps.all fun p => scP p.2) = true → ReadsAll s.heap (es.map (·.val)) (ps.map (·.2)) []
  | [], _, _, _, a, b, c, _ => by
    cases a
    cases b
    cases c
    exact .nil
  | p :: ps, _, _, _, a, b, c, z => by
    rw [List.all_cons, Bool.and_eq_true] at z
    cases a with
    | cons a1 a2 =>
      cases b with
      | cons b1 b2 =>
        cases c with
        | cons c1 c2 c3 =>
          refine .cons (as := []) ?_ (Dq.vals0 a2 b2 c3 z.2)
          show Reads s.heap _ _ _
          have c2' := c2
          dsimp only
          rw [c2']
          exact a1.reads0 b1.2 z.1
mutual
theorem Dq.reads (I : Inv X pins σ H s) : ∀ (d : PyData) (v : V) (u : Value), Dq X.K H v d → d.hasDict = false → RelV v u → ∃ as, Reads s.heap u d as
  | .none, _, _, h, _, r => ⟨_, h.reads0 r rfl⟩
  | .bool b, _, _, h, _, r => ⟨_, h.reads0 r rfl⟩
  | .int i, _, _, h, _, r => ⟨_, h.reads0 r rfl⟩
  | .str x, _, _, h, _, r => ⟨_, h.reads0 r rfl⟩
  | .list ds, _, _, h, n, r => by
    cases h with
    | lst hs ha =>
      cases r
      obtain ⟨its, rv, ⟨o, n', ho, hc, _, hd⟩, _⟩ := I.list hs
      obtain ⟨as, hr⟩ := Dq.readsAll I ds _ its ha (by simpa [PyData.hasDict] using n) rv
      exact ⟨_, .list ho hc hd hr⟩
  | .tuple ds, _, _, h, n, r => by
    cases h with
    | tup hs ha =>
      cases r
      obtain ⟨its, rv, ⟨o, ho, hc, n', hd⟩, _⟩ := I.tuple hs
      obtain ⟨as, hr⟩ := Dq.readsAll I ds _ its ha (by simpa [PyData.hasDict] using n) rv
      exact ⟨_, .tuple ho hc hd hr⟩
  | .dict ps, _, _, h, n, r => by simp [PyData.hasDict] at n
theorem Dq.readsAll (I : Inv X pins σ H s) : ∀ (ds : List PyData) (vs : List V) (us : List Value), DqA X.K H vs ds → PyData.hasDictAll ds = false → Vals vs us → ∃ as, ReadsAll s.heap us ds as
  | [], _, _, h, _, r => by
    cases h
    cases r
    exact ⟨_, .nil⟩
  | d :: ds, _, _, h, n, r => by
    simp only [PyData.hasDictAll, Bool.or_eq_false_iff] at n
    cases h with
    | cons h1 h2 =>
      cases r with
      | cons r1 r2 =>
        obtain ⟨as, q1⟩ := Dq.reads I d _ _ h1 n.1 r1
        obtain ⟨bs, q2⟩ := Dq.readsAll I ds _ _ h2 n.2 r2
        exact ⟨_, .cons q1 q2⟩
end
/-- what repr is told of: no dict within, or a dict of values that hold nothing -/
def okP : PyData → Bool
  | .dict ps => ps.all fun p => scP p.2
  | p => !p.hasDict
theorem Dq.readsP (I : Inv X pins σ H s) {d : PyData} {v : V} {u : Value} (h : Dq X.K H v d) (n : okP d = true) (r : RelV v u) : ∃ as, Reads s.heap u d as ∧ (d.hasDict = true → sysModules ∉ as) := by
  cases d with
  | dict ps =>
    cases h with
    | @dct a kvs _ hs ha =>
      cases r
      obtain ⟨_, hne, vs, kv, o, es, ep, ho, hx, hd, he, hp, _⟩ := (show ObjOk X.prog X.w H s.heap a (.dK kvs) from I.hok a _ hs)
      refine ⟨_, .dict ho hx.1 hd (Dq.keys0 (X := X) (H := H) ha kv hp) (Dq.vals0 (X := X) (H := H) ha kv hp n), fun _ hm => ?_⟩
      have e : sysModules = a := by simpa using hm
      rw [← e] at hne
      exact absurd hne (by decide)
  | _ =>
    have n' := n
    simp only [okP, Bool.not_eq_true'] at n'
    obtain ⟨as, q⟩ := Dq.reads I _ _ _ h n' r
    exact ⟨as, q, fun z => by
      rw [n'] at z
      cases z⟩
mutual
/-- what repr is told of: dicts of values that hold nothing, anywhere -/
def okN : PyData → Bool
  | .dict ps => ps.all fun p => scP p.2
  | .list ds => okNA ds
  | .tuple ds => okNA ds
  | _ => true
def okNA : List PyData → Bool
  | [] => true
  | d :: ds => okN d && okNA ds
end
mutual
theorem okN_of : ∀ {p : PyData}, p.hasDict = false → okN p = true
  | .none, _ => rfl
  | .bool _, _ => rfl
  | .int _, _ => rfl
  | .str _, _ => rfl
  | .list ds, h => by
    simp only [okN]
    exact okN_ofA (by simpa only [PyData.hasDict] using h)
  | .tuple ds, h => by
    simp only [okN]
    exact okN_ofA (by simpa only [PyData.hasDict] using h)
  | .dict ps, h => by simp [PyData.hasDict] at h
theorem okN_ofA : ∀ {ds : List PyData}, PyData.hasDictAll ds = false → okNA ds = true
  | [], _ => rfl
  | d :: ds, h => by
    simp only [PyData.hasDictAll, Bool.or_eq_false_iff] at h
    simp only [okNA, okN_of h.1, okN_ofA h.2, Bool.and_self]
end
theorem okN_ofP {p : PyData} (h : okP p = true) : okN p = true := by
  cases p with
  | dict ps => simpa only [okN, okP] using h
  | _ => exact okN_of (by simpa only [okP, Bool.not_eq_true'] using h)
/-- the table of the modules stands where it stands -/
def SysB (base : Heap) : Prop := ∃ m, base.Ns sysModules m
/-- .. and all that a division of great ints asks for -/
structure SysP (P : Program) (base : Heap) : Prop where
  s : base.NoSeer
  t : P.given.tree = none
theorem SysP.b {P : Program} {base : Heap} (h : SysP P base) : SysB base := h.s.mods.imp fun _ z => z.1
mutual
theorem Dq.readsS (I : Inv X pins σ H s) (hS : SysB X.base) : ∀ (d : PyData) (v : V) (u : Value), Dq X.K H v d → okN d = true → RelV v u → ∃ as, Reads s.heap u d as ∧ sysModules ∉ as
  | .none, _, _, h, _, r => ⟨_, h.reads0 r rfl, by simp⟩
  | .bool b, _, _, h, _, r => ⟨_, h.reads0 r rfl, by simp⟩
  | .int i, _, _, h, _, r => ⟨_, h.reads0 r rfl, by simp⟩
  | .str x, _, _, h, _, r => ⟨_, h.reads0 r rfl, by simp⟩
  | .list ds, _, _, h, n, r => by
    cases h with
    | lst hs ha =>
      cases r
      obtain ⟨its, rv, ⟨o, n', ho, hc, _, hd⟩, _⟩ := I.list hs
      obtain ⟨as, hr, hn⟩ := Dq.readsSA I hS ds _ its ha (by simpa only [okN] using n) rv
      refine ⟨_, .list ho hc hd hr, fun hm => ?_⟩
      rcases List.mem_cons.mp hm with e | hm
      · obtain ⟨m, o', es, ep, e1, e2, _⟩ := hS
        have := I.bk _ _ e1
        rw [e, ho] at this
        cases this
        rw [hd] at e2
        cases e2
      · exact hn hm
  | .tuple ds, _, _, h, n, r => by
    cases h with
    | tup hs ha =>
      cases r
      obtain ⟨its, rv, ⟨o, ho, hc, n', hd⟩, _⟩ := I.tuple hs
      obtain ⟨as, hr, hn⟩ := Dq.readsSA I hS ds _ its ha (by simpa only [okN] using n) rv
      exact ⟨_, .tuple ho hc hd hr, hn⟩
  | .dict ps, _, _, h, n, r => by
    obtain ⟨as, q1, q2⟩ := Dq.readsP I h (by simpa only [okN, okP] using n) r
    exact ⟨as, q1, q2 (by simp [PyData.hasDict])⟩
theorem Dq.readsSA (I : Inv X pins σ H s) (hS : SysB X.base) : ∀ (ds : List PyData) (vs : List V) (us : List Value), DqA X.K H vs ds → okNA ds = true → Vals vs us → ∃ as, ReadsAll s.heap us ds as ∧ sysModules ∉ as
  | [], _, _, h, _, r => by
    cases h
    cases r
    exact ⟨_, .nil, by simp⟩
  | d :: ds, _, _, h, n, r => by
    simp only [okNA, Bool.and_eq_true] at n
    cases h with
    | cons h1 h2 =>
      cases r with
      | cons r1 r2 =>
        obtain ⟨as, q1, q1'⟩ := Dq.readsS I hS d _ _ h1 n.1 r1
        obtain ⟨bs, q2, q2'⟩ := Dq.readsSA I hS ds _ _ h2 n.2 r2
        exact ⟨_, .cons q1 q2, fun hm => by
          rcases List.mem_append.mp hm with hm | hm
          · exact q1' hm
          · exact q2' hm⟩
end
end
end DL

set_option maxHeartbeats 2000000
namespace DL
open PySem PySem.Spec PyProof.Rows L2

/-! ### names, constants, argument lists -/
def wVar (i : Nat) : DW := fun δ μ Q _ => ∃ d, δ[i]? = some (some d) ∧ Q d μ
def wC (d : D) : DW := fun _ μ Q _ => Q d μ
def wNil : DA := fun _ μ Q _ => Q [] μ
def wCons (wa : DW) (wr : DA) : DA := fun δ μ Q F => wa δ μ (fun d μ1 => wr δ μ1 (fun ds μ2 => Q (d :: ds) μ2) F) F
section
variable {X : Cx} {W : WX} {x : Str} {pos : Pos} {a b c e : Expr} {es : List Expr} {ta tb tc te : TE} {wa wb wc we : DW} {tr : TA} {wr : DA} {tt tu : TT} {wt wu : DT}
theorem pdv (i : Nat) (hN : X.N[i]? = some x := by rfl) (hv : Vis X.env.scope x := by first | exact Or.inl rfl | exact Or.inr (Or.inl rfl) | exact Or.inr (Or.inr rfl)) (hd : (x == ("__debug__" : Str)) = false := by decide)
    (hcd : (x == ("__classdict__" : Str)) = false := by decide) : PD X W (.Name x pos) (tVar i) (wVar i) :=
  ⟨pe_var hN hv hd hcd, fun σ δ H μ Q Qd F S ⟨d, e, q⟩ kQ _ => let ⟨v, h, r⟩ := S.sl i d e; ⟨v, h, kQ v d H μ (.refl S.mr) r q⟩⟩
theorem le_c {K : PySem.W.Frag} {v : V} {d : D} (r : ∀ G, R K G v d) : LE K W (tC v) (wC d) := fun σ δ H μ Q Qd F S q kQ _ => kQ v d H μ (.refl S.mr) (r _) q
theorem pd_int {i : Int} {j} : PD X W (.Constant (.int i) j pos) (tC (.int i)) (wC (.int i)) := ⟨pe_int, le_c fun _ => .int i⟩
theorem pd_bl {i : Bool} {j} : PD X W (.Constant (.bool i) j pos) (tC (.bl i)) (wC (.bl i)) := ⟨pe_bl, le_c fun _ => .bl i⟩
theorem pd_non {j} : PD X W (.Constant .none j pos) (tC .non) (wC .non) := ⟨pe_non, le_c fun _ => .non⟩
theorem pd_str {z : Str} {j} : PD X W (.Constant (.str z) j pos) (tC (.str z)) (wC (.str z)) := ⟨pe_str, le_c fun _ => .str z⟩
/-- a def, a class of the module, as a value -/
theorem pd_raw {f : Addr} (hm : X.mg x = some (.ref f)) (hg : Gl X x := by rfl) (hd : (x == ("__debug__" : Str)) = false := by decide) : PD X W (.Name x pos) (tC (.ref f)) (wC (.raw (.ref f))) := ⟨pe_glob hg hm rfl hd, le_c fun _ => .raw _⟩
/-- a built-in type as a value -/
theorem pd_ty {T : String} (hm : X.mg x = none) (hv : bootBuiltins x = some (.type T)) (hg : Gl X x := by rfl) (hn : x ≠ "__name__" := by decide) (hd : (x == ("__debug__" : Str)) = false := by decide) : PD X W (.Name x pos) (tC (.ty T)) (wC (.raw (.ty T))) :=
  ⟨pe_bltn hg hm hv rfl hn hd, le_c fun _ => .raw _⟩
theorem pda_nil : PDA X W [] tNil wNil := ⟨pa_nil, fun σ δ H μ Q Qd F S q kQ _ => kQ [] [] H μ (.refl S.mr) .nil q⟩
theorem pda_cons (ha : PD X W e te we) (hr : PDA X W es tr wr) (hs : starEach (e :: es) X.env = (false, eval e X.env) :: starEach es X.env := by rfl) : PDA X W (e :: es) (tCons te tr) (wCons we wr) := by
  refine ⟨pa_cons ha.pe hr.pa hs, fun σ δ H μ Q Qd F S q kQ kF => ?_⟩
  refine ha.le σ δ H μ _ _ F S q (fun v d H1 μ1 m1 r1 q1 => ?_) kF
  refine hr.la σ δ H1 μ1 _ _ F (S.step m1) q1 (fun vs ds H2 μ2 m2 r2 q2 => ?_) (kF.step m1)
  exact kQ (v :: vs) (d :: ds) H2 μ2 (m1.trans m2) (.cons (r1.mono m2.sm) r2) q2
theorem PD.imp {w' : DW} (h : PD X W e te we) (k : ∀ δ μ Q F, w' δ μ Q F → we δ μ Q F) : PD X W e te w' := ⟨h.pe, fun σ δ H μ Q Qd F S q kQ kF => h.le σ δ H μ Q Qd F S (k _ _ _ _ q) kQ kF⟩

/-! ### operators -/
abbrev G1 := D → M → DK → Prop
abbrev G2 := D → D → M → DK → Prop
def OL (K : PySem.W.Frag) (r : R2) (g : G2) : Prop := ∀ (H : Hp) (μ : M) (x y : V) (dx dy : D) (Q : VK) (Qd : DK), MR K H μ → R K (hid H μ) x dx → R K (hid H μ) y dy → g dx dy μ Qd →
  (∀ v d H' μ', Mv K H μ H' μ' → R K (hid H' μ') v d → Qd d μ' → Q v H') → r x y H Q
def UL (K : PySem.W.Frag) (r : V → Hp → VK → Prop) (g : G1) : Prop := ∀ (H : Hp) (μ : M) (x : V) (dx : D) (Q : VK) (Qd : DK), MR K H μ → R K (hid H μ) x dx → g dx μ Qd →
  (∀ v d H' μ', Mv K H μ H' μ' → R K (hid H' μ') v d → Qd d μ' → Q v H') → r x H Q
def CL (K : PySem.W.Frag) (r : List V → Hp → VK → Prop) (g : List D → M → DK → Prop) : Prop := ∀ (H : Hp) (μ : M) (xs : List V) (ds : List D) (Q : VK) (Qd : DK), MR K H μ → RA K (hid H μ) xs ds → g ds μ Qd →
  (∀ v d H' μ', Mv K H μ H' μ' → R K (hid H' μ') v d → Qd d μ' → Q v H') → r xs H Q
def wBin (g : G2) (wa wb : DW) : DW := fun δ μ Q F => wa δ μ (fun x μ1 => wb δ μ1 (fun y μ2 => g x y μ2 Q) F) F
def wUn (g : G1) (wa : DW) : DW := fun δ μ Q F => wa δ μ (fun x μ1 => g x μ1 Q) F
def wCB (g : List D → M → DK → Prop) (wa : DA) : DW := fun δ μ Q F => wa δ μ (fun ds μ1 => g ds μ1 Q) F
theorem le_bin {K : PySem.W.Frag} {r : R2} {g : G2} (ha : LE K W ta wa) (hb : LE K W tb wb) (ho : OL K r g) : LE K W (tOp r ta tb) (wBin g wa wb) := fun σ δ H μ Q Qd F S q kQ kF => by
  refine ha σ δ H μ _ _ F S q (fun v d H1 μ1 m1 r1 q1 => ?_) kF
  refine hb σ δ H1 μ1 _ _ F (S.step m1) q1 (fun w e H2 μ2 m2 r2 q2 => ?_) (kF.step m1)
  exact ho H2 μ2 v w d e Q Qd m2.mr (r1.mono m2.sm) r2 q2 fun v3 d3 H3 μ3 m3 r3 q3 => kQ v3 d3 H3 μ3 (m1.trans (m2.trans m3)) r3 q3
theorem le_un {K : PySem.W.Frag} {r : V → Hp → VK → Prop} {g : G1} (ha : LE K W ta wa) (ho : UL K r g) : LE K W (tUn r ta) (wUn g wa) := fun σ δ H μ Q Qd F S q kQ kF => by
  refine ha σ δ H μ _ _ F S q (fun v d H1 μ1 m1 r1 q1 => ?_) kF
  exact ho H1 μ1 v d Q Qd m1.mr r1 q1 fun v3 d3 H3 μ3 m3 r3 q3 => kQ v3 d3 H3 μ3 (m1.trans m3) r3 q3
theorem le_cb {K : PySem.W.Frag} {r : List V → Hp → VK → Prop} {g : List D → M → DK → Prop} (ha : LA K W tr wr) (ho : CL K r g) : LE K W (tCB r tr) (wCB g wr) := fun σ δ H μ Q Qd F S q kQ kF => by
  refine ha σ δ H μ _ _ F S q (fun v d H1 μ1 m1 r1 q1 => ?_) kF
  exact ho H1 μ1 v d Q Qd m1.mr r1 q1 fun v3 d3 H3 μ3 m3 r3 q3 => kQ v3 d3 H3 μ3 (m1.trans m3) r3 q3
theorem pd_bin {op : Operator} {r : R2} {g : G2} (o : OpR X (binaryOp op) r ∧ OL X.K r g) (ha : PD X W a ta wa) (hb : PD X W b tb wb) : PD X W (.BinOp a op b pos) (tOp r ta tb) (wBin g wa wb) := ⟨pe_op o.1 ha.pe hb.pe, le_bin ha.le hb.le o.2⟩
theorem pd_un {op : UnaryOp} {r : V → Hp → VK → Prop} {g : G1} (o : UnR X (unaryOp op) r ∧ UL X.K r g) (ha : PD X W a ta wa) : PD X W (.UnaryOp op a pos) (tUn r ta) (wUn g wa) := ⟨pe_un o.1 ha.pe, le_un ha.le o.2⟩
theorem pd_cmp {op : CmpOp} {r : R2} {g : G2} (o : OpR X (compareOp op) r ∧ OL X.K r g) (ha : PD X W a ta wa) (hb : PD X W b tb wb) (hm : behindInMarks op b = false := by first | exact nomark _ | rfl) : PD X W (.Compare a [op] [b] pos) (tOp r ta tb) (wBin g wa wb) :=
  ⟨pe_cmpR o.1 ha.pe hb.pe hm, le_bin ha.le hb.le o.2⟩

/-! ### tests -/
def wTst (w : DW) : DT := fun δ μ Q F => w δ μ (fun d μ1 => ∃ k, d = .bl k ∧ Q k μ1) F
theorem lt_tst {K : PySem.W.Frag} (ha : LE K W ta wa) : LT K W (tTest ta) (wTst wa) := fun σ δ H μ Q Qd F S q kQ kF =>
  ha σ δ H μ _ _ F S q (fun v d H1 μ1 m1 r1 ⟨k, e, q1⟩ => by
    subst e
    exact ⟨k, r1.bl_inv, kQ k H1 μ1 m1 q1⟩) kF
theorem pdt_cmp {op : CmpOp} {r : R2} {g : G2} (o : OpR X (compareOp op) r ∧ OL X.K r g) (ha : PD X W a ta wa) (hb : PD X W b tb wb) (hm : behindInMarks op b = false := by first | exact nomark _ | rfl) : PDT X W (.Compare a [op] [b] pos) (tTest (tOp r ta tb)) (wTst (wBin g wa wb)) :=
  ⟨pt_cmpR o.1 ha.pe hb.pe hm, lt_tst (le_bin ha.le hb.le o.2)⟩
/-- an expression whose value is a bool -/
theorem pdt_val (ha : PD X W e te we) (he : ∀ whole, isTrue e X.env whole = (do let v ← whole; standAt e.pos; holding [v] (truthy v)) := by intro _; rfl) : PDT X W e (tB te) (wTst we) :=
  ⟨pt_val ha.pe he, lt_tst ha.le⟩
def wAnd (t u : DT) : DT := fun δ μ Q F => t δ μ (fun k μ1 => if k = true then u δ μ1 Q F else Q false μ1) F
def wOr (t u : DT) : DT := fun δ μ Q F => t δ μ (fun k μ1 => if k = true then Q true μ1 else u δ μ1 Q F) F
def wNot (t : DT) : DT := fun δ μ Q F => t δ μ (fun k μ1 => Q (!k) μ1) F
/-- a test whatever its 'whole' is -/
structure PDW (X : Cx) (W : WX) (e : Expr) (t : TT) (w : DT) : Prop where
  pw : PW X e t
  lt : LT X.K W t w
theorem PDW.pdt (h : PDW X W e tt wt) : PDT X W e tt wt := ⟨h.pw.pt, h.lt⟩
theorem pdw_and1 (ha : PDT X W a tt wt) : PDW X W (.BoolOp .And [a] pos) tt wt := ⟨pw_and1 ha.pt, ha.lt⟩
theorem pdw_or1 (ha : PDT X W a tt wt) : PDW X W (.BoolOp .Or [a] pos) tt wt := ⟨pw_or1 ha.pt, ha.lt⟩
theorem pdw_and (ha : PDT X W a tt wt) (hb : PDW X W (.BoolOp .And (b :: es) pos) tu wu) : PDW X W (.BoolOp .And (a :: b :: es) pos) (tAnd tt tu) (wAnd wt wu) := by
  refine ⟨pw_and ha.pt hb.pw, fun σ δ H μ Q Qd F S q kQ kF => ?_⟩
  refine ha.lt σ δ H μ _ _ F S q (fun k H1 μ1 m1 q1 => ?_) kF
  cases k with
  | true => exact hb.lt σ δ H1 μ1 _ _ F (S.step m1) q1 (fun k2 H2 μ2 m2 q2 => kQ k2 H2 μ2 (m1.trans m2) q2) (kF.step m1)
  | false => exact kQ false H1 μ1 m1 q1
theorem pdw_or (ha : PDT X W a tt wt) (hb : PDW X W (.BoolOp .Or (b :: es) pos) tu wu) : PDW X W (.BoolOp .Or (a :: b :: es) pos) (tOr tt tu) (wOr wt wu) := by
  refine ⟨pw_or ha.pt hb.pw, fun σ δ H μ Q Qd F S q kQ kF => ?_⟩
  refine ha.lt σ δ H μ _ _ F S q (fun k H1 μ1 m1 q1 => ?_) kF
  cases k with
  | false => exact hb.lt σ δ H1 μ1 _ _ F (S.step m1) q1 (fun k2 H2 μ2 m2 q2 => kQ k2 H2 μ2 (m1.trans m2) q2) (kF.step m1)
  | true => exact kQ true H1 μ1 m1 q1
theorem pdt_not (ha : PDT X W a tt wt) : PDT X W (.UnaryOp .Not a pos) (tNot tt) (wNot wt) :=
  ⟨pt_not ha.pt, fun σ δ H μ Q Qd F S q kQ kF => ha.lt σ δ H μ _ _ F S q (fun k H1 μ1 m1 q1 => kQ (!k) H1 μ1 m1 q1) kF⟩
/-! and, or, not of bools, as values -/
def wAndV (wa wb : DW) : DW := fun δ μ Q F => wa δ μ (fun d μ1 => ∃ k, d = .bl k ∧ if k = true then wb δ μ1 Q F else Q (.bl false) μ1) F
def wOrV (wa wb : DW) : DW := fun δ μ Q F => wa δ μ (fun d μ1 => ∃ k, d = .bl k ∧ if k = true then Q (.bl true) μ1 else wb δ μ1 Q F) F
def wNotV (wa : DW) : DW := fun δ μ Q F => wa δ μ (fun d μ1 => ∃ k, d = .bl k ∧ Q (.bl (!k)) μ1) F
/-- a if t else b -/
def wIf (t : DT) (wa wb : DW) : DW := fun δ μ Q F => t δ μ (fun k μ1 => if k = true then wa δ μ1 Q F else wb δ μ1 Q F) F
theorem pd_if (hc : PDT X W c tt wt) (ha : PD X W a ta wa) (hb : PD X W b tb wb) : PD X W (.IfExp c a b pos) (tIf tt ta tb) (wIf wt wa wb) := by
  refine ⟨pe_ifExp hc.pt ha.pe hb.pe, fun σ δ H μ Q Qd F S q kQ kF => ?_⟩
  refine hc.lt σ δ H μ _ _ F S q (fun k H1 μ1 m1 q1 => ?_) kF
  cases k with
  | true => exact ha.le σ δ H1 μ1 _ _ F (S.step m1) q1 (fun v2 d2 H2 μ2 m2 r2 q2 => kQ v2 d2 H2 μ2 (m1.trans m2) r2 q2) (kF.step m1)
  | false => exact hb.le σ δ H1 μ1 _ _ F (S.step m1) q1 (fun v2 d2 H2 μ2 m2 r2 q2 => kQ v2 d2 H2 μ2 (m1.trans m2) r2 q2) (kF.step m1)

/-! ### displays -/
def wTup (wa : DA) : DW := fun δ μ Q F => wa δ μ (fun ds μ1 => ds.length ≤ 1000000 ∧ Q (.tup ds) μ1) F
def wLst (wa : DA) : DW := fun δ μ Q F => wa δ μ (fun ds μ1 => ds.length ≤ 1000000 ∧ Q (.lst ds) μ1) F
/-- a list that will change: behind a handle -/
def wLstM (wa : DA) : DW := fun δ μ Q F => wa δ μ (fun ds μ1 => ds.length ≤ 1000000 ∧ ∀ p, μ1 p = none → Q (.obj p) (mput μ1 p (.lst ds))) F
theorem sz_ok {n : Nat} (h : n ≤ 1000000) : n ≤ sizeLine := Nat.le_trans h (by decide)
theorem hid_new {H : Hp} {μ : M} {p : Addr} {o : HO} (e : μ p = none) (n : notTbl o = true := by rfl) : hid (upd H p o) μ p = some o := hid_some.mpr ⟨⟨e, n⟩, upd_same⟩
theorem pd_tup {x1} (h : PDA X W es tr wr) : PD X W (.Tuple es x1 pos) (tTup tr) (wTup wr) := by
  refine ⟨pe_tup h.pa, fun σ δ H μ Q Qd F S q kQ kF => ?_⟩
  refine h.la σ δ H μ _ _ F S q (fun vs ds H1 μ1 m1 r1 ⟨z, q1⟩ => ⟨sz_ok (by rw [r1.length]; exact z), fun p hp => ?_⟩) kF
  have m2 := Mv.new (o := .tup vs) m1.mr hp
  exact kQ _ _ _ _ (m1.trans m2) (.tup (SqT.of (hid_new (m1.mr.fresh hp))) (r1.mono m2.sm)) q1
theorem pd_lst (h : PDA X W es tr wr) : PD X W (.List es pos) (tLst tr) (wLst wr) := by
  refine ⟨pe_lst h.pa, fun σ δ H μ Q Qd F S q kQ kF => ?_⟩
  refine h.la σ δ H μ _ _ F S q (fun vs ds H1 μ1 m1 r1 ⟨z, q1⟩ => ⟨sz_ok (by rw [r1.length]; exact z), fun p hp => ?_⟩) kF
  have m2 := Mv.new (o := .lst vs) m1.mr hp
  exact kQ _ _ _ _ (m1.trans m2) (.lst (hid_new (m1.mr.fresh hp)) (r1.mono m2.sm)) q1
theorem Mv.newL {K : PySem.W.Frag} {H : Hp} {μ : M} {p : Addr} {vs : List V} {ds : List D} (h : MR K H μ) (e : H p = none) (r : RA K (hid H μ) vs ds) : Mv K H μ (upd H p (.lst vs)) (mput μ p (.lst ds)) :=
  Mv.put h (.inl e) fun sm eq => ⟨vs, upd_same, by rw [eq]; exact r.mono sm⟩
theorem pd_lstM (h : PDA X W es tr wr) : PD X W (.List es pos) (tLst tr) (wLstM wr) := by
  refine ⟨pe_lst h.pa, fun σ δ H μ Q Qd F S q kQ kF => ?_⟩
  refine h.la σ δ H μ _ _ F S q (fun vs ds H1 μ1 m1 r1 ⟨z, q1⟩ => ⟨sz_ok (by rw [r1.length]; exact z), fun p hp => ?_⟩) kF
  exact kQ _ _ _ _ (m1.trans (Mv.newL m1.mr hp r1)) (.obj p) (q1 p (m1.mr.fresh hp))
end

/-! ### what the operators do -/
def gI (C : Int → Int → Prop) (g : Int → Int → D) : G2 := fun x y μ Q => ∃ i j, x = .int i ∧ y = .int j ∧ C i j ∧ Q (g i j) μ
def gU (g : Int → D) : G1 := fun x μ Q => ∃ i, x = .int i ∧ Q (g i) μ
theorem ol_int {K : PySem.W.Frag} {C C' : Int → Int → Prop} {g : Int → Int → Int} (h : ∀ i j, C' i j → C i j) : OL K (rI C fun i j => .int (g i j)) (gI C' fun i j => .int (g i j)) := fun H μ x y dx dy Q Qd m rx ry ⟨i, j, e1, e2, c, q⟩ k => by
  subst e1 e2
  exact ⟨i, j, rx.int_inv, ry.int_inv, h i j c, k _ _ H μ (.refl m) (.int _) q⟩
theorem ol_int0 {K : PySem.W.Frag} {g : Int → Int → Int} : OL K (rI0 fun i j => .int (g i j)) (gI (fun _ _ => True) fun i j => .int (g i j)) := fun H μ x y dx dy Q Qd m rx ry ⟨i, j, e1, e2, c, q⟩ k => by
  subst e1 e2
  exact ⟨i, j, rx.int_inv, ry.int_inv, k _ _ H μ (.refl m) (.int _) q⟩
theorem ol_bl0 {K : PySem.W.Frag} {g : Int → Int → Bool} : OL K (rI0 fun i j => .bl (g i j)) (gI (fun _ _ => True) fun i j => .bl (g i j)) := fun H μ x y dx dy Q Qd m rx ry ⟨i, j, e1, e2, c, q⟩ k => by
  subst e1 e2
  exact ⟨i, j, rx.int_inv, ry.int_inv, k _ _ H μ (.refl m) (.bl _) q⟩
/-- // by any divisor -/
def CDivG (_ j : Int) : Prop := j ≠ 0 ∧ j.natAbs.log2 < 1000000000
section
variable {X : Cx}
/-- + of ints, texts, lists, tuples -/
def gAdd : G2 := fun x y μ Q => (∃ i j, x = .int i ∧ y = .int j ∧ Q (.int (i + j)) μ) ∨ (∃ i j, x = .str i ∧ y = .str j ∧ i.length + j.length ≤ 1000000 ∧ Q (.str (i ++ j)) μ) ∨
  (∃ i j, lstOf μ x = some i ∧ lstOf μ y = some j ∧ i.length + j.length ≤ 1000000 ∧ Q (.lst (i ++ j)) μ) ∨ ∃ i j, x = .tup i ∧ y = .tup j ∧ i.length + j.length ≤ 1000000 ∧ Q (.tup (i ++ j)) μ
def rAddA (K : PySem.W.Frag) : R2 := fun x y H Q => (rI0 (fun i j => .int (i + j)) x y H Q ∨ (∃ i j, x = .str i ∧ y = .str j ∧ i.length + j.length ≤ sizeLine ∧ Q (.str (i ++ j)) H)) ∨ (rCat x y H Q ∨ rCatA K x y H Q)
theorem o_add : OpR X (binaryOp .Add) (rAddA X.K) ∧ OL X.K (rAddA X.K) gAdd := by
  refine ⟨OpR.or (OpR.or op_add op_add_str) (OpR.or op_cat op_catA), fun H μ x y dx dy Q Qd m rx ry h k => ?_⟩
  rcases h with ⟨i, j, rfl, rfl, q⟩ | ⟨i, j, rfl, rfl, z, q⟩ | ⟨i, j, e1, e2, z, q⟩ | ⟨i, j, rfl, rfl, z, q⟩
  · exact .inl (.inl ⟨i, j, rx.int_inv, ry.int_inv, k _ _ H μ (.refl m) (.int _) q⟩)
  · exact .inl (.inr ⟨i, j, rx.str_inv, ry.str_inv, sz_ok z, k _ _ H μ (.refl m) (.str _) q⟩)
  · obtain ⟨a, xs, rfl, h1, ra⟩ := lst_of m rx e1
    obtain ⟨b, ys, rfl, h2, rb⟩ := lst_of m ry e2
    refine .inr (.inl ⟨a, b, xs, ys, rfl, rfl, h1, h2, sz_ok (by rw [ra.length, rb.length]; exact z), fun p hp => ?_⟩)
    have m2 := Mv.new (o := .lst (xs ++ ys)) m hp
    exact k _ _ _ _ m2 (.lst (hid_new (m.fresh hp)) ((ra.append rb).mono m2.sm)) q
  · cases rx with
    | @tup a xs _ h1 ra =>
      cases ry with
      | @tup b ys _ h2 rb =>
        have t1 := same_t hid_sub h1
        have t2 := same_t hid_sub h2
        refine .inr (.inr ⟨a, b, xs, ys, rfl, rfl, t1, t2, sz_ok (by rw [ra.length, rb.length]; exact z), fun e => ?_, fun _ e => ?_, fun _ _ p hp => ?_⟩)
        · subst e
          cases ra
          exact k _ _ H μ (.refl m) (.tup h2 rb) q
        · subst e
          cases rb
          rw [List.append_nil] at q
          exact k _ _ H μ (.refl m) (.tup h1 ra) q
        · have m2 := Mv.new (o := .tup (xs ++ ys)) m hp
          exact k _ _ _ _ m2 (.tup (SqT.of (hid_new (m.fresh hp))) ((ra.append rb).mono m2.sm)) q
theorem o_sub : OpR X (binaryOp .Sub) (rI0 fun i j => .int (i - j)) ∧ OL X.K (rI0 fun i j => .int (i - j)) (gI (fun _ _ => True) fun i j => .int (i - j)) := ⟨op_sub, ol_int0⟩
/-- * of two factors of together less than 130 million bits -/
def CMulB (i j : Int) : Prop := i.natAbs.log2 + j.natAbs.log2 < 130000000
theorem CMulB.ok {i j : Int} (h : CMulB i j) : IntMulOk i j := by
  have b : ∀ x : Int, Builtin.Int.intBits x ≤ x.natAbs.log2 + 1 := fun x => by
    unfold Builtin.Int.intBits
    split <;> omega
  have h1 := b i
  have h2 := b j
  have h3 : i.natAbs.log2 + j.natAbs.log2 < 130000000 := h
  have e : bitsLine = 134217728 := by decide
  unfold IntMulOk
  intro z
  rw [Bool.and_eq_true] at z
  have z2 := z.2
  unfold Builtin.Int.intTooBig at z2
  have z3 := of_decide_eq_true z2
  rw [e] at z3
  omega
theorem op_mulX : OpR X (binaryOp .Mult) (rI CMulB fun i j => .int (i * j)) := opI fun _ _ _ _ _ _ _ hc q => mul_int q hc.ok
theorem o_mul : OpR X (binaryOp .Mult) (rI CMulB fun i j => .int (i * j)) ∧ OL X.K (rI CMulB fun i j => .int (i * j)) (gI CMulB fun i j => .int (i * j)) := ⟨op_mulX, ol_int fun _ _ h => h⟩
theorem o_mod : OpR X (binaryOp .Mod) (rI (fun _ j => j ≠ 0) fun i j => .int (i.fmod j)) ∧ OL X.K (rI (fun _ j => j ≠ 0) fun i j => .int (i.fmod j)) (gI (fun _ j => j ≠ 0) fun i j => .int (i.fmod j)) := ⟨op_modN, ol_int fun _ _ h => h⟩
theorem o_pow : OpR X (binaryOp .Pow) (rI CPow fun i j => .int (i ^ j.toNat)) ∧ OL X.K (rI CPow fun i j => .int (i ^ j.toNat)) (gI CPow fun i j => .int (i ^ j.toNat)) := ⟨op_pow, ol_int fun _ _ h => h⟩
theorem o_lt : OpR X (compareOp .Lt) (rI0 fun i j => .bl (decide (i < j))) ∧ OL X.K (rI0 fun i j => .bl (decide (i < j))) (gI (fun _ _ => True) fun i j => .bl (decide (i < j))) := ⟨op_lt, ol_bl0⟩
theorem o_gt : OpR X (compareOp .Gt) (rI0 fun i j => .bl (decide (j < i))) ∧ OL X.K (rI0 fun i j => .bl (decide (j < i))) (gI (fun _ _ => True) fun i j => .bl (decide (j < i))) := ⟨op_gt, ol_bl0⟩
theorem o_ge : OpR X (compareOp .GtE) (rI0 fun i j => .bl (decide (j ≤ i))) ∧ OL X.K (rI0 fun i j => .bl (decide (j ≤ i))) (gI (fun _ _ => True) fun i j => .bl (decide (j ≤ i))) := ⟨op_ge, ol_bl0⟩
theorem o_neg : UnR X (unaryOp .USub) (rU fun i => .int (-i)) ∧ UL X.K (rU fun i => .int (-i)) (gU fun i => .int (-i)) := ⟨un_neg, fun H μ x dx Q Qd m rx ⟨i, e, q⟩ k => by
  subst e
  exact ⟨i, rx.int_inv, k _ _ H μ (.refl m) (.int _) q⟩⟩
/-- ==, != of data -/
def gEq (neg : Bool) : G2 := fun x y μ Q => ∃ p q, pyOf μ x = some p ∧ pyOf μ y = some q ∧ SeqAt.shaped p = true ∧ SeqAt.shaped q = true ∧ Q (.bl (if neg = true then !PyData.eqv p q else PyData.eqv p q)) μ
theorem o_eq (hu : X.A.units + 64 < cLine) : OpR X (compareOp .Eq) (rEqD X.K) ∧ OL X.K (rEqD X.K) (gEq false) := by
  refine ⟨op_eqD hu, fun H μ x y dx dy Q Qd m rx ry ⟨p, q, e1, e2, s1, s2, h⟩ k => ?_⟩
  exact ⟨p, q, Dp.of_Dq (Dq.of_pyOf m rx e1) (SeqAt.canLay_of_shaped s1), Dp.of_Dq (Dq.of_pyOf m ry e2) (SeqAt.canLay_of_shaped s2), s1, s2, k _ _ H μ (.refl m) (.bl _) h⟩
theorem o_ne (hu : X.A.units + 64 < cLine) : OpR X (compareOp .NotEq) (rNeD X.K) ∧ OL X.K (rNeD X.K) (gEq true) := by
  refine ⟨op_neD hu, fun H μ x y dx dy Q Qd m rx ry ⟨p, q, e1, e2, s1, s2, h⟩ k => ?_⟩
  exact ⟨p, q, Dp.of_Dq (Dq.of_pyOf m rx e1) (SeqAt.canLay_of_shaped s1), Dp.of_Dq (Dq.of_pyOf m ry e2) (SeqAt.canLay_of_shaped s2), s1, s2, k _ _ H μ (.refl m) (.bl _) h⟩
end
end DL

set_option maxHeartbeats 2000000
namespace DL
open PySem PySem.Spec PyProof.Rows L2

/-! ### subscripts, slices -/
theorem at_of {K : PySem.W.Frag} {G : Hp} {vs : List V} {ds : List D} {i : Int} {d : D} (r : RA K G vs ds) (h : atI ds i = some d) : ∃ v, atI vs i = some v ∧ R K G v d := by
  unfold atI at h ⊢
  rw [r.length]
  cases e : ixN ds.length i with
  | none => rw [e] at h; cases h
  | some j =>
    rw [e] at h
    exact r.get h
def gIx : G2 := fun x y μ Q => (∃ ds i d, seqOf μ x = some ds ∧ y = .int i ∧ atI ds i = some d ∧ Q d μ) ∨ ∃ z i c, x = .str z ∧ y = .int i ∧ z.length ≤ 1000000 ∧ atI z.cps.toList i = some c ∧ Q (.str ⟨#[c]⟩) μ
/-- d[k], a dict behind a handle, or a written one -/
def dctOf (μ : M) : D → Option (List (Key × D))
  | .dct ks => some ks
  | .obj a => match μ a with
    | some (.dct ks) => some ks
    | _ => none
  | _ => none
def keyOf : D → Option Key
  | .int i => some (.inl i)
  | .str x => some (.inr x)
  | _ => none
def valD (ks : List (Key × D)) (k : Key) : Option D := (ks.find? fun p => decide (p.1 = k)).map (·.2)
def gDGet : G2 := fun x y μ Q => ∃ ks k d, dctOf μ x = some ks ∧ keyOf y = some k ∧ valD ks k = some d ∧ Q d μ
section
variable {K : PySem.W.Frag} {H : Hp} {μ : M}
theorem dct_of {v : V} {d : D} {ks : List (Key × D)} (m : MR K H μ) (r : R K (hid H μ) v d) (h : dctOf μ d = some ks) : ∃ a kvs, v = .ref a ∧ H a = some (.dK kvs) ∧ RK K (hid H μ) kvs ks := by
  cases r with
  | @dct a kvs ks' e ra =>
    cases h
    exact ⟨a, kvs, rfl, (hid_some.mp e).2, ra⟩
  | obj a =>
    unfold dctOf at h
    cases q : μ a with
    | none => simp only [q] at h; cases h
    | some mo =>
      cases mo with
      | dct xs =>
        simp only [q] at h
        cases h
        obtain ⟨vs, e, ra⟩ := m a _ q
        exact ⟨a, vs, rfl, e, ra⟩
      | _ => simp only [q] at h; cases h
  | _ => cases h
theorem key_of {v : V} {d : D} {k : Key} {G : Hp} (r : R K G v d) (h : keyOf d = some k) : v = kV k := by
  cases r with
  | int i => cases h; rfl
  | str x => cases h; rfl
  | _ => cases h
end
section
variable {X : Cx} {W : WX} {x : Str} {pos p2 : Pos} {a b c e : Expr} {es : List Expr} {ta tb tc te : TE} {wa wb wc we : DW} {tr : TA} {wr : DA}
theorem ol_ix : OL X.K (rIx X.K) gIx := fun H μ x y dx dy Q Qd m rx ry h k => by
  rcases h with ⟨ds, i, d, e1, e2, e3, q⟩ | ⟨z, i, c, e1, e2, hz, e3, q⟩
  · subst e2
    obtain ⟨p, vs, ev, hs, ra⟩ := seq_of m rx e1
    obtain ⟨v, h1, h2⟩ := at_of ra e3
    rcases hs with hs | hs
    · exact .inl ⟨p, vs, i, v, ev, ry.int_inv, hs, h1, k _ _ H μ (.refl m) h2 q⟩
    · exact .inr (.inl ⟨p, vs, i, v, ev, ry.int_inv, hs, h1, k _ _ H μ (.refl m) h2 q⟩)
  · subst e1 e2
    exact .inr (.inr ⟨z, i, c, rx.str_inv, ry.int_inv, sz_ok hz, e3, k _ _ H μ (.refl m) (.str _) q⟩)
theorem pd_ix (ha : PD X W a ta wa) (hb : PD X W b tb wb) (hs : PlainIx b := by exact fun _ _ => rfl) : PD X W (.Subscript a b pos) (tOp (rIx X.K) ta tb) (wBin gIx wa wb) := ⟨pe_ix ix_seq ha.pe hb.pe hs, le_bin ha.le hb.le ol_ix⟩
theorem pd_dget (hu : X.A.units + 1 < cLine) (ha : PD X W a ta wa) (hb : PD X W b tb wb) (hs : NoSl b := by exact fun _ _ => rfl) : PD X W (.Subscript a b pos) (tDGet ta tb) (wBin gDGet wa wb) := by
  refine ⟨pe_dget hu ha.pe hb.pe hs, fun σ δ H μ Q Qd F S q kQ kF => ?_⟩
  refine ha.le σ δ H μ _ _ F S q (fun v d H1 μ1 m1 r1 q1 => ?_) kF
  refine hb.le σ δ H1 μ1 _ _ F (S.step m1) q1 (fun w e H2 μ2 m2 r2 q2 => ?_) (kF.step m1)
  obtain ⟨ks, k, dd, e1, e2, e3, q3⟩ := q2
  obtain ⟨p, kvs, ev, hp, rk⟩ := dct_of m2.mr (r1.mono m2.sm) e1
  obtain ⟨vv, h1, h2⟩ := rk.val e3
  refine ⟨p, vv, ev, ?_, kQ _ _ H2 μ2 (m1.trans m2) h2 q3⟩
  rw [key_of r2 e2, ← h1]
  exact DGet.k hp
/-- a slice's parts -/
structure PDO (X : Cx) (W : WX) (e : Option Expr) (t : TO) (w : DSt → M → (Option Int → M → Prop) → FK → Prop) : Prop where
  po : PO X e t
  lo : ∀ (σ : St) (δ : DSt) (H : Hp) (μ : M) (Q : Option Int → Hp → Prop) (Qd : Option Int → M → Prop) (F : FK), SD X.K σ δ H μ → w δ μ Qd F → (∀ o H' μ', Mv X.K H μ H' μ' → Qd o μ' → Q o H') → Ex1 X.K W σ H μ F → t σ H Q
def wNoPart : DSt → M → (Option Int → M → Prop) → FK → Prop := fun _ μ Q _ => Q none μ
def wPart (wa : DW) : DSt → M → (Option Int → M → Prop) → FK → Prop := fun δ μ Q F => wa δ μ (fun d μ1 => ∃ i, d = .int i ∧ Q (some i) μ1) F
theorem pdo_none : PDO X W none tNoPart wNoPart := ⟨po_none, fun σ δ H μ Q Qd F S q kQ kF => kQ none H μ (.refl S.mr) q⟩
theorem pdo_some (ha : PD X W e te we) : PDO X W (some e) (tPart te) (wPart we) := ⟨po_some ha.pe, fun σ δ H μ Q Qd F S q kQ kF => ha.le σ δ H μ _ _ F S q (fun v d H1 μ1 m1 r1 ⟨i, e, q1⟩ => by
  subst e
  exact ⟨i, r1.int_inv, kQ _ H1 μ1 m1 q1⟩) kF⟩
theorem lro_of {K : PySem.W.Frag} {H : Hp} {μ : M} {v : V} {x : D} {ds : List D} (m : MR K H μ) (rx : R K (hid H μ) v x) (e : lstOf μ x = some ds ∨ x = .ro ds) : ∃ a vs, v = .ref a ∧ SqL K H a vs ∧ RA K (hid H μ) vs ds := by
  rcases e with e | e
  · obtain ⟨a, vs, ev, e1, ra⟩ := lst_of m rx e
    exact ⟨a, vs, ev, SqL.of e1, ra⟩
  · subst e
    cases rx with
    | ro e1 ra => exact ⟨_, _, rfl, hid_sub.seq e1, ra⟩
def cutD {α : Type} (xs : List α) (lo hi : Option Int) : List α := (xs.drop (HT.sIx xs.length 0 lo)).take (HT.sIx xs.length xs.length hi - HT.sIx xs.length 0 lo)
theorem cut_of {K : PySem.W.Frag} {G : Hp} {vs : List V} {ds : List D} (lo hi : Option Int) (r : RA K G vs ds) : RA K G (cutV vs lo hi) (cutD ds lo hi) := by
  unfold cutV cutD
  rw [r.length]
  exact (r.drop _).take _
def gSl (x : D) (lo hi : Option Int) (μ : M) (Q : DK) : Prop := (∃ ds, (lstOf μ x = some ds ∨ x = .ro ds) ∧ Q (.lst (cutD ds lo hi)) μ) ∨ (∃ ds, x = .tup ds ∧ Q (.tup (cutD ds lo hi)) μ) ∨ ∃ z, x = .str z ∧ z.length ≤ 1000000 ∧ Q (.str (Txt.slice z lo hi)) μ
def wSl (wa : DW) (wl wh : DSt → M → (Option Int → M → Prop) → FK → Prop) : DW := fun δ μ Q F => wa δ μ (fun x μ1 => wl δ μ1 (fun lo μ2 => wh δ μ2 (fun hi μ3 => gSl x lo hi μ3 Q) F) F) F
theorem cut_all {α : Type} {xs : List α} {lo hi : Option Int} (h : HT.sIx xs.length 0 lo = 0 ∧ HT.sIx xs.length xs.length hi = xs.length) : cutD xs lo hi = xs := by
  unfold cutD
  rw [h.1, h.2]
  simp
def rSlAny (K : PySem.W.Frag) : V → Option Int → Option Int → Hp → VK → Prop := fun x lo hi H Q => rSlL K x lo hi H Q ∨ (rSlA K x lo hi H Q ∨ C8.rSlX x lo hi H Q)
theorem sl_any : SlR X (rSlAny X.K) := SlR.or sl_list (SlR.or sl_tupA C8.sl_txt)
theorem sl_of {K : PySem.W.Frag} {H : Hp} {μ : M} {v : V} {x : D} {lo hi : Option Int} {Q : VK} {Qd : DK} (m : MR K H μ) (rx : R K (hid H μ) v x) (h : gSl x lo hi μ Qd) (k : ∀ v d H' μ', Mv K H μ H' μ' → R K (hid H' μ') v d → Qd d μ' → Q v H') : rSlAny K v lo hi H Q := by
  rcases h with ⟨ds, e, q⟩ | ⟨ds, e, q⟩ | ⟨z, e, hz, q⟩
  · obtain ⟨a, vs, ev, e1, ra⟩ := lro_of m rx e
    refine .inl ⟨a, vs, ev, e1, fun p hp => ?_⟩
    have m2 := Mv.new (o := .lst (cutV vs lo hi)) m hp
    exact k _ _ _ _ m2 (.lst (hid_new (m.fresh hp)) ((cut_of lo hi ra).mono m2.sm)) q
  · subst e
    cases rx with
    | @tup a vs _ e1 ra =>
      refine .inr (.inl ⟨a, vs, rfl, same_t hid_sub e1, fun hw => ?_, fun _ p hp => ?_⟩)
      · rw [ra.length] at hw
        rw [cut_all hw] at q
        exact k _ _ H μ (.refl m) (.tup e1 ra) q
      · have m2 := Mv.new (o := .tup (cutV vs lo hi)) m hp
        exact k _ _ _ _ m2 (.tup (SqT.of (hid_new (m.fresh hp))) ((cut_of lo hi ra).mono m2.sm)) q
  · subst e
    exact .inr (.inr ⟨z, rx.str_inv, sz_ok hz, k _ _ H μ (.refl m) (.str _) q⟩)
theorem pd_slice {lo hi : Option Expr} {tl th : TO} {wl wh : DSt → M → (Option Int → M → Prop) → FK → Prop} (he : PD X W e te we) (hl : PDO X W lo tl wl) (hh : PDO X W hi th wh) : PD X W (.Subscript e (.Slice lo hi none p2) pos) (tSl (rSlAny X.K) te tl th) (wSl we wl wh) := by
  refine ⟨pe_slice sl_any he.pe hl.po hh.po, fun σ δ H μ Q Qd F S q kQ kF => ?_⟩
  refine he.le σ δ H μ _ _ F S q (fun v d H1 μ1 m1 r1 q1 => ?_) kF
  refine hl.lo σ δ H1 μ1 _ _ F (S.step m1) q1 (fun o1 H2 μ2 m2 q2 => ?_) (kF.step m1)
  refine hh.lo σ δ H2 μ2 _ _ F (S.step (m1.trans m2)) q2 (fun o2 H3 μ3 m3 q3 => ?_) (kF.step (m1.trans m2))
  exact sl_of m3.mr (r1.mono (m2.trans m3).sm) q3 fun v d H' μ' m' r q' => kQ v d H' μ' ((m1.trans (m2.trans m3)).trans m') r q'

/-! ### built-in functions -/
theorem pd_callB {id : String} {r : List V → Hp → VK → Prop} {g : List D → M → DK → Prop} (o : CallR X (.builtin id) r ∧ CL X.K r g) (hm : X.mg x = none) (hv : bootBuiltins x = some (.builtin id)) (ha : PDA X W (e :: es) tr wr) (hg : Gl X x := by rfl) (hn : x ≠ "__name__" := by decide)
    (hdb : (x == ("__debug__" : Str)) = false := by decide) (he : starEach (e :: es) X.env = (false, eval e X.env) :: starEach es X.env := by rfl) (hpl : (backTo pos (starEach es X.env)).any (·.1) = false := by rfl) {p : Pos} :
    PD X W (.Call (.Name x p) (e :: es) [] pos) (tCB r tr) (wCB g wr) := ⟨pe_callB o.1 hg hm hv ha.pa hn hdb he hpl, le_cb ha.la o.2⟩
theorem pd_callT {T : String} {r : List V → Hp → VK → Prop} {g : List D → M → DK → Prop} (o : CallR X (.type T) r ∧ CL X.K r g) (hm : X.mg x = none) (hv : bootBuiltins x = some (.type T)) (ha : PDA X W (e :: es) tr wr) (hg : Gl X x := by rfl) (hn : x ≠ "__name__" := by decide)
    (hdb : (x == ("__debug__" : Str)) = false := by decide) (he : starEach (e :: es) X.env = (false, eval e X.env) :: starEach es X.env := by rfl) (hpl : (backTo pos (starEach es X.env)).any (·.1) = false := by rfl) {p : Pos} :
    PD X W (.Call (.Name x p) (e :: es) [] pos) (tCB r tr) (wCB g wr) := ⟨pe_callTy o.1 hg hm hv ha.pa hn hdb he hpl, le_cb ha.la o.2⟩
/-- one argument -/
def gOne (g : G1) : List D → M → DK → Prop := fun ds μ Q => ∃ d, ds = [d] ∧ g d μ Q
theorem ra1 {K : PySem.W.Frag} {G : Hp} {xs : List V} {d : D} (r : RA K G xs [d]) : ∃ v, xs = [v] ∧ R K G v d := by
  cases r with
  | cons h r => cases r; exact ⟨_, rfl, h⟩
theorem ra2 {K : PySem.W.Frag} {G : Hp} {xs : List V} {d e : D} (r : RA K G xs [d, e]) : ∃ v w, xs = [v, w] ∧ R K G v d ∧ R K G w e := by
  cases r with
  | cons h r =>
    obtain ⟨w, rfl, h2⟩ := ra1 r
    exact ⟨_, _, rfl, h, h2⟩
def gLen : G1 := fun x μ Q => (∃ ds, seqOf μ x = some ds ∧ Q (.int ds.length) μ) ∨ (∃ z, x = .str z ∧ z.length ≤ 1000000 ∧ Q (.int z.length) μ) ∨ ∃ ks, dctOf μ x = some ks ∧ Q (.int ks.length) μ
theorem c_len : CallR X (.builtin "len") (fun xs H Q => (∃ x n, xs = [x] ∧ LenV X.K x H n ∧ Q (.int n) H) ∨ ∃ a kvs, xs = [V.ref a] ∧ H a = some (.dK kvs) ∧ Q (.int kvs.length) H) ∧
    CL X.K (fun xs H Q => (∃ x n, xs = [x] ∧ LenV X.K x H n ∧ Q (.int n) H) ∨ ∃ a kvs, xs = [V.ref a] ∧ H a = some (.dK kvs) ∧ Q (.int kvs.length) H) (gOne gLen) := by
  refine ⟨CallR.or call_len call_lenD, fun H μ xs ds Q Qd m rx ⟨d, e, h⟩ k => ?_⟩
  subst e
  obtain ⟨v, rfl, rv⟩ := ra1 rx
  rcases h with ⟨ds, e, q⟩ | ⟨z, e, hz, q⟩ | ⟨ks, e, q⟩
  · obtain ⟨a, vs, rfl, hs, ra⟩ := seq_of m rv e
    refine .inl ⟨_, vs.length, rfl, ?_, k _ _ H μ (.refl m) (by rw [ra.length]; exact .int _) q⟩
    rcases hs with hs | hs
    · exact .inl ⟨vs, hs, rfl⟩
    · exact .inr ⟨vs, hs, rfl⟩
  · subst e
    rw [rv.str_inv]
    exact .inl ⟨_, z.length, rfl, ⟨sz_ok hz, rfl⟩, k _ _ H μ (.refl m) (.int _) q⟩
  · obtain ⟨a, kvs, rfl, hs, ra⟩ := dct_of m rv e
    exact .inr ⟨a, kvs, rfl, hs, k _ _ H μ (.refl m) (by rw [ra.length]; exact .int _) q⟩
def gInt : G1 := fun x μ Q => (∃ i, x = .int i ∧ Q (.int i) μ) ∨ (∃ b, x = .bl b ∧ Q (.int (if b then 1 else 0)) μ) ∨ ∃ z n, x = .str z ∧ PySem.intText? z = some n ∧ z.length ≤ 640 ∧ Q (.int n) μ
def rIntT : List V → Hp → VK → Prop := fun xs H Q => ((∃ i, xs = [.int i] ∧ Q (.int i) H) ∨ ∃ k, xs = [.bl k] ∧ Q (.int (if k then 1 else 0)) H) ∨ ∃ z n, xs = [.str z] ∧ PySem.intText? z = some n ∧ z.length ≤ 640 ∧ Q (.int n) H
theorem c_int : CallR X (.type "int") rIntT ∧ CL X.K rIntT (gOne gInt) := by
  refine ⟨CallR.or call_int1 call_int_str, fun H μ xs ds Q Qd m rx ⟨d, e, h⟩ k => ?_⟩
  subst e
  obtain ⟨v, rfl, rv⟩ := ra1 rx
  rcases h with ⟨i, rfl, q⟩ | ⟨i, rfl, q⟩ | ⟨z, n, rfl, h1, h2, q⟩
  · exact .inl (.inl ⟨i, by rw [rv.int_inv], k _ _ H μ (.refl m) (.int _) q⟩)
  · exact .inl (.inr ⟨i, by rw [rv.bl_inv], k _ _ H μ (.refl m) (.int _) q⟩)
  · exact .inr ⟨z, n, by rw [rv.str_inv], h1, h2, k _ _ H μ (.refl m) (.int _) q⟩
/-- list(x), as data; tuple(x) -/
def gList : G1 := fun x μ Q => ∃ ds, seqOf μ x = some ds ∧ Q (.lst ds) μ
theorem c_list : CallR X (.type "list") (fun xs H Q => ∃ p ys, xs = [.ref p] ∧ (SqL X.K H p ys ∨ SqT X.K H p ys) ∧ ∀ l, H l = none → Q (.ref l) (upd H l (.lst ys))) ∧
    CL X.K (fun xs H Q => ∃ p ys, xs = [.ref p] ∧ (SqL X.K H p ys ∨ SqT X.K H p ys) ∧ ∀ l, H l = none → Q (.ref l) (upd H l (.lst ys))) (gOne gList) := by
  refine ⟨call_list_of, fun H μ xs ds Q Qd m rx ⟨d, e, ds', e2, q⟩ k => ?_⟩
  subst e
  obtain ⟨v, rfl, rv⟩ := ra1 rx
  obtain ⟨a, vs, rfl, hs, ra⟩ := seq_of m rv e2
  refine ⟨a, vs, rfl, hs, fun p hp => ?_⟩
  have m2 := Mv.new (o := .lst vs) m hp
  exact k _ _ _ _ m2 (.lst (hid_new (m.fresh hp)) (ra.mono m2.sm)) q
def gStr : G1 := fun x μ Q => (∃ i : Int, x = .int i ∧ i.natAbs.log2 < 1920 ∧ Q (.str (toString i)) μ) ∨ ∃ z, x = .str z ∧ Q (.str z) μ
theorem c_str : CallR X (.type "str") (fun xs H Q => (∃ i : Int, xs = [.int i] ∧ i.natAbs.log2 < 1920 ∧ Q (.str (toString i)) H) ∨ ∃ a, xs = [.str a] ∧ Q (.str a) H) ∧
    CL X.K (fun xs H Q => (∃ i : Int, xs = [.int i] ∧ i.natAbs.log2 < 1920 ∧ Q (.str (toString i)) H) ∨ ∃ a, xs = [.str a] ∧ Q (.str a) H) (gOne gStr) := by
  refine ⟨CallR.or call_str_int SkE.call_str_str, fun H μ xs ds Q Qd m rx ⟨d, e, h⟩ k => ?_⟩
  subst e
  obtain ⟨v, rfl, rv⟩ := ra1 rx
  rcases h with ⟨i, rfl, z, q⟩ | ⟨i, rfl, q⟩
  · exact .inl ⟨i, by rw [rv.int_inv], z, k _ _ H μ (.refl m) (.str _) q⟩
  · exact .inr ⟨i, by rw [rv.str_inv], k _ _ H μ (.refl m) (.str _) q⟩
def gInt2 (g : Int → Int → Int) : List D → M → DK → Prop := fun ds μ Q => ∃ i j, ds = [.int i, .int j] ∧ Q (.int (g i j)) μ
end
end DL

set_option maxHeartbeats 2000000
namespace DL
open PySem PySem.Spec PyProof.Rows L2

/-! ### isinstance -/
/-- what a class must have for its instances' types to be told -/
structure InsTy (K : PySem.W.Frag) (C : Addr) : Prop where
  cl : Cls K C
  ha : PySem.W.findIn K (.ref C) "__class__" = some (some (.builtin "object.__class__"))
  hn : PySem.W.specialIn K (.builtin "object.__class__") "__get__" = some (some (.builtin "getset_descriptor.__get__"))
  htk : PySem.W.takesIn K (.builtin "object.__class__") = some true
  hm : PySem.W.mroIn K C (.type "object") = some true
inductive TyD (K : PySem.W.Frag) (μ : M) : D → Value → Prop
  | non : TyD K μ .non (.type "NoneType")
  | bl (b : Bool) : TyD K μ (.bl b) (.type "bool")
  | int (i : Int) : TyD K μ (.int i) (.type "int")
  | str (x : Str) : TyD K μ (.str x) (.type "str")
  | lst (ds : List D) : TyD K μ (.lst ds) (.type "list")
  | ro (ds : List D) : TyD K μ (.ro ds) (.type "list")
  | tup (ds : List D) : TyD K μ (.tup ds) (.type "tuple")
  | dct (ds : List (Key × D)) : TyD K μ (.dct ds) (.type "dict")
  | olst {a : Addr} {ds : List D} (h : μ a = some (.lst ds)) : TyD K μ (.obj a) (.type "list")
  | odct {a : Addr} {ds : List (Key × D)} (h : μ a = some (.dct ds)) : TyD K μ (.obj a) (.type "dict")
  | ins {a C : Addr} {fs : List (Str × D)} (h : μ a = some (.ins C fs)) (c : InsTy K C) : TyD K μ (.obj a) (.ref C)
  | insD {C : Addr} (fs : List (Str × D)) (c : InsTy K C) : TyD K μ (.ins C fs) (.ref C)
/-- a class, as a value -/
inductive ClsD : D → Value → Prop
  | ty (n : String) : ClsD (.raw (.ty n)) (.type n)
  | own (C : Addr) : ClsD (.raw (.ref C)) (.ref C)
theorem ClsD.v {K : PySem.W.Frag} {G : Hp} {v : V} {d : D} {u : Value} (c : ClsD d u) (r : R K G v d) : ClsV v u := by
  cases c with
  | ty n => rw [r.raw_inv]; exact .ty n
  | own C => rw [r.raw_inv]; exact .own C
theorem ClsD.vs {K : PySem.W.Frag} {G : Hp} : ∀ {ds : List D} {us : List Value} {vs : List V}, Paired ClsD ds us → RA K G vs ds → Paired ClsV vs us
  | _, _, _, .nil, r => by cases r; exact .nil
  | _, _, _, .cons h t, r => by
    cases r with
    | cons r1 r2 => exact .cons (h.v r1) (ClsD.vs t r2)
section
variable {X : Cx} {W : WX}
end

/-! ### repr -/
def rRepr (K : PySem.W.Frag) : List V → Hp → VK → Prop := fun xs H Q => ∃ x p, xs = [x] ∧ Dq K H x p ∧ okN p = true ∧ p.showable = true ∧ p.depth ≤ 60 ∧ p.shown.length ≤ sizeLine ∧ Q (.str p.shown) H
/-- as gRepr, dicts anywhere -/
def gRepr : G1 := fun x μ Q => ∃ p, pyOf μ x = some p ∧ okN p = true ∧ p.showable = true ∧ p.depth ≤ 60 ∧ p.shown.length ≤ 1000000 ∧ Q (.str p.shown) μ
theorem call_repr {X : Cx} (hS : SysB X.base) (hg : X.A.guards = some []) (hu : X.A.units + 64 < cLine) : CallR X (.builtin "repr") (rRepr X.K) := by
  intro pins s σ H xs us Q I r h
  obtain ⟨x, p, rfl, hd, ok, hs, hdp, hz, q⟩ := h
  obtain ⟨u, rfl, ru⟩ := vals1 r
  have fin : ∀ (h' : Heap) (tk : Nat) (t : Tok), (∀ b o, s.heap.get? b = some o → h'.get? b = some o) → EP X pins σ Q (.str p.shown t) { s with heap := h', toks := tk } := fun h' tk t hk => ⟨.str _, H, I.kept hk, ⟨t, rfl⟩, q⟩
  have one : ∀ (t : Tok) (tk : Nat), EP X pins σ Q (.str p.shown t) { s with toks := tk } := fun t tk => ⟨.str _, H, I.tok tk, ⟨t, rfl⟩, q⟩
  obtain ⟨as, rd, hsm'⟩ := Dq.readsS I hS _ _ _ hd ok ru
  have hsm : p.hasDict = true → sysModules ∉ as := fun _ => hsm'
  cases hd with
  | non =>
    cases ru
    exact PySem.P.repr_of_none (one _ _)
  | bl b =>
    cases ru
    refine PySem.P.repr_of_bool ?_
    have := one s.toks (s.toks + 1)
    cases b <;> exact this
  | int i =>
    obtain ⟨t, rfl⟩ := ru
    exact PySem.P.repr_of_int (by simpa [PyData.showable] using hs) (by have := one s.toks (s.toks + 1); simpa only [PyData.shown] using this)
  | str z =>
    obtain ⟨t, rfl⟩ := ru
    refine PySem.P.repr_of_str (by have := one s.toks (s.toks + 1); simpa only [PyData.shown] using this) ?_
    simpa only [PyData.shown] using hz
  | lst _ _ =>
    cases ru
    exact repr_of_reads' rd hs hsm hg (by omega) (fun _ _ e => e) (fun h' u tk hk => fin h' tk u hk) hz
  | tup _ _ =>
    cases ru
    exact repr_of_reads' rd hs hsm hg (by omega) (fun _ _ e => e) (fun h' u tk hk => fin h' tk u hk) hz
  | dct _ _ =>
    cases ru
    exact repr_of_reads' rd hs hsm hg (by omega) (fun _ _ e => e) (fun h' u tk hk => fin h' tk u hk) hz
theorem c_repr {X : Cx} (K : PySem.W.Frag) (hK : X.K = K) (hS : SysB X.base) (hg : X.A.guards = some []) (hu : X.A.units + 64 < cLine) : CallR X (.builtin "repr") (rRepr K) ∧ CL X.K (rRepr K) (gOne gRepr) := by
  subst hK
  refine ⟨call_repr hS hg hu, fun H μ xs ds Q Qd m rx ⟨d, e, p, e2, h1, h2, h3, h4, q⟩ k => ?_⟩
  subst e
  obtain ⟨v, rfl, rv⟩ := ra1 rx
  exact ⟨v, p, rfl, Dq.of_pyOf m rv e2, h1, h2, h3, sz_ok h4, k _ _ H μ (.refl m) (.str _) q⟩

/-! ### dict displays -/
/-- a written dict's pairs -/
inductive PPD (X : Cx) (W : WX) (pos : Pos) : List (Option Expr) → List Expr → List (TE × TE) → List (DW × DW) → Prop
  | nil : PPD X W pos [] [] [] []
  | cons {k v : Expr} {ks : List (Option Expr)} {vs : List Expr} {tk tv : TE} {wk wv : DW} {trs : List (TE × TE)} {ws : List (DW × DW)} (hk : PD X W k tk wk) (hv : PD X W v tv wv) (r : PPD X W pos ks vs trs ws) : PPD X W pos (some k :: ks) (v :: vs) ((tk, tv) :: trs) ((wk, wv) :: ws)
def wPairs : List (DW × DW) → DSt → M → (List (D × D) → M → Prop) → FK → Prop
  | [], _, μ, Q, _ => Q [] μ
  | (wk, wv) :: r, δ, μ, Q, F => wk δ μ (fun x μ1 => wv δ μ1 (fun y μ2 => wPairs r δ μ2 (fun ps μ3 => Q ((x, y) :: ps) μ3) F) F) F
theorem PPD.pps {X : Cx} {W : WX} {pos : Pos} {ks : List (Option Expr)} {vs : List Expr} {trs : List (TE × TE)} {ws : List (DW × DW)} (h : PPD X W pos ks vs trs ws) : PPs X pos ks vs trs := by
  induction h with
  | nil => exact pps_nil
  | cons hk hv _ ih => exact pps_cons hk.pe hv.pe ih
inductive RP (K : PySem.W.Frag) (G : Hp) : List (V × V) → List (D × D) → Prop
  | nil : RP K G [] []
  | cons {x y : V} {d e : D} {vs : List (V × V)} {ds : List (D × D)} : R K G x d → R K G y e → RP K G vs ds → RP K G ((x, y) :: vs) ((d, e) :: ds)
theorem PPD.lp {X : Cx} {W : WX} {pos : Pos} {ks : List (Option Expr)} {vs : List Expr} {trs : List (TE × TE)} {ws : List (DW × DW)} (h : PPD X W pos ks vs trs ws) : ∀ (σ : St) (δ : DSt) (H : Hp) (μ : M) (Q : List (V × V) → Hp → Prop) (Qd : List (D × D) → M → Prop) (F : FK), SD X.K σ δ H μ → wPairs ws δ μ Qd F →
    (∀ vs ds H' μ', Mv X.K H μ H' μ' → RP X.K (hid H' μ') vs ds → Qd ds μ' → Q vs H') → Ex1 X.K W σ H μ F → tPairs trs σ H Q := by
  induction h with
  | nil => exact fun σ δ H μ Q Qd F S q kQ _ => kQ [] [] H μ (.refl S.mr) .nil q
  | cons hk hv _ ih =>
    intro σ δ H μ Q Qd F S q kQ kF
    refine hk.le σ δ H μ _ _ F S q (fun x dx H1 μ1 m1 r1 q1 => ?_) kF
    refine hv.le σ δ H1 μ1 _ _ F (S.step m1) q1 (fun y dy H2 μ2 m2 r2 q2 => ?_) (kF.step m1)
    refine ih σ δ H2 μ2 _ _ F (S.step (m1.trans m2)) q2 (fun ps ds H3 μ3 m3 r3 q3 => ?_) (kF.step (m1.trans m2))
    exact kQ _ _ H3 μ3 (m1.trans (m2.trans m3)) (.cons (r1.mono (m2.trans m3).sm) (r2.mono m3.sm) r3) q3
def mergeD (kvs more : List (Key × D)) : List (Key × D) := more.foldl (fun acc kv => putD acc kv.1 kv.2) kvs
where putD (kvs : List (Key × D)) (k : Key) (v : D) : List (Key × D) := if kvs.any (fun kv => decide (kv.1 = k)) then kvs.map (fun kv => if kv.1 = k then (kv.1, v) else kv) else kvs ++ [(k, v)]
def putD := mergeD.putD
theorem rk_any {K : PySem.W.Frag} {G : Hp} {k : Key} : ∀ {kvs : List (Key × V)} {ks : List (Key × D)}, RK K G kvs ks → (kvs.any fun kv => decide (kv.1 = k)) = (ks.any fun kv => decide (kv.1 = k))
  | _, _, .nil => rfl
  | _, _, .cons _ r => by
    rw [List.any_cons, List.any_cons, rk_any r]
theorem rk_map {K : PySem.W.Frag} {G : Hp} {k : Key} {v : V} {d : D} (h : R K G v d) : ∀ {kvs : List (Key × V)} {ks : List (Key × D)}, RK K G kvs ks → RK K G (kvs.map fun kv => if kv.1 = k then (kv.1, v) else kv) (ks.map fun kv => if kv.1 = k then (kv.1, d) else kv)
  | _, _, .nil => .nil
  | _, _, .cons (k := k1) q r => by
    rw [List.map_cons, List.map_cons]
    by_cases e : k1 = k
    · rw [if_pos e, if_pos e]
      exact .cons h (rk_map h r)
    · rw [if_neg e, if_neg e]
      exact .cons q (rk_map h r)
theorem rk_app {K : PySem.W.Frag} {G : Hp} {k : Key} {v : V} {d : D} (h : R K G v d) : ∀ {kvs : List (Key × V)} {ks : List (Key × D)}, RK K G kvs ks → RK K G (kvs ++ [(k, v)]) (ks ++ [(k, d)])
  | _, _, .nil => .cons h .nil
  | _, _, .cons q r => .cons q (rk_app h r)
theorem rk_put {K : PySem.W.Frag} {G : Hp} {k : Key} {v : V} {d : D} {kvs : List (Key × V)} {ks : List (Key × D)} (r : RK K G kvs ks) (h : R K G v d) : RK K G (putK kvs k v) (putD ks k d) := by
  unfold putK putD mergeD.putD
  rw [rk_any r]
  by_cases e : (ks.any fun kv => decide (kv.1 = k)) = true
  · rw [if_pos e, if_pos e]
    exact rk_map h r
  · rw [if_neg e, if_neg e]
    exact rk_app h r
theorem rk_merge {K : PySem.W.Frag} {G : Hp} : ∀ {more : List (Key × V)} {mored : List (Key × D)}, RK K G more mored → ∀ {kvs : List (Key × V)} {ks : List (Key × D)}, RK K G kvs ks → RK K G (mergeK kvs more) (mergeD ks mored)
  | _, _, .nil, _, _, r => r
  | _, _, .cons h t, _, _, r => rk_merge t (rk_put r h)
theorem rp_keys {K : PySem.W.Frag} {G : Hp} : ∀ {vs : List (V × V)} {ds : List (D × D)} {kds : List (Key × D)}, RP K G vs ds → (ds.mapM fun p => (keyOf p.1).map fun k => (k, p.2)) = some kds → ∃ kvs : List (Key × V), vs = kvs.map (fun kv => (kV kv.1, kv.2)) ∧ RK K G kvs kds
  | _, _, _, .nil, e => by
    simp at e
    subst e
    exact ⟨[], rfl, .nil⟩
  | _, _, kds, .cons (d := d) (e := d2) (ds := ds) h1 h2 r, e => by
    rw [List.mapM_cons] at e
    cases ek : keyOf d with
    | none => simp [ek] at e
    | some k =>
      cases er : (ds.mapM fun p => (keyOf p.1).map fun k => (k, p.2)) with
      | none => simp [ek, er] at e
      | some kr =>
        simp [ek, er] at e
        subst e
        obtain ⟨kvs, e2, r2⟩ := rp_keys r er
        refine ⟨(k, _) :: kvs, ?_, .cons h2 r2⟩
        rw [e2, key_of h1 ek]
        rfl
section
variable {X : Cx} {W : WX} {pos : Pos}
/-- a written dict, behind a handle -/
def wDctM (ws : List (DW × DW)) : DW := fun δ μ Q F => ∀ p, μ p = none → wPairs ws δ (mput μ p (.dct [])) (fun ps μ1 => μ1 p = some (.dct []) ∧ ps.length ≤ 15 ∧ ∃ kds, (ps.mapM fun p => (keyOf p.1).map fun k => (k, p.2)) = some kds ∧ Q (.obj p) (mput μ1 p (.dct (mergeD [] kds)))) F
theorem pd_dctM {keys : List (Option Expr)} {values : List Expr} {trs : List (TE × TE)} {ws : List (DW × DW)} (h : PPD X W pos keys values trs ws) (hall : keys.all (·.isSome) = true := by rfl) (hl : keys.length = values.length := by rfl) (h0 : keys ≠ [] := by exact List.cons_ne_nil _ _) (h15 : keys.length ≤ 15 := by decide) :
    PD X W (.Dict keys values pos) (tDisp trs) (wDctM ws) := by
  refine ⟨pe_disp h.pps hall hl h0 h15, fun σ δ H μ Q Qd F S q kQ kF p hp => ?_⟩
  have m1 : Mv X.K H μ (upd H p (.dK [])) (mput μ p (.dct [])) := Mv.put S.mr (.inl hp) fun _ _ => ⟨[], upd_same, .nil⟩
  refine h.lp σ δ _ _ _ _ F (S.step m1) (q p (S.mr.fresh hp)) (fun vs ds H2 μ2 m2 r2 q2 => ?_) (kF.step m1)
  obtain ⟨e1, hz, kds, e2, q3⟩ := q2
  obtain ⟨kvs, ev, rk⟩ := rp_keys r2 e2
  obtain ⟨kv0, e3, r0⟩ := m2.mr p _ e1
  cases r0
  have hlen : kvs.length ≤ 15 := by
    have h1 : vs.length = ds.length := by
      clear kQ kF q3 e2 ev rk
      induction r2 with
      | nil => rfl
      | cons _ _ _ ih => exact congrArg (· + 1) (ih (by simp only [List.length_cons] at hz; omega))
    rw [ev, List.length_map] at h1
    omega
  refine ⟨e3, kvs, ev, hlen, ?_⟩
  have m3 : Mv X.K H2 μ2 (upd H2 p (.dK (mergeK [] kvs))) (mput μ2 p (.dct (mergeD [] kds))) :=
    Mv.put m2.mr (.inr ⟨_, e1⟩) fun sm eq => ⟨_, upd_same, by rw [eq]; exact rk_merge (rk.mono sm) .nil⟩
  exact kQ _ _ _ _ (m1.trans (m2.trans m3)) (.obj p) q3
/-- a handle is let go: what it stands for is data from now on -/
def mdel (μ : M) (a : Addr) : M := fun b => if b = a then none else μ b
theorem mdel_ne {μ : M} {a b : Addr} (h : b ≠ a) : mdel μ a b = μ b := if_neg h
theorem mdel_same {μ : M} {a : Addr} : mdel μ a a = none := if_pos rfl
theorem Mv.drop {K : PySem.W.Frag} {H : Hp} {μ : M} (m : MR K H μ) (a : Addr) : Mv K H μ H (mdel μ a) := by
  have sm : Same (hid H μ) (hid H (mdel μ a)) := fun b o h => by
    obtain ⟨h1, h2⟩ := hid_some.mp h
    refine hid_some.mpr ⟨⟨?_, h1.2⟩, h2⟩
    by_cases e : b = a
    · rw [e, mdel_same]
    · rw [mdel_ne e]; exact h1.1
  refine ⟨sm, fun b mo h => ?_⟩
  by_cases e : b = a
  · rw [e, mdel_same] at h; cases h
  · rw [mdel_ne e] at h
    exact (m b mo h).mono sm rfl
/-- a written dict, as data -/
def wDct (ws : List (DW × DW)) : DW := fun δ μ Q F => ∀ p, μ p = none → wPairs ws δ (mput μ p (.dct [])) (fun ps μ1 => μ1 p = some (.dct []) ∧ ps.length ≤ 15 ∧ ∃ kds, (ps.mapM fun p => (keyOf p.1).map fun k => (k, p.2)) = some kds ∧ Q (.dct (mergeD [] kds)) (mdel μ1 p)) F
theorem mdel_put {μ : M} {p : Addr} {m : MO} : mdel (mput μ p m) p = mdel μ p := by
  funext b
  by_cases e : b = p
  · rw [e, mdel_same, mdel_same]
  · rw [mdel_ne e, mdel_ne e, mput_ne e]
theorem pd_dct {keys : List (Option Expr)} {values : List Expr} {trs : List (TE × TE)} {ws : List (DW × DW)} (h : PPD X W pos keys values trs ws) (hall : keys.all (·.isSome) = true := by rfl) (hl : keys.length = values.length := by rfl) (h0 : keys ≠ [] := by exact List.cons_ne_nil _ _) (h15 : keys.length ≤ 15 := by decide) :
    PD X W (.Dict keys values pos) (tDisp trs) (wDct ws) := by
  refine ⟨pe_disp h.pps hall hl h0 h15, fun σ δ H μ Q Qd F S q kQ kF p hp => ?_⟩
  have m1 : Mv X.K H μ (upd H p (.dK [])) (mput μ p (.dct [])) := Mv.put S.mr (.inl hp) fun _ _ => ⟨[], upd_same, .nil⟩
  refine h.lp σ δ _ _ _ _ F (S.step m1) (q p (S.mr.fresh hp)) (fun vs ds H2 μ2 m2 r2 q2 => ?_) (kF.step m1)
  obtain ⟨e1, hz, kds, e2, q3⟩ := q2
  obtain ⟨kvs, ev, rk⟩ := rp_keys r2 e2
  obtain ⟨kv0, e3, r0⟩ := m2.mr p _ e1
  cases r0
  have hlen : kvs.length ≤ 15 := by
    have h1 : vs.length = ds.length := by
      clear kQ kF q3 e2 ev rk
      induction r2 with
      | nil => rfl
      | cons _ _ _ ih => exact congrArg (· + 1) (ih (by simp only [List.length_cons] at hz; omega))
    rw [ev, List.length_map] at h1
    omega
  refine ⟨e3, kvs, ev, hlen, ?_⟩
  have m3 : Mv X.K H2 μ2 (upd H2 p (.dK (mergeK [] kvs))) (mput μ2 p (.dct (mergeD [] kds))) :=
    Mv.put m2.mr (.inr ⟨_, e1⟩) fun sm eq => ⟨_, upd_same, by rw [eq]; exact rk_merge (rk.mono sm) .nil⟩
  have m4 := Mv.drop m3.mr p
  rw [mdel_put] at m4
  have e5 : hid (upd H2 p (.dK (mergeK [] kvs))) (mdel μ2 p) p = some (.dK (mergeK [] kvs)) := hid_some.mpr ⟨⟨mdel_same, rfl⟩, upd_same⟩
  exact kQ _ _ _ _ (m1.trans (m2.trans (m3.trans m4))) (.dct e5 (rk_merge (rk.mono (m3.trans m4).sm) .nil)) q3
end
end DL

set_option maxHeartbeats 2000000
namespace DL
open PySem PySem.Spec PyProof.Rows L2

/-! ### what a def promises, over data -/
abbrev DF := List D → M → DK → FK → Prop
def spD (K : PySem.W.Frag) (wp : DF) : Sp := fun vs H Q E => ∃ (ds : List D) (μ : M) (Qd : DK) (F : FK), RA K (hid H μ) vs ds ∧ MR K H μ ∧ wp ds μ Qd F ∧
  (∀ v d H' μ', Mv K H μ H' μ' → R K (hid H' μ') v d → Qd d μ' → Q v H') ∧ ∀ cls dd er H' μ', Mv K H μ H' μ' → ErR K (hid H' μ') cls dd er → F er μ' → E cls dd H'
/-- the def at f, called with n arguments -/
def FnD (P : Program) (w : World) (K : PySem.W.Frag) (mg : Str → Option Value) (base : Heap) (k : Nat) (f : Addr) (wp : DF) : Prop :=
  ∀ (A : Around) (outer : List Env) (s : Shared) (H : Hp) (us : List Value) (vs : List V) (Q : VK) (E : XK), A.guards = some [] → Room k A → Env0 P w K mg base A outer s H → Vals vs us → spD K wp vs H Q E →
    codeAny (model P w) A (.call (.ref f) ⟨us, []⟩) (CR (L2.CX P w) outer P w H s Q E) s
/-- the def that the module calls x -/
structure CalD (P : Program) (w : World) (K : PySem.W.Frag) (mg : Str → Option Value) (base : Heap) (k : Nat) (x : Str) (wp : DF) : Prop where
  ex : ∃ f, mg x = some (.ref f) ∧ PySem.W.keepIn K (.ref f) = true ∧ FnD P w K mg base k f wp
section
variable {P : Program} {w : World} {K : PySem.W.Frag} {mg : Str → Option Value} {base : Heap} {k j : Nat} {f : Addr} {wp wp' : DF} {x : Str}
theorem spD.imp {vs : List V} {H : Hp} {Q : VK} {E : XK} (h : ∀ ds μ Q F, wp' ds μ Q F → wp ds μ Q F) (s : spD K wp' vs H Q E) : spD K wp vs H Q E := by
  obtain ⟨ds, μ, Qd, F, h1, h2, h3, h4⟩ := s
  exact ⟨ds, μ, Qd, F, h1, h2, h _ _ _ _ h3, h4⟩
theorem FnD.imp (F : FnD P w K mg base k f wp) (h : ∀ ds μ Q F, wp' ds μ Q F → wp ds μ Q F) : FnD P w K mg base k f wp' := fun A outer s H us vs Q E g r e v z => F A outer s H us vs Q E g r e v (z.imp h)
theorem CalD.imp (F : CalD P w K mg base k x wp) (h : ∀ ds μ Q F, wp' ds μ Q F → wp ds μ Q F) : CalD P w K mg base k x wp' := by
  obtain ⟨f, h1, h2, h3⟩ := F.ex
  exact ⟨f, h1, h2, h3.imp h⟩
theorem FnD.mono (F : FnD P w K mg base j f wp) (h : j ≤ k) : FnD P w K mg base k f wp := fun A outer s H us vs Q E g r e v z => F A outer s H us vs Q E g (r.mono h) e v z
theorem CalD.mono (F : CalD P w K mg base j x wp) (h : j ≤ k) : CalD P w K mg base k x wp := by
  obtain ⟨f, h1, h2, h3⟩ := F.ex
  exact ⟨f, h1, h2, h3.mono h⟩
end

/-! ### a body's surroundings -/
structure Ct (X : Cx) (W : WX) (k : Nat) : Prop where
  tk : Takes X W
  gd : X.A.guards = some []
  hr : Room k X.A
  calm : X.calm = true
  sk : ∃ e l, X.stack = e :: l ∧ e.scope.isGenerator = false ∧ e.scope.isCoroutine = false ∧ e.builtins = builtinsNs ∧ e.globals = mainGlobals
theorem Ct.hu {X : Cx} {W : WX} {k : Nat} (c : Ct X W k) : X.A.units + 64 < cLine := c.hr.units
/-- // of any ints -/
theorem o_divP {X : Cx} {W : WX} {k : Nat} (K : PySem.W.Frag) (hK : X.K = K) (HS : SysP X.prog X.base) (c : Ct X W k) (hk : 32 ≤ k := by decide) :
    OpR X (binaryOp .FloorDiv) (rI CDivG fun i j => .int (i.fdiv j)) ∧ OL X.K (rI CDivG fun i j => .int (i.fdiv j)) (gI CDivG fun i j => .int (i.fdiv j)) := by
  refine ⟨fun pins s σ H x y v u Q I rx ry h => ?_, ol_int fun _ _ h => h⟩
  obtain ⟨i, j, rfl, rfl, hc, q⟩ := h
  obtain ⟨t, rfl⟩ := rx
  obtain ⟨t', rfl⟩ := ry
  obtain ⟨e, l, e1, e2, e3, e4, e5⟩ := c.sk
  have hd : X.A.depth + Builtin.pylongFrames < recursionLimit := by
    have := c.hr.dp
    have e : Builtin.pylongFrames = 100 := rfl
    omega
  have hfr : X.A.frames = some (e :: l) := by rw [← e1]; exact I.ok.frames
  have hN : s.heap.NoSeer := HS.s.keeps fun b o e => I.bk b o e
  exact floordiv_int hc.1 ⟨.int (i.fdiv j), H, I.tok _, ⟨_, rfl⟩, q⟩ (.inr (PylongRoom.of I.nolimit hd (SeerAt.of (M := model X.prog X.w) hN HS.t hfr e2 e3 e4 e5)))
theorem Ct.hu1 {X : Cx} {W : WX} {k : Nat} (c : Ct X W k) : X.A.units + 1 < cLine := hu_of c.hr
section
variable {X : Cx} {W : WX} {k j : Nat} {wp : DF} {x : Str} {p pos : Pos} {e : Expr} {es : List Expr} {tr : TA} {wr : DA} {E : St → XK}
theorem run_fnD {pins : List (Addr × Obj)} {σ : St} {H : Hp} {s : Shared} {Q : VK} {us : List Value} {vs : List V} {f : Addr} (F : FnD X.prog X.w X.K X.mg X.base k f wp) (gd : X.A.guards = some []) (hr : Room k X.A) (hx : PassesAt (L2.CX X.prog X.w) X σ (E σ))
    (I : Inv X pins σ H s) (r : Vals vs us) (h : spD X.K wp vs H Q (E σ)) : wpAny (model X.prog X.w) X.A (call (.ref f) us) (EP X pins σ Q) X.xe s := by
  refine wpAny_call (codeAny_mono (F X.A X.stack s H us vs Q (E σ) gd hr I.env0 r h) fun r s' hq => ?_)
  cases r with
  | error e => exact hx pins H s e s' I hq
  | ok fl => cases fl <;> first | exact I.after hq | exact False.elim hq
def tCallD (K : PySem.W.Frag) (W : WX) (wp : DF) (t : TA) : TE := fun σ H Q => t σ H fun vs H1 => spD K wp vs H1 Q (WE W σ)
def wCall (wp : DF) (wa : DA) : DW := fun δ μ Q F => wa δ μ (fun ds μ1 => wp ds μ1 Q F) F
theorem le_call {K : PySem.W.Frag} {W : WX} (ha : LA K W tr wr) : LE K W (tCallD K W wp tr) (wCall wp wr) := fun σ δ H μ Q Qd F S q kQ kF =>
  ha σ δ H μ _ _ F S q (fun vs ds H1 μ1 m1 r1 q1 => ⟨ds, μ1, Qd, F, r1, m1.mr, q1, fun v d H' μ' m r q' => kQ v d H' μ' (m1.trans m) r q', fun cls dd er H' μ' m r f => kF cls dd er H' μ' (m1.trans m) r f⟩) kF
theorem pd_call (K : PySem.W.Frag) (hK : X.K = K) (c : Ct X W j) (C : CalD X.prog X.w X.K X.mg X.base k x wp) (ha : PDA X W (e :: es) tr wr) (hk : k ≤ j := by decide) (hg : Gl X x := by rfl)
    (hdb : (x == ("__debug__" : Str)) = false := by decide) (he : starEach (e :: es) X.env = (false, eval e X.env) :: starEach es X.env := by rfl) (hpl : (backTo pos (starEach es X.env)).any (·.1) = false := by rfl) :
    PD X W (.Call (.Name x p) (e :: es) [] pos) (tCallD K W wp tr) (wCall wp wr) := by
  subst hK
  refine ⟨⟨fun pins s σ H Q I h => ?_⟩, le_call ha.la⟩
  obtain ⟨f, hm, kp, F⟩ := C.ex
  refine wpAny_Call_Name_kw (ld_glob I hg hm ?_ hdb)
  refine PySem.W.callWith_K (h₀ := X.base) I.ok.mod.kin kp (thn (ha.pa.run pos pins s σ H _ I h) fun us s1 ⟨vs, H1, I1, r, q⟩ => ⟨I1.kIn, ?_⟩) he hpl
  exact run_fnD F c.gd (c.hr.mono hk) (passAt c.tk σ) I1 r q
end

/-! ### statements -/
def wNext : DS := fun D _ δ μ => D.nx δ μ
def wSeq (a b : DS) : DS := fun D F δ μ => a { D with nx := fun δ' μ' => b D F δ' μ' } F δ μ
def wRet (wa : DW) : DS := fun D F δ μ => wa δ μ D.rt F
def wRetN : DS := fun D _ _ μ => D.rt .non μ
def wBrk : DS := fun D _ δ μ => D.bk δ μ
def wCnt : DS := fun D _ δ μ => D.ct δ μ
def wDrop (wa : DW) : DS := fun D F δ μ => wa δ μ (fun _ μ1 => D.nx δ μ1) F
def wIfS (t : DT) (a b : DS) : DS := fun D F δ μ => t δ μ (fun k μ1 => if k = true then a D F δ μ1 else b D F δ μ1) F
/-- targets -/
abbrev DG := D → DSt → M → (DSt → M → Prop) → Prop
abbrev DGs := List D → DSt → M → (DSt → M → Prop) → Prop
def wName (i : Nat) : DG := fun d δ μ Q => Q (δ.set i (some d)) μ
def wGNil : DGs := fun ds δ μ Q => ds = [] ∧ Q δ μ
def wGCons (t : DG) (u : DGs) : DGs := fun ds δ μ Q => ∃ d r, ds = d :: r ∧ t d δ μ fun δ' μ' => u r δ' μ' Q
def wGTup (n : Nat) (t : DGs) : DG := fun d δ μ Q => ∃ ds, d = .tup ds ∧ ds.length = n ∧ t ds δ μ Q
/-- but for the slots sl all is as it was -/
def But (sl : List Nat) (σ σ' : St) : Prop := (∀ i, i ∉ sl → σ'[i]? = σ[i]?) ∧ σ'.length = σ.length
theorem But.trans {sl sl' : List Nat} {σ σ1 σ2 : St} (a : But sl σ σ1) (b : But sl' σ1 σ2) : But (sl ++ sl') σ σ2 := ⟨fun i h => (b.1 i fun z => h (List.mem_append_right _ z)).trans (a.1 i fun z => h (List.mem_append_left _ z)), b.2.trans a.2⟩
def LG (K : PySem.W.Frag) (t : TG) (w : DG) (sl : List Nat) : Prop := ∀ (σ : St) (δ : DSt) (H : Hp) (μ : M) (v : V) (d : D) (Q : St → Hp → Prop) (Qd : DSt → M → Prop), SD K σ δ H μ → R K (hid H μ) v d → w d δ μ Qd → (∀ σ' δ' H' μ', Same (hid H μ) (hid H' μ') → SD K σ' δ' H' μ' → But sl σ σ' → Qd δ' μ' → Q σ' H') → t v σ H Q
def LGs (K : PySem.W.Frag) (t : TGs) (w : DGs) (sl : List Nat) : Prop := ∀ (σ : St) (δ : DSt) (H : Hp) (μ : M) (vs : List V) (ds : List D) (Q : St → Hp → Prop) (Qd : DSt → M → Prop), SD K σ δ H μ → RA K (hid H μ) vs ds → w ds δ μ Qd → (∀ σ' δ' H' μ', Same (hid H μ) (hid H' μ') → SD K σ' δ' H' μ' → But sl σ σ' → Qd δ' μ' → Q σ' H') → t vs σ H Q
structure PDG (X : Cx) (e : Expr) (t : TG) (w : DG) (sl : List Nat) : Prop where
  pg : PG X e t
  lg : LG X.K t w sl
structure PDGs (X : Cx) (e : List Expr) (t : TGs) (w : DGs) (sl : List Nat) : Prop where
  pg : PGs X e t
  lg : LGs X.K t w sl
section
variable {X : Cx} {W : WX} {x : Str} {pos pos' : Pos} {e tg : Expr} {es : List Expr} {te : TE} {we : DW} {t u : TG} {wt wu : DG} {us : TGs} {wus : DGs} {st : Stmt} {sts a b : List Stmt} {ts tr ta tb : TS} {ws wr wa wb : DS} {tt : TT} {wc : DT} {i : Nat}
theorem pdg_name (i : Nat) (hN : X.N.Nodup) (hi : X.N[i]? = some x := by rfl) (hx : Loc X.env.scope x := by first | exact Or.inl rfl | exact Or.inr rfl) (hf : X.fn x = true ∨ X.env.scope.names.lookup x = some .local := by first | exact .inl rfl | exact .inr rfl) : PDG X (.Name x pos) (gName i) (wName i) [i] :=
  ⟨pg_name hN hi hx hf, fun σ δ H μ v d Q Qd S r q k => k _ _ H μ (Same.refl _) (S.set i r) ⟨fun j h => List.getElem?_set_ne (fun e => h (by simp [e])), by simp⟩ q⟩
theorem pdgs_nil : PDGs X [] gNil wGNil [] := ⟨pgs_nil, fun σ δ H μ vs ds Q Qd S r ⟨e, q⟩ k => by
  subst e
  cases r
  exact ⟨rfl, k _ _ H μ (Same.refl _) S ⟨fun _ _ => rfl, rfl⟩ q⟩⟩
theorem pdgs_cons {sl sl' : List Nat} (h1 : PDG X e t wt sl) (h2 : PDGs X es us wus sl') (hs : (assignEach (e :: es) X.env).map (·.2) = assign e X.env :: (assignEach es X.env).map (·.2) := by rfl) : PDGs X (e :: es) (gCons t us) (wGCons wt wus) (sl ++ sl') := by
  refine ⟨pgs_cons h1.pg h2.pg hs, fun σ δ H μ vs ds Q Qd S r ⟨d, dr, e, q⟩ k => ?_⟩
  subst e
  cases r with
  | cons r1 r2 =>
    refine ⟨_, _, rfl, h1.lg σ δ H μ _ d _ _ S r1 q fun σ1 δ1 H1 μ1 m1 S1 b1 q1 => ?_⟩
    exact h2.lg σ1 δ1 H1 μ1 _ dr Q Qd S1 (r2.mono m1) q1 fun σ' δ' H' μ' m' S' b' q' => k σ' δ' H' μ' (m1.trans m') S' (b1.trans b') q'
theorem pdg_tup {n : Nat} {kk : Nat} {sl : List Nat} (hc : X.calm = true) (h : PDGs X es us wus sl) (hn : (assignEach es X.env).length = n := by rfl) (hst : (assignEach es X.env).findIdx? (·.1) = none := by rfl) : PDG X (.Tuple es kk pos) (gTup X.K n us) (wGTup n wus) sl :=
  ⟨pg_tup hc h.pg hn hst, fun σ δ H μ v d Q Qd S r ⟨ds, e, hl, q⟩ k => by
    subst e
    cases r with
    | @tup a vs _ h1 ra => exact ⟨a, vs, rfl, same_t hid_sub h1, by rw [ra.length]; exact hl, h.lg σ δ H μ vs ds Q Qd S ra q k⟩⟩

theorem pdb_nil : PDB X W [] tNext wNext := ⟨pss_nil, fun G0 σ δ H μ D Dd F g S q k => k.nx σ δ H μ g S q⟩
theorem pdb_cons (h1 : PDS X W st ts ws) (h2 : PDB X W sts tr wr) : PDB X W (st :: sts) (tSeq ts tr) (wSeq ws wr) :=
  ⟨pss_cons h1.ps h2.pss, fun G0 σ δ H μ D Dd F g S q k => h1.ls G0 σ δ H μ _ _ F g S q ⟨fun σ1 δ1 H1 μ1 g1 S1 q1 => h2.ls G0 σ1 δ1 H1 μ1 D Dd F g1 S1 q1 k, k.rt, k.bk, k.ct, k.er⟩⟩
theorem pdb_one (h : PDS X W st ts ws) : PDB X W [st] ts ws := ⟨pss_one h.ps, h.ls⟩
theorem pds_ret (h : PD X W e te we) : PDS X W (.Return (some e) pos) (tRet te) (wRet we) :=
  ⟨ps_ret h.pe, fun G0 σ δ H μ D Dd F g S q k => h.le σ δ H μ _ _ F S q (fun v d H' μ' m r q' => k.rt v d H' μ' (g.trans m.sm) m.mr r q') (k.ex1 g)⟩
theorem pds_expr (h : PD X W e te we) (hs : swapsWith e none pos.line X.env = pure false := by rfl) : PDS X W (.Expr e pos) (tDrop te) (wDrop we) :=
  ⟨ps_expr h.pe hs, fun G0 σ δ H μ D Dd F g S q k => h.le σ δ H μ _ _ F S q (fun v d H' μ' m r q' => k.nx σ δ H' μ' (g.trans m.sm) (S.step m) q') (k.ex1 g)⟩
theorem pds_if {c : Expr} (hc : PDT X W c tt wc) (ha : PDB X W a ta wa) (hb : PDB X W b tb wb) : PDS X W (.If c a b pos) (tIfS tt ta tb) (wIfS wc wa wb) := by
  refine ⟨ps_if hc.pt ha.pss hb.pss, fun G0 σ δ H μ D Dd F g S q k => hc.lt σ δ H μ _ _ F S q (fun b H1 μ1 m1 q1 => ?_) (k.ex1 g)⟩
  cases b with
  | true => exact ha.ls G0 σ δ H1 μ1 D Dd F (g.trans m1.sm) (S.step m1) q1 k
  | false => exact hb.ls G0 σ δ H1 μ1 D Dd F (g.trans m1.sm) (S.step m1) q1 k
/-- target = e -/
def wAsg (wa : DW) (g : DG) : DS := fun D F δ μ => wa δ μ (fun d μ1 => g d δ μ1 D.nx) F
theorem ls_asg {K : PySem.W.Frag} {sl : List Nat} (h : LE K W te we) (hg : LG K t wt sl) : LS K W (tAsg te t) (wAsg we wt) := fun G0 σ δ H μ D Dd F g S q k =>
  h σ δ H μ _ _ F S q (fun v d H1 μ1 m1 r1 q1 => hg σ δ H1 μ1 v d _ _ (S.step m1) r1 q1 fun σ' δ' H' μ' m' S' _ q' => k.nx σ' δ' H' μ' ((g.trans m1.sm).trans m') S' q') (k.ex1 g)
theorem pds_set (i : Nat) (hN : X.N.Nodup) (he : PD X W e te we) (hi : X.N[i]? = some x := by rfl) (hx : Loc X.env.scope x := by first | exact Or.inl rfl | exact Or.inr rfl) (hs : swapsWith e (some (.Name x pos')) pos.line X.env = pure false := by rfl)
    (hf : X.fn x = true ∨ X.env.scope.names.lookup x = some .local := by first | exact .inl rfl | exact .inr rfl) : PDS X W (.Assign [.Name x pos'] e pos) (tAsg te (gName i)) (wAsg we (wName i)) :=
  ⟨ps_set hN hi hx he.pe hs hf, ls_asg (sl := [i]) he.le fun σ δ H μ v d Q Qd S r q k => k _ _ H μ (Same.refl _) (S.set i r) ⟨fun j h => List.getElem?_set_ne (fun e => h (by simp [e])), by simp⟩ q⟩
/-- a, b = x, y, plain local names -/
def wPar (i j : Nat) (wa : DA) : DS := fun D F δ μ => wa δ μ (fun ds μ1 => ∃ v w, ds = [v, w] ∧ D.nx ((δ.set i (some v)).set j (some w)) μ1) F
/-- d[k] = v of a dict behind a handle -/
def wDPut (wd wk wv : DW) : DS := fun D F δ μ => wv δ μ (fun v μ1 => wd δ μ1 (fun d μ2 => wk δ μ2 (fun y μ3 => ∃ a ks k, d = .obj a ∧ μ3 a = some (.dct ks) ∧ keyOf y = some k ∧ ks.length ≤ 1000000 ∧ D.nx δ (mput μ3 a (.dct (putD ks k v)))) F) F) F
theorem pds_dput {o i value : Expr} {td ty tv : TE} {wd wk wv : DW} (hu : X.A.units + 1 < cLine) (ho : PD X W o td wd) (hi : PD X W i ty wk) (hv : PD X W value tv wv) (hs : swapsWith value (some (.Subscript o i pos')) pos.line X.env = pure false := by rfl) :
    PDS X W (.Assign [.Subscript o i pos'] value pos) (sDPut td ty tv) (wDPut wd wk wv) := by
  refine ⟨ps_dput hu ho.pe hi.pe hv.pe hs, fun G0 σ δ H μ D Dd F g S q k => ?_⟩
  refine hv.le σ δ H μ _ _ F S q (fun v dv H1 μ1 m1 r1 q1 => ?_) (k.ex1 g)
  refine ho.le σ δ H1 μ1 _ _ F (S.step m1) q1 (fun d dd H2 μ2 m2 r2 q2 => ?_) (k.ex1 (g.trans m1.sm))
  refine hi.le σ δ H2 μ2 _ _ F (S.step (m1.trans m2)) q2 (fun y dy H3 μ3 m3 r3 q3 => ?_) (k.ex1 ((g.trans m1.sm).trans m2.sm))
  obtain ⟨a, ks, key, e1, e2, e3, hz, q4⟩ := q3
  subst e1
  obtain ⟨kvs, e4, rk⟩ := m3.mr a _ e2
  refine ⟨a, upd H3 a (.dK (putK kvs key v)), r2.obj_inv, ?_, ?_⟩
  · rw [key_of r3 e3]
    exact DPut.k e4 (Nat.lt_of_le_of_lt (by rw [rk.length]; exact hz) (by decide))
  · have m4 : Mv X.K H3 μ3 (upd H3 a (.dK (putK kvs key v))) (mput μ3 a (.dct (putD ks key dv))) := Mv.put m3.mr (.inr ⟨_, e2⟩) fun sm eq => ⟨_, upd_same, by rw [eq]; exact rk_put (rk.mono sm) (r1.mono ((m2.trans m3).sm.trans sm))⟩
    have m := m1.trans (m2.trans (m3.trans m4))
    exact k.nx σ δ _ _ (g.trans m.sm) (S.step m) q4
/-- xs.append(e), xs behind a handle; as an expression it is None -/
def wApp (wo we : DW) : DW := fun δ μ Q F => wo δ μ (fun d μ1 => ∃ a, d = .obj a ∧ (∃ ds0, μ1 a = some (.lst ds0)) ∧ we δ μ1 (fun v μ2 => ∃ ds, μ2 a = some (.lst ds) ∧ ds.length ≤ 1000000 ∧ Q .non (mput μ2 a (.lst (ds ++ [v])))) F) F
theorem pd_app {o : Expr} {apos cpos : Pos} {to : TE} {wo : DW} (ho : PD X W o to wo) (he : PD X W e te we) (hs : starEach [e] X.env = (false, eval e X.env) :: starEach [] X.env := by rfl)
    (hbase : attributeBase o "append" X.env (eval o X.env) = eval o X.env := by rfl)
    (hfew : ((backTo cpos (starEach [e] X.env)).all (fun x => !x.1) && (backToKw cpos (keywordEach [] X.env)).all (fun x => x.1.isSome) && decide ([e].length + ([] : List Keyword).length + (if ([] : List Keyword).isEmpty then 0 else 1) < 30)) = true := by rfl)
    (hline : (apos.endLine == cpos.line) = true := by rfl) :
    PD X W (.Call (.Attribute o "append" apos) [e] [] cpos) (tBM X.K "list" rAppend to (tCons te tNil)) (wApp wo we) := by
  refine ⟨pe_bm PySem.F.plainAttrs_list PySem.F.slot_list_append PySem.F.type_list_append mt_append ho.pe (pa_cons he.pe pa_nil hs) hbase hfew hline hs, fun σ δ H μ Q Qd F S q kQ kF => ?_⟩
  refine ho.le σ δ H μ _ _ F S q (fun v d H1 μ1 m1 r1 q1 => ?_) kF
  obtain ⟨a, e1, ⟨ds0, e0⟩, q1⟩ := q1
  subst e1
  rw [r1.obj_inv]
  obtain ⟨vs0, e2, ra0⟩ := m1.mr a _ e0
  refine ⟨.inl ⟨rfl, _, .inl (.inl e2)⟩, ?_⟩
  refine he.le σ δ H1 μ1 _ _ F (S.step m1) q1 (fun w dw H2 μ2 m2 r2 q2 => ?_) (kF.step m1)
  obtain ⟨ds, e3, hz, q3⟩ := q2
  obtain ⟨vs, e4, ra⟩ := m2.mr a _ e3
  refine ⟨a, vs, w, rfl, rfl, e4, Nat.lt_of_le_of_lt (by rw [ra.length]; exact hz) (by decide), ?_⟩
  have m3 : Mv X.K H2 μ2 (upd H2 a (.lst (vs ++ [w]))) (mput μ2 a (.lst (ds ++ [dw]))) := Mv.put m2.mr (.inr ⟨_, e3⟩) fun sm eq => ⟨_, upd_same, by rw [eq]; exact (ra.mono sm).append (.cons (r2.mono sm) .nil)⟩
  exact kQ _ _ _ _ (m1.trans (m2.trans m3)) .non q3
end
end DL

set_option maxHeartbeats 2000000
namespace DL
open PySem PySem.Spec PyProof.Rows L2

/-! ### what is walked: a list of data, while Gd stands -/
def ItD (K : PySem.W.Frag) (H : Hp) (μ : M) (J : It) (ds : List D) (Gd : M → Prop) : Prop := ∃ (G : Hp → Prop) (Y : Nat → Hp → V → Hp → Prop), Walk J ds.length G Y ∧ (∀ H1 μ1, Same (hid H μ) (hid H1 μ1) → MR K H1 μ1 → Gd μ1 → G H1) ∧
  ∀ i x H1 μ1 H2, i < ds.length → Same (hid H μ) (hid H1 μ1) → MR K H1 μ1 → Gd μ1 → Y i H1 x H2 → ∃ d, ds[i]? = some d ∧ Mv K H1 μ1 H2 μ1 ∧ R K (hid H2 μ1) x d
abbrev DI := DSt → M → (List D → (M → Prop) → M → Prop) → FK → Prop
def LI (K : PySem.W.Frag) (W : WX) (t : TI) (w : DI) : Prop := ∀ (σ : St) (δ : DSt) (H : Hp) (μ : M) (Q : It → Hp → Prop) (Qd : List D → (M → Prop) → M → Prop) (F : FK), SD K σ δ H μ → w δ μ Qd F →
  (∀ J ds Gd H' μ', Mv K H μ H' μ' → ItD K H' μ' J ds Gd → Qd ds Gd μ' → Q J H') → Ex1 K W σ H μ F → t σ H Q
structure PDI (X : Cx) (W : WX) (tg e : Expr) (t : TI) (w : DI) : Prop where
  pi : PI X tg e t
  li : LI X.K W t w
abbrev Any : M → Prop := fun _ => True
section
variable {K : PySem.W.Frag} {H : Hp} {μ : M} {a b : Addr} {vs ws : List V} {ds es : List D}
theorem itd_list (hs : SqL K (hid H μ) a vs) (r : RA K (hid H μ) vs ds) : ItD K H μ (Itl K a) ds Any := by
  refine ⟨_, _, by rw [← r.length]; exact walk_list, fun H1 μ1 m _ _ => hid_sub.seq (m.seq hs), fun i x H1 μ1 H2 _ m mr _ y => ?_⟩
  obtain ⟨e1, e2⟩ := y
  subst e1
  obtain ⟨d, h1, h2⟩ := r.get' e2
  exact ⟨d, h1, .refl mr, h2.mono m⟩
theorem itd_tup (hs : SqT K (hid H μ) a vs) (r : RA K (hid H μ) vs ds) : ItD K H μ (Itt K a) ds Any := by
  refine ⟨_, _, by rw [← r.length]; exact walk_tup, fun H1 μ1 m _ _ => same_t hid_sub (same_t m hs), fun i x H1 μ1 H2 _ m mr _ y => ?_⟩
  obtain ⟨e1, e2⟩ := y
  subst e1
  obtain ⟨d, h1, h2⟩ := r.get' e2
  exact ⟨d, h1, .refl mr, h2.mono m⟩
/-- a list behind a handle: as long as it stands as it is -/
theorem itd_obj (m : MR K H μ) (h : μ a = some (.lst ds)) : ItD K H μ (Itl K a) ds (fun μ' => μ' a = some (.lst ds)) := by
  obtain ⟨vs, e, r⟩ := m a _ h
  refine ⟨fun H1 => ∃ vs1, H1 a = some (.lst vs1) ∧ vs1.length = ds.length, fun i H1 x H2 => H2 = H1 ∧ ∃ vs1, H1 a = some (.lst vs1) ∧ vs1[i]? = some x, ⟨fun i H1 hi ⟨vs1, e1, el⟩ => ?_, fun H1 ⟨vs1, e1, el⟩ => ?_, fun i H1 x H2 hi ⟨vs1, e1, el⟩ y => ?_⟩, fun H1 μ1 _ mr g => ?_, fun i x H1 μ1 H2 hi _ mr g y => ?_⟩
  · exact ⟨vs1, vs1[i]'(by omega), SqL.of e1, by simp [show i < vs1.length by omega]⟩
  · exact ⟨vs1, SqL.of e1, by omega⟩
  · exact ⟨y.1, vs1, e1, y.2 vs1 (SqL.of e1)⟩
  · obtain ⟨vs1, e1, r1⟩ := mr a _ g
    exact ⟨vs1, e1, r1.length⟩
  · obtain ⟨e0, vs1, e1, e2⟩ := y
    subst e0
    obtain ⟨vs2, e3, r2⟩ := mr a _ g
    rw [e1] at e3
    cases e3
    obtain ⟨d, h1, h2⟩ := r2.get' e2
    exact ⟨d, h1, .refl mr, h2⟩
def intsD (lo : Int) (n : Nat) : List D := (List.range n).map fun i => .int (lo + (i : Nat))
theorem intsD_len (lo : Int) (n : Nat) : (intsD lo n).length = n := by simp [intsD]
theorem itd_range {lo : Int} {n : Nat} : ItD K H μ (Itr lo n) (intsD lo n) Any := by
  refine ⟨_, _, by rw [intsD_len]; exact walk_range, fun _ _ _ _ _ => True.intro, fun i x H1 μ1 H2 hi m mr _ y => ?_⟩
  obtain ⟨e1, e2⟩ := y
  subst e1 e2
  rw [intsD_len] at hi
  exact ⟨_, by simp [intsD, hi], .refl mr, .int _⟩
def pairs (ds es : List D) : List D := (ds.zip es).map fun p => .tup [p.1, p.2]
theorem pair_of {T : Addr} {x y : V} {d e : D} (m : MR K H μ) (hT : H T = none) (r1 : R K (hid H μ) x d) (r2 : R K (hid H μ) y e) : Mv K H μ (upd H T (.tup [x, y])) μ ∧ R K (hid (upd H T (.tup [x, y])) μ) (.ref T) (.tup [d, e]) := by
  have m2 := Mv.new (o := .tup [x, y]) m hT
  exact ⟨m2, .tup (SqT.of (hid_new (m.fresh hT))) (.cons (r1.mono m2.sm) (.cons (r2.mono m2.sm) .nil))⟩
def enum (ds : List D) : List D := (ds.zipIdx).map fun p => .tup [.int (p.2 : Nat), p.1]
theorem itd_enum (hs : SqL K (hid H μ) a vs) (r : RA K (hid H μ) vs ds) : ItD K H μ (Ite K a) (enum ds) Any := by
  have hl : (enum ds).length = vs.length := by rw [r.length]; simp [enum]
  refine ⟨_, _, by rw [hl]; exact walk_enum, fun H1 μ1 m _ _ => hid_sub.seq (m.seq hs), fun i x H1 μ1 H2 _ m mr _ y => ?_⟩
  obtain ⟨T, x1, x2, e0, e1, e2, e3, e4⟩ := y
  subst e0 e2
  obtain ⟨d, h1, h2⟩ := r.get' e4
  cases e3
  obtain ⟨m2, r2⟩ := pair_of mr e1 (.int (i : Nat)) (h2.mono m)
  exact ⟨_, by simp [enum, h1], m2, r2⟩
end
section
variable {X : Cx} {W : WX} {tg e : Expr} {te : TE} {we : DW} {p pos : Pos}
/-- over a list (written, read-only, or behind a handle) or a tuple -/
def iSeq (K : PySem.W.Frag) (tl : TE) : TI := fun σ H R => tl σ H fun x H1 => ∃ a, x = .ref a ∧ (((∃ xs, SqL K H1 a xs) ∧ R (Itl K a) H1) ∨ ((∃ xs, SqT K H1 a xs) ∧ R (Itt K a) H1))
theorem pi_seq {l : Expr} {tl : TE} (hl : PE X l tl) : PI X tg l (iSeq X.K tl) := by
  refine ⟨fun pins s σ H R I h => ?_⟩
  refine thn (hl.run pins s σ H _ I h) fun v s1 ⟨x, H1, I1, r1, a, e, q⟩ => ?_
  subst e
  cases r1
  have fp : ∀ b ∈ [s1.heap.objs.size], FpOk X pins H1 b := fun b hb => by
    rw [show b = s1.heap.objs.size by simpa using hb]
    exact I1.fpOk (Nat.le_refl _) (I1.hok.fresh (Nat.le_refl _))
  rcases q with ⟨⟨xs, hq⟩, q⟩ | ⟨⟨xs, hq⟩, q⟩
  · obtain ⟨its, rv, pl, hz⟩ := I1.list hq
    exact wpAny_pyIter_list pl.isList ⟨_, [s1.heap.objs.size], _, _, H1, rfl, I1.kept (t' := s1.toks) fun b o e => Heap.get?_push_of_some _ e, turn_list a _, ⟨_, Heap.get?_push_size _ rfl, rfl, rfl⟩, fp, q⟩
  · obtain ⟨its, rv, pl, hz⟩ := I1.tuple hq
    exact wpAny_pyIter_tuple (show s1.heap.IsTuple a its.toArray from pl) ⟨_, [s1.heap.objs.size], _, _, H1, rfl, I1.kept (t' := s1.toks) fun b o e => Heap.get?_push_of_some _ e, turn_tuple a _, ⟨_, Heap.get?_push_size _ rfl, rfl, rfl⟩, fp, q⟩
def wISeq (we : DW) : DI := fun δ μ Q F => we δ μ (fun d μ1 => (∃ ds, (d = .lst ds ∨ d = .ro ds ∨ d = .tup ds) ∧ Q ds Any μ1) ∨ ∃ a ds, d = .obj a ∧ μ1 a = some (.lst ds) ∧ Q ds (fun μ' => μ' a = some (.lst ds)) μ1) F
theorem pdi_seq (h : PD X W e te we) : PDI X W tg e (iSeq X.K te) (wISeq we) := by
  refine ⟨pi_seq h.pe, fun σ δ H μ Q Qd F S q kQ kF => h.le σ δ H μ _ _ F S q (fun v d H1 μ1 m1 r1 q1 => ?_) kF⟩
  rcases q1 with ⟨ds, e, q1⟩ | ⟨a, ds, e, hm, q1⟩
  · rcases e with e | e | e
    · subst e
      cases r1 with
      | lst h1 ra => exact ⟨_, rfl, .inl ⟨⟨_, SqL.of (hid_some.mp h1).2⟩, kQ _ _ _ H1 μ1 m1 (itd_list (SqL.of h1) ra) q1⟩⟩
    · subst e
      cases r1 with
      | ro h1 ra => exact ⟨_, rfl, .inl ⟨⟨_, hid_sub.seq h1⟩, kQ _ _ _ H1 μ1 m1 (itd_list h1 ra) q1⟩⟩
    · subst e
      cases r1 with
      | tup h1 ra => exact ⟨_, rfl, .inr ⟨⟨_, same_t hid_sub h1⟩, kQ _ _ _ H1 μ1 m1 (itd_tup h1 ra) q1⟩⟩
  · subst e
    obtain ⟨vs, h1, _⟩ := m1.mr a _ hm
    exact ⟨a, r1.obj_inv, .inl ⟨⟨vs, SqL.of h1⟩, kQ _ _ _ H1 μ1 m1 (itd_obj m1.mr hm) q1⟩⟩
def wIRng1 (wa : DA) : DI := fun δ μ Q F => wa δ μ (fun ds μ1 => ∃ j : Int, ds = [.int j] ∧ -(2 ^ 62) ≤ j ∧ j < 2 ^ 62 ∧ Q (intsD 0 j.toNat) Any μ1) F
def wIRng2 (wa : DA) : DI := fun δ μ Q F => wa δ μ (fun ds μ1 => ∃ i j : Int, ds = [.int i, .int j] ∧ (-(2 ^ 62) ≤ i ∧ i < 2 ^ 62 ∧ -(2 ^ 62) ≤ j ∧ j < 2 ^ 62) ∧ Q (intsD i (j - i).toNat) Any μ1) F
theorem pdi_range1 {a : Expr} {ta : TA} {wa : DA} (hm : X.mg "range" = none) (ha : PDA X W [a] ta wa) (hg : Gl X "range" := by rfl) (hs : starEach [a] X.env = [(false, eval a X.env)] := by rfl) : PDI X W tg (.Call (.Name "range" p) [a] [] pos) (iRng1 ta) (wIRng1 wa) := by
  refine ⟨pi_range1 hg hm ha.pa hs, fun σ δ H μ Q Qd F S q kQ kF => ha.la σ δ H μ _ _ F S q (fun vs ds H1 μ1 m1 r1 q1 => ?_) kF⟩
  obtain ⟨j, e, h1, h2, q1⟩ := q1
  subst e
  obtain ⟨v, rfl, rv⟩ := ra1 r1
  exact ⟨j, by rw [rv.int_inv], h1, h2, kQ _ _ _ H1 μ1 m1 itd_range q1⟩
/-! ### for -/
def wLoop (Gd : M → Prop) (tg : DG) (body : DS) : List D → DS
  | [], D, _, δ, μ => Gd μ ∧ D.nx δ μ
  | d :: ds, D, F, δ, μ => Gd μ ∧ tg d δ μ fun δ1 μ1 => body { D with nx := fun δ2 μ2 => wLoop Gd tg body ds D F δ2 μ2, ct := fun δ2 μ2 => wLoop Gd tg body ds D F δ2 μ2, bk := D.nx } F δ1 μ1
theorem wLoop_g {Gd : M → Prop} {tg : DG} {body : DS} {ds : List D} {D : DE} {F : FK} {δ : DSt} {μ : M} (h : wLoop Gd tg body ds D F δ μ) : Gd μ := by
  cases ds <;> exact h.1
def wFor (wi : DI) (tg : DG) (body : DS) : DS := fun D F δ μ => wi δ μ (fun ds Gd μ1 => wLoop Gd tg body ds D F δ μ1) F
theorem pds_for {iter : Expr} {body : List Stmt} {wi : TI} {di : DI} {g : TG} {dg : DG} {sl : List Nat} {tb : TS} {db : DS} (hp : PassesOwn (model X.prog X.w) X.A X.env X.xe) (hc : X.calm = true) (hi : PDI X W tg iter wi di) (hg : PDG X tg g dg sl) (hb : PDB X W body tb db) (hs : ∀ x, foldedSetIterable iter X.env x = pure x := by intro _; rfl) :
    PDS X W (.For tg iter body [] pos) (tFor wi g tb) (wFor di dg db) := by
  refine ⟨ps_for hp hc hi.pi hg.pg hb.pss hs, fun G0 σ δ H μ D Dd F g0 S q k => hi.li σ δ H μ _ _ F S q (fun J ds Gd H1 μ1 m1 it q1 => ?_) (k.ex1 g0)⟩
  obtain ⟨G, Y, wk, gG, gY⟩ := it
  refine for_it wk (fun i σ' H' => ∃ δ' μ', Same (hid H1 μ1) (hid H' μ') ∧ SD X.K σ' δ' H' μ' ∧ wLoop Gd dg db (ds.drop i) Dd F δ' μ') ⟨δ, μ1, Same.refl _, S.step m1, q1⟩ ?_ ?_ ?_
  · rintro i σ' H' _ ⟨δ', μ', sm, S', q'⟩
    exact gG H' μ' sm S'.mr (wLoop_g q')
  · rintro i x σ' H' H2 hi ⟨δ', μ', sm, S', q'⟩ y
    obtain ⟨d, e1, m2, r2⟩ := gY i x H' μ' H2 hi sm S'.mr (wLoop_g q') y
    have ed : ds.drop i = d :: ds.drop (i + 1) := by
      obtain ⟨h1, h2⟩ := List.getElem?_eq_some_iff.mp e1
      rw [List.drop_eq_getElem_cons h1, h2]
    rw [ed] at q'
    refine hg.lg σ' δ' H2 μ' x d _ _ (S'.step m2) r2 q'.2 fun σ3 δ3 H3 μ3 m3 S3 _ q3 => ?_
    have g3 : Same (hid H1 μ1) (hid H3 μ3) := sm.trans (m2.sm.trans m3)
    refine hb.ls (hid H1 μ1) σ3 δ3 H3 μ3 _ _ F g3 S3 q3 ⟨?_, ?_, ?_, ?_, ?_⟩
    · exact fun σ4 δ4 H4 μ4 g4 S4 q4 => ⟨δ4, μ4, g4, S4, q4⟩
    · exact fun v d H4 μ4 g4 mr r q4 => k.rt v d H4 μ4 ((g0.trans m1.sm).trans g4) mr r q4
    · exact fun σ4 δ4 H4 μ4 g4 S4 q4 => k.nx σ4 δ4 H4 μ4 ((g0.trans m1.sm).trans g4) S4 q4
    · exact fun σ4 δ4 H4 μ4 g4 S4 q4 => ⟨δ4, μ4, g4, S4, q4⟩
    · exact fun cls dd er σ4 H4 μ4 g4 mr r f => k.er cls dd er σ4 H4 μ4 ((g0.trans m1.sm).trans g4) mr r f
  · rintro σ' H' ⟨δ', μ', sm, S', q'⟩
    rw [List.drop_length] at q'
    exact k.nx σ' δ' H' μ' ((g0.trans m1.sm).trans sm) S' q'.2

/-! ### while -/
end

/-! ### a def of the text -/
/-- what the top has written of the def x -/
structure DefD (K : PySem.W.Frag) (mg : Str → Option Value) (x : Str) (st : Stmt) : Prop where
  ex : ∃ (f : Addr) (oc : Value) (od : Option Addr) (kV doc pm : Value) (an : Option Addr) (cdv ct : Value) (osl : Array (Option Value)), mg x = some (.ref f) ∧ PySem.W.keepIn K (.ref f) = true ∧
    K.lookup f = some ⟨oc, od, .func (PySem.W.fnOf x x (defArgs st) (defBody st) (defScope st) .none kV doc pm an cdv ct), osl⟩ ∧ PySem.W.codeIn K cdv x = true
def dstart (N : List Str) (ds : List D) : DSt := ds.map some ++ List.replicate (N.length - ds.length) none
theorem sd_start {K : PySem.W.Frag} {H : Hp} {μ : M} {N : List Str} {vs : List V} {ds : List D} (m : MR K H μ) (r : RA K (hid H μ) vs ds) : SD K (L2.start N vs) (dstart N ds) H μ := by
  refine ⟨fun i d h => ?_, m, by unfold L2.start dstart; simp [r.length]⟩
  unfold dstart at h
  by_cases hi : i < ds.length
  · rw [List.getElem?_append_left (by simpa using hi), List.getElem?_map] at h
    cases e : ds[i]? with
    | none => rw [e] at h; cases h
    | some d' =>
      rw [e] at h
      cases h
      obtain ⟨v, h1, h2⟩ := r.get e
      refine ⟨v, ?_, h2⟩
      unfold L2.start
      rw [List.getElem?_append_left (by simp; rw [r.length]; exact hi), List.getElem?_map, h1] <;> rfl
  · rw [List.getElem?_append_right (by simpa using hi), List.getElem?_replicate] at h
    split at h <;> cases h
abbrev WD (E : XK) : WX := fun cls d _ H => E cls d H
/-- a def's context -/
abbrev cxD (P : Program) (w : World) (K : PySem.W.Frag) (mg : Str → Option Value) (base : Heap) (N : List Str) (qual : Str) (sc : Scope) (f : Addr) (cdv : Value) (A : Around) (outer : List Env) (s : Shared) (H : Hp) (E : XK) : Cx :=
  cxOf (L2.CX P w) P w K mg base N qual sc f cdv A outer s H E
section
variable {P : Program} {w : World} {K : PySem.W.Frag} {mg : Str → Option Value} {base : Heap} {k : Nat} {wp : DF} {x : Str}
theorem ct_of {N : List Str} {qual : Str} {sc : Scope} {f : Addr} {cdv : Value} {A : Around} {outer : List Env} {s : Shared} {H : Hp} {E : XK} {ps : List Str} (S : FnScope N ps sc) (hg : A.guards = some []) (hr : Room k (A.deeper (envOfC qual sc s.heap.objs.size f cdv))) : Ct (cxD P w K mg base N qual sc f cdv A outer s H E) (WD E) k :=
  ⟨takes_of rfl rfl rfl rfl, hg, hr, rfl, _, _, rfl, S.gen, S.co, rfl, rfl⟩
/-- THE RULE: a def by its body. all its parameters given -/
theorem cal_of {st : Stmt} {N ps : List Str} {wb : DS} (D : DefD K mg x st) (S : FnScope N ps (defScope st))
    (hb : ∀ (kV doc pm : Value) (an : Option Addr) (cdv ct : Value) (us : List Value), us.length = ps.length → bindArgs (PySem.W.fnOf x x (defArgs st) (defBody st) (defScope st) .none kV doc pm an cdv ct) ⟨us, []⟩ = pure (ps.zip us))
    (body : ∀ (f : Addr) (cdv : Value) (A : Around) (outer : List Env) (s : Shared) (H : Hp) (E : XK), Ct (cxD P w K mg base N x (defScope st) f cdv A outer s H E) (WD E) k → ∃ t, PDB (cxD P w K mg base N x (defScope st) f cdv A outer s H E) (WD E) (defBody st) t wb)
    (h : ∀ ds μ Q F, wp ds μ Q F → ds.length = ps.length ∧ wb { nx := fun _ μ' => Q .non μ', rt := Q } F (dstart N ds) μ) : CalD P w K mg base (k + 1) x wp := by
  obtain ⟨f, oc, od, kV, doc, pm, an, cdv, ct, osl, hm, kp, lk, hcd⟩ := D.ex
  refine ⟨f, hm, kp, fun A outer s H us vs Q E hg hr e0 r sp => ?_⟩
  obtain ⟨ds, μ, Qd, F, ra, mr, q, kQ, kF⟩ := sp
  obtain ⟨hl, q⟩ := h ds μ Qd F q
  have hv : vs.length = ps.length := by rw [ra.length, hl]
  refine LamX.run_ofS (N := N) (ps := ps) (us := us) (vs := vs) lk hcd S hr e0 (.of_eq (hb _ _ _ _ _ _ us (by rw [← r.length, hv]))) r hv fun hr' => ?_
  obtain ⟨t, hb⟩ := body f cdv A outer s H E (ct_of S hg hr')
  refine ⟨t, hb.pss, hb.ls (hid H μ) _ _ H μ _ _ F (Same.refl _) (sd_start mr ra) q ⟨fun σ δ H' μ' g S' q' => kQ .non .non H' μ' ⟨g, S'.mr⟩ .non q', fun v d H' μ' g m r q' => kQ v d H' μ' ⟨g, m⟩ r q', fun _ _ _ _ _ _ z => z, fun _ _ _ _ _ _ z => z, fun cls dd er σ H' μ' g m r f => kF cls dd er H' μ' ⟨g, m⟩ r f⟩⟩
end
end DL

set_option maxHeartbeats 2000000
namespace DL
open PySem PySem.Spec PyProof.Rows L2

/-! ### an own exception with an own __init__ -/
/-- B.__init__(self, ..), B an own class over ValueError that has none of its own -/
theorem pe_ceinit {X : Cx} {B : Addr} {mc : Value} {x : Str} {p1 p2 pos : Pos} {e : Expr} {es : List Expr} {ta : TA} {pl : Sem Bool} (hm : X.mg x = some (.ref B)) (r : ClX.CRead X.K B mc) (vB : PySem.W.findCls X.K (.ref B) mc "__init__" = some (.val (.builtin "ValueError.__init__"))) (ha : PA X (e :: es) ta) (hg : Gl X x := by rfl)
    (hdb : (x == ("__debug__" : Str)) = false := by decide)
    (hc : eval (.Call (.Attribute (.Name x p1) "__init__" p2) (e :: es) [] pos) X.env = (do
      let ov ← eval (.Name x p1) X.env
      standAt p2.atName
      let (f, first) ← holding [ov] (getMethod ov "__init__" pl)
      callWith pos f first (backTo pos (starEach (e :: es) X.env)) (backToKw pos (keywordEach [] X.env))) := by rfl)
    (he : starEach (e :: es) X.env = (false, eval e X.env) :: starEach es X.env := by rfl) (hpl : (backTo pos (starEach es X.env)).any (·.1) = false := by rfl) :
    PE X (.Call (.Attribute (.Name x p1) "__init__" p2) (e :: es) [] pos) (tVeI X.K ta) := by
  refine ⟨fun pins s σ H Q I h => ?_⟩
  refine PySem.W.methodCall_KW (ld_glob I hg hm ?_ hdb) hc
  refine PySem.W.method_cls I.kIn r.ga (PySem.W.cls_value I.kIn r.rd vB rfl ?_)
  show wpAny _ _ (callWith pos (Value.builtin "ValueError.__init__") [] (backTo pos (starEach (e :: es) X.env)) []) _ _ _
  refine PyProof.Rows.callWith_method1 (thn (ha.run pos pins _ σ H _ (I.tok _) h) fun us s1 ⟨vs, H1, I1, r1, a, C, ws, ev, hl, T, ea, q⟩ => ?_) he hpl
  subst ev
  cases r1 with
  | @cons _ u0 _ ur ra rw' =>
    obtain rfl : u0 = Value.ref a := ra
    have hlen : ur.length ≤ sizeLine := by
      rw [← Paired.length rw', sizeLine_eq]
      omega
    exact oinit_ok T I1 ea hlen fun s' J => ⟨.non, H1, J, rfl, q⟩
/-- what the __init__ of the class at C promises: the fields ns are set -/
def spI (C : Addr) (ns : List Str) : Sp := fun vs H Q _ => ∃ (a : Addr) (ws : List V), vs = .ref a :: ws ∧ ws.length = ns.length ∧ H a = some (exo a C none) ∧
  ∀ (d : Addr) (H' : Hp), H d = none → d ≠ a → H' a = some (exo a C (some d)) → H' d = some (exd d (ns.zip ws).reverse) → (∀ b, b ≠ a → b ≠ d → H' b = H b) → Q .non H'
/-- x names the class at C, whose instances are made of the fields ns -/
structure ExcD (P : Program) (w : World) (K : PySem.W.Frag) (mg : Str → Option Value) (base : Heap) (k : Nat) (x : Str) (C : Addr) (ns : List Str) : Prop where
  T : OexC K C
  ex : ∃ (fI : Addr) (fd : FuncData) (ps : List Str), PySem.W.findIn K (.ref C) "__init__" = some (some (.ref fI)) ∧ PySem.W.typeIn K (.ref fI) = some (.type "function") ∧ FnOk P w K mg base CX0 k fI fd ps (spI C ns) ∧ Binds K fd ps []
  gC : mg x = some (.ref C)
section
variable {P : Program} {w : World} {K : PySem.W.Frag} {mg : Str → Option Value} {base : Heap} {C fI : Addr} {x q f g z : Str} {st : Stmt} {fd : FuncData}
theorem excd1 (F : Fun K "__init__" q st fI fd) (T : OexC K C) (iC : PySem.W.findIn K (.ref C) "__init__" = some (some (.ref fI))) (tI : PySem.W.typeIn K (.ref fI) = some (.type "function")) (gC : mg x = some (.ref C)) (no : PySem.W.findIn K (.ref C) f = some none)
    (S : FnScope ["self", f] ["self", f] (defScope st)) (hb : Binds K fd ["self", f] [])
    (body : ∀ (cdv : Value) (A : Around) (outer : List Env) (s : Shared) (H : Hp) (E : XK), PSs (cxOf CX0 P w K mg base ["self", f] q (defScope st) fI cdv A outer s H E).nox (defBody st) (tSeq (tDrop (tVeI K (tCons (tVar 0) (tCons (tC (.str z)) tNil)))) (tOst K f (tVar 0) (tVar 1)))) : ExcD P w K mg base 1 x C [f] := by
  refine ⟨T, ⟨fI, fd, ["self", f], iC, tI, F.ok S (fun vs H Q E h => ?_) (fun cdv A outer s H vs Q E _ h => ⟨_, body cdv A outer s H E, ?_⟩), hb⟩, gC⟩
  · obtain ⟨a, ws, rfl, hl, _⟩ := h
    simp only [List.length_cons, hl, List.length_nil]
  · obtain ⟨a, ws, rfl, hl, ha, k⟩ := h
    match ws, hl with
    | [v], _ =>
      refine ⟨_, rfl, a, C, _, rfl, (by decide : 1 ≤ 1000), T, ha, _, rfl, _, rfl, a, C, rfl, T, no, .inl ⟨ha, fun dx n ne => k dx _ n ne upd_same (by rw [upd_ne ne, upd_same]; rfl) fun b h1 h2 => by rw [upd_ne h1, upd_ne h2]⟩⟩
theorem excd2 (F : Fun K "__init__" q st fI fd) (T : OexC K C) (iC : PySem.W.findIn K (.ref C) "__init__" = some (some (.ref fI))) (tI : PySem.W.typeIn K (.ref fI) = some (.type "function")) (gC : mg x = some (.ref C)) (no : PySem.W.findIn K (.ref C) f = some none) (no2 : PySem.W.findIn K (.ref C) g = some none)
    (S : FnScope ["self", f, g] ["self", f, g] (defScope st)) (hb : Binds K fd ["self", f, g] [])
    (body : ∀ (cdv : Value) (A : Around) (outer : List Env) (s : Shared) (H : Hp) (E : XK), PSs (cxOf CX0 P w K mg base ["self", f, g] q (defScope st) fI cdv A outer s H E).nox (defBody st) (tSeq (tDrop (tVeI K (tCons (tVar 0) (tCons (tC (.str z)) tNil)))) (tSeq (tOst K f (tVar 0) (tVar 1)) (tOst K g (tVar 0) (tVar 2))))) : ExcD P w K mg base 1 x C [f, g] := by
  refine ⟨T, ⟨fI, fd, ["self", f, g], iC, tI, F.ok S (fun vs H Q E h => ?_) (fun cdv A outer s H vs Q E _ h => ⟨_, body cdv A outer s H E, ?_⟩), hb⟩, gC⟩
  · obtain ⟨a, ws, rfl, hl, _⟩ := h
    simp only [List.length_cons, hl, List.length_nil]
  · obtain ⟨a, ws, rfl, hl, ha, k⟩ := h
    match ws, hl with
    | [v, u], _ =>
      refine ⟨_, rfl, a, C, _, rfl, (by decide : 1 ≤ 1000), T, ha, _, rfl, _, rfl, a, C, rfl, T, no, .inl ⟨ha, fun dx n ne => ?_⟩⟩
      refine ⟨_, rfl, _, rfl, a, C, rfl, T, no2, .inr ⟨dx, [(f, v)], upd_same, by rw [upd_ne ne, upd_same], (by show 1 ≤ 900; decide), ?_⟩⟩
      exact k dx _ n ne (by rw [upd_ne (Ne.symm ne), upd_same]) upd_same fun b h1 h2 => by rw [upd_ne h2, upd_ne h1, upd_ne h2]
end
/-- raise x(..) -/
def wRaise (C : Addr) (ns : List Str) (wa : DA) : DS := fun _ F δ μ => wa δ μ (fun ds μ1 => ds.length = ns.length ∧ F ⟨.ref C, (ns.zip ds).reverse⟩ μ1) F
theorem zip_RF {K : PySem.W.Frag} {G : Hp} : ∀ {ns : List Str} {vs : List V} {ds : List D}, RA K G vs ds → RF K G (ns.zip vs) (ns.zip ds)
  | [], _, _, _ => .nil
  | _ :: _, _, _, .nil => .nil
  | _ :: _, _, _, .cons h r => .cons h (zip_RF r)
theorem RF.append {K : PySem.W.Frag} {G : Hp} : ∀ {vs ws : List (Str × V)} {ds es : List (Str × D)}, RF K G vs ds → RF K G ws es → RF K G (vs ++ ws) (ds ++ es)
  | _, _, _, _, .nil, s => s
  | _, _, _, _, .cons h r, s => .cons h (r.append s)
theorem RF.rev {K : PySem.W.Frag} {G : Hp} : ∀ {vs : List (Str × V)} {ds : List (Str × D)}, RF K G vs ds → RF K G vs.reverse ds.reverse
  | _, _, .nil => .nil
  | _, _, .cons h r => by
    rw [List.reverse_cons, List.reverse_cons]
    exact r.rev.append (.cons h .nil)
section
variable {X : Cx} {W : WX} {k j : Nat} {x : Str} {C : Addr} {ns : List Str} {e : Expr} {es : List Expr} {ta : TA} {wa : DA} {p pos pos2 : Pos}
end
end DL

set_option maxHeartbeats 2000000
namespace DL
open PySem PySem.Spec PyProof.Rows L2

/-! ### try .. except X as n (several clauses) -/
/-- a clause: the class that it names, its name's slot, its suite's reading -/
structure Cl where
  c : Value
  i : Option Nat
  ts : Addr → Value → Option Addr → TS
/-- the slot of a clause's name, where it has one -/
def putO {α : Type} (l : List (Option α)) : Option Nat → Option α → List (Option α)
  | some i, v => l.set i v
  | none, _ => l
/-- the ends of a suite: its name goes -/
def Ends.gone (D : Ends) (i : Option Nat) : Ends := { nx := fun σ' H' => D.nx (putO σ' i none) H', rt := D.rt, bk := fun σ' H' => D.bk (putO σ' i none) H', ct := fun σ' H' => D.ct (putO σ' i none) H' }
def wCl (K : PySem.W.Frag) (Wout : WX) (D : Ends) : List Cl → WX
  | [], cls, d, σ, H => Wout cls d σ H
  | l :: r, cls, d, σ, H => ∃ b, PySem.W.exmOne K cls l.c = some b ∧ (b = true → ∀ a, H a = none → l.ts a cls d (Ends.gone D l.i) (putO σ l.i (some (.ref a))) H) ∧ (b = false → wCl K Wout D r cls d σ H)
inductive ClOk (X : Cx) : List ExceptHandler → List Cl → Prop
  | nil : ClOk X [] []
  | cons {x n : Str} {l : Cl} {b₀ : Stmt} {suite : List Stmt} {np pos' : Pos} {hds : List ExceptHandler} {ls : List Cl} (hc : Names X x l.c) {i : Nat} (hl : l.i = some i) (hi : X.N[i]? = some n) (hln : X.env.kindOf n = some .local)
      (hsu : ∀ (a : Addr) (oe : Obj) (cls : Value) (d : Option Addr) (pn : List (Addr × Obj)), Zc cls d oe → (∃ vs, oe.data = .fields vs) → PSs (X.suite a ((a, oe) :: pn)) (b₀ :: suite) (l.ts a cls d)) (r : ClOk X hds ls) :
      ClOk X (.ExceptHandler (some (.Name x np)) (some n) (b₀ :: suite) pos' :: hds) (l :: ls)
  | consN {x : Str} {l : Cl} {b₀ : Stmt} {suite : List Stmt} {np pos' : Pos} {hds : List ExceptHandler} {ls : List Cl} (hc : Names X x l.c) (hl : l.i = none)
      (hsu : ∀ (a : Addr) (oe : Obj) (cls : Value) (d : Option Addr) (pn : List (Addr × Obj)), Zc cls d oe → (∃ vs, oe.data = .fields vs) → PSs (X.suite a ((a, oe) :: pn)) (b₀ :: suite) (l.ts a cls d)) (r : ClOk X hds ls) :
      ClOk X (.ExceptHandler (some (.Name x np)) none (b₀ :: suite) pos' :: hds) (l :: ls)
section
variable {X : Cx} {body : List Stmt} {h₀ : ExceptHandler} {hds : List ExceptHandler} {l : List Cl} {pos : Pos} {tb : WX → TS} {Wout : WX}
end
end DL

set_option maxHeartbeats 2000000
namespace DL
open PySem PySem.Spec PyProof.Rows L2

/-! ### try: e, except X as n: suite .., over data -/
structure DCl where
  c : Value
  i : Option Nat
  ws : Addr → Value → Option Addr → DS
def goneD (D : DE) (i : Option Nat) : DE := { nx := fun δ μ => D.nx (putO δ i none) μ, rt := D.rt, bk := fun δ μ => D.bk (putO δ i none) μ, ct := fun δ μ => D.ct (putO δ i none) μ }
def wClD (K : PySem.W.Frag) (er : Er) (D : DE) (F : FK) (δ : DSt) (μ : M) : List DCl → Prop
  | [] => F er μ
  | l :: r => ∃ b, PySem.W.exmOne K er.cls l.c = some b ∧ if b = true then ∀ a dd, μ a = none → l.ws a er.cls dd (goneD D l.i) (fun _ _ => False) (putO δ l.i (some (.exc a dd er.fs))) μ else wClD K er D F δ μ r
def W0 : WX := fun _ _ _ _ => False
/-- what a suite needs of its surroundings -/
structure CtS (X : Cx) : Prop where
  gd : X.A.guards = some []
  hu : X.A.units + 64 < cLine
inductive ClD (X : Cx) : List ExceptHandler → List Cl → List DCl → Prop
  | nil : ClD X [] [] []
  | cons {x n : Str} {c : Value} {i : Nat} {ts : Addr → Value → Option Addr → TS} {ws : Addr → Value → Option Addr → DS} {b₀ : Stmt} {suite : List Stmt} {np pos' : Pos} {hds : List ExceptHandler} {ls : List Cl} {ds : List DCl} (hc : Names X x c) (hi : X.N[i]? = some n) (hln : X.env.kindOf n = some .local)
      (hsu : ∀ (a : Addr) (oe : Obj) (cls : Value) (d : Option Addr) (pn : List (Addr × Obj)), CtS (X.suite a ((a, oe) :: pn)) → Zc cls d oe → (∃ vs, oe.data = .fields vs) → PDB (X.suite a ((a, oe) :: pn)) W0 (b₀ :: suite) (ts a cls d) (ws a cls d)) (r : ClD X hds ls ds) :
      ClD X (.ExceptHandler (some (.Name x np)) (some n) (b₀ :: suite) pos' :: hds) (⟨c, some i, ts⟩ :: ls) (⟨c, some i, ws⟩ :: ds)
  | consN {x : Str} {c : Value} {ts : Addr → Value → Option Addr → TS} {ws : Addr → Value → Option Addr → DS} {b₀ : Stmt} {suite : List Stmt} {np pos' : Pos} {hds : List ExceptHandler} {ls : List Cl} {ds : List DCl} (hc : Names X x c)
      (hsu : ∀ (a : Addr) (oe : Obj) (cls : Value) (d : Option Addr) (pn : List (Addr × Obj)), CtS (X.suite a ((a, oe) :: pn)) → Zc cls d oe → (∃ vs, oe.data = .fields vs) → PDB (X.suite a ((a, oe) :: pn)) W0 (b₀ :: suite) (ts a cls d) (ws a cls d)) (r : ClD X hds ls ds) :
      ClD X (.ExceptHandler (some (.Name x np)) none (b₀ :: suite) pos' :: hds) (⟨c, none, ts⟩ :: ls) (⟨c, none, ws⟩ :: ds)
theorem ClD.ok {X : Cx} {hds : List ExceptHandler} {ls : List Cl} {ds : List DCl} (h : ClD X hds ls ds) (cs : CtS X) : ClOk X hds ls := by
  induction h with
  | nil => exact .nil
  | consN hc hsu _ ih => exact .consN hc rfl (fun a oe cls d pn z f => (hsu a oe cls d pn ⟨cs.gd, cs.hu⟩ z f).pss) ih
  | cons hc hi hln hsu _ ih => exact .cons hc rfl hi hln (fun a oe cls d pn z f => (hsu a oe cls d pn ⟨cs.gd, cs.hu⟩ z f).pss) ih
theorem SD.unset {K : PySem.W.Frag} {σ : St} {δ : DSt} {H : Hp} {μ : M} (s : SD K σ δ H μ) (i : Nat) : SD K (σ.set i none) (δ.set i none) H μ := by
  refine ⟨fun j d h => ?_, s.mr, by rw [List.length_set, List.length_set]; exact s.len⟩
  by_cases z : i = j
  · subst z
    by_cases hi : i < δ.length
    · rw [List.getElem?_set_self hi] at h
      cases h
    · rw [List.getElem?_eq_none (by rw [List.length_set]; omega)] at h
      cases h
  · rw [List.getElem?_set_ne z] at h
    obtain ⟨w, h1, h2⟩ := s.sl j d h
    exact ⟨w, by rw [List.getElem?_set_ne z]; exact h1, h2⟩
theorem ClD.ls {X : Cx} {W : WX} {hds : List ExceptHandler} {ls : List Cl} {ds : List DCl} (h : ClD X hds ls ds) (cs : CtS X) {G0 : Hp} {σ : St} {δ : DSt} {H : Hp} {μ : M} {D : Ends} {Dd : DE} {F : FK} {cls : Value} {dd : Option Addr} {er : Er} (g : Same G0 (hid H μ)) (S : SD X.K σ δ H μ) (r : ErR X.K (hid H μ) cls dd er)
    (k : DEn X.K W G0 D Dd F) (q : wClD X.K er Dd F δ μ ds) : wCl X.K W D ls cls dd σ H := by
  induction h with
  | nil => exact k.er cls dd er σ H μ g S.mr r q
  | @cons x n c i ts ws b₀ suite np pos' hds' ls' ds' hc hi hln hsu _ ih =>
    obtain ⟨b, hb, q⟩ := q
    refine ⟨b, by rw [r.1]; exact hb, fun e a na => ?_, fun e => ?_⟩
    · subst e
      have ma : μ a = none := S.mr.fresh na
      have q1 := q a dd ma
      rw [r.1]
      refine (hsu a { cls := er.cls, dict := dd, data := .fields #[] } er.cls dd X.pn ⟨cs.gd, cs.hu⟩ ⟨rfl, rfl⟩ ⟨_, rfl⟩).ls G0 _ _ H μ _ _ _ g (S.set i (r.2 a)) q1 ⟨?_, ?_, ?_, ?_, ?_⟩
      · exact fun σ' δ' H' μ' g' S' q' => k.nx _ _ H' μ' g' (S'.unset i) q'
      · exact fun v d H' μ' g' m r' q' => k.rt v d H' μ' g' m r' q'
      · exact fun σ' δ' H' μ' g' S' q' => k.bk _ _ H' μ' g' (S'.unset i) q'
      · exact fun σ' δ' H' μ' g' S' q' => k.ct _ _ H' μ' g' (S'.unset i) q'
      · exact fun _ _ _ _ _ _ _ _ _ z => z
    · subst e
      exact ih q
  | @consN x c ts ws b₀ suite np pos' hds' ls' ds' hc hsu _ ih =>
    obtain ⟨b, hb, q⟩ := q
    refine ⟨b, by rw [r.1]; exact hb, fun e a na => ?_, fun e => ?_⟩
    · subst e
      have ma : μ a = none := S.mr.fresh na
      have q1 := q a dd ma
      rw [r.1]
      refine (hsu a { cls := er.cls, dict := dd, data := .fields #[] } er.cls dd X.pn ⟨cs.gd, cs.hu⟩ ⟨rfl, rfl⟩ ⟨_, rfl⟩).ls G0 _ _ H μ _ _ _ g S q1 ⟨?_, ?_, ?_, ?_, ?_⟩
      · exact fun σ' δ' H' μ' g' S' q' => k.nx _ _ H' μ' g' S' q'
      · exact fun v d H' μ' g' m r' q' => k.rt v d H' μ' g' m r' q'
      · exact fun σ' δ' H' μ' g' S' q' => k.bk _ _ H' μ' g' S' q'
      · exact fun σ' δ' H' μ' g' S' q' => k.ct _ _ H' μ' g' S' q'
      · exact fun _ _ _ _ _ _ _ _ _ z => z
    · subst e
      exact ih q
section
variable {X : Cx} {W : WX} {k : Nat} {e : Expr} {te : WX → TE} {we : DW} {h₀ : ExceptHandler} {hds : List ExceptHandler} {ls : List Cl} {ds : List DCl} {p1 pos : Pos}
theorem Ct.tr (c : Ct X W k) {W' : WX} {pn : List (Addr × Obj)} {xe : Value → Shared → Prop} (tk : Takes (X.tr pn xe) W') : Ct (X.tr pn xe) W' k := ⟨tk, c.gd, c.hr, c.calm, c.sk⟩
end
end DL

set_option maxHeartbeats 2000000
namespace DL
open PySem PySem.Spec PyProof.Rows L2 LamX

/-! ### tables of code objects, over data -/
/-- the tables that are told of are T's -/
def TabM (T : List (Addr × Str)) (μ : M) : Prop := ∀ a q, μ a = some (.tbl q) ↔ (a, q) ∈ T
def isTbl : MO → Bool
  | .tbl _ => true
  | _ => false
theorem TabM.put {T : List (Addr × Str)} {μ : M} {p : Addr} {m : MO} (h : TabM T μ) (hp : ∀ q, μ p ≠ some (.tbl q)) (hm : isTbl m = false) : TabM T (mput μ p m) := fun a q => by
  by_cases e : a = p
  · subst e
    rw [mput_same]
    refine ⟨fun z => ?_, fun z => absurd ((h a q).mpr z) (hp q)⟩
    have z' := Option.some.inj z
    subst z'
    cases hm
  · rw [mput_ne e]
    exact h a q
/-! ### a lambda without parameters, handed to a def that calls it -/
section
variable {X : Cx} {pins : List (Addr × Obj)} {σ : L2.St} {H : Hp} {s : Shared}
end
/-- the call of what slot 0 holds, a lambda of this promise -/
def wLam (f : Addr) (G0 : Hp) (wl : M → DK → FK → Prop) : DW := fun δ μ Q F => δ[0]? = some (some (.lam f G0)) ∧ wl μ Q F
/-- x, a def with one parameter, calls what it gets; wT: what it makes of it -/
structure LamD (P : Program) (w : World) (K : PySem.W.Frag) (mg : Str → Option Value) (base : Heap) (k : Nat) (x : Str) (wT : (M → DK → FK → Prop) → M → DK → Prop) : Prop where
  ex : ∃ (g : Addr) (oc : Value) (od : Option Addr) (a : Str) (Ng : List Str) (pg : Arguments) (bg : List Stmt) (sg : Scope) (kV doc pm cdv ct : Value) (an : Option Addr) (osl : Array (Option Value)) (wb : DW → DS),
    mg x = some (.ref g) ∧ PySem.W.keepIn K (.ref g) = true ∧ K.lookup g = some ⟨oc, od, .func (PySem.W.fnOf x x pg bg sg .none kV doc pm an cdv ct), osl⟩ ∧ PySem.W.codeIn K cdv x = true ∧ L2.Binds K (PySem.W.fnOf x x pg bg sg .none kV doc pm an cdv ct) [a] [] ∧ FnScope Ng [a] sg ∧ Ng[0]? = some a ∧ Vis sg a ∧
    (a == ("__debug__" : Str)) = false ∧ (a == ("__classdict__" : Str)) = false ∧
    (∀ (A : Around) (outer : List Env) (s : Shared) (H : Hp) (f : Addr) (G0 : Hp) (wl : M → DK → FK → Prop), A.guards = some [] → Room k (A.deeper (envOfC x sg s.heap.objs.size g cdv)) →
      ∀ (te : WX → TE), (∀ (W : WX) (pn : List (Addr × Obj)) (xe : Value → Shared → Prop) (p1 p2 : Pos), Takes ((cxOf CX0 P w K mg base Ng x sg g cdv A outer s H E0).tr pn xe) W → PD ((cxOf CX0 P w K mg base Ng x sg g cdv A outer s H E0).tr pn xe) W (.Call (.Name a p1) [] [] p2) (te W) (wLam f G0 wl)) →
      ∃ t, PDB (cxOf CX0 P w K mg base Ng x sg g cdv A outer s H E0).nox W0 bg t (wb (wLam f G0 wl))) ∧
    ∀ (wl : M → DK → FK → Prop) (μ : M) (Q : DK), wT wl μ Q → ∀ (f : Addr) (G0 : Hp), wb (wLam f G0 wl) { nx := fun _ μ' => Q .non μ', rt := Q } (fun _ _ => False) (dstart Ng [.lam f G0]) μ
end DL

set_option maxHeartbeats 2000000
namespace DL
open PySem PySem.Spec PyProof.Rows L2 LamX

/-! ### the call of what a name of the def holds: one of some defs -/
/-! ### the end -/
section
variable {P : Program} {w : World} {K : PySem.W.Frag} {mg mb : Str → Option Value} {k : Nat} {fa a : Addr} {cs : List (Addr × Addr × Str)} {s₁ : Shared} {vs : List Value} {ns : List Int} {wp : DF}
/-- what is tracked at the law's call -/
def endH (K : PySem.W.Frag) (a : Addr) (vs : List Value) (ns : List Int) (T : List (Addr × Str)) : Hp := fun b =>
  if b = a then (if (K.lookup a).isSome = true then none else some (.frz { cls := .type "list", data := .seq vs.toArray } (.lst (ns.map V.int)))) else (T.lookup b).map fun _ => .tbl #[]
def endM (T : List (Addr × Str)) : M := fun b => (T.lookup b).map .tbl
theorem lk_mem {b : Addr} {q : Str} : ∀ {T : List (Addr × Str)}, T.lookup b = some q → (b, q) ∈ T
  | [], h => by cases h
  | (c, r) :: T, h => by
    rw [List.lookup_cons] at h
    cases e : (b == c) with
    | true =>
      rw [e] at h
      cases h
      rw [beq_iff_eq.mp e]
      exact List.mem_cons_self ..
    | false =>
      rw [e] at h
      exact List.mem_cons_of_mem _ (lk_mem h)
theorem mem_lk {b : Addr} {q : Str} : ∀ {T : List (Addr × Str)}, (b, q) ∈ T → ∃ q', T.lookup b = some q'
  | (c, r) :: T, h => by
    rw [List.lookup_cons]
    cases e : (b == c) with
    | true => exact ⟨r, rfl⟩
    | false =>
      rcases List.mem_cons.mp h with z | z
      · cases z
        simp at e
      · exact mem_lk z
theorem lookup_iff {T : List (Addr × Str)} (hT : ∀ b q q', (b, q) ∈ T → (b, q') ∈ T → q = q') {b : Addr} {q : Str} : T.lookup b = some q ↔ (b, q) ∈ T := by
  refine ⟨lk_mem, fun h => ?_⟩
  obtain ⟨q', h'⟩ := mem_lk h
  rw [h', hT b q q' h (lk_mem h')]
theorem law_end (KX : K.In s₁.heap) (hns : s₁.heap.Ns mainGlobals mg) (hb : s₁.heap.Ns builtinsNs mb) (hbb : ∀ x : Str, x ≠ "__name__" → mb x = bootBuiltins x) (hlim : s₁.heap.NoLimit) (hsy : s₁.heap.NoSeer) (hpt : P.given.tree = none) (hg : s₁.gens = #[])
    (hT : ∀ p ∈ cs, s₁.heap.get? p.2.1 = some { cls := .none, data := .fields #[] }) (nT : ∀ p ∈ cs, K.lookup p.2.1 = none) (C : ∀ p ∈ cs, PySem.W.CodeHd s₁.heap p.1 p.2.1) (fT : ∀ b q q', (b, q) ∈ cs.map (·.2) → (b, q') ∈ cs.map (·.2) → q = q')
    (hbm : ∃ (bm : Addr) (ob : Obj), mg "__builtins__" = some (.ref bm) ∧ bm ≠ builtinsNs ∧ s₁.heap.get? bm = some ob ∧ ob.cls = .type "module" ∧ ob.dict = some builtinsNs ∧ ob.data = .plain)
    (ha : s₁.heap.get? a = some { cls := .type "list", data := .seq vs.toArray }) (hi : IntsAre vs ns) (hl : ns.length ≤ sizeLine) (hr : Room k callerA)
    (F : ∀ base : Heap, K.In base → base.Ns mainGlobals mg → SysP P base → (∀ p ∈ cs, TabB base mg p.1 p.2.1) → FnD P w K mg base k fa wp) (hwp : ∀ μ : M, TabM (cs.map (·.2)) μ → wp [.ro (ns.map D.int)] μ (fun d _ => d = .bl true) fun _ _ => False) :
    codeAny (model P w) callerA (.call (.ref fa) ⟨[.ref a], []⟩) (fun r s' => r = .ok (.ret (.bool true)) ∧ OldK s₁.heap s'.heap ∧ s'.os = s₁.os ∧ AllBare s'.gens) s₁ := by
  obtain ⟨T, eT⟩ : ∃ T, T = cs.map (·.2) := ⟨_, rfl⟩
  obtain ⟨H, eH⟩ : ∃ H, H = endH K a vs ns T := ⟨_, rfl⟩
  rw [← eT] at fT hwp
  have rv := vals_ints hi
  have inT : ∀ {b : Addr} {q : Str}, T.lookup b = some q → ∃ p ∈ cs, p.2.1 = b := fun {b q} h => by
    have h' := lk_mem h
    rw [eT] at h'
    obtain ⟨p, hp, e⟩ := List.mem_map.mp h'
    exact ⟨p, hp, by rw [e]⟩
  have tabAt : ∀ {b : Addr} {q : Str}, T.lookup b = some q → s₁.heap.get? b = some { cls := .none, data := .fields #[] } ∧ K.lookup b = none := fun {b q} h => by
    obtain ⟨p, hp, rfl⟩ := inT h
    exact ⟨hT p hp, nT p hp⟩
  have ofT : ∀ p ∈ cs, ∃ q, T.lookup p.2.1 = some q := fun p hp => mem_lk (q := p.2.2) (by rw [eT]; exact List.mem_map.mpr ⟨p, hp, rfl⟩)
  have aT : T.lookup a = none := by
    cases e : T.lookup a with
    | none => rfl
    | some q =>
      have z := (tabAt e).1
      rw [ha] at z
      have z' : Data.seq vs.toArray _ = Data.fields #[] := congrArg Obj.data (Option.some.inj z)
      cases z'
  have hLen : (ns.map V.int).length ≤ sizeLine := by rw [List.length_map]; exact hl
  have at_a : H a = if (K.lookup a).isSome = true then none else some (.frz { cls := .type "list", data := .seq vs.toArray } (.lst (ns.map V.int))) := by rw [eH]; exact if_pos rfl
  have at_b : ∀ {b : Addr}, b ≠ a → H b = (T.lookup b).map fun _ => .tbl #[] := fun {b} h => by rw [eH]; exact if_neg h
  -- what is tracked is there, and of two kinds
  have kinds : ∀ {b : Addr} {u : HO}, H b = some u → (b = a ∧ K.lookup a = none ∧ u = .frz { cls := .type "list", data := .seq vs.toArray } (.lst (ns.map V.int))) ∨ ∃ q, T.lookup b = some q ∧ u = .tbl #[] := fun {b u} h => by
    by_cases e : b = a
    · subst e
      rw [at_a] at h
      split at h
      · cases h
      · rename_i hk
        exact .inl ⟨rfl, by cases q : K.lookup b with | none => rfl | some o => exact absurd (by rw [q]; rfl) hk, (Option.some.inj h).symm⟩
    · rw [at_b e, Option.map_eq_some_iff] at h
      obtain ⟨q, h1, h2⟩ := h
      exact .inr ⟨q, h1, h2.symm⟩
  have hok : HOk P w H s₁.heap := fun b u h => by
    rcases kinds h with ⟨rfl, hk, rfl⟩ | ⟨q, h1, rfl⟩
    · exact ⟨ha, hLen, vs, _, rv, ha⟩
    · exact (tabAt h1).1
  have noD : ∀ {b : Addr} {o : Obj}, s₁.heap.get? b = some o → (∀ vs n, o.data ≠ .seq vs n) → o.data ≠ .fields #[] → H b = none := fun {b o} e h1 h2 => by
    cases q : H b with
    | none => rfl
    | some u =>
      rcases kinds q with ⟨rfl, _, _⟩ | ⟨q', h3, _⟩
      · rw [ha] at e
        cases e
        exact absurd rfl (h1 _ _)
      · rw [(tabAt h3).1] at e
        cases e
        exact absurd rfl h2
  have base_of : ∀ {b : Addr} {o : Obj}, s₁.heap.get? b = some o → H b = none → (hidT s₁.heap H).get? b = some o := fun e n => hidT_get e n
  have nsK : ∀ {b : Addr} {m : Str → Option Value}, s₁.heap.Ns b m → (hidT s₁.heap H).Ns b m := fun {b m} ⟨o, es, ep, e, d, r⟩ =>
    ⟨o, es, ep, base_of e (noD e (fun vs n z => by rw [d] at z; cases z) fun z => by rw [d] at z; cases z), d, r⟩
  have hKb : K.In (hidT s₁.heap H) := fun b o e => base_of (KX b o e) (by
    cases q : H b with
    | none => rfl
    | some u =>
      rcases kinds q with ⟨rfl, hk, _⟩ | ⟨q', h3, _⟩
      · rw [hk] at e
        cases e
      · rw [(tabAt h3).2] at e
        cases e)
  have hM : L2.Mod K mg (hidT s₁.heap H) := ⟨hKb, nsK hns, ⟨mb, nsK hb, hbb⟩, let ⟨mc, h1, h2⟩ := hlim; ⟨mc, nsK h1, h2⟩⟩
  have TB : ∀ p ∈ cs, TabB (hidT s₁.heap H) mg p.1 p.2.1 := fun p hp => by
    have hTp := hT p hp
    refine ⟨?_, ?_, fun z => ?_⟩
    · obtain ⟨o, us, file, tf, flags, tg, inF, text, tt, e1, r1, r2, r3, r⟩ := C p hp
      refine ⟨o, us, file, tf, flags, tg, inF, text, tt, base_of e1 (noD e1 (fun vs n z => by rw [r2] at z; cases z) fun z => ?_), r1, r2, r3, r⟩
      rw [r2] at z
      cases z
      simp at r3
    · obtain ⟨bm, ob, b1, b2, b3, b4, b5, b6⟩ := hbm
      refine ⟨bm, ob, b1, b2, fun q => ?_, fun q => ?_, base_of b3 (noD b3 (fun vs n z => by rw [b6] at z; cases z) fun z => by rw [b6] at z; cases z), b4, b5, b6⟩
      · obtain ⟨o, es, ep, e, hd, _⟩ := hns
        rw [q, e] at b3
        cases b3
        rw [hd] at b6
        cases b6
      · rw [q, hTp] at b3
        cases b3
        cases b6
    · obtain ⟨o, es, ep, e, hd, _⟩ := hns
      rw [z, hTp] at e
      cases e
      cases hd
  have e0 : Env0 P w K mg (hidT s₁.heap H) callerA [] s₁ H := ⟨rfl, hM, fun b o e => of_hidT e, Nat.le_of_eq (hidT_size _ _), trivial, fun b hb => absurd (show b ∈ ([] : List Addr) from hb) (by simp), hok, .of_eq hg⟩
  have hTM : TabM T (endM T) := fun b q => by
    unfold endM
    rw [Option.map_eq_some_iff]
    constructor
    · rintro ⟨q', h1, h2⟩
      cases h2
      exact (lookup_iff fT).mp h1
    · exact fun h => ⟨q, (lookup_iff fT).mpr h, rfl⟩
  have mr : MR K H (endM T) := fun b m e => by
    unfold endM at e
    rw [Option.map_eq_some_iff] at e
    obtain ⟨q, h1, h2⟩ := e
    subst h2
    have hba : b ≠ a := fun z => by rw [z, aT] at h1; cases h1
    exact ⟨#[], by rw [at_b hba, h1]; rfl, True.intro, fun pos cv z => by
      have z' : codeAmong pos [] = some cv := z
      simp [codeAmong] at z'⟩
  have hS : SqL K (hid H (endM T)) a (ns.map V.int) := by
    cases hk : K.lookup a with
    | some o =>
      have e := KX a o hk
      rw [ha] at e
      cases e
      exact .inr ⟨_, vs.toArray, _, hk, rfl, rfl, rfl, by rw [List.size_toArray, hi.length]; exact hl, by simpa using rv⟩
    | none =>
      refine .inl (.inr ⟨{ cls := .type "list", data := .seq vs.toArray }, hid_some.mpr ⟨⟨?_, rfl⟩, ?_⟩⟩)
      · unfold endM
        rw [aT]
        rfl
      · rw [at_a, hk]
        rfl
  have seerK : (hidT s₁.heap H).NoSeer := by
    obtain ⟨⟨mc, c1, c2⟩, ⟨mm, m1, m2⟩, ⟨mi, i1, i2⟩, _⟩ := hsy
    obtain ⟨bm, ob, b1, _, b3, b4, b5, b6⟩ := hbm
    exact ⟨⟨mc, nsK c1, c2⟩, ⟨mm, nsK m1, m2⟩, ⟨mi, nsK i1, i2⟩, ⟨mg, bm, ob, nsK hns, b1, base_of b3 (noD b3 (fun vs n z => by rw [b6] at z; cases z) fun z => by rw [b6] at z; cases z), b4, b5⟩⟩
  refine codeAny_mono (F _ hKb (nsK hns) ⟨seerK, hpt⟩ TB callerA [] s₁ H [.ref a] [.ref a] (fun v _ => v = .bl true) (fun _ _ _ => False) rfl hr e0 (.cons rfl .nil) ⟨[.ro (ns.map D.int)], endM T, _, _, .cons (.ro hS (RA.ints ns)) .nil, mr, hwp _ hTM, fun v d H' μ' m r q => ?_, fun _ _ _ _ _ _ _ z => z⟩) fun r s' h => ?_
  · subst q
    exact r.bl_inv
  · cases r with
    | error e =>
      obtain ⟨_, _, _, _, _, _, _, _, _, _, _, _, z⟩ := h
      exact z.elim
    | ok fl =>
      cases fl with
      | next => exact False.elim h
      | brk => exact False.elim h
      | cont => exact False.elim h
      | ret u =>
        obtain ⟨v, H', os, bare, un, hok', r', q⟩ := h
        have q' : v = .bl true := q
        subst q'
        obtain rfl : u = Value.bool true := r'
        have key : ∀ b o, s₁.heap.get? b = some o → (∃ q, T.lookup b = some q) ∨ s'.heap.get? b = some o := fun b o e => by
          cases q : H b with
          | none => exact .inr (un.keep b o e q (by intro z; exact absurd (show b ∈ ([] : List Addr) from z) (by simp)) (by simp))
          | some u =>
            rcases kinds q with ⟨rfl, _, rfl⟩ | ⟨q', h3, _⟩
            · obtain ⟨e1, _⟩ := hok b _ q
              obtain ⟨e2, _⟩ := hok' b _ (un.frzs b _ _ q)
              rw [e] at e1
              cases e1
              exact .inr e2
            · exact .inl ⟨q', h3⟩
        have grown : ∀ {b : Addr} {q : Str}, T.lookup b = some q → ∃ more : Array Value, s'.heap.get? b = some { cls := .none, data := .fields more } := fun {b q} h => by
          have hba : b ≠ a := fun z => by rw [z, aT] at h; cases h
          obtain ⟨more, z⟩ := un.tbls b #[] (by rw [at_b hba, h]; rfl)
          exact ⟨_, hok' b _ z⟩
        refine ⟨rfl, ⟨fun b o e => ?_, fun b o e => ?_⟩, os, bare⟩
        · rcases key b o e with ⟨q, h⟩ | h
          · obtain ⟨more, hm⟩ := grown h
            obtain ⟨p, hp, ep⟩ := inT h
            have e2 := (tabAt h).1
            rw [e] at e2
            cases e2
            rw [← ep] at hm e ⊢
            exact .inr (.inl ⟨((C p hp).tab (hT p hp)).isCodeTable, rfl, #[], more, rfl, by rw [Array.empty_append]; exact hm⟩)
          · exact .inl h
        · rcases key b o e with ⟨q, h⟩ | h
          · obtain ⟨more, hm⟩ := grown h
            exact ⟨_, hm⟩
          · exact ⟨o, h⟩
end
end DL

set_option maxHeartbeats 2000000
namespace DL
open PySem PySem.Spec PyProof.Rows L2 LamX

/-! ### names for the operators' readings -/
abbrev gSub : G2 := gI (fun _ _ => True) fun i j => .int (i - j)
abbrev gMul : G2 := gI CMulB fun i j => .int (i * j)
abbrev gMod : G2 := gI (fun _ j => j ≠ 0) fun i j => .int (i.fmod j)
abbrev gDiv : G2 := gI CDivG fun i j => .int (i.fdiv j)
abbrev gPow : G2 := gI CPow fun i j => .int (i ^ j.toNat)
abbrev gLt : G2 := gI (fun _ _ => True) fun i j => .bl (decide (i < j))
abbrev gLe : G2 := gI (fun _ _ => True) fun i j => .bl (decide (i ≤ j))
abbrev gGt : G2 := gI (fun _ _ => True) fun i j => .bl (decide (j < i))
abbrev gGe : G2 := gI (fun _ _ => True) fun i j => .bl (decide (j ≤ i))
abbrev gNeg : G1 := gU fun i => .int (-i)
abbrev gAbs : List D → M → DK → Prop := gOne (gU fun i => .int (if i < 0 then -i else i))
abbrev gMax2 : List D → M → DK → Prop := gInt2 fun i j => if j > i then j else i
abbrev gMin2 : List D → M → DK → Prop := gInt2 fun i j => if j < i then j else i

/-- an exception class that a clause names, its fields -/
structure ExF (K : PySem.W.Frag) (mg : Str → Option Value) (x : Str) (C : Addr) (fs : List Str) : Prop where
  gC : mg x = some (.ref C)
  xf : XfC K C
  no : ∀ f, f ∈ fs → PySem.W.findIn K (.ref C) f = some none
/-- a def whose code object is known -/
structure DefT (K : PySem.W.Frag) (mg : Str → Option Value) (x : Str) (st : Stmt) (cc : Addr) : Prop where
  ex : ∃ (f : Addr) (oc : Value) (od : Option Addr) (kV doc pm : Value) (an : Option Addr) (ct : Value) (osl : Array (Option Value)), mg x = some (.ref f) ∧ PySem.W.keepIn K (.ref f) = true ∧
    K.lookup f = some ⟨oc, od, .func (PySem.W.fnOf x x (defArgs st) (defBody st) (defScope st) .none kV doc pm an (.ref cc) ct), osl⟩ ∧ PySem.W.codeIn K (.ref cc) x = true
section
variable {P : Program} {w : World} {K : PySem.W.Frag} {mg : Str → Option Value} {base : Heap} {k : Nat} {wp : DF} {x : Str}
end
end DL

set_option maxHeartbeats 2000000
namespace DL
open PySem PySem.Spec PyProof.Rows L2

/-! ### shown texts: their signs, their length -/
def okT (x : Str) : Prop := ∀ c ∈ x.cps.toList, c < 0x110000
theorem okT_strOk {x : Str} (h : okT x) : PyData.strOk x = true := by
  unfold PyData.strOk
  rw [Array.all_eq_true_iff_forall_mem]
  intro c hc
  simpa using h c (Array.mem_toList_iff.mpr hc)
theorem okT_of {x : Str} (h : PyData.strOk x = true) : okT x := fun c hc => by
  unfold PyData.strOk at h
  have := (Array.all_eq_true_iff_forall_mem.mp h) c (Array.mem_toList_iff.mp hc)
  simpa using this
theorem okT_app {x y : Str} (a : okT x) (b : okT y) : okT (x ++ y) := fun c hc => by
  rw [show (x ++ y).cps = x.cps ++ y.cps from rfl, Array.toList_append, List.mem_append] at hc
  rcases hc with hc | hc
  · exact a c hc
  · exact b c hc
theorem okT_join {s : Str} (hs : okT s) : ∀ {l : List Str}, (∀ x ∈ l, okT x) → okT (Str.join s l)
  | [], _ => fun c hc => by
    have hc' : c ∈ (Str.empty).cps.toList := hc
    simp [Str.empty] at hc'
  | [x], h => h x (by simp)
  | x :: y :: r, h => okT_app (okT_app (h x (by simp)) hs) (okT_join hs fun z hz => h z (List.mem_cons_of_mem _ hz))
theorem okT_sep : okT ((", " : String) : Str) := okT_of (by decide +kernel)
theorem okT_from : ∀ (l : List Str) (k : Nat) (acc : Str), okT acc → (∀ x ∈ l, okT x) → okT (textFrom k acc l)
  | [], _, _, a, _ => a
  | t :: ts, k, acc, a, h => okT_from ts (k + 1) _ (okT_app (okT_app a (by split <;> exact okT_of (by decide +kernel))) (h t (by simp))) fun z hz => h z (List.mem_cons_of_mem _ hz)
mutual
def bnd : PyData → Nat
  | .none => 4
  | .bool _ => 5
  | .int _ => 600
  | .str x => (reprText x).length
  | .list xs => bndA xs + 3
  | .tuple xs => bndA xs + 3
  | .dict ks => bndK ks + 3
def bndA : List PyData → Nat
  | [] => 0
  | x :: xs => bnd x + 2 + bndA xs
def bndK : List (PyData × PyData) → Nat
  | [] => 0
  | (k, v) :: r => bnd k + 2 + bnd v + 2 + bndK r
end
mutual
/-- may be shown: its ints are below 10 ^ 500 -/
def small : PyData → Bool
  | .none => true
  | .bool _ => true
  | .int i => decide (i.natAbs < 10 ^ 500)
  | .str x => PyData.strOk (reprText x)
  | .list xs => smallA xs
  | .tuple xs => smallA xs
  | .dict ks => smallK ks
def smallA : List PyData → Bool
  | [] => true
  | x :: xs => small x && smallA xs
def smallK : List (PyData × PyData) → Bool
  | [] => true
  | (k, v) :: r => small k && small v && smallK r
end
theorem log2_small {i : Int} (h : i.natAbs < 10 ^ 500) : i.natAbs.log2 < 1920 := by
  by_cases e : i.natAbs = 0
  · rw [e]
    decide
  · refine Nat.log2_lt e |>.mpr (Nat.lt_of_lt_of_le h ?_)
    decide +kernel
theorem len_small {i : Int} (h : i.natAbs < 10 ^ 500) : (PyData.shown (.int i)).length ≤ 600 := by
  have e := int_text_length_le10 (k := 500) (by decide) h
  show (Str.ofString (toString i)).length ≤ 600
  rw [PySem.ofString_length]
  omega
mutual
theorem shown_small : ∀ {p : PyData}, small p = true → p.showable = true ∧ p.shown.length ≤ bnd p ∧ okT p.shown
  | .none, _ => ⟨rfl, by decide +kernel, okT_of (by decide +kernel)⟩
  | .bool b, _ => ⟨rfl, by cases b <;> decide +kernel, by cases b <;> exact okT_of (by decide +kernel)⟩
  | .int i, h => by
    have h' : i.natAbs < 10 ^ 500 := of_decide_eq_true (by simpa only [small] using h)
    refine ⟨by simpa only [PyData.showable, decide_eq_true_eq] using log2_small h', by simpa only [bnd] using len_small h', fun c hc => ?_⟩
    by_cases z : c < 0x110000
    · exact z
    · exact absurd hc (shown_int_free' ⟨by omega, by omega⟩ i)
  | .str x, h => ⟨rfl, Nat.le_refl _, okT_of h⟩
  | .list xs, h => by
    obtain ⟨h1, h2, h3⟩ := shown_smallA (xs := xs) (by simpa only [small] using h)
    refine ⟨by simpa only [PyData.showable] using h1, ?_, ?_⟩
    · have e := listText_len_le (PyData.shownAll xs)
      simp only [bnd]
      show (listText (PyData.shownAll xs)).length ≤ _
      omega
    · show okT (listText (PyData.shownAll xs))
      exact okT_app (okT_from _ _ _ (okT_of (by decide +kernel)) h3) (okT_of (by decide +kernel))
  | .tuple xs, h => by
    obtain ⟨h1, h2, h3⟩ := shown_smallA (xs := xs) (by simpa only [small] using h)
    refine ⟨by simpa only [PyData.showable] using h1, ?_, ?_⟩
    · have e := tupleText_len_le (PyData.shownAll xs)
      simp only [bnd]
      show (tupleText (PyData.shownAll xs)).length ≤ _
      omega
    · show okT (tupleText (PyData.shownAll xs))
      unfold tupleText
      exact okT_app (okT_app (okT_of (by decide +kernel)) (okT_join okT_sep h3)) (by split <;> exact okT_of (by decide +kernel))
  | .dict ks, h => by
    obtain ⟨h1, h2, h3⟩ := shown_smallK (xs := ks) (by simpa only [small] using h)
    refine ⟨by simpa only [PyData.showable] using h1, ?_, ?_⟩
    · have e := dictText_len_le (PyData.shownKv ks)
      simp only [bnd]
      show (dictText (PyData.shownKv ks)).length ≤ _
      omega
    · show okT (dictText (PyData.shownKv ks))
      unfold dictText
      exact okT_app (okT_app (okT_of (by decide +kernel)) (okT_join okT_sep h3)) (okT_of (by decide +kernel))
theorem shown_smallA : ∀ {xs : List PyData}, smallA xs = true → PyData.showableAll xs = true ∧ ((PyData.shownAll xs).map (·.length)).sum + 2 * (PyData.shownAll xs).length ≤ bndA xs ∧ ∀ t ∈ PyData.shownAll xs, okT t
  | [], _ => ⟨rfl, by simp [PyData.shownAll, bndA], fun t ht => by simp [PyData.shownAll] at ht⟩
  | x :: xs, h => by
    have h' : small x = true ∧ smallA xs = true := by simpa only [smallA, Bool.and_eq_true] using h
    obtain ⟨a1, a2, a3⟩ := shown_small h'.1
    obtain ⟨b1, b2, b3⟩ := shown_smallA h'.2
    refine ⟨by simp only [PyData.showableAll, a1, b1, Bool.and_self], ?_, fun t ht => ?_⟩
    · simp only [PyData.shownAll, bndA, List.map_cons, List.sum_cons, List.length_cons]
      omega
    · simp only [PyData.shownAll, List.mem_cons] at ht
      rcases ht with rfl | ht
      · exact a3
      · exact b3 t ht
theorem shown_smallK : ∀ {xs : List (PyData × PyData)}, smallK xs = true → PyData.showableKv xs = true ∧ ((PyData.shownKv xs).map (·.length)).sum + 2 * (PyData.shownKv xs).length ≤ bndK xs ∧ ∀ t ∈ PyData.shownKv xs, okT t
  | [], _ => ⟨rfl, by simp [PyData.shownKv, bndK], fun t ht => by simp [PyData.shownKv] at ht⟩
  | (k, v) :: xs, h => by
    have h' : (small k = true ∧ small v = true) ∧ smallK xs = true := by simpa only [smallK, Bool.and_eq_true] using h
    obtain ⟨a1, a2, a3⟩ := shown_small h'.1.1
    obtain ⟨c1, c2, c3⟩ := shown_small h'.1.2
    obtain ⟨b1, b2, b3⟩ := shown_smallK h'.2
    refine ⟨by simp only [PyData.showableKv, a1, c1, b1, Bool.and_self], ?_, fun t ht => ?_⟩
    · have e : (PyData.shown k ++ ": " ++ PyData.shown v).length = (PyData.shown k).length + 2 + (PyData.shown v).length := by
        rw [strLen_append, strLen_append]
        rfl
      simp only [PyData.shownKv, bndK, List.map_cons, List.sum_cons, List.length_cons, e]
      omega
    · simp only [PyData.shownKv, List.mem_cons] at ht
      rcases ht with rfl | ht
      · exact okT_app (okT_app a3 (okT_of (by decide +kernel))) c3
      · exact b3 t ht
end
/-- repr -/
theorem repr_ok {x : D} {p : PyData} {μ : M} {Q : DK} (e : pyOf μ x = some p) (h1 : okP p = true) (h2 : small p = true) (h3 : p.depth ≤ 60) (h4 : bnd p ≤ 1000000) (q : Q (.str p.shown) μ) : gRepr x μ Q :=
  ⟨p, e, okN_ofP h1, (shown_small h2).1, h3, Nat.le_trans (shown_small h2).2.1 h4, q⟩
/-- two texts told apart -/
theorem eq_txt {neg : Bool} {x y : Str} {μ : M} {Q : DK} (hx : okT x) (hy : okT y) (q : Q (.bl (if neg = true then !(x == y) else (x == y))) μ) : gEq neg (.str x) (.str y) μ Q := by
  refine ⟨.str x, .str y, rfl, rfl, ?_, ?_, ?_⟩
  · simpa [SeqAt.shaped, PyData.canLay0, PyData.depth] using okT_strOk hx
  · simpa [SeqAt.shaped, PyData.canLay0, PyData.depth] using okT_strOk hy
  · simpa only [PyData.eqv] using q
/-- a thing is equal to itself -/
theorem eq_self {neg : Bool} {x y : D} {p : PyData} {μ : M} {Q : DK} (hx : pyOf μ x = some p) (hy : pyOf μ y = some p) (s : SeqAt.shaped p = true) (q : Q (.bl (!neg)) μ) : gEq neg x y μ Q := by
  refine ⟨p, p, hx, hy, s, s, ?_⟩
  rw [SeqAt.eqv_refl p (SeqAt.canLay_of_shaped s)]
  cases neg <;> exact q
/-- ints told apart -/
theorem eq_int {neg : Bool} {x y : Int} {μ : M} {Q : DK} (q : Q (.bl (if neg = true then !(x == y) else (x == y))) μ) : gEq neg (.int x) (.int y) μ Q :=
  ⟨.int x, .int y, rfl, rfl, rfl, rfl, by simpa only [PyData.eqv] using q⟩
theorem gEq_int {neg : Bool} {x y : Int} {μ : M} {Q : DK} : gEq neg (.int x) (.int y) μ Q ↔ Q (.bl (if neg = true then !(x == y) else (x == y))) μ := by
  refine ⟨fun ⟨p, q, e1, e2, _, _, h⟩ => ?_, eq_int⟩
  cases e1
  cases e2
  simpa only [PyData.eqv] using h

/-! ### isinstance of what is typed by a built-in class -/
end DL

set_option maxHeartbeats 2000000
namespace DL
open PySem PySem.Spec PyProof.Rows L2

/-! ### what the readings come to -/
section
variable {μ : M} {Q : DK} {xs ys : List D} {i j : Int} {x y d : D}
theorem gIx_tup : gIx (.tup xs) (.int i) μ Q ↔ ∃ d, atI xs i = some d ∧ Q d μ := by
  refine ⟨fun h => ?_, fun ⟨d, h, q⟩ => .inl ⟨xs, i, d, rfl, rfl, h, q⟩⟩
  rcases h with ⟨ds, k, d, e1, e2, e3, q⟩ | ⟨z, _, _, e1, _⟩
  · cases e1
    cases e2
    exact ⟨d, e3, q⟩
  · cases e1
theorem gIx_lst : gIx (.lst xs) (.int i) μ Q ↔ ∃ d, atI xs i = some d ∧ Q d μ := by
  refine ⟨fun h => ?_, fun ⟨d, h, q⟩ => .inl ⟨xs, i, d, rfl, rfl, h, q⟩⟩
  rcases h with ⟨ds, k, d, e1, e2, e3, q⟩ | ⟨z, _, _, e1, _⟩
  · cases e1
    cases e2
    exact ⟨d, e3, q⟩
  · cases e1
theorem gLen_tup : gLen (.tup xs) μ Q ↔ Q (.int xs.length) μ := by
  refine ⟨fun h => ?_, fun q => .inl ⟨xs, rfl, q⟩⟩
  rcases h with ⟨ds, e, q⟩ | ⟨z, e, _⟩ | ⟨ks, e, _⟩
  · cases e
    exact q
  · cases e
  · cases e
theorem gLen_lst : gLen (.lst xs) μ Q ↔ Q (.int xs.length) μ := by
  refine ⟨fun h => ?_, fun q => .inl ⟨xs, rfl, q⟩⟩
  rcases h with ⟨ds, e, q⟩ | ⟨z, e, _⟩ | ⟨ks, e, _⟩
  · cases e
    exact q
  · cases e
  · cases e
theorem gInt_int : gInt (.int i) μ Q ↔ Q (.int i) μ := by
  refine ⟨fun h => ?_, fun q => .inl ⟨i, rfl, q⟩⟩
  rcases h with ⟨ds, e, q⟩ | ⟨z, e, _⟩ | ⟨z, _, e, _⟩
  · cases e
    exact q
  · cases e
  · cases e
theorem gAdd_int : gAdd (.int i) (.int j) μ Q ↔ Q (.int (i + j)) μ := by
  refine ⟨fun h => ?_, fun q => .inl ⟨i, j, rfl, rfl, q⟩⟩
  rcases h with ⟨a, b, e1, e2, q⟩ | ⟨a, b, e1, _⟩ | ⟨a, b, e1, _⟩ | ⟨a, b, e1, _⟩
  · cases e1
    cases e2
    exact q
  · cases e1
  · cases e1
  · cases e1
theorem gAdd_lst : gAdd (.lst xs) (.lst ys) μ Q ↔ xs.length + ys.length ≤ 1000000 ∧ Q (.lst (xs ++ ys)) μ := by
  refine ⟨fun h => ?_, fun ⟨h, q⟩ => .inr (.inr (.inl ⟨xs, ys, rfl, rfl, h, q⟩))⟩
  rcases h with ⟨a, b, e1, e2, q⟩ | ⟨a, b, e1, _⟩ | ⟨a, b, e1, e2, h, q⟩ | ⟨a, b, e1, _⟩
  · cases e1
  · cases e1
  · cases e1
    cases e2
    exact ⟨h, q⟩
  · cases e1
theorem gDGet_obj {a : Addr} {ks : List (Key × D)} {z : Str} (h : μ a = some (.dct ks)) : gDGet (.obj a) (.str z) μ Q ↔ ∃ d, valD ks (.inr z) = some d ∧ Q d μ := by
  refine ⟨fun ⟨ks', k, d, e1, e2, e3, q⟩ => ?_, fun ⟨d, e, q⟩ => ⟨ks, _, d, by simp [dctOf, h], rfl, e, q⟩⟩
  simp [dctOf, h] at e1
  cases e1
  cases e2
  exact ⟨d, e3, q⟩
end
/-- but for the handle p nothing is told anew -/
def Only (p : Addr) (μ μ' : M) : Prop := ∀ b, b ≠ p → μ' b = μ b
theorem Only.refl {p : Addr} {μ : M} : Only p μ μ := fun _ _ => rfl
theorem Only.trans {p : Addr} {μ μ1 μ2 : M} (a : Only p μ μ1) (b : Only p μ1 μ2) : Only p μ μ2 := fun c h => (b c h).trans (a c h)
theorem Only.put {p : Addr} {μ : M} {m : MO} : Only p μ (mput μ p m) := fun _ h => mput_ne h
theorem mput_mput {μ : M} {p : Addr} {m m' : MO} : mput (mput μ p m) p m' = mput μ p m' := by
  funext b
  by_cases h : b = p
  · rw [h, mput_same, mput_same]
  · rw [mput_ne h, mput_ne h, mput_ne h]
theorem TabM.only {T : List (Addr × Str)} {p : Addr} {μ μ' : M} {ks ks' : List (Key × D)} (h : TabM T μ) (e : Only p μ μ') (h1 : μ p = some (.dct ks)) (h2 : μ' p = some (.dct ks')) : TabM T μ' := fun a q => by
  by_cases z : a = p
  · subst z
    rw [h2]
    have := h a q
    rw [h1] at this
    constructor
    · intro y
      cases y
    · intro y
      have y' := this.mpr y
      cases y'
  · rw [e a z]
    exact h a q

/-! ### the pen -/
def penD (cs : List Int) (a d n f : Int) : List (Key × D) := [(.inr "cells", .lst (cs.map .int)), (.inr "at", .int a), (.inr "digits", .int d), (.inr "count", .int n), (.inr "fold", .int f)]
/-- a pen stands behind p, at most m draws old -/
def Pen (p : Addr) (μ : M) (m : Nat) : Prop := ∃ cs a d n f, μ p = some (.dct (penD cs a d n f)) ∧ 0 ≤ a ∧ a ≤ cs.length ∧ cs.length ≤ 1000000 ∧ 0 ≤ d ∧ 0 ≤ n ∧ n ≤ m ∧ 0 ≤ f ∧ f < 2147483648
theorem Pen.mono {p : Addr} {μ : M} {m m' : Nat} (h : Pen p μ m) (e : m ≤ m') : Pen p μ m' := by
  obtain ⟨cs, a, d, n, f, h0, h1, h2, h3, h4, h5, h6, h7⟩ := h
  exact ⟨cs, a, d, n, f, h0, h1, h2, h3, h4, h5, by omega, h7⟩
theorem Pen.tab {T : List (Addr × Str)} {p : Addr} {μ μ' : M} {m m' : Nat} (t : TabM T μ) (e : Only p μ μ') (h1 : Pen p μ m) (h2 : Pen p μ' m') : TabM T μ' := by
  obtain ⟨_, _, _, _, _, h1, _⟩ := h1
  obtain ⟨_, _, _, _, _, h2, _⟩ := h2
  exact t.only e h1 h2
section
variable {cs : List Int} {a d n f v : Int} {dv : D}
theorem pen_cells : valD (penD cs a d n f) (.inr "cells") = some (.lst (cs.map .int)) := by rfl
theorem pen_at : valD (penD cs a d n f) (.inr "at") = some (.int a) := by rfl
theorem pen_digits : valD (penD cs a d n f) (.inr "digits") = some (.int d) := by rfl
theorem pen_count : valD (penD cs a d n f) (.inr "count") = some (.int n) := by rfl
theorem pen_fold : valD (penD cs a d n f) (.inr "fold") = some (.int f) := by rfl
theorem put_at : putD (penD cs a d n f) (.inr "at") (.int v) = penD cs v d n f := by rfl
theorem put_digits : putD (penD cs a d n f) (.inr "digits") (.int v) = penD cs a v n f := by rfl
theorem put_count : putD (penD cs a d n f) (.inr "count") (.int v) = penD cs a d v f := by rfl
theorem put_fold : putD (penD cs a d n f) (.inr "fold") (.int v) = penD cs a d n v := by rfl
end
end DL

set_option maxHeartbeats 2000000
namespace DL
open PySem PySem.Spec PyProof.Rows L2
/-! ### loops by an invariant -/
theorem loop_inv {Gd : M → Prop} {tg : DG} {body : DS} {Dd : DE} {F : FK} (ds : List D) {δ : DSt} {μ : M} (I : Nat → DSt → M → Prop) (h0 : I 0 δ μ) (gd : ∀ i δ μ, I i δ μ → Gd μ)
    (step : ∀ i d, ds[i]? = some d → ∀ δ μ, I i δ μ → ∀ R : DSt → M → Prop, (∀ δ' μ', I (i + 1) δ' μ' → R δ' μ') → tg d δ μ fun δ1 μ1 => body { Dd with nx := R, ct := R, bk := Dd.nx } F δ1 μ1)
    (last : ∀ δ μ, I ds.length δ μ → Dd.nx δ μ) : wLoop Gd tg body ds Dd F δ μ := by
  have key : ∀ (es : List D) (i : Nat) (δ : DSt) (μ : M), (∀ j, es[j]? = ds[i + j]?) → es.length + i = ds.length → I i δ μ → wLoop Gd tg body es Dd F δ μ := by
    intro es
    induction es with
    | nil =>
      intro i δ μ _ hl hI
      have : i = ds.length := by simpa using hl
      subst this
      exact ⟨gd _ _ _ hI, last δ μ hI⟩
    | cons e es ih =>
      intro i δ μ hj hl hI
      refine ⟨gd _ _ _ hI, ?_⟩
      refine step i e ?_ δ μ hI _ fun δ' μ' h' => ih (i + 1) δ' μ' (fun j => ?_) (by simp only [List.length_cons] at hl; omega) h'
      · have := hj 0
        simpa using this.symm
      · have := hj (j + 1)
        simp only [List.getElem?_cons_succ] at this
        rw [this]
        congr 1
        omega
  exact key ds 0 δ μ (fun j => by rw [Nat.zero_add]) (by omega) h0
end DL

set_option maxHeartbeats 2000000
/-! the head: facts by names, over data -/
namespace DL
open PySem PySem.Spec PyProof.Rows L2 He
/-- what is looked at behind the top -/
def kOf (g : Addr → Option Obj) (n : Nat) : PySem.W.Frag := frT g (cStatics :: asD g n)
/-- an own exception, in the library's words -/
def oexB (K : PySem.W.Frag) (C : Addr) : Bool :=
  (match K.lookup C with
    | some ⟨.type "type", _, .cls cd, sl⟩ => (match cd.mro, sl.toList with
      | .ref D :: bm, [_, _, _, _, some (.builtin n), _] => D == C && (n == "ValueError.__new__" && (!cd.hasDel && (cd.hasDict && PySem.HandSPX.refsVE bm)))
      | _, _ => false)
    | _ => false) && (eqO (PySem.W.findIn K (.ref C) "__setattr__") (some (some (.builtin "object.__setattr__"))) &&
  (decide (PySem.W.subIn K (.ref C) (.type "BaseException") = some true) && (decide (PySem.W.typeIn K (.ref C) = some (.type "type")) && PySem.W.keepIn K (.ref C))))
theorem oexB_ok {K : PySem.W.Frag} {C : Addr} (h : oexB K C = true) : OexC K C := by
  obtain ⟨h1, h⟩ := ba h
  obtain ⟨h2, h⟩ := ba h
  obtain ⟨h3, h⟩ := ba h
  obtain ⟨h4, h5⟩ := ba h
  refine ⟨?_, eqO_ok h2, of_decide_eq_true h3, of_decide_eq_true h4, h5⟩
  split at h1
  · rename_i dd cd sl hk
    split at h1
    · rename_i D bm a0 a1 a2 a3 n a5 hm hs
      obtain ⟨e1, h1⟩ := ba h1
      obtain ⟨e2, h1⟩ := ba h1
      obtain ⟨e3, h1⟩ := ba h1
      obtain ⟨e4, e5⟩ := ba h1
      have e1 := beq_iff_eq.mp e1
      have e2 := beq_iff_eq.mp e2
      subst e1 e2
      obtain ⟨c1, c2, c3, c4, c5, c6, c7, c8, c9, c10, c11⟩ := cd
      simp only at hm e3 e4
      subst hm
      have e3' : c11 = false := by simpa using e3
      subst e3' e4
      have hs' : sl = #[a0, a1, a2, a3, some (.builtin "ValueError.__new__"), a5] := by rw [← Array.toList_inj]; exact hs
      subst hs'
      exact ⟨_, _, _, _, _, _, _, _, _, _, _, _, _, _, _, hk, e5⟩
    · cases h1
  · cases h1
/-- the base of the own exceptions, whose __init__ is ValueError's -/
def cinB (K : PySem.W.Frag) (B : Addr) : Bool := (PySem.W.readsIn K B (.type "type") && eqO (PySem.W.specialIn K (.ref B) "__getattribute__") (some (some (.builtin "type.__getattribute__")))) &&
  (match PySem.W.findCls K (.ref B) (.type "type") "__init__" with
    | some (.val (.builtin n)) => n == "ValueError.__init__"
    | _ => false)
theorem cinB_ok {K : PySem.W.Frag} {B : Addr} (h : cinB K B = true) : ClX.CRead K B (.type "type") ∧ PySem.W.findCls K (.ref B) (.type "type") "__init__" = some (.val (.builtin "ValueError.__init__")) := by
  obtain ⟨h1, h2⟩ := ba h
  obtain ⟨h3, h4⟩ := ba h1
  refine ⟨⟨h3, eqO_ok h4⟩, ?_⟩
  split at h2
  · rename_i n e
    rw [e, beq_iff_eq.mp h2]
  · cases h2
/-- isinstance of an own class: of its instances, of built-in values -/
structure IsiC (K : PySem.W.Frag) (C : Addr) : Prop where
  ty : InsTy K C
  no : ∀ T : String, T ∈ (["int", "bool", "NoneType", "str", "tuple", "list", "dict"] : List String) → PySem.W.kitOne K (.type T) (.ref C) = some false
def isiB (K : PySem.W.Frag) (C : Addr) : Bool :=
  (PySem.W.plainGet K C Str.empty && (PySem.W.hasDictIn K C && (PySem.W.plainOver K C && eqO (PySem.W.findIn K (.ref C) "__setattr__") (some (some (.builtin "object.__setattr__")))))) &&
  (eqO (PySem.W.findIn K (.ref C) "__class__") (some (some (.builtin "object.__class__"))) && (eqO (PySem.W.specialIn K (.builtin "object.__class__") "__get__") (some (some (.builtin "getset_descriptor.__get__"))) &&
  (decide (PySem.W.takesIn K (.builtin "object.__class__") = some true) && (decide (PySem.W.mroIn K C (.type "object") = some true) && ((["int", "bool", "NoneType", "str", "tuple", "list", "dict"] : List String).all fun T => decide (PySem.W.kitOne K (.type T) (.ref C) = some false))))))
theorem isiB_ok {K : PySem.W.Frag} {C : Addr} (h : isiB K C = true) : IsiC K C := by
  obtain ⟨h0, h⟩ := ba h
  obtain ⟨a1, h0⟩ := ba h0
  obtain ⟨a2, h0⟩ := ba h0
  obtain ⟨a3, a4⟩ := ba h0
  obtain ⟨h1, h⟩ := ba h
  obtain ⟨h2, h⟩ := ba h
  obtain ⟨h3, h⟩ := ba h
  obtain ⟨h4, h5⟩ := ba h
  exact ⟨⟨⟨a1, a2, a3, eqO_ok a4⟩, eqO_ok h1, eqO_ok h2, of_decide_eq_true h3, of_decide_eq_true h4⟩, fun T hT => of_decide_eq_true (List.all_eq_true.mp h5 T hT)⟩
/-! ### isinstance of errors: what their classes must have -/
structure ErrTy (K : PySem.W.Frag) (C : Addr) : Prop where
  hcl : (PySem.W.clsIn K C).isSome = true
  hg : PySem.W.findIn K (.ref C) "__getattribute__" = some (some (.builtin "BaseException.__getattribute__"))
  hk : PySem.W.findIn K (.ref C) "__getattr__" = some none
  hs : PySem.W.subIn K (.ref C) (.type "BaseException") = some true
  ha : PySem.W.findIn K (.ref C) "__class__" = some (some (.builtin "object.__class__"))
  hn : PySem.W.specialIn K (.builtin "object.__class__") "__get__" = some (some (.builtin "getset_descriptor.__get__"))
  ht : PySem.W.takesIn K (.builtin "object.__class__") = some true
  hm : PySem.W.mroIn K C (.type "object") = some true
def etyB (K : PySem.W.Frag) (C : Addr) : Bool :=
  ((PySem.W.clsIn K C).isSome && eqO (PySem.W.findIn K (.ref C) "__getattribute__") (some (some (.builtin "BaseException.__getattribute__")))) && ((decide (PySem.W.findIn K (.ref C) "__getattr__" = some none) && decide (PySem.W.subIn K (.ref C) (.type "BaseException") = some true)) &&
  ((eqO (PySem.W.findIn K (.ref C) "__class__") (some (some (.builtin "object.__class__"))) && eqO (PySem.W.specialIn K (.builtin "object.__class__") "__get__") (some (some (.builtin "getset_descriptor.__get__")))) &&
  (decide (PySem.W.takesIn K (.builtin "object.__class__") = some true) && decide (PySem.W.mroIn K C (.type "object") = some true))))
theorem etyB_ok {K : PySem.W.Frag} {C : Addr} (h : etyB K C = true) : ErrTy K C := by
  obtain ⟨h1, h⟩ := ba h
  obtain ⟨h1, h2⟩ := ba h1
  obtain ⟨h3, h⟩ := ba h
  obtain ⟨h3, h4⟩ := ba h3
  obtain ⟨h5, h⟩ := ba h
  obtain ⟨h5, h6⟩ := ba h5
  obtain ⟨h7, h8⟩ := ba h
  exact ⟨h1, eqO_ok h2, of_decide_eq_true h3, of_decide_eq_true h4, eqO_ok h5, eqO_ok h6, of_decide_eq_true h7, of_decide_eq_true h8⟩
inductive Fb where
  | a (f : Fa) | oex (x : Str) | xf (x : Str) | cin (x : Str) | ini (x : Str) | apart (ps : List Defn) | isi (x : Str) | isx (x y : Str) (b : Bool) | opn (x : Str) | eis (x : Str) (i : Nat) (cs : List Str)
def iniAt (K : PySem.W.Frag) (x : Str) : Addr := ma K (ga K x) "__init__"
def Fb.ok (K : PySem.W.Frag) : Fb → Bool
  | .a f => f.ok K
  | .oex x => oexB K (ga K x)
  | .xf x => xfB K (ga K x)
  | .cin x => cinB K (ga K x)
  | .ini x => eqO (PySem.W.findIn K (.ref (ga K x)) "__init__") (some (some (.ref (iniAt K x)))) && decide (PySem.W.typeIn K (.ref (iniAt K x)) = some (.type "function"))
  | .apart ps => decide ((ps.map fun p => (cT K p).2).Nodup)
  | .isi x => isiB K (ga K x)
  | .isx x y b => decide (PySem.W.kitOne K (.ref (ga K x)) (.ref (ga K y)) = some b)
  | .eis x i cs => etyB K (ga K x) && (decide (PySem.W.kitOne K (.ref (ga K x)) (.ref (ga K "CurveError")) = some true) && (decide (PySem.W.kitOne K (.ref (ga K x)) (.type "ValueError") = some true) && cs.zipIdx.all fun p => decide (PySem.W.kitOne K (.ref (ga K x)) (.ref (ga K p.1)) = some (i == p.2))))
  | .opn x => PySem.W.selfFirst K (ga K x) && decide (PySem.W.subIn K (.ref (ga K x)) (.type "int") = some false)
structure SaysL (fn : List He.DefD) (fb : List Fb) (tf : List Defn) (h : Heap) (K : PySem.W.Frag) : Prop where
  fns : (fn.map fun d => fnW K d.at_) = fn.map He.DefD.val
  oks : (fn.all fun d => d.ok K) = true
  fbs : (fb.all fun f => f.ok K) = true
  hd : ∀ p ∈ tf, PySem.W.codeHdIn K (cT K p).1 (cT K p).2 = true
  out : ∀ p ∈ tf, K.lookup (cT K p).2 = none
  empty : ∀ p ∈ tf, h.get? (cT K p).2 = some (PySem.W.tabObj #[])
def tabL (g : Addr → Option Obj) (K : PySem.W.Frag) (p : Defn) : Bool := PySem.W.codeHdIn K (cT K p).1 (cT K p).2 && ((g (cT K p).2).any emptyTab)
def obsL (n : Nat) (fn : List He.DefD) (fb : List Fb) (tf : List Defn) (g : Addr → Option Obj) : List FnW × Bool :=
  ((fn.map fun d => fnW (kOf g n) d.at_), (fn.all fun d => d.ok (kOf g n)) && ((fb.all fun f => f.ok (kOf g n)) && tf.all (tabL g (kOf g n))))
theorem saysL_of {n : Nat} {fn : List He.DefD} {fb : List Fb} {tf : List Defn} {h : Heap} (e : obsL n fn fb tf h.get? = (fn.map He.DefD.val, true)) : SaysL fn fb tf h (kOf h.get? n) := by
  obtain ⟨e1, e2⟩ := Prod.mk.inj e
  obtain ⟨e2, e3⟩ := ba e2
  obtain ⟨e3, e4⟩ := ba e3
  have one : ∀ p ∈ tf, PySem.W.codeHdIn (kOf h.get? n) (cT (kOf h.get? n) p).1 (cT (kOf h.get? n) p).2 = true ∧ ∃ o, h.get? (cT (kOf h.get? n) p).2 = some o ∧ emptyTab o = true := fun p hp => by
    obtain ⟨a1, a2⟩ := ba (List.all_eq_true.mp e4 p hp)
    refine ⟨a1, ?_⟩
    cases q : h.get? (cT (kOf h.get? n) p).2 with
    | none =>
      rw [q] at a2
      cases a2
    | some o =>
      rw [q] at a2
      exact ⟨o, rfl, a2⟩
  refine ⟨e1, e2, e3, fun p hp => (one p hp).1, fun p hp => ?_, fun p hp => ?_⟩
  · obtain ⟨o, a1, a2⟩ := (one p hp).2
    exact frT_none a1 a2
  · obtain ⟨o, a1, a2⟩ := (one p hp).2
    rw [a1, emptyTab_eq a2]
def hookL (n : Nat) (fn : List He.DefD) (fb : List Fb) (tf : List Defn) : PySem.W.Hook where
  α := List FnW × Bool
  obs s := obsL n fn fb tf s.heap.get?
  val _ := (fn.map He.DefD.val, true)
  says _ h := ∃ K : PySem.W.Frag, K.In h ∧ SaysL fn fb tf h K
  of _ _ e := ⟨_, frT_in, saysL_of e⟩
  keeps _ _ _ s k := let ⟨K, i, c⟩ := s; ⟨K, i.keeps k, c.fns, c.oks, c.fbs, c.hd, c.out, fun p hp => k _ _ (c.empty p hp)⟩
theorem obsL_eq {n : Nat} {fn : List He.DefD} {fb : List Fb} {tf : List Defn} {g : Addr → Option Obj} {s : Shared} (h : ∀ a, g a = s.heap.get? a) : obsL n fn fb tf g = (hookL n fn fb tf).obs s := by
  rw [show g = s.heap.get? from funext h]
  rfl
section
variable {fn : List He.DefD} {fb : List Fb} {tf : List Defn} {h : Heap} {K : PySem.W.Frag} {mg : Str → Option Value}
theorem SaysL.f (c : SaysL fn fb tf h K) (i : Nat) {f : Fb} (e : fb[i]? = some f := by rfl) : f.ok K = true := List.all_eq_true.mp c.fbs f (List.mem_of_getElem? e)
theorem SaysL.d (c : SaysL fn fb tf h K) (i : Nat) {d : He.DefD} (e : fn[i]? = some d := by rfl) : ∃ fd, FunD K d.name d.qual d.params d.body d.scope (d.dvs K) (d.kws K) (fAd K d.at_) fd := by
  refine d.funD ?_ (List.all_eq_true.mp c.oks d (List.mem_of_getElem? e))
  have := congrArg (fun l => l[i]?) c.fns
  simpa [e] using this
/-- a def at the top -/
abbrev dTop (x : Str) (st : Stmt) : He.DefD := ⟨(x, none), x, x, defArgs st, defBody st, defScope st, [], []⟩
/-- the __init__ of the class x -/
abbrev dIni (x q : Str) (st : Stmt) : He.DefD := ⟨(x, some "__init__"), "__init__", q, defArgs st, defBody st, defScope st, [], []⟩
theorem SaysL.def_ (c : SaysL fn fb tf h K) (X : K.In h) (G : h.Ns mainGlobals mg) (i j : Nat) {x : Str} {st : Stmt} (e : fn[i]? = some (dTop x st) := by rfl) (e2 : fb[j]? = some (.a (.glo x)) := by rfl) : DefD K mg x st := by
  obtain ⟨fd, oc, od, dV, kV, doc, pm, an, cdv, ct, osl, rfl, lk, hc, hd, _⟩ : ∃ fd, _ := let ⟨fd, F⟩ := c.d i e; ⟨fd, F.ex⟩
  have kp := (let ⟨fd, F⟩ := c.d i e; F.kp : PySem.W.keepIn K (.ref (ga K x)) = true)
  obtain ⟨_, rfl⟩ : True ∧ dV = .none := by
    rcases hd with ⟨_, z⟩ | ⟨z, _⟩
    · exact ⟨trivial, z⟩
    · exact absurd rfl z
  exact ⟨_, oc, od, kV, doc, pm, an, cdv, ct, osl, glo_ok X G (c.f j e2), kp, lk, hc⟩
theorem SaysL.glo (c : SaysL fn fb tf h K) (X : K.In h) (G : h.Ns mainGlobals mg) (j : Nat) {x : Str} (e2 : fb[j]? = some (.a (.glo x)) := by rfl) : mg x = some (.ref (ga K x)) := glo_ok X G (c.f j e2)
theorem SaysL.free (c : SaysL fn fb tf h K) (X : K.In h) (G : h.Ns mainGlobals mg) (j : Nat) {x : Str} (e2 : fb[j]? = some (.a (.free x)) := by rfl) : mg x = none := free_ok X G (c.f j e2)
theorem SaysL.exm (c : SaysL fn fb tf h K) (j : Nat) {x y : Str} {b : Bool} (e2 : fb[j]? = some (.a (.exm x y b)) := by rfl) : PySem.W.exmOne K (.ref (ga K x)) (.ref (ga K y)) = some b := exm_ok (c.f j e2)
theorem SaysL.noat (c : SaysL fn fb tf h K) (j : Nat) {x y : Str} (e2 : fb[j]? = some (.a (.noat x y)) := by rfl) : PySem.W.findIn K (.ref (ga K x)) y = some none := noat_ok (c.f j e2)
theorem SaysL.ini (c : SaysL fn fb tf h K) (j : Nat) {x : Str} (e2 : fb[j]? = some (.ini x) := by rfl) : PySem.W.findIn K (.ref (ga K x)) "__init__" = some (some (.ref (iniAt K x))) ∧ PySem.W.typeIn K (.ref (iniAt K x)) = some (.type "function") := by
  obtain ⟨a, b⟩ := ba (c.f j e2)
  exact ⟨eqO_ok a, of_decide_eq_true b⟩
theorem SaysL.isi (c : SaysL fn fb tf h K) (j : Nat) {x : Str} (e2 : fb[j]? = some (.isi x) := by rfl) : IsiC K (ga K x) := isiB_ok (c.f j e2)
theorem SaysL.isx (c : SaysL fn fb tf h K) (j : Nat) {x y : Str} {b : Bool} (e2 : fb[j]? = some (.isx x y b) := by rfl) : PySem.W.kitOne K (.ref (ga K x)) (.ref (ga K y)) = some b := of_decide_eq_true (c.f j e2)
theorem SaysL.opn (c : SaysL fn fb tf h K) (j : Nat) {x : Str} (e2 : fb[j]? = some (.opn x) := by rfl) : PySem.W.selfFirst K (ga K x) = true ∧ PySem.W.subIn K (.ref (ga K x)) (.type "int") = some false :=
  let ⟨h1, h2⟩ := ba (c.f j e2); ⟨h1, of_decide_eq_true h2⟩
theorem SaysL.eis (c : SaysL fn fb tf h K) (j : Nat) {x : Str} {i : Nat} {cs : List Str} (e2 : fb[j]? = some (.eis x i cs) := by rfl) : ErrTy K (ga K x) ∧ PySem.W.kitOne K (.ref (ga K x)) (.ref (ga K "CurveError")) = some true ∧ PySem.W.kitOne K (.ref (ga K x)) (.type "ValueError") = some true ∧
    ∀ p ∈ cs.zipIdx, PySem.W.kitOne K (.ref (ga K x)) (.ref (ga K p.1)) = some (i == p.2) := by
  obtain ⟨h1, h⟩ := ba (c.f j e2)
  obtain ⟨h2, h⟩ := ba h
  obtain ⟨h3, h⟩ := ba h
  exact ⟨etyB_ok h1, of_decide_eq_true h2, of_decide_eq_true h3, fun p hp => of_decide_eq_true (List.all_eq_true.mp h p hp)⟩
theorem SaysL.iniF (c : SaysL fn fb tf h K) (i : Nat) {x q : Str} {st : Stmt} (e : fn[i]? = some (dIni x q st) := by rfl) : ∃ fd, Fun K "__init__" q st (iniAt K x) fd := by
  obtain ⟨fd, oc, od, dV, kV, doc, pm, an, cdv, ct, osl, rfl, lk, hc, hd, _⟩ : ∃ fd, _ := let ⟨fd, F⟩ := c.d i e; ⟨fd, F.ex⟩
  have kp := (let ⟨fd, F⟩ := c.d i e; F.kp : PySem.W.keepIn K (.ref (iniAt K x)) = true)
  obtain ⟨_, rfl⟩ : True ∧ dV = .none := by
    rcases hd with ⟨_, z⟩ | ⟨z, _⟩
    · exact ⟨trivial, z⟩
    · exact absurd rfl z
  exact ⟨_, fun_mk lk hc kp⟩
/-- what is known of the law's promise at the head's heap -/
theorem walk_l {l : PySem.W.OpenLaw} {n k m : Nat} {q : Program} {loose : List Str} {XP : (Str → Option Value) → Heap → Prop} {d : DefRec} {fn : List He.DefD} {fb : List Fb} {tf : List (Str × Str)} {ja : Nat}
    (hn : l.most = some n) (hn2 : n ≤ sizeLine) (hdf : d.params.defaults = []) (hr : Room k callerA) (him : importsNone q = true) (hpt : l.prog.given.tree = none) (hap : fb[ja]? = some (.apart (tf.map fun p => (p.1, none))))
    (F : ∀ (w : World) (mg : Str → Option Value) (K : PySem.W.Frag) (h : Heap), K.In h → h.Ns mainGlobals mg → SaysL fn fb (tf.map fun p => (p.1, none)) h K →
      ∃ wp : DF, (∀ (μ : M) (ns : List Int), ns.length ≤ n → (∀ z ∈ ns, Builtin.Int.intBits z ≤ 1048576) → TabM (tf.map fun p => ((cT K (p.1, none)).2, p.2)) μ → wp [.ro (ns.map D.int)] μ (fun d _ => d = .bl true) fun _ _ => False) ∧
        ∀ base : Heap, K.In base → base.Ns mainGlobals mg → SysP l.prog base → (∀ p ∈ tf, LamX.TabB base mg (cT K (p.1, none)).1 (cT K (p.1, none)).2) → CalD l.prog w K mg base k d.name wp) :
    PySem.W.WalkO q loose XP (hookL m fn fb (tf.map fun p => (p.1, none))).says l.row.toRowW d [] (fun f vs => PySem.call f vs) := by
  refine Att.attach_callB hn hdf fun w s₀ s₁ mg mb fa o pm cd doc a vs ns G Y ho hd hcd hmg hobj hints hlen hbits hg => ?_
  obtain ⟨K, KX, c⟩ := Y
  obtain ⟨wp, hwp, hF⟩ := F w mg K _ KX G.T.g c
  have hap' : ((tf.map fun p => (p.1, (none : Option Str))).map fun p => (cT K p).2).Nodup := of_decide_eq_true (c.f ja hap)
  have mem : ∀ p ∈ tf, (p.1, (none : Option Str)) ∈ tf.map fun p => (p.1, (none : Option Str)) := fun p hp => List.mem_map.mpr ⟨p, hp, rfl⟩
  have eT : (tf.map fun p => ((cT K (p.1, none)).1, (cT K (p.1, none)).2, p.2)).map (·.2) = tf.map fun p => ((cT K (p.1, none)).2, p.2) := by simp [List.map_map, Function.comp_def]
  refine law_end (cs := tf.map fun p => ((cT K (p.1, none)).1, (cT K (p.1, none)).2, p.2)) KX G.T.g G.T.b G.T.builtins G.T.nolimit (G.T.seer him) hpt hg ?_ ?_ ?_ ?_ G.T.bmain hobj hints (Nat.le_trans hlen hn2) hr (wp := wp) ?_ ?_
  · rintro _ hq
    obtain ⟨p, hp, rfl⟩ := List.mem_map.mp hq
    exact c.empty _ (mem p hp)
  · rintro _ hq
    obtain ⟨p, hp, rfl⟩ := List.mem_map.mp hq
    exact c.out _ (mem p hp)
  · rintro _ hq
    obtain ⟨p, hp, rfl⟩ := List.mem_map.mp hq
    exact PySem.W.codeHd_of_K KX (c.hd _ (mem p hp))
  · rw [eT]
    have key : ∀ l : List (Str × Str), ((l.map fun p => (p.1, (none : Option Str))).map fun p => (cT K p).2).Nodup → ∀ b q q', (b, q) ∈ l.map (fun p => ((cT K (p.1, none)).2, p.2)) → (b, q') ∈ l.map (fun p => ((cT K (p.1, none)).2, p.2)) → q = q' := by
      intro l
      induction l with
      | nil => intro _ b q q' h; cases h
      | cons x l ih =>
        intro hn b q q' h h'
        simp only [List.map_cons, List.nodup_cons] at hn
        have nin : ∀ z, ((cT K (x.1, none)).2, z) ∉ l.map (fun p => ((cT K (p.1, none)).2, p.2)) := fun z hz => hn.1 (by
          obtain ⟨p, hp, e⟩ := List.mem_map.mp hz
          have e1 := (Prod.mk.inj e).1
          rw [List.map_map]
          exact List.mem_map.mpr ⟨p, hp, e1⟩)
        rcases List.mem_cons.mp h with e | h
        · rcases List.mem_cons.mp h' with e' | h'
          · cases e
            cases e'
            rfl
          · cases e
            exact absurd h' (nin _)
        · rcases List.mem_cons.mp h' with e' | h'
          · cases e'
            exact absurd h (nin _)
          · exact ih hn.2 b q q' h h'
    exact key tf hap'
  · intro base KB hB hS hTB
    obtain ⟨f, hm, _, hf⟩ := (hF base KB hB hS fun p hp => hTB _ (List.mem_map.mpr ⟨p, hp, rfl⟩)).ex
    rw [hmg] at hm
    cases hm
    exact hf
  · intro μ hμ
    rw [eT] at hμ
    exact hwp μ ns hlen hbits hμ
end
end DL

set_option maxHeartbeats 2000000
namespace DL
open PySem PySem.Spec PyProof.Rows L2
/-! ### a < b < c; a, b, c = x, y, z -/
def wChain (g g' : G2) (wa wb wc : DW) : DW := fun δ μ Q F => wa δ μ (fun x μ1 => wb δ μ1 (fun y μ2 => g x y μ2 fun z μ3 => ∃ k, z = .bl k ∧ if k = true then wc δ μ3 (fun w μ4 => g' y w μ4 Q) F else Q (.bl false) μ3) F) F
section
variable {X : Cx} {W : WX} {a b c : Expr} {ta tb tc : TE} {wa wb wc : DW} {pos : Pos} {op op' : CmpOp} {r r' : R2} {g g' : G2}
def wPar3 (i j l : Nat) (wa : DA) : DS := fun D F δ μ => wa δ μ (fun ds μ1 => ∃ u v w, ds = [u, v, w] ∧ D.nx (((δ.set i (some u)).set j (some v)).set l (some w)) μ1) F
end
end DL

set_option maxHeartbeats 2000000
namespace DL
open PySem PySem.Spec PyProof.Rows L2
/-! ### instances: fields -/
/-- x is an instance of the class at C with these fields: as data, or behind a handle -/
def insOf (μ : M) (C : Addr) (fs : List (Str × D)) (x : D) : Prop := x = .ins C fs ∨ ∃ a, x = .obj a ∧ μ a = some (.ins C fs)
theorem RF.none {K : PySem.W.Frag} {G : Hp} {k : Str} : ∀ {fvs : List (Str × V)} {fs : List (Str × D)}, RF K G fvs fs → fs.lookup k = none → fvs.lookup k = none
  | _, _, .nil, _ => rfl
  | _, _, .cons (k := k1) (vs := vs) (ds := ds) q r, h => by
    rw [List.lookup_cons] at h ⊢
    cases e : (k == k1) with
    | true =>
      rw [e] at h
      cases h
    | false =>
      rw [e] at h
      exact RF.none r h
/-- put a field -/
def putFD (f : Str) (d : D) : List (Str × D) → List (Str × D)
  | [] => [(f, d)]
  | (g, x) :: r => if g = f then (g, d) :: r else (g, x) :: putFD f d r
theorem RF.put {K : PySem.W.Frag} {G : Hp} {f : Str} {v : V} {d : D} (h : R K G v d) : ∀ {fvs : List (Str × V)} {fs : List (Str × D)}, RF K G fvs fs → RF K G (putF f v fvs) (putFD f d fs)
  | _, _, .nil => .cons h .nil
  | _, _, .cons (k := g) q r => by
    unfold putF putFD
    by_cases e : g = f
    · rw [if_pos e, if_pos e]
      exact .cons h r
    · rw [if_neg e, if_neg e]
      exact .cons q (r.put h)
theorem RF.length {K : PySem.W.Frag} {G : Hp} : ∀ {fvs : List (Str × V)} {fs : List (Str × D)}, RF K G fvs fs → fvs.length = fs.length
  | _, _, .nil => rfl
  | _, _, .cons _ r => congrArg (· + 1) r.length
def gFld (Cs : List Addr) (f : Str) : D → M → DK → Prop := fun x μ Q => ∃ C ∈ Cs, ∃ fs d, insOf μ C fs x ∧ fs.lookup f = some d ∧ Q d μ
def wFld (Cs : List Addr) (f : Str) (wo : DW) : DW := fun δ μ Q F => wo δ μ (fun x μ1 => gFld Cs f x μ1 Q) F
section
variable {X : Cx} {W : WX} {o value : Expr} {to tv : TE} {wo wv : DW} {f m : Str} {pos pos' apos p : Pos} {Cs : List Addr}
end
/-! ### methods -/
/-- the class at C has a method m that keeps this promise -/
structure MetD (P : Program) (w : World) (K : PySem.W.Frag) (mg : Str → Option Value) (base : Heap) (k : Nat) (C : Addr) (m : Str) (wp : DF) : Prop where
  cl : Cls K C
  ex : ∃ f, Meth K C m f ∧ FnD P w K mg base k f wp
theorem MetD.mono {P : Program} {w : World} {K : PySem.W.Frag} {mg : Str → Option Value} {base : Heap} {j k : Nat} {C : Addr} {m : Str} {wp : DF} (h : MetD P w K mg base j C m wp) (hk : j ≤ k) : MetD P w K mg base k C m wp :=
  ⟨h.cl, let ⟨f, a, b⟩ := h.ex; ⟨f, a, b.mono hk⟩⟩
def hMet (ms : List (Addr × DF)) (m : Str) (x : D) (μ : M) (k : DF → Prop) : Prop := ∃ p ∈ ms, ∃ fs, insOf μ p.1 fs x ∧ fs.lookup m = none ∧ k p.2
def wMet (ms : List (Addr × DF)) (m : Str) (wo : DW) (wa : DA) : DW := fun δ μ Q F => wo δ μ (fun x μ1 => hMet ms m x μ1 fun wp => wa δ μ1 (fun ds μ2 => wp (x :: ds) μ2 Q F) F) F
section
variable {X : Cx} {W : WX} {o e : Expr} {es : List Expr} {to : TE} {wo : DW} {ta : TA} {wa : DA} {m : Str} {pos apos : Pos} {j k : Nat} {ms : List (Addr × DF)}
end
/-! ### C(..) -/
/-- x names the class at C, whose __init__ keeps this promise -/
structure MakD (P : Program) (w : World) (K : PySem.W.Frag) (mg : Str → Option Value) (base : Heap) (k : Nat) (x : Str) (C : Addr) (wp : DF) : Prop where
  gC : mg x = some (.ref C)
  ex : ∃ f, Mk K C f ∧ FnD P w K mg base k f wp
section
variable {X : Cx} {W : WX} {x : Str} {e : Expr} {es : List Expr} {ta : TA} {wa : DA} {pos p : Pos} {j k : Nat} {C : Addr} {wp : DF}
end
end DL

set_option maxHeartbeats 2000000
namespace DL
open PySem PySem.Spec PyProof.Rows L2
/-! ### a function object by its body -/
structure DefQ (K : PySem.W.Frag) (f : Addr) (x q : Str) (st : Stmt) : Prop where
  ex : ∃ (oc : Value) (od : Option Addr) (kV doc pm : Value) (an : Option Addr) (cdv ct : Value) (osl : Array (Option Value)),
    K.lookup f = some ⟨oc, od, .func (PySem.W.fnOf x q (defArgs st) (defBody st) (defScope st) .none kV doc pm an cdv ct), osl⟩ ∧ PySem.W.codeIn K cdv q = true
section
variable {P : Program} {w : World} {K : PySem.W.Frag} {mg : Str → Option Value} {base : Heap} {k : Nat} {wp : DF} {x q m : Str} {f C : Addr}
end
section
open He
variable {fn : List He.DefD} {fb : List Fb} {tf : List Defn} {h : Heap} {K : PySem.W.Frag} {mg : Str → Option Value}
theorem SaysL.cls (c : SaysL fn fb tf h K) (j : Nat) {x : Str} (e2 : fb[j]? = some (.a (.cls x)) := by rfl) : Cls K (ga K x) := cls_ok (c.f j e2)
end
/-! ### [e for t in it if c] -/
def wYes : DT := fun _ μ Q _ => Q true μ
structure PDTs (X : Cx) (W : WX) (ifs : List Expr) (t : TT) (w : DT) : Prop where
  pt : PTs X ifs t
  lt : LT X.K W t w
section
variable {X : Cx} {W : WX} {c : Expr} {t : TT} {w : DT}
theorem pdts_nil : PDTs X W [] tYes wYes := ⟨pts_nil, fun σ δ H μ Q Qd F S q k _ => k true H μ (.refl S.mr) q⟩
end
def wipeD (δ : DSt) : List Nat → DSt
  | [] => δ
  | v :: vs => (wipeD δ vs).set v none
theorem SD.wipe {K : PySem.W.Frag} {σ : St} {δ : DSt} {H : Hp} {μ : M} (s : SD K σ δ H μ) : ∀ vs : List Nat, SD K (L2.wipe σ vs) (wipeD δ vs) H μ
  | [] => s
  | v :: vs => (s.wipe vs).unset v
def FF : FK := fun _ _ => False
def wCmp (Gd : M → Prop) (tg : DG) (tt : DT) (we : DW) (p : Addr) (δ : DSt) : List D → List D → M → DK → Prop
  | [], acc, μ, Q => Gd μ ∧ μ p = some (.lst acc) ∧ Q (.lst acc) (mdel μ p)
  | d :: ds, acc, μ, Q => Gd μ ∧ tg d δ μ fun δ1 μ1 => tt δ1 μ1 (fun b μ2 => if b = true then we δ1 μ2 (fun y μ3 => μ3 p = some (.lst acc) ∧ acc.length < 1000000 ∧ wCmp Gd tg tt we p δ ds (acc ++ [y]) (mput μ3 p (.lst (acc ++ [y]))) Q) FF else wCmp Gd tg tt we p δ ds acc μ2 Q) FF
theorem wCmp_g {Gd : M → Prop} {tg : DG} {tt : DT} {we : DW} {p : Addr} {δ : DSt} {ds acc : List D} {μ : M} {Q : DK} (h : wCmp Gd tg tt we p δ ds acc μ Q) : Gd μ := by
  cases ds <;> exact h.1
def wLc (wi : DI) (tg : DG) (tt : DT) (we : DW) (vs : List Nat) : DW := fun δ μ Q F => wi δ μ (fun ds Gd μ1 => ∀ p, μ1 p = none → wCmp Gd tg tt we p (wipeD δ vs) ds [] (mput μ1 p (.lst [])) Q) F
/-- the same, the new list stays behind its handle -/
def wCmpM (Gd : M → Prop) (tg : DG) (tt : DT) (we : DW) (p : Addr) (δ : DSt) : List D → List D → M → DK → Prop
  | [], acc, μ, Q => Gd μ ∧ μ p = some (.lst acc) ∧ Q (.obj p) μ
  | d :: ds, acc, μ, Q => Gd μ ∧ tg d δ μ fun δ1 μ1 => tt δ1 μ1 (fun b μ2 => if b = true then we δ1 μ2 (fun y μ3 => μ3 p = some (.lst acc) ∧ acc.length < 1000000 ∧ wCmpM Gd tg tt we p δ ds (acc ++ [y]) (mput μ3 p (.lst (acc ++ [y]))) Q) FF else wCmpM Gd tg tt we p δ ds acc μ2 Q) FF
def wLcM (wi : DI) (tg : DG) (tt : DT) (we : DW) (vs : List Nat) : DW := fun δ μ Q F => wi δ μ (fun ds Gd μ1 => ∀ p, μ1 p = none → wCmpM Gd tg tt we p (wipeD δ vs) ds [] (mput μ1 p (.lst [])) Q) F
theorem wipe_but {sl : List Nat} {σ σ' : St} (b : But sl σ σ') : ∀ {vs : List Nat}, (∀ i, i ∈ sl → i ∈ vs) → L2.wipe σ' vs = L2.wipe σ vs := by
  intro vs hs
  have hl := b.2
  apply List.ext_getElem?
  intro i
  have key : ∀ (τ : St) (vs : List Nat) (i : Nat), i < τ.length → (L2.wipe τ vs)[i]? = if i ∈ vs then some none else τ[i]? := by
    intro τ vs
    induction vs with
    | nil => intro i _; simp [L2.wipe]
    | cons v vs ih =>
      intro i hi
      unfold L2.wipe
      by_cases e : v = i
      · subst e
        rw [List.getElem?_set_self (by rw [L2.wipe_length]; exact hi)]
        simp
      · rw [List.getElem?_set_ne e, ih i hi]
        have : i ≠ v := fun z => e z.symm
        simp [this]
  by_cases hi : i < σ.length
  · rw [key σ' vs i (by rw [hl]; exact hi), key σ vs i hi]
    by_cases hv : i ∈ vs
    · rw [if_pos hv, if_pos hv]
    · rw [if_neg hv, if_neg hv]
      exact b.1 i fun z => hv (hs i z)
  · rw [List.getElem?_eq_none (by rw [L2.wipe_length, hl]; omega), List.getElem?_eq_none (by rw [L2.wipe_length]; omega)]
theorem wipe_at (τ : St) : ∀ (vs : List Nat) (i : Nat), i < τ.length → (L2.wipe τ vs)[i]? = if i ∈ vs then some none else τ[i]? := by
  intro vs
  induction vs with
  | nil => intro i _; simp [L2.wipe]
  | cons v vs ih =>
    intro i hi
    unfold L2.wipe
    by_cases e : v = i
    · subst e
      rw [List.getElem?_set_self (by rw [L2.wipe_length]; exact hi)]
      simp
    · rw [List.getElem?_set_ne e, ih i hi]
      have : i ≠ v := fun z => e z.symm
      simp [this]
theorem wipe_twice (σ : St) (vs : List Nat) : L2.wipe (L2.wipe σ vs) vs = L2.wipe σ vs := by
  apply List.ext_getElem?
  intro i
  by_cases hi : i < σ.length
  · rw [wipe_at _ vs i (by rw [L2.wipe_length]; exact hi), wipe_at σ vs i hi]
    by_cases hv : i ∈ vs
    · rw [if_pos hv, if_pos hv]
    · rw [if_neg hv, if_neg hv]
  · rw [List.getElem?_eq_none (by rw [L2.wipe_length, L2.wipe_length]; omega), List.getElem?_eq_none (by rw [L2.wipe_length]; omega)]
theorem ex_ff {K : PySem.W.Frag} {W : WX} {σ : St} {H : Hp} {μ : M} : Ex1 K W σ H μ FF := fun _ _ _ _ _ _ _ z => False.elim z
section
variable {X : Cx} {W : WX} {elt tg iter : Expr} {ifs : List Expr} {scope : Scope} {pos : Pos} {wi : TI} {di : DI} {g : TG} {dg : DG} {sl vs : List Nat} {tt : TT} {dt : DT} {te : TE} {de : DW}
theorem le_lc {K : PySem.W.Frag} (hi : LI K W wi di) (hg : LG K g dg sl) (ht : LT K W0 tt dt) (he : LE K W0 te de) (hsl : ∀ i, i ∈ sl → i ∈ vs) : LE K W (tLc wi g tt te vs) (wLc di dg dt de vs) := by
  intro σ δ H μ Q Qd F S q kQ kF
  refine hi σ δ H μ _ _ F S q (fun J ds Gd H1 μ1 m1 it q1 => ?_) kF
  obtain ⟨G, Y, wk, gG, gY⟩ := it
  intro A hA
  have mp := Mv.newL m1.mr hA (ds := []) (vs := []) .nil
  refine lc_it wk (fun i H' => ∃ μ' acc, Same (hid H1 μ1) (hid H' μ') ∧ MR K H' μ' ∧ wCmp Gd dg dt de A (wipeD δ vs) (ds.drop i) acc μ' Qd) ⟨_, [], mp.sm, mp.mr, q1 A (m1.mr.fresh hA)⟩ ?_ ?_ ?_
  · rintro i H' _ ⟨μ', acc, sm, mr, q'⟩
    exact gG H' μ' sm mr (wCmp_g q')
  · rintro i x H' H2 hi' ⟨μ', acc, sm, mr, q'⟩ y
    obtain ⟨d, e1, m2, r2⟩ := gY i x H' μ' H2 hi' sm mr (wCmp_g q') y
    have ed : ds.drop i = d :: ds.drop (i + 1) := by
      obtain ⟨h1, h2⟩ := List.getElem?_eq_some_iff.mp e1
      rw [List.drop_eq_getElem_cons h1, h2]
    rw [ed] at q'
    have S2 := (S.step (m1.trans (Mv.trans ⟨sm, mr⟩ m2))).wipe vs
    refine hg _ _ H2 μ' x d _ _ S2 r2 q'.2 fun σ3 δ3 H3 μ3 m3 S3 bt q3 => ⟨(wipe_but bt hsl).trans (wipe_twice _ _), ?_⟩
    have sm3 : Same (hid H1 μ1) (hid H3 μ3) := sm.trans (m2.sm.trans m3)
    refine ht σ3 δ3 H3 μ3 _ _ FF S3 q3 (fun b H4 μ4 m4 q4 => ?_) ex_ff
    cases b with
    | false => exact ⟨μ4, acc, sm3.trans m4.sm, m4.mr, q4⟩
    | true =>
      refine he σ3 δ3 H4 μ4 _ _ FF (S3.step m4) q4 (fun v dv H5 μ5 m5 r5 q5 => ?_) ex_ff
      obtain ⟨hp, hl, q5⟩ := q5
      obtain ⟨ws, ew, ra⟩ := m5.mr A _ hp
      have m6 : Mv K H5 μ5 (upd H5 A (.lst (ws ++ [v]))) (mput μ5 A (.lst (acc ++ [dv]))) := Mv.put m5.mr (.inr ⟨_, hp⟩) fun s6 eq => ⟨_, upd_same, by rw [eq]; exact (ra.append (.cons r5 .nil)).mono s6⟩
      exact ⟨ws, ew, Nat.lt_of_lt_of_le (by rw [ra.length]; exact hl) (sz_ok (Nat.le_refl _)), _, _, sm3.trans (m4.sm.trans (m5.sm.trans m6.sm)), m6.mr, q5⟩
  · rintro H' ⟨μ', acc, sm, mr, q'⟩
    rw [List.drop_length] at q'
    obtain ⟨_, hp, q'⟩ := q'
    obtain ⟨ws, ew, ra⟩ := mr A _ hp
    have md := Mv.drop mr A
    exact kQ _ _ H' _ (m1.trans (Mv.trans ⟨sm, mr⟩ md)) (.lst (hid_some.mpr ⟨⟨mdel_same, rfl⟩, ew⟩) (ra.mono md.sm)) q'
/-- what a block's surroundings are -/
theorem Ct.blk {k : Nat} (c : Ct X W k) {s : Shared} {H : Hp} {cenv : Env} {fp : List Addr} : Ct (X.blk s H scope cenv fp) W0 k := ⟨fun _ _ z => by obtain ⟨_, _, _, _, _, _, _, _, _, _, _, _, _, _, _, _, z⟩ := z; exact z.elim, c.gd, c.hr, c.calm, c.sk⟩
theorem pd_lc {k : Nat} {own : List (Str × Nat)} (c : Ct X W k) (hN : X.N.Nodup) (hi : PDI X W tg iter wi di) (ok : BlkOk X.N X.env.scope scope own)
    (hg : ∀ (s : Shared) (H : Hp) (C : Addr) (cl : List (Str × Addr)) (fp : List Addr), PDG (X.blk s H scope (compEnvC scope cl C X.env) fp) tg g dg sl)
    (ht : ∀ (s : Shared) (H : Hp) (C : Addr) (cl : List (Str × Addr)) (fp : List Addr), Ct (X.blk s H scope (compEnvC scope cl C X.env) fp) W0 k → PDTs (X.blk s H scope (compEnvC scope cl C X.env) fp) W0 ifs tt dt)
    (he : ∀ (s : Shared) (H : Hp) (C : Addr) (cl : List (Str × Addr)) (fp : List Addr), Ct (X.blk s H scope (compEnvC scope cl C X.env) fp) W0 k → PD (X.blk s H scope (compEnvC scope cl C X.env) fp) W0 elt te de)
    (hsl : ∀ i, i ∈ sl → i ∈ own.map (·.2) := by decide) (hs : ∀ x, foldedSetIterable iter X.env x = pure x := by intro _; rfl) :
    PD X W (.ListComp elt [⟨tg, iter, ifs, 0⟩] scope pos) (tLc wi g tt te (own.map (·.2))) (wLc di dg dt de (own.map (·.2))) :=
  ⟨pe_lc c.calm hN hi.pi ok (fun s H C cl fp => (hg s H C cl fp).pg) (fun s H C cl fp => (ht s H C cl fp c.blk).pt) (fun s H C cl fp => (he s H C cl fp c.blk).pe) hs,
    le_lc hi.li (hg X.s_0 X.H_0 0 [] []).lg (ht X.s_0 X.H_0 0 [] [] c.blk).lt (he X.s_0 X.H_0 0 [] [] c.blk).le hsl⟩
end
end DL

set_option maxHeartbeats 2000000
namespace DL
open PySem PySem.Spec PyProof.Rows L2
/-! ### enumerate of a tuple -/
section
open PySem.AutoSeq1 (wpAny_loadPart')
theorem enum_newT (l : Addr) (items : Array Value) :
    Meets (Builtin.«enumerate.__new__» ⟨[.type "enumerate", .ref l], []⟩) (fun _ R s => s.heap.IsTuple l items ∧
      R (.ok (.ret (.ref (s.heap.push { cls := .type "tuple_iterator", data := .fields #[.ref l, .int 0 0] }).objs.size)))
        { s with heap := (s.heap.push { cls := .type "tuple_iterator", data := .fields #[.ref l, .int 0 0] }).push { cls := .type "enumerate", data := .fields #[.none, .bool false, .ref s.heap.objs.size, rawInt 0, .none, .none] } }) :=
  .of_wp fun prog w A R s z => by
    obtain ⟨hp, gs, dr, tk, os⟩ := s
    obtain ⟨hT, z⟩ := z
    have hsub := sub_enumerate
    have it : ∀ {A' : Around} {E : Value → Shared → Prop} {Q : Value → Shared → Prop}, Q (.ref hp.objs.size) ⟨hp.push { cls := .type "tuple_iterator", data := .fields #[.ref l, .int 0 0] }, gs, dr, tk, os⟩ → wpAny (model prog w) A' (pyIter (.ref l)) Q E ⟨hp, gs, dr, tk, os⟩ :=
      fun q => wpAny_pyIter_tuple hT q
    wp_walk using it
    refine wpAny_stack_any fun st => wpAny_pure ?_
    split
    · rename_i c0 _ _ _ _ _
      cases (c0 == Value.type "enumerate") <;> (wp_walk using it; exact ⟨_, rfl, z⟩)
    · wp_walk using it
      exact ⟨_, rfl, z⟩
theorem enum_callT {prog : Program} {w : World} {A : Around} {E : Value → Shared → Prop} {s : Shared} {l : Addr} {items : Array Value} {Q : Value → Shared → Prop} (hT : s.heap.IsTuple l items)
    (k : ∀ h', IsEnum h' (s.heap.objs.size + 1) s.heap.objs.size 0 .none → h'.IsTupleIter s.heap.objs.size l 0 → h'.objs.size = s.heap.objs.size + 2 → (∀ b o, s.heap.get? b = some o → h'.get? b = some o) → Q (.ref (s.heap.objs.size + 1)) { s with heap := h' }) :
    wpAny (model prog w) A (call (.type "enumerate") [.ref l]) Q E s := by
  have sz : (s.heap.push { cls := .type "tuple_iterator", data := .fields #[.ref l, .int 0 0] }).objs.size = s.heap.objs.size + 1 := Heap.size_push ..
  refine callType_new F.called_enumerate (by decide) (F.typeCall_enumerate_1 _) (F.newCall_enumerate_1 _) (fun obj => F.args_object_init_2 obj _) F.entry_enumerate_new (enum_newT l items) ⟨hT, ?_⟩
  have e1 : IsEnum ((s.heap.push { cls := .type "tuple_iterator", data := .fields #[.ref l, .int 0 0] }).push { cls := .type "enumerate", data := .fields #[.none, .bool false, .ref s.heap.objs.size, rawInt 0, .none, .none] }) (s.heap.objs.size + 1) s.heap.objs.size 0 .none := by
    rw [← sz]
    exact Heap.get?_push_size _ rfl
  rw [sz]
  refine ⟨⟨_, e1, rfl⟩, k _ e1 ⟨_, Heap.get?_push_of_some _ (Heap.get?_push_size _ rfl), rfl, rfl⟩ (by rw [Heap.size_push, sz]) fun b o z => Heap.get?_push_of_some _ (Heap.get?_push_of_some _ z)⟩
end
def IteT (K : PySem.W.Frag) (a : Addr) : It :=
  ⟨fun i H => ∃ (xs : List V) (x : V), SqT K H a xs ∧ xs[i]? = some x, fun i H v H' => ∃ T x, v = .ref T ∧ H T = none ∧ H' = upd H T (.tup [.int (i : Nat), x]) ∧ ∀ xs, SqT K H a xs → xs[i]? = some x, fun i H => ∃ xs : List V, SqT K H a xs ∧ xs.length ≤ i⟩
theorem turn_enumT {P : Program} {w : World} {K : PySem.W.Frag} {elts : List Expr} {kk : Nat} {tpos : Pos} {a e it : Addr} (n1 : e ≠ it) (n2 : a ≠ it) (n3 : a ≠ e) :
    Turn P w K (.Tuple elts kk tpos) (IteT K a) [e, it] e (fun i h => (∃ old, IsEnum h e it ((i : Nat) : Int) old) ∧ h.IsTupleIter it a i) where
  mem := by simp
  obj := fun i h ⟨⟨old, he⟩, o, ho, hc, hd⟩ b hb => by
    rcases (show b = e ∨ b = it by simpa using hb) with rfl | rfl
    · exact ⟨_, he, nofun⟩
    · exact ⟨o, ho, fun v q => by rw [hd] at q; cases q⟩
  keep := fun i h h' ⟨⟨old, he⟩, hi⟩ k => ⟨⟨old, k e (by simp) _ he⟩, hi.at fun o q => k it (by simp) o q⟩
  item := by
    intro X hP hw hK hc i pins s σ H E I hf ⟨⟨old, he⟩, hit⟩ ⟨xs, x, hq, hx⟩
    subst hP hw hK
    obtain ⟨its, rv, p, hz⟩ := I.tuple hq
    obtain ⟨u, hu, ru⟩ := rv.get hx
    have pT : s.heap.IsTuple a its.toArray := p
    have el : e < s.heap.objs.size := Heap.lt_size he
    have il : it < s.heap.objs.size := by obtain ⟨_, q, _⟩ := hit; exact Heap.lt_size q
    have hlt : i < its.toArray.size := by
      obtain ⟨z, _⟩ := List.getElem?_eq_some_iff.mp hu
      simpa using z
    refine wpAny_pyNext_enum_itemD (Draws.tuple (A := X.A.in1) (show X.A.in1.handled = none from I.ok.hd hc) it a n2 its.toArray) he ⟨hit, pT⟩ hlt n1 (by simp [n1, Ne.symm n3]) fun y h' tk hy ho st' hT sz hk => ?_
    have eu : y = u := by
      have : its[i]? = some y := by simpa using hy
      rw [hu] at this
      exact (Option.some.inj this).symm
    subst eu
    refine ⟨_, rfl, wpAny_letOwnedTupleGo_enum (s := { s with heap := h', toks := tk + 1 }) ho fun h'' he' sb => ?_⟩
    have hT2 : h''.get? s.heap.objs.size = some { cls := .type "tuple", data := .seq #[.int i tk, y] } := (sb.2 _ (Nat.ne_of_gt el)).trans hT
    have new : ObjOk X.prog X.w (upd H s.heap.objs.size (.tup [.int (i : Nat), x])) h'' s.heap.objs.size (.tup [.int (i : Nat), x]) := ⟨by show 2 ≤ sizeLine; decide, [.int i tk, y], .cons ⟨_, rfl⟩ (.cons ru .nil), ⟨_, hT2, rfl, _, rfl⟩⟩
    have I1 : Inv X pins σ (upd H s.heap.objs.size (.tup [.int (i : Nat), x])) { s with heap := h'', toks := tk + 1 } :=
      I.turnedNew (ch := [e, it]) (fun b ob hb q => (sb.2 b (fun z => hb (by simp [z]))).trans (hk b ob (fun z => hb (by simp [z])) (fun z => hb (by simp [z])) q)) hf (Nat.le_refl _) new
    refine ⟨.ref s.heap.objs.size, _, I1, rfl, ⟨_, x, rfl, I.hok.fresh (Nat.le_refl _), rfl, fun ys hy => by rw [I.tuple_inj hy hq]; exact hx⟩, ⟨⟨y, ?_⟩, st'.1.at fun o q => (sb.2 it (Ne.symm n1)).trans q⟩, fun b hb => ?_⟩
    · rw [show ((i + 1 : Nat) : Int) = (i : Int) + 1 by omega]
      exact he'
    · have hb' : b < s.heap.objs.size := by rcases (show b = e ∨ b = it by simpa using hb) with rfl | rfl <;> assumption
      rw [upd_ne (Nat.ne_of_lt hb')]
      exact (hf b hb).1
  done := by
    intro X hP hw hK hc i pins s σ H E I hf ⟨⟨old, he⟩, hit⟩ ⟨xs, hq, hx⟩
    subst hP hw hK
    obtain ⟨its, rv, p, hz⟩ := I.tuple hq
    obtain ⟨f0, f1, f2, f3, f4, f5⟩ := hf it (by simp)
    have pT : s.heap.IsTuple a its.toArray := p
    have hl := rv.length
    have no : its.toArray[i]? = none := by simp; omega
    have D : Draws X.prog X.w X.A.in1 it [it, a] i (fun _ _ => True) (fun j h => j = i ∧ h.IsTupleIter it a i ∧ h.IsTuple a its.toArray) :=
      ⟨fun _ _ st => let ⟨o, ho, _⟩ := st.2.1; ⟨o, ho⟩, fun _ _ _ st hk => ⟨st.1, st.2.1.at fun o e => hk it (by simp) o e, st.2.2.at fun o e => hk a (by simp) o e⟩, fun j _ _ _ hj st _ => absurd st.1 (by omega),
        fun s1 Q1 E1 st hE => RZ.nextOf_tuple_end (show X.A.in1.handled = none from I.ok.hd hc) st.2.1 st.2.2 no hE⟩
    exact wpAny_pyNext_enum_endD D he ⟨rfl, hit, pT⟩ fun h' eb => ⟨rfl, I.turned (t' := s.toks) (fun b o hb q => eb b o hb q) f0 f1 f3 f4 f5⟩
  self := fun A i s Q E st h => let ⟨⟨_, he⟩, _⟩ := st; wpAny_pyIter_enum he h
def iEnumA (K : PySem.W.Frag) (ta : TA) : TI := fun σ H R => ta σ H fun vs H1 => ∃ a xs, vs = [.ref a] ∧ ((SqL K H1 a xs ∧ R (Ite K a) H1) ∨ (SqT K H1 a xs ∧ R (IteT K a) H1))
theorem pi_enumA {X : Cx} {e : Expr} {ta : TA} {p pos tpos : Pos} {elts : List Expr} {kk : Nat} (hg : Gl X "enumerate") (hm : X.mg "enumerate" = none) (ha : PA X [e] ta) (hs : starEach [e] X.env = [(false, eval e X.env)]) : PI X (.Tuple elts kk tpos) (.Call (.Name "enumerate" p) [e] [] pos) (iEnumA X.K ta) := by
  refine ⟨fun pins s σ H R I h => ?_⟩
  refine Call_ (ld_blt I hg hm boot_enumerate (PyProof.Rows.callWith_type1 (thn (ha.run pos pins s σ H _ I h) fun us s1 ⟨vs, H1, I1, r1, q1⟩ => ?_) hs rfl))
  obtain ⟨a, xs, rfl, q⟩ := q1
  obtain ⟨u, rfl, ru⟩ := vals1 r1
  cases (show u = Value.ref a from ru)
  have fp : ∀ b ∈ [s1.heap.objs.size + 1, s1.heap.objs.size], FpOk X pins H1 b := fun b hb => by
    have hle : s1.heap.objs.size ≤ b := by rcases (show b = s1.heap.objs.size + 1 ∨ b = s1.heap.objs.size by simpa using hb) with rfl | rfl <;> omega
    exact I1.fpOk hle (I1.hok.fresh hle)
  rcases q with ⟨hq, q⟩ | ⟨hq, q⟩
  · obtain ⟨its, rv, pl, hz⟩ := I1.list hq
    refine call_enumerate_list pl.isList fun h' he hit hsz hk => wpAny_pyIter_enum he ?_
    exact ⟨_, [s1.heap.objs.size + 1, s1.heap.objs.size], _, _, H1, rfl, I1.kept (t' := s1.toks) hk, turn_enum a _ _, ⟨⟨.none, he⟩, hit, Nat.succ_ne_self _⟩, fp, q⟩
  · obtain ⟨its, rv, pl, hz⟩ := I1.tuple hq
    have pT : s1.heap.IsTuple a its.toArray := pl
    have al : a < s1.heap.objs.size := by obtain ⟨_, z, _⟩ := pT; exact Heap.lt_size z
    refine enum_callT pT fun h' he hit hsz hk => wpAny_pyIter_enum he ?_
    exact ⟨_, [s1.heap.objs.size + 1, s1.heap.objs.size], _, _, H1, rfl, I1.kept (t' := s1.toks) hk, turn_enumT (a := a) (Nat.succ_ne_self _) (Nat.ne_of_lt al) (Nat.ne_of_lt (Nat.lt_succ_of_lt al)), ⟨⟨.none, he⟩, hit⟩, fp, q⟩
/-! ### enumerate, zip of lists and tuples, over data -/
section
variable {K : PySem.W.Frag} {H : Hp} {μ : M} {a b : Addr} {vs ws : List V} {ds es : List D}
theorem walk_enumT {xs : List V} : Walk (IteT K a) xs.length (fun H => SqT K H a xs) (YPair (fun i => some (.int (i : Nat))) (fun i => xs[i]?)) := by
  refine ⟨fun i _ hi q => ⟨xs, xs[i], q, by simp [hi]⟩, fun _ q => ⟨xs, q, Nat.le_refl _⟩, fun i H v H' _ q y => ?_⟩
  obtain ⟨T, x, h1, h2, h3, h4⟩ := y
  exact ⟨T, .int (i : Nat), x, h1, h2, h3, rfl, h4 xs q⟩
theorem itd_enumT (hs : SqT K (hid H μ) a vs) (r : RA K (hid H μ) vs ds) : ItD K H μ (IteT K a) (enum ds) Any := by
  have hl : (enum ds).length = vs.length := by rw [r.length]; simp [enum]
  refine ⟨_, _, by rw [hl]; exact walk_enumT, fun H1 μ1 m _ _ => same_t hid_sub (same_t m hs), fun i x H1 μ1 H2 _ m mr _ y => ?_⟩
  obtain ⟨T, x1, x2, e0, e1, e2, e3, e4⟩ := y
  subst e0 e2
  obtain ⟨d, h1, h2⟩ := r.get' e4
  cases e3
  obtain ⟨m2, r2⟩ := pair_of mr e1 (.int (i : Nat)) (h2.mono m)
  exact ⟨_, by simp [enum, h1], m2, r2⟩
theorem itd_enumO (m : MR K H μ) (h : μ a = some (.lst ds)) : ItD K H μ (Ite K a) (enum ds) (fun μ' => μ' a = some (.lst ds)) := by
  have hl : (enum ds).length = ds.length := by simp [enum]
  refine ⟨fun H1 => ∃ vs1, H1 a = some (.lst vs1) ∧ vs1.length = ds.length, fun i H1 v H2 => ∃ T x vs1, v = .ref T ∧ H1 T = none ∧ H2 = upd H1 T (.tup [.int (i : Nat), x]) ∧ H1 a = some (.lst vs1) ∧ vs1[i]? = some x, ⟨fun i H1 hi ⟨vs1, e1, el⟩ => ?_, fun H1 ⟨vs1, e1, el⟩ => ?_, fun i H1 x H2 hi ⟨vs1, e1, el⟩ y => ?_⟩, fun H1 μ1 _ mr g => ?_, fun i x H1 μ1 H2 hi _ mr g y => ?_⟩
  · exact ⟨vs1, vs1[i]'(by omega), SqL.of e1, by simp [show i < vs1.length by omega]⟩
  · exact ⟨vs1, SqL.of e1, by omega⟩
  · obtain ⟨T, x, h1, h2, h3, h4⟩ := y
    exact ⟨T, x, vs1, h1, h2, h3, e1, h4 vs1 (SqL.of e1)⟩
  · obtain ⟨vs1, e1, r1⟩ := mr a _ g
    exact ⟨vs1, e1, r1.length⟩
  · obtain ⟨T, x, vs1, e0, e1, e2, e3, e4⟩ := y
    subst e0 e2
    obtain ⟨vs2, e5, r2⟩ := mr a _ g
    rw [e3] at e5
    cases e5
    obtain ⟨d, h1, h2⟩ := r2.get' e4
    obtain ⟨m2, r3⟩ := pair_of mr e1 (.int (i : Nat)) h2
    exact ⟨_, by simp [enum, h1], m2, r3⟩
def intsC (lo c : Int) (n : Nat) : List D := (List.range n).map fun i => .int (lo + (i : Nat) * c)
def signsD (z : Str) : List D := z.cps.toList.map fun c => .str ⟨#[c]⟩
end
section
variable {X : Cx} {W : WX} {tg e : Expr} {te : TE} {we : DW} {p pos : Pos}
/-- enumerate of a list (written, or behind a handle) or a tuple -/
def wIEnumA (wa : DA) : DI := fun δ μ Q F => wa δ μ (fun ds μ1 => (∃ xs, (ds = [.lst xs] ∨ ds = [.ro xs] ∨ ds = [.tup xs]) ∧ Q (enum xs) Any μ1) ∨ ∃ a xs, ds = [.obj a] ∧ μ1 a = some (.lst xs) ∧ Q (enum xs) (fun μ' => μ' a = some (.lst xs)) μ1) F
def wIRng3 (wa : DA) : DI := fun δ μ Q F => wa δ μ (fun ds μ1 => ∃ (i j c : Int) (n : Nat), ds = [.int i, .int j, .int c] ∧ RgC i j c n ∧ Q (intsC i c n) Any μ1) F
theorem pdi_enumA {a : Expr} {ta : TA} {wa : DA} {tpos : Pos} {elts : List Expr} {kk : Nat} (hm : X.mg "enumerate" = none) (ha : PDA X W [a] ta wa) (hg : Gl X "enumerate" := by rfl) (hs : starEach [a] X.env = [(false, eval a X.env)] := by rfl) : PDI X W (.Tuple elts kk tpos) (.Call (.Name "enumerate" p) [a] [] pos) (iEnumA X.K ta) (wIEnumA wa) := by
  refine ⟨pi_enumA hg hm ha.pa hs, fun σ δ H μ Q Qd F S q kQ kF => ha.la σ δ H μ _ _ F S q (fun vs ds H1 μ1 m1 r1 q1 => ?_) kF⟩
  rcases q1 with ⟨xs, h, q1⟩ | ⟨b, xs, rfl, hb, q1⟩
  · rcases h with rfl | rfl | rfl
    · obtain ⟨v, rfl, r⟩ := ra1 r1
      cases r with
      | lst h ra => exact ⟨_, _, rfl, .inl ⟨hid_sub.seq (SqL.of h), kQ _ _ _ H1 μ1 m1 (itd_enum (SqL.of h) ra) q1⟩⟩
    · obtain ⟨v, rfl, r⟩ := ra1 r1
      cases r with
      | ro h ra => exact ⟨_, _, rfl, .inl ⟨hid_sub.seq h, kQ _ _ _ H1 μ1 m1 (itd_enum h ra) q1⟩⟩
    · obtain ⟨v, rfl, r⟩ := ra1 r1
      cases r with
      | tup h ra => exact ⟨_, _, rfl, .inr ⟨same_t hid_sub h, kQ _ _ _ H1 μ1 m1 (itd_enumT h ra) q1⟩⟩
  · obtain ⟨v, rfl, r⟩ := ra1 r1
    obtain rfl := r.obj_inv
    obtain ⟨vs1, e1, _⟩ := m1.mr b _ hb
    exact ⟨_, _, rfl, .inl ⟨SqL.of e1, kQ _ _ _ H1 μ1 m1 (itd_enumO m1.mr hb) q1⟩⟩
end
end DL

set_option maxHeartbeats 2000000
namespace LL
open PySem PySem.Spec PyProof.Rows L2 HT
open AutoSeq1 (wpAny_loadPart')
section
variable {prog : Program} {w : World} {A : Around} {E : Value → Shared → Prop} {s : Shared}
end
/-! ### t * k for k up to 1 -/
end LL

set_option maxHeartbeats 2000000
namespace LL
open PySem PySem.W PySem.Calls PyProof.Rows
open AutoSeq1 (wpAny_loadPart')
/-! ### own operators, by the machine -/
section
variable {prog : Program} {w : World} {A : Around} {E : Value → Shared → Prop} {s : Shared} {K : PySem.W.Frag} {x y C L f g : Addr} {h₀ : Heap} {m : Str → Option Value} {ox oy : Obj} {od ody : Option Obj} {T : String}
end
end LL

set_option maxHeartbeats 2000000
namespace DL
open PySem PySem.Spec PyProof.Rows L2 LL
/-! ### own operators over data -/
/-- what is known of an operator beside ints and tuples -/
structure OpI (op : Operator) : Prop where
  it : ∃ idl B, fillsNumberSlot (.type "int") op.info.2 = pure true ∧ Slot "int" (PySem.dunder op.info.2) idl ∧ entryFor table idl = some B ∧ (∀ (i : Int) (t : Tok) (y : Addr), argsOk idl ⟨[.int i t, .ref y], []⟩) ∧
    ∀ (i : Int) (t : Tok) (y C dx : Addr), Meets (B ⟨[.int i t, .ref y], []⟩) (fun _ R s => s.heap.get? y = some (PySem.W.instObj C dx) ∧ R (.ok (.ret Value.notImplemented)) s)
  tt : ∃ fo ro, fastLookup "tuple" (PySem.dunder op.info.2) = some fo ∧ fastLookup "tuple" (dunderR op.info.2) = some ro ∧ ((fo.isSome && !isSeqSlot fo) || (ro.isSome && !isSeqSlot ro)) = false
  ti : ∃ fo ro, fastLookup "int" (PySem.dunder op.info.2) = some fo ∧ fastLookup "int" (dunderR op.info.2) = some ro
structure OwnOp (P : Program) (w : World) (K : PySem.W.Frag) (mg : Str → Option Value) (base : Heap) (k : Nat) (op : Operator) (C : Addr) (wa wr : DF) : Prop where
  oi : OpI op
  sf : PySem.W.selfFirst K C = true
  si : PySem.W.subIn K (.ref C) (.type "int") = some false
  ma : MetD P w K mg base k C (PySem.dunder op.info.2) wa
  mr : MetD P w K mg base k C (dunderR op.info.2) wr
theorem OwnOp.mono {P : Program} {w : World} {K : PySem.W.Frag} {mg : Str → Option Value} {base : Heap} {j k : Nat} {op : Operator} {C : Addr} {wa wr : DF} (h : OwnOp P w K mg base j op C wa wr) (hk : j ≤ k) : OwnOp P w K mg base k op C wa wr :=
  ⟨h.oi, h.sf, h.si, h.ma.mono hk, h.mr.mono hk⟩
def wBinO (g : G2) (o : D → D → M → DK → FK → Prop) (wa wb : DW) : DW := fun δ μ Q F => wa δ μ (fun x μ1 => wb δ μ1 (fun y μ2 => g x y μ2 Q ∨ o x y μ2 Q F) F) F
section
variable {X : Cx} {W : WX} {a b : Expr} {ta tb : TE} {wa wb : DW} {pos : Pos} {j k : Nat} {C : Addr} {wf wr : DF}
end
end DL

set_option maxHeartbeats 2000000
namespace DL
open PySem PySem.Spec PyProof.Rows L2 LL
/-! ### own ==, own - over data -/
structure OwnEq (P : Program) (w : World) (K : PySem.W.Frag) (mg : Str → Option Value) (base : Heap) (k : Nat) (C : Addr) (we : DF) : Prop where
  me : MetD P w K mg base k C "__eq__" we
def wUnO (g : G1) (o : D → M → DK → FK → Prop) (wa : DW) : DW := fun δ μ Q F => wa δ μ (fun x μ1 => g x μ1 Q ∨ o x μ1 Q F) F
section
variable {X : Cx} {W : WX} {a b : Expr} {ta tb : TE} {wa wb : DW} {pos : Pos} {j k : Nat} {C : Addr} {wf : DF}
end
end DL

set_option maxHeartbeats 2000000
namespace DL
open PySem PySem.Spec PyProof.Rows L2 LL
/-! ### xs[i] = v, pop, insert -/
def wSubG (wo wi : DW) : DG := fun d δ μ Q => wo δ μ (fun o μ1 => wi δ μ1 (fun i μ2 => ∃ a xs k j, o = .obj a ∧ i = .int k ∧ μ2 a = some (.lst xs) ∧ ixN xs.length k = some j ∧ Q δ (mput μ2 a (.lst (xs.set j d)))) FF) FF
section
variable {X : Cx} {W : WX} {a b : Expr} {ta tb : TE} {wa wb : DW} {pos : Pos} {j k : Nat}
def wPop (wo : DW) : DW := fun δ μ Q F => wo δ μ (fun d μ1 => ∃ a xs y, d = .obj a ∧ μ1 a = some (.lst xs) ∧ xs[xs.length - 1]? = some y ∧ Q y (mput μ1 a (.lst xs.dropLast))) F
theorem RA.dropLast {K : PySem.W.Frag} {G : Hp} {vs : List V} {ds : List D} (r : RA K G vs ds) : RA K G vs.dropLast ds.dropLast := by
  rw [List.dropLast_eq_take, List.dropLast_eq_take, r.length]
  exact r.take _
/-! ### xs * n, t * n; xs[::-1] -/
def wRev (we : DW) : DW := fun δ μ Q F => we δ μ (fun x μ1 => (∃ xs, (lstOf μ1 x = some xs ∨ x = .ro xs) ∧ Q (.lst xs.reverse) μ1) ∨ ∃ xs, x = .tup xs ∧ Q (.tup xs.reverse) μ1) F
/-! ### sum, max, min, any, all of a list -/
end
end DL

set_option maxHeartbeats 2000000
namespace DL
open PySem PySem.Spec PyProof.Rows L2 LL
/-! ### handles are let go -/
def Drp (μ : M) (d : D) (μ' : M) (d' : D) : Prop := ∀ (K : PySem.W.Frag) (H : Hp) (v : V), MR K H μ → R K (hid H μ) v d → Mv K H μ H μ' ∧ R K (hid H μ') v d'
theorem Drp.refl {μ : M} {d : D} : Drp μ d μ d := fun K H v m r => ⟨.refl m, r⟩
theorem Drp.trans {μ μ1 μ2 : M} {d d1 d2 : D} (a : Drp μ d μ1 d1) (b : Drp μ1 d1 μ2 d2) : Drp μ d μ2 d2 := fun K H v m r => by
  obtain ⟨m1, r1⟩ := a K H v m r
  obtain ⟨m2, r2⟩ := b K H v m1.mr r1
  exact ⟨m1.trans m2, r2⟩
theorem Drp.lst {μ : M} {a : Addr} {xs : List D} (h : μ a = some (.lst xs)) : Drp μ (.obj a) (mdel μ a) (.lst xs) := fun K H v m r => by
  have md := Mv.drop m a
  obtain ⟨vs, e, ra⟩ := m a _ h
  rw [r.obj_inv]
  exact ⟨md, .lst (hid_some.mpr ⟨⟨mdel_same, rfl⟩, e⟩) (ra.mono md.sm)⟩
theorem Drp.ins {μ : M} {a C : Addr} {fs : List (Str × D)} (h : μ a = some (.ins C fs)) : Drp μ (.obj a) (mdel μ a) (.ins C fs) := fun K H v m r => by
  have md := Mv.drop m a
  obtain ⟨dx, vs, e, ra⟩ := m a _ h
  rw [r.obj_inv]
  exact ⟨md, .ins (hid_some.mpr ⟨⟨mdel_same, rfl⟩, e⟩) (ra.mono md.sm)⟩
/-- Q of what remains when some handles are let go -/
def dn (Q : DK) : DK := fun d μ => ∃ d' μ', Drp μ d μ' d' ∧ Q d' μ'
def dnF (F : FK) : FK := fun er μ => ∃ μ', (∀ K H, MR K H μ → Mv K H μ H μ') ∧ F er μ'
theorem mdel_put' {μ : M} {b : Addr} {m : MO} (h : μ b = none) : mdel (mput μ b m) b = μ := by
  funext c
  by_cases e : c = b
  · rw [e, mdel_same, h]
  · rw [mdel_ne e, mput_ne e]
section
variable {P : Program} {w : World} {K : PySem.W.Frag} {mg : Str → Option Value} {base : Heap} {k : Nat} {x : Str} {f : Addr} {wp : DF}
theorem spD.dn {vs : List V} {H : Hp} {Q : VK} {E : XK} (h : spD K (fun ds μ Q F => wp ds μ (dn Q) (dnF F)) vs H Q E) : spD K wp vs H Q E := by
  obtain ⟨ds, μ, Qd, F, ra, mr, z, kQ, kF⟩ := h
  refine ⟨ds, μ, _, _, ra, mr, z, fun v d H' μ' m r q => ?_, fun cls dd er H' μ' m r q => ?_⟩
  · obtain ⟨d', μ'', hd, q⟩ := q
    obtain ⟨m2, r2⟩ := hd K H' v m.mr r
    exact kQ v d' H' μ'' (m.trans m2) r2 q
  · obtain ⟨μ'', hd, q⟩ := q
    have m2 := hd K H' m.mr
    exact kF cls dd er H' μ'' (m.trans m2) (r.mono m2.sm) q
theorem FnD.dn (F : FnD P w K mg base k f wp) : FnD P w K mg base k f (fun ds μ Q F => wp ds μ (dn Q) (dnF F)) := fun A outer s H us vs Q E g r e v z => F A outer s H us vs Q E g r e v z.dn
theorem CalD.dn (C : CalD P w K mg base k x wp) : CalD P w K mg base k x (fun ds μ Q F => wp ds μ (dn Q) (dnF F)) := by
  obtain ⟨f, h1, h2, h3⟩ := C
  exact ⟨f, h1, h2, h3.dn⟩
end
/-! ### name = [..] -/
section
variable {X : Cx} {W : WX} {elt tg iter : Expr} {ifs : List Expr} {scope : Scope} {pos spos py : Pos} {y : Str} {wi : TI} {di : DI} {g : TG} {dg : DG} {sl vs : List Nat} {tt : TT} {dt : DT} {te : TE} {de : DW}
end
/-! ### x op= e, o.f op= e; while True -/
def wAug (i : Nat) (g : G2) (we : DW) : DS := fun D F δ μ => ∃ d, δ[i]? = some (some d) ∧ we δ μ (fun y μ1 => g d y μ1 fun r μ2 => D.nx (δ.set i (some r)) μ2) F
section
variable {X : Cx} {W : WX} {e o value : Expr} {te to tv : TE} {we wo wv : DW} {pos pos' tpos : Pos} {x : Str}
end
end DL

set_option maxHeartbeats 2000000
namespace DL
open PySem PySem.Spec PyProof.Rows L2 LL
/-! ### isinstance of own classes -/
/-! ### a class's call as a promise -/
structure NewD (P : Program) (w : World) (K : PySem.W.Frag) (mg : Str → Option Value) (base : Heap) (k : Nat) (x : Str) (C : Addr) (wi wn : DF) : Prop where
  mak : MakD P w K mg base k x C wi
  im : ∀ ds μ Q F, wn ds μ Q F → ∀ p, μ p = none → wi (.obj p :: ds) (mput μ p (.ins C [])) (fun d μ2 => d = .non ∧ dn Q (.obj p) μ2) (dnF F)
section
variable {X : Cx} {W : WX} {x : Str} {e : Expr} {es : List Expr} {ta : TA} {wa : DA} {pos p : Pos} {j k : Nat} {C : Addr} {wi wn : DF}
theorem MakD.mono {P : Program} {w : World} {K : PySem.W.Frag} {mg : Str → Option Value} {base : Heap} {k j : Nat} {wp : DF} (h : MakD P w K mg base j x C wp) (hk : j ≤ k) : MakD P w K mg base k x C wp :=
  ⟨h.gC, let ⟨f, a, b⟩ := h.ex; ⟨f, a, b.mono hk⟩⟩
theorem NewD.mono {P : Program} {w : World} {K : PySem.W.Frag} {mg : Str → Option Value} {base : Heap} {k j : Nat} (h : NewD P w K mg base j x C wi wn) (hk : j ≤ k) : NewD P w K mg base k x C wi wn := ⟨h.mak.mono hk, h.im⟩
end
/-! ### evaluation of own things -/
section
variable {μ : M} {Q : DK} {F : FK}
theorem lstOf_obj {a : Addr} {xs : List D} (h : μ a = some (.lst xs)) : lstOf μ (.obj a) = some xs := by
  simp only [lstOf, h]
theorem seqOf_obj {a : Addr} {xs : List D} (h : μ a = some (.lst xs)) : seqOf μ (.obj a) = some xs := by
  simp only [seqOf, h]
theorem gLen_obj {a : Addr} {xs : List D} (h : μ a = some (.lst xs)) (q : Q (.int xs.length) μ) : gLen (.obj a) μ Q := .inl ⟨xs, seqOf_obj h, q⟩
theorem gIx_obj {a : Addr} {xs : List D} {i : Int} {d : D} (h : μ a = some (.lst xs)) (e : atI xs i = some d) (q : Q d μ) : gIx (.obj a) (.int i) μ Q := .inl ⟨xs, i, d, seqOf_obj h, rfl, e, q⟩
end
end DL

set_option maxHeartbeats 2000000
/-! the rules with the written part named: so they stand within blocks, too -/
namespace DL
open PySem PySem.Spec PyProof.Rows L2 LL
section
variable {X : Cx} {W : WX} {a b e : Expr} {ta tb te : TE} {wa wb we : DW} {pos : Pos} (K : PySem.W.Frag) (hK : X.K = K)
include hK
theorem o_addK : OpR X (binaryOp .Add) (rAddA K) ∧ OL X.K (rAddA K) gAdd := by subst hK; exact o_add
theorem o_eqK (hu : X.A.units + 64 < cLine) : OpR X (compareOp .Eq) (rEqD K) ∧ OL X.K (rEqD K) (gEq false) := by subst hK; exact o_eq hu
theorem o_neK (hu : X.A.units + 64 < cLine) : OpR X (compareOp .NotEq) (rNeD K) ∧ OL X.K (rNeD K) (gEq true) := by subst hK; exact o_ne hu
theorem pd_ixK (ha : PD X W a ta wa) (hb : PD X W b tb wb) (hs : PlainIx b := by exact fun _ _ => rfl) : PD X W (.Subscript a b pos) (tOp (rIx K) ta tb) (wBin gIx wa wb) := by subst hK; exact pd_ix ha hb hs
theorem pd_sliceK {p2 : Pos} {lo hi : Option Expr} {tl th : TO} {wl wh : DSt → M → (Option Int → M → Prop) → FK → Prop} (he : PD X W e te we) (hl : PDO X W lo tl wl) (hh : PDO X W hi th wh) : PD X W (.Subscript e (.Slice lo hi none p2) pos) (tSl (rSlAny K) te tl th) (wSl we wl wh) := by subst hK; exact pd_slice he hl hh
theorem c_lenK : CallR X (.builtin "len") (fun xs H Q => (∃ x n, xs = [x] ∧ LenV K x H n ∧ Q (.int n) H) ∨ ∃ a kvs, xs = [V.ref a] ∧ H a = some (.dK kvs) ∧ Q (.int kvs.length) H) ∧
    CL X.K (fun xs H Q => (∃ x n, xs = [x] ∧ LenV K x H n ∧ Q (.int n) H) ∨ ∃ a kvs, xs = [V.ref a] ∧ H a = some (.dK kvs) ∧ Q (.int kvs.length) H) (gOne gLen) := by subst hK; exact c_len
theorem c_listK : CallR X (.type "list") (fun xs H Q => ∃ p ys, xs = [.ref p] ∧ (SqL K H p ys ∨ SqT K H p ys) ∧ ∀ l, H l = none → Q (.ref l) (upd H l (.lst ys))) ∧
    CL X.K (fun xs H Q => ∃ p ys, xs = [.ref p] ∧ (SqL K H p ys ∨ SqT K H p ys) ∧ ∀ l, H l = none → Q (.ref l) (upd H l (.lst ys))) (gOne gList) := by subst hK; exact c_list
theorem pdg_tupK {es : List Expr} {us : TGs} {wus : DGs} {n : Nat} {kk : Nat} {sl : List Nat} (hc : X.calm = true) (h : PDGs X es us wus sl) (hn : (assignEach es X.env).length = n := by rfl) (hst : (assignEach es X.env).findIdx? (·.1) = none := by rfl) : PDG X (.Tuple es kk pos) (gTup K n us) (wGTup n wus) sl := by subst hK; exact pdg_tup hc h hn hst
end
end DL

set_option maxHeartbeats 2000000
/-! zip of a list or a tuple beside a list or a tuple -/
namespace MZ
open PySem
/-- which of the two -/
inductive Kd | l | t
def Kd.nm : Kd → String
  | .l => "list_iterator"
  | .t => "tuple_iterator"
def At (k : Kd) (g : Heap) (i a : Addr) (n : Nat) : Prop := match k with
  | .l => g.IsListIter i a n
  | .t => g.IsTupleIter i a n
def Sq (k : Kd) (g : Heap) (a : Addr) (us : Array Value) : Prop := match k with
  | .l => g.IsList a us
  | .t => g.IsTuple a us
section
variable {k : Kd} {g g' : Heap} {i a b : Addr} {n : Nat} {us : Array Value}
theorem At.but (x : At k g i a n) (e : Heap.ExtBut b g g') (ne : i ≠ b) : At k g' i a n := by
  cases k with
  | l => exact Heap.IsListIter.extBut x e ne
  | t => exact Heap.IsTupleIter.extBut x e ne
theorem At.up (x : At k g i a n) (e : ∀ o, g.get? i = some o → g'.get? i = some o) : At k g' i a n := by
  cases k with
  | l => exact Heap.IsListIter.at x e
  | t => exact Heap.IsTupleIter.at x e
theorem At.ob (x : At k g i a n) : ∃ o, g.get? i = some o ∧ ∀ v, o.data ≠ .cell v := by
  cases k with
  | l => obtain ⟨o, e, _, d⟩ := x; exact ⟨o, e, fun v q => by rw [d] at q; cases q⟩
  | t => obtain ⟨o, e, _, d⟩ := x; exact ⟨o, e, fun v q => by rw [d] at q; cases q⟩
theorem At.sz (x : At k g i a n) : i < g.objs.size := by
  obtain ⟨o, e, _⟩ := x.ob
  exact Heap.lt_size e
theorem Sq.but (x : Sq k g a us) (e : Heap.ExtBut b g g') (ne : a ≠ b) : Sq k g' a us := by
  cases k with
  | l => exact Heap.IsList.extBut x e ne
  | t => exact Heap.IsTuple.extBut x e ne
theorem Sq.sz (x : Sq k g a us) : a < g.objs.size := by
  cases k with
  | l => obtain ⟨o, e, _⟩ := x; exact Heap.lt_size e
  | t => obtain ⟨o, e, _⟩ := x; exact Heap.lt_size e
theorem Sq.push (x : Sq k g a us) (o : Obj) : Sq k (g.push o) a us := by
  cases k with
  | l => exact Heap.IsList.push x o
  | t => exact Heap.IsTuple.push x o
end
section
variable {pr : Program} {w : World} {A : Around} {k k' : Kd}
theorem drw (hh : A.handled = none) (j c : Addr) (ne : c ≠ j) (us : Array Value) : Draws pr w A j [j, c] us.size (fun n v => us[n]? = some v) (fun n g => At k g j c n ∧ Sq k g c us) := by
  cases k with
  | l => exact Draws.list hh j c ne us
  | t => exact Draws.tuple hh j c ne us
def nw (k : Kd) (c : Addr) : Obj := { cls := .type k.nm, data := .fields #[.ref c, .int 0 0] }
theorem bgn (c : Addr) (us : Array Value) : Begins (.ref c) (nw k c) fun g => Sq k g c us := by
  cases k with
  | l => exact begins_list c us
  | t => exact begins_tuple c us
theorem at_nw {g : Heap} {j c : Addr} (e : g.get? j = some (nw k c)) : At k g j c 0 := by
  cases k with
  | l => exact ⟨_, e, rfl, rfl⟩
  | t => exact ⟨_, e, rfl, rfl⟩
end
end MZ
namespace DL
open PySem PySem.Spec PyProof.Rows L2 MZ
theorem five_lt {N c S : Nat} (h : N + 4 < S) (hc : c = N + 4 ∨ c = N + 2 ∨ c = N + 3 ∨ c = N ∨ c = N + 1) : c < S := by omega
/-- the list or the tuple at a -/
def SqK (k : Kd) (K : PySem.W.Frag) (H : Hp) (a : Addr) (vs : List V) : Prop := match k with
  | .l => SqL K H a vs
  | .t => SqT K H a vs
theorem sqk_inv {k : Kd} {X : Cx} {pins : List (Addr × Obj)} {σ : St} {H : Hp} {s : Shared} {a : Addr} {vs : List V} (I : Inv X pins σ H s) (h : SqK k X.K H a vs) : ∃ us : List Value, Vals vs us ∧ Sq k s.heap a us.toArray := by
  cases k with
  | l => obtain ⟨us, r, p, _⟩ := I.list h; exact ⟨us, r, p.isList⟩
  | t => obtain ⟨us, r, p, _⟩ := I.tuple h; exact ⟨us, r, p⟩
theorem sqk_inj {k : Kd} {X : Cx} {pins : List (Addr × Obj)} {σ : St} {H : Hp} {s : Shared} {a : Addr} {vs ws : List V} (I : Inv X pins σ H s) (h : SqK k X.K H a vs) (h' : SqK k X.K H a ws) : vs = ws := by
  cases k with
  | l => exact I.list_inj h h'
  | t => exact I.tuple_inj h h'
/-- the items of two that stand beside one another, in new pairs -/
def ItzM (k k' : Kd) (K : PySem.W.Frag) (a b : Addr) : It where
  go i H := ∃ (vs ws : List V), SqK k K H a vs ∧ SqK k' K H b ws ∧ i < vs.length ∧ i < ws.length
  yld i H v H' := ∃ T x y, v = .ref T ∧ H T = none ∧ H' = upd H T (.tup [x, y]) ∧ (∀ vs, SqK k K H a vs → vs[i]? = some x) ∧ ∀ ws, SqK k' K H b ws → ws[i]? = some y
  stop i H := ∃ (vs ws : List V), SqK k K H a vs ∧ SqK k' K H b ws ∧ i ≤ vs.length ∧ i ≤ ws.length ∧ (i = vs.length ∨ i = ws.length)
section
variable {P : Program} {w : World} {K : PySem.W.Frag} {k k' : Kd}
theorem turn_zipM {es : List Expr} {q : Nat} {tp : Pos} {a b N : Addr} (la : a < N) (lb : b < N) :
    Turn P w K (.Tuple es q tp) (ItzM k k' K a b) [N + 4, N + 2, N + 3, N, N + 1] (N + 4)
      (fun i g => IsZip g (N + 4) (N + 2) (N + 3) .none ∧ IsTupOf2 g (N + 2) (.ref N) (.ref (N + 1)) ∧ (∃ x y, IsTupOf2 g (N + 3) x y) ∧ At k g N a i ∧ At k' g (N + 1) b i) := by
  have five : ∀ {c : Addr}, c ∈ [N + 4, N + 2, N + 3, N, N + 1] → c = N + 4 ∨ c = N + 2 ∨ c = N + 3 ∨ c = N ∨ c = N + 1 := fun {c} hc => by simpa using hc
  have ap : ZipSep2 (N + 4) (N + 2) (N + 3) N (N + 1) [N, a] [N + 1, b] := zip_sep2 (N := N) (fp1 := [a]) (fp2 := [b]) (by simpa using la) (by simpa using lb)
  have na : a ≠ N := Nat.ne_of_lt la
  have nb : b ≠ N + 1 := Nat.ne_of_lt (Nat.lt_succ_of_lt lb)
  have gone : ∀ {g g' : Heap}, (∀ c o, c ≠ N + 4 → c ≠ N + 3 → c ≠ N → c ≠ N + 1 → g.get? c = some o → g'.get? c = some o) → ∀ c o, c ∉ [N + 4, N + 2, N + 3, N, N + 1] → g.get? c = some o → g'.get? c = some o := fun hk c o hc e =>
    hk c o (fun z => hc (by simp [z])) (fun z => hc (by simp [z])) (fun z => hc (by simp [z])) (fun z => hc (by simp [z])) e
  refine ⟨by simp, fun i g st c hc => ?_, fun i g g' st kp => ?_, ?_, ?_, fun A i s Q E st h => wpAny_pyIter_zip st.1 h⟩
  · obtain ⟨z1, z2, ⟨x, y, z3⟩, z4, z5⟩ := st
    rcases five hc with e | e | e | e | e
    · rw [e]; exact ⟨_, z1, fun v q => nomatch q⟩
    · rw [e]; exact ⟨_, z2, fun v q => nomatch q⟩
    · rw [e]; exact ⟨_, z3, fun v q => nomatch q⟩
    · exact e ▸ z4.ob
    · exact e ▸ z5.ob
  · obtain ⟨z1, z2, ⟨x, y, z3⟩, z4, z5⟩ := st
    exact ⟨kp _ (by simp) _ z1, kp _ (by simp) _ z2, ⟨x, y, kp _ (by simp) _ z3⟩, z4.up fun o e => kp _ (by simp) _ e, z5.up fun o e => kp _ (by simp) _ e⟩
  · rintro X rfl rfl rfl hc i pins s σ H E I hf ⟨z1, z2, ⟨x0, y0, z3⟩, z4, z5⟩ ⟨vs, ws, h1, h2, l1, l2⟩
    obtain ⟨us, r1, p1⟩ := sqk_inv I h1
    obtain ⟨us', r2, p2⟩ := sqk_inv I h2
    have e1 := r1.length
    have e2 := r2.length
    have hh : X.A.in1.handled = none := I.ok.hd hc
    refine wpAny_pyNext_zipD2_item ap (drw hh N a na us.toArray) (drw hh (N + 1) b nb us'.toArray) z1 z2 z3 ⟨z4, p1⟩ ⟨z5, p2⟩ (by simp; omega) (by simp; omega) fun x y g tk hx hy y1 y2 y3 y4 yT sz kp => ?_
    have zl : N + 4 < s.heap.objs.size := Heap.lt_size z1
    refine ⟨_, rfl, wpAny_letOwnedTupleGo_zip (s := { s with heap := g, toks := tk }) y1 fun g2 y5 sb => ?_⟩
    have T2 : g2.get? s.heap.objs.size = some { cls := .type "tuple", data := .seq #[x, y] } := (sb.2 _ (Nat.ne_of_gt zl)).trans yT
    obtain ⟨v, hv⟩ : ∃ v, vs[i]? = some v := ⟨_, List.getElem?_eq_getElem l1⟩
    obtain ⟨u, hu⟩ : ∃ u, ws[i]? = some u := ⟨_, List.getElem?_eq_getElem l2⟩
    obtain ⟨x', hx', rv⟩ := r1.get hv
    obtain ⟨y', hy', ru⟩ := r2.get hu
    have hx2 : us[i]? = some x := by simpa using hx
    have hy2 : us'[i]? = some y := by simpa using hy
    obtain rfl : x = x' := Option.some.inj (hx2.symm.trans hx')
    obtain rfl : y = y' := Option.some.inj (hy2.symm.trans hy')
    have new : ObjOk X.prog X.w (upd H s.heap.objs.size (.tup [v, u])) g2 s.heap.objs.size (.tup [v, u]) := ⟨sz_ok (show 2 ≤ 1000000 by decide), [x, y], .cons rv (.cons ru .nil), ⟨_, T2, rfl, _, rfl⟩⟩
    have up2 : ∀ {c : Addr} {o : Obj}, c ≠ N + 4 → g.get? c = some o → g2.get? c = some o := fun {c o} hc e => (sb.2 c hc).trans e
    have I1 : Inv X pins σ (upd H s.heap.objs.size (.tup [v, u])) { s with heap := g2, toks := tk } :=
      I.turnedNew (ch := [N + 4, N + 2, N + 3, N, N + 1]) (fun c o hm e => up2 (fun z => hm (by simp [z])) (gone kp c o hm e)) hf (Nat.le_refl _) new
    refine ⟨.ref s.heap.objs.size, _, I1, rfl, ⟨_, v, u, rfl, I.hok.fresh (Nat.le_refl _), rfl, fun l hl => by rw [sqk_inj I hl h1]; exact hv, fun l hl => by rw [sqk_inj I hl h2]; exact hu⟩, ⟨y5, ?_, ⟨x, y, up2 ap.TOz y2⟩, ?_, ?_⟩, fun c hm => ?_⟩
    · exact up2 ap.TIz (kp _ _ ap.TIz ap.TITO ap.TIi1 ap.TIi2 z2)
    · exact y3.1.up fun o e => up2 (Ne.symm ap.zi1) e
    · exact y4.1.up fun o e => up2 (Ne.symm ap.zi2) e
    · have lt : c < s.heap.objs.size := five_lt zl (five hm)
      rw [upd_ne (Nat.ne_of_lt lt)]
      exact (hf c hm).1
  · rintro X rfl rfl rfl hc i pins s σ H E I hf ⟨z1, z2, ⟨x0, y0, z3⟩, z4, z5⟩ ⟨vs, ws, h1, h2, l1, l2, l3⟩
    obtain ⟨us, r1, p1⟩ := sqk_inv I h1
    obtain ⟨us', r2, p2⟩ := sqk_inv I h2
    have e1 := r1.length
    have e2 := r2.length
    have hh : X.A.in1.handled = none := I.ok.hd hc
    exact wpAny_pyNext_zipD2_end ap (drw hh N a na us.toArray) (drw hh (N + 1) b nb us'.toArray) z1 z2 z3 ⟨z4, p1⟩ ⟨z5, p2⟩ (by simp; omega) (by simp; omega) (by simp; omega) fun g tk kp =>
      ⟨rfl, I.turnedL (ch := [N + 4, N + 2, N + 3, N, N + 1]) (gone kp) hf⟩
def iZipM (K : PySem.W.Frag) (ta : TA) : TI := fun σ H R => ta σ H fun vs H1 => ∃ k k' a b xs ys, vs = [.ref a, .ref b] ∧ SqK k K H1 a xs ∧ SqK k' K H1 b ys ∧ R (ItzM k k' K a b) H1
theorem pi_zipM {X : Cx} {e f : Expr} {ta : TA} {p pos tp : Pos} {es : List Expr} {q : Nat} (hg : Gl X "zip") (hm : X.mg "zip" = none) (ha : PA X [e, f] ta)
    (hs : starEach [e, f] X.env = (false, eval e X.env) :: starEach [f] X.env) (hp : (backTo pos (starEach [f] X.env)).any (·.1) = false) : PI X (.Tuple es q tp) (.Call (.Name "zip" p) [e, f] [] pos) (iZipM X.K ta) := by
  refine ⟨fun pins s σ H R I h => Call_ (ld_blt I hg hm PyProof.Rows.boot_zip (PyProof.Rows.callWith_type1 (thn (ha.run pos pins s σ H _ I h) fun us s1 ⟨vs, H1, I1, r1, q1⟩ => ?_) hs hp))⟩
  obtain ⟨k, k', a, b, xs, ys, rfl, h1, h2, q1⟩ := q1
  obtain ⟨u, u', rfl, ru, ru'⟩ : ∃ u u', us = [u, u'] ∧ RelV (.ref a) u ∧ RelV (.ref b) u' := by
    cases r1 with
    | cons r rr => cases rr with
      | cons r' rr => cases rr; exact ⟨_, _, rfl, r, r'⟩
  cases (show u = Value.ref a from ru)
  cases (show u' = Value.ref b from ru')
  obtain ⟨ws, r2, p1⟩ := sqk_inv I1 h1
  obtain ⟨ws', r3, p2⟩ := sqk_inv I1 h2
  refine zip_begins2 (bgn a ws.toArray) (bgn b ws'.toArray) p1 p2 fun g z1 z2 z3 z4 z5 sz kp => wpAny_pyIter_zip z1 ?_
  refine ⟨_, [s1.heap.objs.size + 4, s1.heap.objs.size + 2, s1.heap.objs.size + 3, s1.heap.objs.size, s1.heap.objs.size + 1], _, _, H1, rfl, I1.kept (t' := s1.toks) kp, turn_zipM p1.sz p2.sz, ⟨z1, z2, ⟨_, _, z3⟩, at_nw z4, at_nw z5⟩, fun c hm => ?_, q1⟩
  have le : s1.heap.objs.size ≤ c := by
    have hm' : c = s1.heap.objs.size + 4 ∨ c = s1.heap.objs.size + 2 ∨ c = s1.heap.objs.size + 3 ∨ c = s1.heap.objs.size ∨ c = s1.heap.objs.size + 1 := by simpa using hm
    rcases hm' with e | e | e | e | e <;> rw [e] <;> first | exact Nat.le_add_right _ _ | exact Nat.le_refl _
  exact I1.fpOk le (I1.hok.fresh le)
end
section
variable {K : PySem.W.Frag} {H : Hp} {μ : M}
/-- d, to be walked: later, too, while the guard stands -/
theorem seq_at {v : V} {d : D} {ds : List D} (m : MR K H μ) (r : R K (hid H μ) v d) (h : seqOf μ d = some ds) : ∃ (k : Kd) (a : Addr), v = .ref a ∧ ∀ H1 μ1, Same (hid H μ) (hid H1 μ1) → MR K H1 μ1 → seqOf μ1 d = some ds → ∃ vs, SqK k K H1 a vs ∧ RA K (hid H1 μ1) vs ds := by
  cases r with
  | lst e ra => cases h; exact ⟨.l, _, rfl, fun H1 μ1 sm _ _ => ⟨_, SqL.of (hid_some.mp (sm _ _ e)).2, ra.mono sm⟩⟩
  | tup e ra => cases h; exact ⟨.t, _, rfl, fun H1 μ1 sm _ _ => ⟨_, same_t hid_sub (same_t sm e), ra.mono sm⟩⟩
  | ro e ra => cases h; exact ⟨.l, _, rfl, fun H1 μ1 sm _ _ => ⟨_, hid_sub.seq (sm.seq e), ra.mono sm⟩⟩
  | obj a =>
    refine ⟨.l, a, rfl, fun H1 μ1 _ m1 h1 => ?_⟩
    obtain ⟨b, vs, e1, e2, e3⟩ := lst_of (d := .obj a) m1 (.obj a) (ds := ds) (by unfold seqOf at h1; unfold lstOf; exact h1)
    cases e1
    exact ⟨vs, SqL.of e2, e3⟩
  | _ => cases h
def wIZipA (wa : DA) : DI := fun δ μ Q F => wa δ μ (fun ds μ1 => ∃ x y xs ys, ds = [x, y] ∧ seqOf μ1 x = some xs ∧ seqOf μ1 y = some ys ∧ Q (pairs xs ys) (fun μ' => seqOf μ' x = some xs ∧ seqOf μ' y = some ys) μ1) F
theorem pdi_zipA {X : Cx} {W : WX} {e f : Expr} {ta : TA} {wa : DA} {p pos tp : Pos} {es : List Expr} {q : Nat} (hm : X.mg "zip" = none) (ha : PDA X W [e, f] ta wa) (hg : Gl X "zip" := by rfl) (hs : starEach [e, f] X.env = (false, eval e X.env) :: starEach [f] X.env := by rfl)
    (hp : (backTo pos (starEach [f] X.env)).any (·.1) = false := by rfl) : PDI X W (.Tuple es q tp) (.Call (.Name "zip" p) [e, f] [] pos) (iZipM X.K ta) (wIZipA wa) := by
  refine ⟨pi_zipM hg hm ha.pa hs hp, fun σ δ H μ Q Qd F S q kQ kF => ha.la σ δ H μ _ _ F S q (fun vs ds H1 μ1 m1 r1 q1 => ?_) kF⟩
  obtain ⟨x, y, xs, ys, rfl, h1, h2, q1⟩ := q1
  obtain ⟨v, u, rfl, r, r'⟩ := ra2 r1
  obtain ⟨k, a, rfl, g1⟩ := seq_at m1.mr r h1
  obtain ⟨k', b, rfl, g2⟩ := seq_at m1.mr r' h2
  obtain ⟨vs, s1, a1⟩ := g1 H1 μ1 (Same.refl _) m1.mr h1
  obtain ⟨ws, s2, a2⟩ := g2 H1 μ1 (Same.refl _) m1.mr h2
  refine ⟨k, k', a, b, vs, ws, rfl, s1, s2, kQ _ _ _ H1 μ1 m1 ?_ q1⟩
  have hl : (pairs xs ys).length = min xs.length ys.length := by simp [pairs]
  refine Exists.intro (fun H2 => ∃ vs ws, SqK k X.K H2 a vs ∧ SqK k' X.K H2 b ws ∧ vs.length = xs.length ∧ ws.length = ys.length) (Exists.intro (fun i H2 v H3 => ∃ T x y, v = .ref T ∧ H2 T = none ∧ H3 = upd H2 T (.tup [x, y]) ∧ (∀ vs, SqK k X.K H2 a vs → vs[i]? = some x) ∧ ∀ ws, SqK k' X.K H2 b ws → ws[i]? = some y) (And.intro (Walk.mk ?_ ?_ ?_) (And.intro ?_ ?_)))
  · rintro i H2 hi ⟨vs, ws, b1, b2, b3, b4⟩
    exact ⟨vs, ws, b1, b2, by omega, by omega⟩
  · rintro H2 ⟨vs, ws, b1, b2, b3, b4⟩
    exact ⟨vs, ws, b1, b2, by omega, by omega, by omega⟩
  · rintro i H2 v H3 hi _ ⟨T, x, y, c1, c2, c3, c4, c5⟩
    exact ⟨T, x, y, c1, c2, c3, c4, c5⟩
  · rintro H2 μ2 sm mr ⟨c1, c2⟩
    obtain ⟨vs, b1, b2⟩ := g1 H2 μ2 sm mr c1
    obtain ⟨ws, b3, b4⟩ := g2 H2 μ2 sm mr c2
    exact ⟨vs, ws, b1, b3, b2.length, b4.length⟩
  · rintro i v H2 μ2 H3 hi sm mr ⟨c1, c2⟩ ⟨T, x, y, rfl, d2, rfl, d4, d5⟩
    obtain ⟨vs, b1, b2⟩ := g1 H2 μ2 sm mr c1
    obtain ⟨ws, b3, b4⟩ := g2 H2 μ2 sm mr c2
    obtain ⟨dx, e1, e2⟩ := b2.get' (d4 vs b1)
    obtain ⟨dy, e3, e4⟩ := b4.get' (d5 ws b3)
    obtain ⟨m2, r2⟩ := pair_of mr d2 e2 e4
    refine ⟨_, ?_, m2, r2⟩
    have hz : (xs.zip ys)[i]? = some (dx, dy) := List.getElem?_zip_eq_some.mpr ⟨e1, e3⟩
    simp only [pairs, List.getElem?_map, hz, Option.map_some]
end
end DL

set_option maxHeartbeats 2000000
/-! more operators: sums of lists behind a handle, shifts, lists of ranges, xs[i] += .. -/
namespace DL
open PySem PySem.Spec PyProof.Rows L2 LL
section
variable {X : Cx} {W : WX} {a b e o i value : Expr} {ta tb te to ti tv : TE} {wa wb we wo wi wv : DW} {p p2 pos tpos : Pos}
/-- shifts -/
def CShlG (i j : Int) : Prop := 0 ≤ j ∧ i.natAbs.log2 + j.toNat < 130000000
theorem CShlG.ok {i j : Int} (h : CShlG i j) : CShl i j := by
  obtain ⟨h0, h1⟩ := h
  refine ⟨h0, ?_⟩
  have : Builtin.Int.intBits i ≤ i.natAbs.log2 + 1 := by
    unfold Builtin.Int.intBits
    split <;> omega
  omega
abbrev gShl : G2 := gI CShlG fun i j => .int (i * 2 ^ j.toNat)
abbrev gShr : G2 := gI (fun _ j => 0 ≤ j) fun i j => .int (i / 2 ^ j.toNat)
def CRg (i j : Int) : Prop := -(2 ^ 62) ≤ i ∧ i < 2 ^ 62 ∧ -(2 ^ 62) ≤ j ∧ j < 2 ^ 62 ∧ (j - i).toNat ≤ 1000000
theorem CRg.ok {i j : Int} (h : CRg i j) : RgOk i j := ⟨h.1, h.2.1, h.2.2.1, h.2.2.2.1, Nat.le_trans h.2.2.2.2 (by decide)⟩
def wListRg1 (we : DW) : DW := fun δ μ Q F => we δ μ (fun d μ1 => ∃ n, d = .int n ∧ CRg 0 n ∧ Q (.lst (intsD 0 n.toNat)) μ1) F
def wTupleRg1 (we : DW) : DW := fun δ μ Q F => we δ μ (fun d μ1 => ∃ n, d = .int n ∧ CRg 0 n ∧ Q (.tup (intsD 0 n.toNat)) μ1) F
def wListRg2 (wa wb : DW) : DW := fun δ μ Q F => wa δ μ (fun d μ1 => wb δ μ1 (fun f μ2 => ∃ i j, d = .int i ∧ f = .int j ∧ CRg i j ∧ Q (.lst (intsD i (j - i).toNat)) μ2) F) F
def wTupleRg2 (wa wb : DW) : DW := fun δ μ Q F => wa δ μ (fun d μ1 => wb δ μ1 (fun f μ2 => ∃ i j, d = .int i ∧ f = .int j ∧ CRg i j ∧ Q (.tup (intsD i (j - i).toNat)) μ2) F) F
/-! xs[i] op= e -/
def wAugS (g : G2) (wo wi we : DW) : DS := fun D F δ μ => wo δ μ (fun o μ1 => wi δ μ1 (fun i μ2 => ∃ a xs k j d, o = .obj a ∧ i = .int k ∧ μ2 a = some (.lst xs) ∧ ixN xs.length k = some j ∧ xs[j]? = some d ∧
  we δ μ2 (fun y μ3 => g d y μ3 fun r μ4 => ∃ ys l, μ4 a = some (.lst ys) ∧ ixN ys.length k = some l ∧ D.nx δ (mput μ4 a (.lst (ys.set l r)))) F) F) F
end
end DL

set_option maxHeartbeats 2000000
/-! texts: text * n -/
namespace DL
open PySem PySem.Spec PyProof.Rows L2 LL
section
variable {X : Cx} {W : WX}
end
end DL

set_option maxHeartbeats 2000000
/-! defs with defaults -/
namespace DL
open PySem PySem.Spec PyProof.Rows L2 LL
/-- what the top has written of the def x, with defaults -/
structure DefV (K : PySem.W.Frag) (mg : Str → Option Value) (x : Str) (st : Stmt) (dvs : List V) : Prop where
  ex : ∃ (f : Addr) (fd : FuncData), mg x = some (.ref f) ∧ FunD K x x (defArgs st) (defBody st) (defScope st) dvs [] f fd
section
variable {P : Program} {w : World} {K : PySem.W.Frag} {mg : Str → Option Value} {base : Heap} {k : Nat} {wp : DF} {x : Str}
end
end DL
namespace DL
open PySem PySem.Spec PyProof.Rows L2 He
variable {fn : List He.DefD} {fb : List Fb} {tf : List Defn} {h : Heap} {K : PySem.W.Frag} {mg : Str → Option Value}
end DL

set_option maxHeartbeats 2000000
/-! calls with keywords: f(e, .., k = v, ..), the keywords in the order of the parameters right behind the values -/
namespace DL
open PySem PySem.Spec PyProof.Rows L2 LL
structure CalK (P : Program) (w : World) (K : PySem.W.Frag) (mg : Str → Option Value) (base : Heap) (k : Nat) (x : Str) (n : Nat) (ks : List Str) (wp : DF) : Prop where
  ex : ∃ f, mg x = some (.ref f) ∧ PySem.W.keepIn K (.ref f) = true ∧ ∀ (A : Around) (outer : List Env) (s : Shared) (H : Hp) (us ws : List Value) (vs zs : List V) (Q : VK) (E : XK), A.guards = some [] → Room k A → Env0 P w K mg base A outer s H →
    Vals vs us → Vals zs ws → vs.length = n → zs.length = ks.length → spD K wp (vs ++ zs) H Q E → codeAny (model P w) A (.call (.ref f) ⟨us, ks.zip ws⟩) (CR (L2.CX P w) outer P w H s Q E) s
structure PDK (X : Cx) (W : WX) (kws : List Keyword) (t : TA) (w : DA) : Prop where
  pk : PK X kws t
  la : LA X.K W t w
section
variable {X : Cx} {W : WX} {e : Expr} {kws : List Keyword} {te : TE} {we : DW} {tr : TA} {wr : DA} {nm : Option Str} {kpos : Pos}
end
def wCallK (n m : Nat) (wp : DF) (wa wk : DA) : DW := fun δ μ Q F => wa δ μ (fun ds μ1 => wk δ μ1 (fun es μ2 => ds.length = n ∧ es.length = m ∧ wp (ds ++ es) μ2 Q F) F) F
section
variable {X : Cx} {W : WX} {k j n : Nat} {wp : DF} {x : Str} {ks : List Str} {p pos : Pos} {e : Expr} {es : List Expr} {kws : List Keyword} {tr tk : TA} {wr wk : DA}
end
section
variable {P : Program} {w : World} {K : PySem.W.Frag} {mg : Str → Option Value} {base : Heap} {k n : Nat} {wp : DF} {x : Str} {ks : List Str}
end
end DL

set_option maxHeartbeats 2000000
namespace DL
open PySem PySem.Spec PyProof.Rows L2
/-! ### enumerate of a text -/
section
variable {K : PySem.W.Frag} {H : Hp} {μ : M}
end
section
variable {X : Cx} {W : WX} {tg e : Expr} {te : TE} {we : DW} {p pos : Pos}
def wIEnumS (wa : DA) : DI := fun δ μ Q F => wa δ μ (fun ds μ1 => ∃ z, ds = [.str z] ∧ Q (enum (signsD z)) Any μ1) F
end
/-! ### a text in a list or tuple of texts -/
/-! ### d.get(k) -/
section
variable {X : Cx} {W : WX} {a b : Expr} {ta tb : TE} {wa wb : DW} {apos pos : Pos}
end
/-! ### sep.join(a list or tuple of texts) -/
section
variable {X : Cx} {W : WX} {o e : Expr} {to te : TE} {wo we : DW} {apos pos : Pos}
end
end DL

set_option maxHeartbeats 2000000
namespace DL
open PySem PySem.Spec PyProof.Rows L2 LL
/-! ### d[k] = v as a target among others; sorted of whole numbers -/
section
variable {X : Cx} {W : WX} {pos : Pos}
end
end DL

set_option maxHeartbeats 2000000
namespace DL
open PySem PySem.Spec PyProof.Rows L2 LL
/-! ### a if t else b, where a test is asked for -/
section
variable {X : Cx} {W : WX} {pos : Pos}
end
end DL

set_option maxHeartbeats 2000000
/-! errors as values: made, asked for their class, their fields read; classes without fields -/
namespace DL
open PySem PySem.Spec PyProof.Rows L2 LL
/-! ### classes without fields -/
def spI0 (C : Addr) : Sp := fun vs H Q _ => ∃ a : Addr, vs = [.ref a] ∧ H a = some (exo a C none) ∧ Q .non H
structure ExcE (P : Program) (w : World) (K : PySem.W.Frag) (mg : Str → Option Value) (base : Heap) (k : Nat) (x : Str) (C : Addr) : Prop where
  T : OexC K C
  ex : ∃ (fI : Addr) (fd : FuncData) (ps : List Str), PySem.W.findIn K (.ref C) "__init__" = some (some (.ref fI)) ∧ PySem.W.typeIn K (.ref fI) = some (.type "function") ∧ FnOk P w K mg base CX0 k fI fd ps (spI0 C) ∧ Binds K fd ps []
  gC : mg x = some (.ref C)
section
variable {P : Program} {w : World} {K : PySem.W.Frag} {mg : Str → Option Value} {base : Heap} {C fI : Addr} {x q z : Str} {st : Stmt} {fd : FuncData}
theorem excd0 (F : Fun K "__init__" q st fI fd) (T : OexC K C) (iC : PySem.W.findIn K (.ref C) "__init__" = some (some (.ref fI))) (tI : PySem.W.typeIn K (.ref fI) = some (.type "function")) (gC : mg x = some (.ref C))
    (S : FnScope ["self"] ["self"] (defScope st)) (hb : Binds K fd ["self"] [])
    (body : ∀ (cdv : Value) (A : Around) (outer : List Env) (s : Shared) (H : Hp) (E : XK), PSs (cxOf CX0 P w K mg base ["self"] q (defScope st) fI cdv A outer s H E).nox (defBody st) (tDrop (tVeI K (tCons (tVar 0) (tCons (tC (.str z)) tNil))))) : ExcE P w K mg base 1 x C := by
  refine ⟨T, ⟨fI, fd, ["self"], iC, tI, F.ok S (fun vs H Q E h => ?_) (fun cdv A outer s H vs Q E _ h => ⟨_, body cdv A outer s H E, ?_⟩), hb⟩, gC⟩
  · obtain ⟨a, rfl, _⟩ := h
    rfl
  · obtain ⟨a, rfl, ha, k⟩ := h
    exact ⟨_, rfl, a, C, _, rfl, (by decide : 1 ≤ 1000), T, ha, k⟩
end
section
variable {P : Program} {w : World} {K : PySem.W.Frag} {mg : Str → Option Value} {base : Heap} {C fI : Addr} {x q f g f3 z : Str} {st : Stmt} {fd : FuncData}
theorem excd3 (F : Fun K "__init__" q st fI fd) (T : OexC K C) (iC : PySem.W.findIn K (.ref C) "__init__" = some (some (.ref fI))) (tI : PySem.W.typeIn K (.ref fI) = some (.type "function")) (gC : mg x = some (.ref C)) (no : PySem.W.findIn K (.ref C) f = some none) (no2 : PySem.W.findIn K (.ref C) g = some none) (no3 : PySem.W.findIn K (.ref C) f3 = some none)
    (S : FnScope ["self", f, g, f3] ["self", f, g, f3] (defScope st)) (hb : Binds K fd ["self", f, g, f3] [])
    (body : ∀ (cdv : Value) (A : Around) (outer : List Env) (s : Shared) (H : Hp) (E : XK), PSs (cxOf CX0 P w K mg base ["self", f, g, f3] q (defScope st) fI cdv A outer s H E).nox (defBody st) (tSeq (tDrop (tVeI K (tCons (tVar 0) (tCons (tC (.str z)) tNil)))) (tSeq (tOst K f (tVar 0) (tVar 1)) (tSeq (tOst K g (tVar 0) (tVar 2)) (tOst K f3 (tVar 0) (tVar 3)))))) : ExcD P w K mg base 1 x C [f, g, f3] := by
  refine ⟨T, ⟨fI, fd, ["self", f, g, f3], iC, tI, F.ok S (fun vs H Q E h => ?_) (fun cdv A outer s H vs Q E _ h => ⟨_, body cdv A outer s H E, ?_⟩), hb⟩, gC⟩
  · obtain ⟨a, ws, rfl, hl, _⟩ := h
    simp only [List.length_cons, hl, List.length_nil]
  · obtain ⟨a, ws, rfl, hl, ha, k⟩ := h
    match ws, hl with
    | [v, u, y], _ =>
      refine ⟨_, rfl, a, C, _, rfl, (by decide : 1 ≤ 1000), T, ha, _, rfl, _, rfl, a, C, rfl, T, no, .inl ⟨ha, fun dx n ne => ?_⟩⟩
      refine ⟨_, rfl, _, rfl, a, C, rfl, T, no2, .inr ⟨dx, [(f, v)], upd_same, by rw [upd_ne ne, upd_same], (by show 1 ≤ 900; decide), ?_⟩⟩
      refine ⟨_, rfl, _, rfl, a, C, rfl, T, no3, .inr ⟨dx, [(g, u), (f, v)], by rw [upd_ne (Ne.symm ne), upd_same], upd_same, (by show 2 ≤ 900; decide), ?_⟩⟩
      exact k dx _ n ne (by rw [upd_ne (Ne.symm ne), upd_ne (Ne.symm ne), upd_same]) upd_same fun b h1 h2 => by rw [upd_ne h2, upd_ne h2, upd_ne h1, upd_ne h2]
end
/-! ### an error is made -/
section
variable {X : Cx} {k : Nat} {sp : Sp} {C fI : Addr} {fd : FuncData} {ps : List Str} {pins : List (Addr × Obj)} {σ : L2.St} {H1 : Hp} {s1 : Shared} {us : List Value} {vs : List V}
theorem oex_call {Q2 : Addr → Hp → Prop} {R : Value → Shared → Prop} (T : OexC X.K C) (iC : PySem.W.findIn X.K (.ref C) "__init__" = some (some (.ref fI))) (tI : PySem.W.typeIn X.K (.ref fI) = some (.type "function"))
    (F1 : FnOk X.prog X.w X.K X.mg X.base CX0 k fI fd ps sp) (hr : Room (k + 1) X.A) (hb : Binds X.K fd ps []) (I1 : Inv X pins σ H1 s1) (r1 : Vals vs us) (hz : vs.length ≤ 1000)
    (q1 : ∀ a, H1 a = none → sp (.ref a :: vs) (upd H1 a (exo a C none)) (fun v H2 => v = .non ∧ Q2 a H2) (fun _ _ _ => False))
    (fin : ∀ (a : Addr) (hp2 : Heap) (s2 : Shared) (H2 : Hp), s1.heap.objs.size ≤ a → H1 a = none → (∀ b o, s1.heap.get? b = some o → hp2.get? b = some o) → Inv X pins σ (upd H1 a (exo a C none)) { s1 with heap := hp2 } →
      Un (frs X.stack) [] (upd H1 a (exo a C none)) H2 hp2 s2.heap → HOk X.prog X.w H2 s2.heap → s2.os = s1.os → AllBare s2.gens → Q2 a H2 → R (.ref a) s2) :
    wpAny (model X.prog X.w) X.A (call (.ref C) us) R X.xe s1 := by
  obtain ⟨nm, q, N, bs, bm, sn, sub, ab, col, dd, k0, k1, k2, k3, k5, hC, hbm⟩ := T.cls
  obtain ⟨hp, g, dr, tk, os⟩ := s1
  have hsz : hp.objs.size ≤ hp.objs.size + 1 := Nat.le_succ _
  have hn : H1 (hp.objs.size + 1) = none := I1.hok.fresh hsz
  have hq := q1 (hp.objs.size + 1) hn
  have kk : ∀ b o, hp.get? b = some o → ((hp.push (PySem.W.kdv_tup us)).push (PySem.HandSPX.excO C hp.objs.size)).get? b = some o := fun b o e => Heap.get?_push_of_some _ (Heap.get?_push_of_some _ e)
  have hget : ((hp.push (PySem.W.kdv_tup us)).push (PySem.HandSPX.excO C hp.objs.size)).get? (hp.objs.size + 1) = some (PySem.HandSPX.excO C hp.objs.size) := by heap_get
  have I2 : Inv X pins σ (upd H1 (hp.objs.size + 1) (exo (hp.objs.size + 1) C none)) ⟨(hp.push (PySem.W.kdv_tup us)).push (PySem.HandSPX.excO C hp.objs.size), g, dr, tk, os⟩ :=
    I1.laid (t' := tk) (a := hp.objs.size + 1) (o := exo (hp.objs.size + 1) C none) (h' := (hp.push (PySem.W.kdv_tup us)).push (PySem.HandSPX.excO C hp.objs.size)) kk hsz (exo_ok hget)
  have r2 : Vals (V.ref (hp.objs.size + 1) :: vs) (Value.ref (hp.objs.size + 1) :: us) := .cons rfl r1
  have hl : (Value.ref (hp.objs.size + 1) :: us ++ []).length = ps.length := by
    have e := r2.length
    rw [F1.len _ _ _ _ hq] at e
    rw [List.append_nil]
    exact e.symm
  have hus : us.length ≤ sizeLine := by
    rw [← Paired.length r1, sizeLine_eq]
    omega
  have b2 := hb _ (Value.ref (hp.objs.size + 1) :: us) I2.kIn hl
  rw [List.append_nil] at b2
  refine wpAny_call (PySem.HandSPX.call_own F.excBase_ValueError (fun Y => PySem.HandSPX.refsVE_contains Y bm hbm) (I1.kIn _ _ hC) (PySem.W.looks_findIn I1.kIn iC) (fun self => PySem.W.bind_fn I1.kIn self tI) hus
    (codeAny_mono (F1.run _ X.stack _ _ ⟨Value.ref (hp.objs.size + 1) :: us, []⟩ (Value.ref (hp.objs.size + 1) :: us) _ _ (fun _ _ _ => False) (hr.make C us []) (I2.env0.make C us []) b2 r2 hq) fun r s' hq' => ?_))
  cases r with
  | error er => exact (show Passes CX0 X (fun _ _ _ => False) from pass0) pins σ _ _ er s' I2 hq'
  | ok fl =>
    cases fl with
    | ret u =>
      obtain ⟨v, H2, os2, bare2, un2, hok2, rv, ev, q2⟩ := hq'
      subst ev
      exact ⟨rv, fin (hp.objs.size + 1) _ s' H2 hsz hn kk I2 un2 hok2 os2 bare2 q2⟩
    | next => exact False.elim hq'
    | brk => exact False.elim hq'
    | cont => exact False.elim hq'
end
/-- C(e, ..) as a value -/
def tErV (C : Addr) (sp : Sp) (ta : TA) : TE := fun σ H Q => ta σ H fun vs H1 => vs.length ≤ 1000 ∧ ∀ a, H1 a = none → sp (.ref a :: vs) (upd H1 a (exo a C none)) (fun v H2 => v = .non ∧ Q (.ref a) H2) (fun _ _ _ => False)
section
variable {X : Cx} {k : Nat} {sp : Sp} {C fI : Addr} {fd : FuncData} {ps : List Str} {x : Str} {e : Expr} {es : List Expr} {ta : TA} {p pos : Pos}
theorem pe_oexV (T : OexC X.K C) (iC : PySem.W.findIn X.K (.ref C) "__init__" = some (some (.ref fI))) (tI : PySem.W.typeIn X.K (.ref fI) = some (.type "function"))
    (F1 : FnOk X.prog X.w X.K X.mg X.base CX0 k fI fd ps sp) (hr : Room (k + 1) X.A) (hb : Binds X.K fd ps []) (hg : Gl X x) (hm : X.mg x = some (.ref C)) (ha : PA X (e :: es) ta)
    (hdb : (x == ("__debug__" : Str)) = false := by decide) (he : starEach (e :: es) X.env = (false, eval e X.env) :: starEach es X.env := by rfl) (hpl : (backTo pos (starEach es X.env)).any (·.1) = false := by rfl) :
    PE X (.Call (.Name x p) (e :: es) [] pos) (tErV C sp ta) := by
  refine ⟨fun pins s σ H Q I h => ?_⟩
  refine wpAny_Call_Name_kw (ld_glob I hg hm ?_ hdb)
  refine PySem.W.callWith_K (h₀ := X.base) I.ok.mod.kin T.kC (thn (ha.run pos pins s σ H _ I h) fun us s1 ⟨vs, H1, I1, r1, hz, q1⟩ => ⟨I1.kIn, ?_⟩) he hpl
  show wpAny _ _ (call (.ref C) us) _ _ _
  exact oex_call T iC tI F1 hr hb I1 r1 hz q1 fun a hp2 s2 H2 _ _ _ I2 un hok ho hb q => ⟨.ref a, H2, I2.call' (ch := []) ho un hok hb (fun b z => absurd z (by simp)), rfl, q⟩
theorem pe_oexV0 (T : OexC X.K C) (iC : PySem.W.findIn X.K (.ref C) "__init__" = some (some (.ref fI))) (tI : PySem.W.typeIn X.K (.ref fI) = some (.type "function"))
    (F1 : FnOk X.prog X.w X.K X.mg X.base CX0 k fI fd ps sp) (hr : Room (k + 1) X.A) (hb : Binds X.K fd ps []) (hg : Gl X x) (hm : X.mg x = some (.ref C)) (hdb : (x == ("__debug__" : Str)) = false := by decide) :
    PE X (.Call (.Name x p) [] [] pos) (tErV C sp tNil) := by
  refine ⟨fun pins s σ H Q I h => ?_⟩
  refine wpAny_Call_Name_kw (ld_glob I hg hm ?_ hdb)
  obtain ⟨hz, q1⟩ := h
  refine PySem.W.callWith_K0 I.kIn T.kC ?_
  show wpAny _ _ (call (.ref C) []) _ _ _
  exact oex_call T iC tI F1 hr hb I .nil hz q1 fun a hp2 s2 H2 _ _ _ I2 un hok ho hb q => ⟨.ref a, H2, I2.call' (ch := []) ho un hok hb (fun b z => absurd z (by simp)), rfl, q⟩
end
/-! ### raise C(), C without fields -/
section
variable {X : Cx} {pins : List (Addr × Obj)} {σ : L2.St} {H1 H2 : Hp} {s1 s2 : Shared} {hp2 : Heap} {a C : Addr}
end
section
variable {X : Cx} {W : WX} {k j : Nat} {x : Str} {C : Addr} {p pos pos2 : Pos}
end
/-! ### errors as data -/
/-- what stands at a, told by a heap: an error of the class at C with these fields -/
def ErrV (K : PySem.W.Frag) (G0 : Hp) (a C : Addr) (fs : List (Str × D)) : Prop :=
  (fs = [] ∧ G0 a = some (exo a C none)) ∨ ∃ d fvs, G0 a = some (exo a C (some d)) ∧ G0 d = some (exd d fvs) ∧ RF K G0 fvs fs
def wErr (K : PySem.W.Frag) (C : Addr) (ns : List Str) (wa : DA) : DW := fun δ μ Q F => wa δ μ (fun ds μ1 => ds.length = ns.length ∧ ∀ a G0, ErrV K G0 a C (ns.zip ds).reverse → Q (.lam a G0) μ1) F
def wErr0 (K : PySem.W.Frag) (C : Addr) : DW := fun _ μ Q _ => ∀ a G0, ErrV K G0 a C [] → Q (.lam a G0) μ
section
variable {X : Cx} {W : WX} {k j : Nat} {x : Str} {C : Addr} {ns : List Str} {e : Expr} {es : List Expr} {ta : TA} {wa : DA} {p pos : Pos}
theorem pd_err (K : PySem.W.Frag) (hK : X.K = K) (c : Ct X W j) (E : ExcD X.prog X.w X.K X.mg X.base k x C ns) (ha : PDA X W (e :: es) ta wa) (hk : k + 1 ≤ j := by decide) (hg : Gl X x := by rfl) (hdb : (x == ("__debug__" : Str)) = false := by decide)
    (he : starEach (e :: es) X.env = (false, eval e X.env) :: starEach es X.env := by rfl) (hpl : (backTo pos (starEach es X.env)).any (·.1) = false := by rfl) (h1 : ns.length ≤ 1000 := by decide) :
    PD X W (.Call (.Name x p) (e :: es) [] pos) (tErV C (spI C ns) ta) (wErr K C ns wa) := by
  subst hK
  obtain ⟨fI, fd, ps, iC, tI, F, hb⟩ := E.ex
  refine ⟨pe_oexV E.T iC tI F (c.hr.mono hk) hb hg E.gC ha.pa hdb he hpl, fun σ δ H μ Q Qd F' S q kQ kF => ?_⟩
  refine ha.la σ δ H μ _ _ F' S q (fun vs ds H1 μ1 m1 r1 ⟨hl, q1⟩ => ⟨by rw [r1.length, hl]; exact h1, fun a na => ⟨a, vs, rfl, by rw [r1.length, hl], upd_same, fun d H' hd da ea ed hb' => ⟨rfl, ?_⟩⟩⟩) kF
  rw [upd_ne da] at hd
  have e1 : H' = upd (upd H1 d (exd d (ns.zip vs).reverse)) a (exo a C (some d)) := by
    funext b
    by_cases h1 : b = a
    · rw [h1, upd_same]; exact ea
    · rw [upd_ne h1]
      by_cases h2 : b = d
      · rw [h2, upd_same]; exact ed
      · rw [upd_ne h2, hb' b h1 h2, upd_ne h1]
  have m2 : Mv X.K H1 μ1 (upd H1 d (exd d (ns.zip vs).reverse)) μ1 := Mv.new m1.mr hd
  have na2 : upd H1 d (exd d (ns.zip vs).reverse) a = none := by rw [upd_ne (Ne.symm da)]; exact na
  have m3 : Mv X.K (upd H1 d (exd d (ns.zip vs).reverse)) μ1 H' μ1 := by rw [e1]; exact Mv.new m2.mr na2
  have m4 := m2.trans m3
  have ga : hid H' μ1 a = some (exo a C (some d)) := hid_some.mpr ⟨⟨m1.mr.fresh na, rfl⟩, ea⟩
  have gd : hid H' μ1 d = some (exd d (ns.zip vs).reverse) := hid_some.mpr ⟨⟨m1.mr.fresh hd, rfl⟩, ed⟩
  exact kQ _ _ H' μ1 (m1.trans m4) (.lam a (Same.refl _)) (q1 a _ (.inr ⟨d, _, ga, gd, (zip_RF r1).rev.mono m4.sm⟩))
theorem pd_err0 (K : PySem.W.Frag) (hK : X.K = K) (c : Ct X W j) (E : ExcE X.prog X.w X.K X.mg X.base k x C) (hk : k + 1 ≤ j := by decide) (hg : Gl X x := by rfl) (hdb : (x == ("__debug__" : Str)) = false := by decide) :
    PD X W (.Call (.Name x p) [] [] pos) (tErV C (spI0 C) tNil) (wErr0 K C) := by
  subst hK
  obtain ⟨fI, fd, ps, iC, tI, F, hb⟩ := E.ex
  refine ⟨pe_oexV0 E.T iC tI F (c.hr.mono hk) hb hg E.gC hdb, fun σ δ H μ Q Qd F' S q kQ kF => ?_⟩
  refine ⟨by decide, fun a na => ⟨a, rfl, upd_same, rfl, ?_⟩⟩
  have m2 : Mv X.K H μ (upd H a (exo a C none)) μ := Mv.new S.mr na
  have ga : hid (upd H a (exo a C none)) μ a = some (exo a C none) := hid_some.mpr ⟨⟨S.mr.fresh na, rfl⟩, upd_same⟩
  exact kQ _ _ _ μ m2 (.lam a (Same.refl _)) (q a _ (.inl ⟨rfl, ga⟩))
end
theorem R.lam_inv {K : PySem.W.Frag} {G G0 : Hp} {v : V} {a : Addr} (r : R K G v (.lam a G0)) : v = .ref a ∧ Same G0 G := by
  cases r with
  | lam _ h => exact ⟨rfl, h⟩
/-! ### isinstance of errors -/
def gIsE (K : PySem.W.Frag) : List D → M → DK → Prop := fun ds μ Q => ∃ a G0 C fs c u b, ds = [.lam a G0, c] ∧ ErrV K G0 a C fs ∧ ErrTy K C ∧ ClsD c u ∧ PySem.W.kitOne K (.ref C) u = some b ∧ Q (.bl b) μ
def rIsErr (K : PySem.W.Frag) : List V → Hp → VK → Prop := fun xs H Q => ∃ (c : V) (a C : Addr) (d : Option Addr) (u : Value) (b : Bool), xs = [.ref a, c] ∧ H a = some (exo a C d) ∧ (d = none ∨ ∃ dx fvs, d = some dx ∧ H dx = some (exd dx fvs)) ∧ ErrTy K C ∧ ClsV c u ∧
  PySem.W.kitOne K (.ref C) u = some b ∧ Q (.bl b) H
theorem call_isErr {X : Cx} : CallR X (.builtin "isinstance") (rIsErr X.K) := by
  intro pins s σ H xs us Q I r h
  obtain ⟨c, a, C, d, u, b, rfl, ha, hd, T, k, e, q⟩ := h
  obtain ⟨u1, u2, rfl, r1, r2⟩ := vals2 r
  obtain rfl : u1 = Value.ref a := r1
  have e2 := k.eq r2
  subst e2
  obtain ⟨t0, hoe⟩ := exo_at I.hok ha
  have J : ∃ od, PySem.W.InstAt s.heap a { cls := .ref C, dict := d, data := .fields #[.ref t0, .none, .none, .none, .bool false, .none] } C od := by
    rcases hd with rfl | ⟨dx, fvs, rfl, hdx⟩
    · exact ⟨none, hoe, rfl, rfl, trivial⟩
    · obtain ⟨mA, hns, rel⟩ := exd_at I.hok hdx
      obtain ⟨od, ho, hl⟩ := lookIn_ns hns
      exact ⟨some od, hoe, rfl, rfl, ho⟩
  obtain ⟨od, J⟩ := J
  exact PySem.W.kia_one (PySem.W.kitx_exc T.hcl T.hg T.hk T.hs T.ha T.hn T.ht T.hm) I.kIn J e (fun z => nomatch z) fun tk => ⟨.bl b, H, I.tok tk, rfl, q⟩
theorem c_isE {X : Cx} (K : PySem.W.Frag) (hK : X.K = K) : CallR X (.builtin "isinstance") (rIsErr X.K) ∧ CL X.K (rIsErr X.K) (gIsE K) := by
  subst hK
  refine ⟨call_isErr, fun H μ xs ds Q Qd m rx h k => ?_⟩
  obtain ⟨a, G0, C, fs, c, u, b, rfl, hE, hT, hc, hk, q⟩ := h
  obtain ⟨v, w, rfl, r1, r2⟩ := ra2 rx
  obtain ⟨rfl, sm⟩ := r1.lam_inv
  have sub : ∀ {z o}, G0 z = some o → H z = some o := fun h => (hid_some.mp (sm _ _ h)).2
  rcases hE with ⟨_, h1⟩ | ⟨d, fvs, h1, h2, _⟩
  · exact ⟨w, a, C, none, u, b, rfl, sub h1, .inl rfl, hT, hc.v r2, hk, k _ _ H μ (.refl m) (.bl _) q⟩
  · exact ⟨w, a, C, some d, u, b, rfl, sub h1, .inr ⟨d, fvs, rfl, sub h2⟩, hT, hc.v r2, hk, k _ _ H μ (.refl m) (.bl _) q⟩
/-! ### their fields -/
def ErF (K : PySem.W.Frag) (f : Str) (Cs : List Addr) : Prop := ∀ C ∈ Cs, XfC K C ∧ PySem.W.findIn K (.ref C) f = some none
def tErF (K : PySem.W.Frag) (f : Str) (te : TE) : TE := fun σ H Q => te σ H fun x H1 => ∃ (a C d : Addr) (fvs : List (Str × V)) (v : V), x = .ref a ∧ XfC K C ∧ PySem.W.findIn K (.ref C) f = some none ∧ H1 a = some (exo a C (some d)) ∧ H1 d = some (exd d fvs) ∧ fvs.lookup f = some v ∧ Q v H1
def wErF (K : PySem.W.Frag) (Cs : List Addr) (f : Str) (wo : DW) : DW := fun δ μ Q F => wo δ μ (fun x μ1 => ∃ C ∈ Cs, ∃ a G0 fs d, x = .lam a G0 ∧ ErrV K G0 a C fs ∧ fs.lookup f = some d ∧ Q d μ1) F
section
variable {X : Cx} {W : WX} {e : Expr} {te : TE} {we : DW} {f : Str} {pos : Pos}
theorem pe_erF (he : PE X e te) (hb : attributeBase e f X.env (eval e X.env) = eval e X.env := by rfl) : PE X (.Attribute e f pos) (tErF X.K f te) := by
  refine ⟨fun pins s σ H Q I h => ?_⟩
  refine attr_of hb (thn (he.run pins s σ H _ I h) fun u s1 ⟨x, H1, I1, rx, a, C, d, fvs, v, ex, T, hno, ea, ed, l, q⟩ => ?_)
  subst ex
  obtain rfl : u = Value.ref a := rx
  obtain ⟨t0, hoe⟩ := exo_at I1.hok ea
  obtain ⟨mA, hns, rel⟩ := exd_at I1.hok ed
  obtain ⟨od, ho, hl⟩ := lookIn_ns hns
  obtain ⟨u, hu, ru⟩ := RelO.some_of (v := v) (o := mA f) (by rw [← l]; exact rel f)
  have J : PySem.W.InstAt s1.heap a { cls := .ref C, dict := some d, data := .fields #[.ref t0, .none, .none, .none, .bool false, .none] } C (some od) := ⟨hoe, rfl, rfl, ho⟩
  exact HandSPX.exc_get I1.kIn J T.ga T.gg T.exC (PySem.W.findObj_own T.hdC hno rfl (by rw [hl, hu])) (handed_of ru) ⟨v, H1, I1.tok _, ru, q⟩
theorem pd_erF (K : PySem.W.Frag) (hK : X.K = K) {Cs : List Addr} (hC : ErF K f Cs) (ho : PD X W e te we) (hb : attributeBase e f X.env (eval e X.env) = eval e X.env := by rfl) : PD X W (.Attribute e f pos) (tErF K f te) (wErF K Cs f we) := by
  subst hK
  refine ⟨pe_erF ho.pe hb, fun σ δ H μ Q Qd F S q kQ kF => ho.le σ δ H μ _ _ F S q (fun v x H1 μ1 m1 r1 q1 => ?_) kF⟩
  obtain ⟨C, hc, a, G0, fs, d, rfl, hE, hl, q1⟩ := q1
  obtain ⟨rfl, sm⟩ := r1.lam_inv
  have sub : ∀ {z o}, G0 z = some o → H1 z = some o := fun h => (hid_some.mp (sm _ _ h)).2
  rcases hE with ⟨rfl, _⟩ | ⟨dx, fvs, h1, h2, rf⟩
  · cases hl
  · obtain ⟨v, hv, rv⟩ := rf.val hl
    exact ⟨a, C, dx, fvs, v, rfl, (hC C hc).1, (hC C hc).2, sub h1, sub h2, hv, kQ v d H1 μ1 m1 (rv.mono sm) q1⟩
end
end DL

set_option maxHeartbeats 0
namespace NC
open PySem PySem.Spec PyProof.Rows L2 DL
def top (i : Nat) : Stmt := PySem.Challenge.pw_nearcurves_k00_errors.main.body.getD i (.Pass ⟨0, 0, 0, 0⟩)
def mth (i j : Nat) : Stmt := match top i with
  | .ClassDef _ _ _ b _ _ _ _ _ _ _ => b.getD j (.Pass ⟨0, 0, 0, 0⟩)
  | _ => .Pass ⟨0, 0, 0, 0⟩
open He
def hfn_0 : List He.DefD := [dIni "Unlike" "Unlike.__init__" (mth 8 0),
  dIni "BadName" "BadName.__init__" (mth 7 0),
  dIni "BadInterval" "BadInterval.__init__" (mth 6 0),
  dIni "BadRow" "BadRow.__init__" (mth 5 0),
  dIni "BadNumber" "BadNumber.__init__" (mth 4 0),
  dIni "BadLine" "BadLine.__init__" (mth 3 0),
  dIni "BadText" "BadText.__init__" (mth 2 0),
  dIni "TakenName" "TakenName.__init__" (mth 15 0),
  dIni "NoName" "NoName.__init__" (mth 14 0),
  dIni "Fewer" "Fewer.__init__" (mth 13 0),
  dIni "Pole" "Pole.__init__" (mth 12 0),
  dIni "TooWide" "TooWide.__init__" (mth 11 0),
  dIni "TooLarge" "TooLarge.__init__" (mth 10 0),
  dIni "TooMany" "TooMany.__init__" (mth 9 0),
  dIni "NothingToRedo" "NothingToRedo.__init__" (mth 18 0),
  dIni "NothingToUndo" "NothingToUndo.__init__" (mth 17 0),
  dIni "NotKept" "NotKept.__init__" (mth 16 0),
  dTop "_law_pen" (top 20),
  dTop "_law_draw" (top 21),
  dTop "_law_pick" (top 22),
  dTop "_law_far" (top 23),
  dTop "_law_kinds" (top 24),
  dTop "_law_objects" (top 25),
  dTop "_law_fields" (top 26)]
def hfn_1 : List He.DefD := [dTop "law" (top 27)]
def hfn : List He.DefD := hfn_0 ++ (hfn_1)
def hfb_0 : List Fb := [.a (.glo "CurveError"),
  .cin "CurveError",
  .a (.glo "Unlike"),
  .oex "Unlike",
  .ini "Unlike",
  .a (.noat "Unlike" "what"),
  .a (.glo "BadName"),
  .oex "BadName",
  .ini "BadName",
  .a (.noat "BadName" "name"),
  .a (.glo "BadInterval"),
  .oex "BadInterval",
  .ini "BadInterval",
  .a (.noat "BadInterval" "low"),
  .a (.noat "BadInterval" "high"),
  .a (.glo "BadRow"),
  .oex "BadRow",
  .ini "BadRow",
  .a (.noat "BadRow" "row"),
  .a (.glo "BadNumber"),
  .oex "BadNumber",
  .ini "BadNumber",
  .a (.noat "BadNumber" "what"),
  .a (.noat "BadNumber" "number"),
  .a (.glo "BadLine"),
  .oex "BadLine",
  .ini "BadLine",
  .a (.noat "BadLine" "line"),
  .a (.noat "BadLine" "column"),
  .a (.glo "BadText")]
def hfb_1 : List Fb := [.oex "BadText",
  .ini "BadText",
  .a (.noat "BadText" "column"),
  .a (.glo "TakenName"),
  .oex "TakenName",
  .ini "TakenName",
  .a (.noat "TakenName" "name"),
  .a (.glo "NoName"),
  .oex "NoName",
  .ini "NoName",
  .a (.noat "NoName" "name"),
  .a (.glo "Fewer"),
  .oex "Fewer",
  .ini "Fewer",
  .a (.noat "Fewer" "what"),
  .a (.glo "Pole"),
  .oex "Pole",
  .ini "Pole",
  .a (.glo "TooWide"),
  .oex "TooWide",
  .ini "TooWide",
  .a (.glo "TooLarge"),
  .oex "TooLarge",
  .ini "TooLarge",
  .a (.noat "TooLarge" "what"),
  .a (.noat "TooLarge" "number"),
  .a (.noat "TooLarge" "limit"),
  .a (.glo "TooMany"),
  .oex "TooMany",
  .ini "TooMany"]
def hfb_2 : List Fb := [.a (.noat "TooMany" "what"),
  .a (.noat "TooMany" "limit"),
  .a (.glo "NothingToRedo"),
  .oex "NothingToRedo",
  .ini "NothingToRedo",
  .a (.glo "NothingToUndo"),
  .oex "NothingToUndo",
  .ini "NothingToUndo",
  .a (.glo "NotKept"),
  .oex "NotKept",
  .ini "NotKept",
  .a (.noat "NotKept" "promise"),
  .a (.noat "NotKept" "witness"),
  .xf "BadRow",
  .xf "BadNumber",
  .xf "TooLarge",
  .xf "Unlike",
  .xf "TooMany",
  .xf "Fewer",
  .xf "BadText",
  .xf "BadLine",
  .xf "BadName",
  .xf "NoName",
  .xf "TakenName",
  .xf "BadInterval",
  .xf "NotKept",
  .a (.free "int"),
  .a (.free "list"),
  .a (.free "len"),
  .a (.free "range")]
def hfb_3 : List Fb := [.a (.free "isinstance"),
  .a (.free "str"),
  .a (.free "enumerate"),
  .a (.free "ValueError"),
  .a (.free "zip"),
  .a (.free "repr"),
  .a (.exm "BadNumber" "BadText" false),
  .a (.exm "BadNumber" "BadNumber" true),
  .a (.exm "BadRow" "BadText" false),
  .a (.exm "BadRow" "BadNumber" false),
  .a (.exm "BadRow" "BadRow" true),
  .a (.exm "BadText" "BadText" true),
  .eis "BadText" 0 ["BadText", "BadLine", "BadNumber", "BadRow", "BadInterval", "BadName", "Unlike", "TooMany", "TooLarge", "TooWide", "Pole", "Fewer", "NoName", "TakenName", "NotKept", "NothingToUndo", "NothingToRedo"],
  .eis "BadLine" 1 ["BadText", "BadLine", "BadNumber", "BadRow", "BadInterval", "BadName", "Unlike", "TooMany", "TooLarge", "TooWide", "Pole", "Fewer", "NoName", "TakenName", "NotKept", "NothingToUndo", "NothingToRedo"],
  .eis "BadNumber" 2 ["BadText", "BadLine", "BadNumber", "BadRow", "BadInterval", "BadName", "Unlike", "TooMany", "TooLarge", "TooWide", "Pole", "Fewer", "NoName", "TakenName", "NotKept", "NothingToUndo", "NothingToRedo"],
  .eis "BadRow" 3 ["BadText", "BadLine", "BadNumber", "BadRow", "BadInterval", "BadName", "Unlike", "TooMany", "TooLarge", "TooWide", "Pole", "Fewer", "NoName", "TakenName", "NotKept", "NothingToUndo", "NothingToRedo"],
  .eis "BadInterval" 4 ["BadText", "BadLine", "BadNumber", "BadRow", "BadInterval", "BadName", "Unlike", "TooMany", "TooLarge", "TooWide", "Pole", "Fewer", "NoName", "TakenName", "NotKept", "NothingToUndo", "NothingToRedo"],
  .eis "BadName" 5 ["BadText", "BadLine", "BadNumber", "BadRow", "BadInterval", "BadName", "Unlike", "TooMany", "TooLarge", "TooWide", "Pole", "Fewer", "NoName", "TakenName", "NotKept", "NothingToUndo", "NothingToRedo"],
  .eis "Unlike" 6 ["BadText", "BadLine", "BadNumber", "BadRow", "BadInterval", "BadName", "Unlike", "TooMany", "TooLarge", "TooWide", "Pole", "Fewer", "NoName", "TakenName", "NotKept", "NothingToUndo", "NothingToRedo"],
  .eis "TooMany" 7 ["BadText", "BadLine", "BadNumber", "BadRow", "BadInterval", "BadName", "Unlike", "TooMany", "TooLarge", "TooWide", "Pole", "Fewer", "NoName", "TakenName", "NotKept", "NothingToUndo", "NothingToRedo"],
  .eis "TooLarge" 8 ["BadText", "BadLine", "BadNumber", "BadRow", "BadInterval", "BadName", "Unlike", "TooMany", "TooLarge", "TooWide", "Pole", "Fewer", "NoName", "TakenName", "NotKept", "NothingToUndo", "NothingToRedo"],
  .eis "TooWide" 9 ["BadText", "BadLine", "BadNumber", "BadRow", "BadInterval", "BadName", "Unlike", "TooMany", "TooLarge", "TooWide", "Pole", "Fewer", "NoName", "TakenName", "NotKept", "NothingToUndo", "NothingToRedo"],
  .eis "Pole" 10 ["BadText", "BadLine", "BadNumber", "BadRow", "BadInterval", "BadName", "Unlike", "TooMany", "TooLarge", "TooWide", "Pole", "Fewer", "NoName", "TakenName", "NotKept", "NothingToUndo", "NothingToRedo"],
  .eis "Fewer" 11 ["BadText", "BadLine", "BadNumber", "BadRow", "BadInterval", "BadName", "Unlike", "TooMany", "TooLarge", "TooWide", "Pole", "Fewer", "NoName", "TakenName", "NotKept", "NothingToUndo", "NothingToRedo"],
  .eis "NoName" 12 ["BadText", "BadLine", "BadNumber", "BadRow", "BadInterval", "BadName", "Unlike", "TooMany", "TooLarge", "TooWide", "Pole", "Fewer", "NoName", "TakenName", "NotKept", "NothingToUndo", "NothingToRedo"],
  .eis "TakenName" 13 ["BadText", "BadLine", "BadNumber", "BadRow", "BadInterval", "BadName", "Unlike", "TooMany", "TooLarge", "TooWide", "Pole", "Fewer", "NoName", "TakenName", "NotKept", "NothingToUndo", "NothingToRedo"],
  .eis "NotKept" 14 ["BadText", "BadLine", "BadNumber", "BadRow", "BadInterval", "BadName", "Unlike", "TooMany", "TooLarge", "TooWide", "Pole", "Fewer", "NoName", "TakenName", "NotKept", "NothingToUndo", "NothingToRedo"],
  .eis "NothingToUndo" 15 ["BadText", "BadLine", "BadNumber", "BadRow", "BadInterval", "BadName", "Unlike", "TooMany", "TooLarge", "TooWide", "Pole", "Fewer", "NoName", "TakenName", "NotKept", "NothingToUndo", "NothingToRedo"],
  .eis "NothingToRedo" 16 ["BadText", "BadLine", "BadNumber", "BadRow", "BadInterval", "BadName", "Unlike", "TooMany", "TooLarge", "TooWide", "Pole", "Fewer", "NoName", "TakenName", "NotKept", "NothingToUndo", "NothingToRedo"],
  .a (.glo "_law_pen")]
def hfb_4 : List Fb := [.a (.glo "_law_draw"),
  .a (.glo "_law_pick"),
  .a (.glo "_law_far"),
  .a (.glo "_law_kinds"),
  .a (.glo "_law_objects"),
  .a (.glo "_law_fields"),
  .a (.glo "law"),
  .apart (([] : List (Str × Str)).map fun p => (p.1, none))]
def hfb : List Fb := hfb_0 ++ (hfb_1 ++ (hfb_2 ++ (hfb_3 ++ (hfb_4))))
def htf : List (Str × Str) := []
/-! ### the head -/
abbrev HR : PySem.W.OpenRow := PySem.W.OpenLaw.row PySem.Challenge.rw_nearcurves_k00_errors
abbrev hk : PySem.W.Hook := hookL 5 hfn hfb (htf.map fun p => (p.1, none))
def hob (s : PySem.W.SharedT) : List FnW × Bool := obsL 5 hfn hfb (htf.map fun p => (p.1, none)) (HandSHeadRun.getT s)
theorem hob_eq (s : PySem.W.SharedT) : hob s = hk.obs s.abs := obsL_eq (HandSHeadRun.getT_eq s)
def pw_names0 : List PySem.Str := ["__name__", "CurveError", "BadText", "BadLine", "BadNumber", "BadRow", "BadInterval", "BadName", "Unlike", "TooMany", "TooLarge", "TooWide", "Pole", "Fewer", "NoName", "TakenName", "NotKept", "NothingToUndo", "NothingToRedo", "_law_pen", "_law_draw", "_law_pick", "_law_far", "_law_kinds", "_law_objects", "_law_fields", "law"]
def pw_names : List PySem.Str := pw_names0
def loose : List PySem.Str := pw_names.filter fun x => x != "law"
noncomputable def hpre (w : World) (os : OsState) : Option PySem.W.SharedT := HandSHeadRun.endF (HandSHeadRun.stepQ (HandSHeadRun.denQ HandSHeadRun.tabQ) HR.prog w) 20000 HR.prog w os
abbrev hK (s : PySem.W.SharedT) : PySem.W.Frag := kOf (HandSHeadRun.getT s) 5
theorem hr1 (w : World) (os : OsState) : (hpre w os).map (fun s => (HandSHeadRun.looksF HR.prog (PySem.W.boot_heap w.params) s.abs, HandSHeadRun.seenQ (PySem.W.view HR.prog [27]) loose (PySem.importedModules HR.prog.main.body) (fun s => PySem.W.xlAt (PySem.W.view HR.prog [27]) [] s && PySem.W.recOk HR.toRowW.records s) s.abs)) = some (true, PySem.W.openGood (PySem.W.view HR.prog [27]) loose) := by
  kernel_rfl
theorem map_prs {α β γ : Type} {o : Option α} {xs ys : List β} {f : α → β → γ} {g : α → β → Bool} {v : β → γ} (h1 : o.map (fun s => (xs.map (f s), xs.all (g s))) = some (xs.map v, true)) (h2 : o.map (fun s => (ys.map (f s), ys.all (g s))) = some (ys.map v, true)) : o.map (fun s => ((xs ++ ys).map (f s), (xs ++ ys).all (g s))) = some ((xs ++ ys).map v, true) := by
  cases o with
  | none => cases h1
  | some s =>
    obtain ⟨a1, a2⟩ := Prod.mk.inj (Option.some.inj h1)
    obtain ⟨b1, b2⟩ := Prod.mk.inj (Option.some.inj h2)
    show some ((xs ++ ys).map (f s), (xs ++ ys).all (g s)) = _
    rw [List.map_append, List.map_append, List.all_append, a1, a2, b1, b2]
    rfl
theorem hn_0 (w : World) (os : OsState) : (hpre w os).map (fun s => ((hfn_0.map fun d => He.fnW (hK s) d.at_), (hfn_0.all fun d => d.ok (hK s)))) = some (hfn_0.map He.DefD.val, true) := by
  kernel_rfl
theorem hn_1 (w : World) (os : OsState) : (hpre w os).map (fun s => ((hfn_1.map fun d => He.fnW (hK s) d.at_), (hfn_1.all fun d => d.ok (hK s)))) = some (hfn_1.map He.DefD.val, true) := by
  kernel_rfl
theorem hr2 (w : World) (os : OsState) : (hpre w os).map (fun s => ((hfn.map fun d => He.fnW (hK s) d.at_), (hfn.all fun d => d.ok (hK s)))) = some (hfn.map He.DefD.val, true) := by
  unfold hfn
  exact (map_prs (hn_0 w os) (hn_1 w os))
theorem hr3 (w : World) (os : OsState) : (hpre w os).map (fun s => (htf.map fun p => (p.1, none)).all (tabL (HandSHeadRun.getT s) (hK s))) = some true := by
  kernel_rfl
theorem hb_0 (w : World) (os : OsState) : (hpre w os).map (fun s => hfb_0.all fun f => f.ok (hK s)) = some true := by
  kernel_rfl
theorem hb_1 (w : World) (os : OsState) : (hpre w os).map (fun s => hfb_1.all fun f => f.ok (hK s)) = some true := by
  kernel_rfl
theorem hb_2 (w : World) (os : OsState) : (hpre w os).map (fun s => hfb_2.all fun f => f.ok (hK s)) = some true := by
  kernel_rfl
theorem hb_3 (w : World) (os : OsState) : (hpre w os).map (fun s => hfb_3.all fun f => f.ok (hK s)) = some true := by
  kernel_rfl
theorem hb_4 (w : World) (os : OsState) : (hpre w os).map (fun s => hfb_4.all fun f => f.ok (hK s)) = some true := by
  kernel_rfl
theorem map_and {α : Type} {o : Option α} {f g : α → Bool} (h1 : o.map f = some true) (h2 : o.map g = some true) : o.map (fun s => f s && g s) = some true := by
  cases o with
  | none => cases h1
  | some s =>
    have e1 := Option.some.inj h1
    have e2 := Option.some.inj h2
    show some (f s && g s) = some true
    rw [e1, e2]
    rfl
theorem map_app {α β : Type} {o : Option α} {xs ys : List β} {f : α → β → Bool} (h1 : o.map (fun s => xs.all (f s)) = some true) (h2 : o.map (fun s => ys.all (f s)) = some true) : o.map (fun s => (xs ++ ys).all (f s)) = some true := by
  have := map_and h1 h2
  simpa only [List.all_append] using this
theorem hfb_run (w : World) (os : OsState) : (hpre w os).map (fun s => hfb.all fun f => f.ok (hK s)) = some true := by
  unfold hfb
  exact (map_app (hb_0 w os) (map_app (hb_1 w os) (map_app (hb_2 w os) (map_app (hb_3 w os) (hb_4 w os)))))
theorem hrun (w : World) : HandSHeadRun.RunEq HR (PySem.W.view HR.prog [27]) hk hob 20000 loose w := by
  intro os
  have h1 := hr1 w os
  have h2 := hr2 w os
  have h3 := hr3 w os
  have h4 := hfb_run w os
  show (hpre w os).map (fun s => (HandSHeadRun.looksF HR.prog (PySem.W.boot_heap w.params) s.abs, HandSHeadRun.seenQ (PySem.W.view HR.prog [27]) loose (PySem.importedModules HR.prog.main.body) (fun s => PySem.W.xlAt (PySem.W.view HR.prog [27]) [] s && PySem.W.recOk HR.toRowW.records s) s.abs, hob s)) = some (true, PySem.W.openGood (PySem.W.view HR.prog [27]) loose, (hfn.map He.DefD.val, true))
  generalize hpre w os = o at h1 h2 h3 h4 ⊢
  cases o with
  | none => cases h1
  | some s =>
    have e1 := Option.some.inj h1
    have e2 := Option.some.inj h2
    have e3 : (htf.map fun p => (p.1, none)).all (tabL (HandSHeadRun.getT s) (hK s)) = true := Option.some.inj h3
    have e4 : (hfb.all fun f => f.ok (hK s)) = true := Option.some.inj h4
    obtain ⟨a1, a2⟩ := Prod.mk.inj e1
    obtain ⟨b1, b2⟩ := Prod.mk.inj e2
    have b2 : (hfn.all fun d => d.ok (hK s)) = true := b2
    refine congrArg some (Prod.ext a1 (Prod.ext a2 (Prod.ext b1 ?_)))
    show ((hfn.all fun d => d.ok (hK s)) && ((hfb.all fun f => f.ok (hK s)) && (htf.map fun p => (p.1, none)).all (tabL (HandSHeadRun.getT s) (hK s)))) = true
    rw [b2, e4, e3]
    rfl
end NC

set_option maxHeartbeats 2000000
/-! ratios: plain laws -/
namespace PL
/-- told sizes -/
structure Sz (q : Rat) : Prop where
  n : q.num.natAbs < 2 ^ 12000
  d : q.den < 2 ^ 12000
/-- a < 2 ^ x, where x is great: said so that nothing works it out -/
def Lt2 (a x : Nat) : Prop := a < 2 ^ x
theorem Lt2.up {a x y : Nat} (h : Lt2 a x) (hxy : x ≤ y := by decide) : Lt2 a y := Nat.lt_of_lt_of_le h (Nat.pow_le_pow_right (by decide) hxy)
theorem Lt2.of {a x y : Nat} (h : a < 2 ^ x) (hxy : x ≤ y := by decide) : Lt2 a y := Nat.lt_of_lt_of_le h (Nat.pow_le_pow_right (by decide) hxy)
theorem Lt2.mul {a b x y : Nat} (h1 : Lt2 a x) (h2 : Lt2 b y) : Lt2 (a * b) (x + y) := by
  show a * b < 2 ^ (x + y)
  rw [Nat.pow_add]
  exact Nat.mul_lt_mul'' h1 h2
theorem Lt2.le {a b x : Nat} (h : Lt2 b x) (hab : a ≤ b) : Lt2 a x := Nat.lt_of_le_of_lt hab h
/-- wide sizes: for all that the program itself works out -/
structure Wz (q : Rat) : Prop where
  n : Lt2 q.num.natAbs 60000000
  d : Lt2 q.den 60000000
theorem Sz.w {q : Rat} (h : Sz q) : Wz q := ⟨Lt2.of h.1, Lt2.of h.2⟩
instance {q : Rat} : Coe (Sz q) (Wz q) := ⟨Sz.w⟩
theorem den_pos (q : Rat) : 0 < q.den := Nat.pos_of_ne_zero q.den_nz
theorem Sz.neg {q : Rat} (h : Sz q) : Sz (-q) := ⟨by simpa using h.1, by simpa using h.2⟩
end PL

namespace NC
open PySem PySem.Spec PyProof.Rows L2 DL LL PL
/-- a ratio as a pair -/
def qd (q : Rat) : D := .tup [.int q.num, .int q.den]
theorem mul_w {x y : Int} {a b : Nat} (h1 : x.natAbs < 2 ^ a) (h2 : y.natAbs < 2 ^ b) (ha : a ≤ 60000000 := by decide) (hb : b ≤ 60000000 := by decide) : CMulB x y := by
  have p : ∀ {x : Int} {n : Nat}, x.natAbs < 2 ^ n → x.natAbs.log2 ≤ n := fun {x n} h => by
    by_cases e : x.natAbs = 0
    · rw [e]; exact Nat.zero_le _
    · exact Nat.le_of_lt ((Nat.log2_lt e).mpr h)
  have l1 := p h1
  have l2 := p h2
  show x.natAbs.log2 + y.natAbs.log2 < 130000000
  omega
theorem up {x a b : Nat} (h : x < 2 ^ a) (hab : a ≤ b := by decide) : x < 2 ^ b := Nat.lt_of_lt_of_le h (Nat.pow_le_pow_right (by decide) hab)
/-! ### is_whole -/
/-! ### divisor, lowest -/
/-! ### is_ratio: a value, as it stands -/
/-- a value's items, where it is a list or a tuple that may be told of; handles are read -/
def view (μ : M) : D → D
  | .obj a => match μ a with
    | some (.lst xs) => .lst xs
    | _ => .obj a
  | d => d
section
variable {K : PySem.W.Frag} {μ : M} {v : D} {Q : DK}
end
end NC

set_option maxHeartbeats 2000000
namespace NC
open PySem PySem.Spec PyProof.Rows L2 DL LL PL
/-- what follows for a value that tells a ratio, for one that tells none -/
def onR (o : Option Rat) (f : Rat → Prop) (g : Prop) : Prop := match o with
  | some q => f q
  | none => g
theorem onR.imp {o : Option Rat} {f f' : Rat → Prop} {g g' : Prop} (h : onR o f g) (hf : ∀ q, o = some q → f q → f' q) (hg : g → g') : onR o f' g' := by
  cases o with
  | none => exact hg h
  | some q => exact hf q rfl h
/-! ### told -/
/-! ### plus, minus, times, lower, share -/
end NC

set_option maxHeartbeats 2000000
namespace NC
open PySem PySem.Spec PyProof.Rows L2 DL LL PL
def w__law_pen_0 (K : PySem.W.Frag)  : DS := (wAsg (wC (.int 0)) (wName 1))
def w__law_pen_1_0 (K : PySem.W.Frag)  : DS := (wAsg (wBin gMod (wCB (gOne gInt) (wCons (wBin gAdd (wBin gMul (wVar 1) (wC (.int 47))) (wVar 2)) wNil)) (wC (.int 1000000007))) (wName 1))
def w__law_pen_1 (K : PySem.W.Frag)  : DS := (wFor (wISeq (wVar 0)) (wName 2) (w__law_pen_1_0 K))
def w__law_pen_2 (K : PySem.W.Frag)  : DS := (wRet (wDctM (((wC (.str "cells")), (wCB (gOne gList) (wCons (wVar 0) wNil))) :: (((wC (.str "at")), (wC (.int 0))) :: (((wC (.str "digits")), (wC (.int 0))) :: (((wC (.str "count")), (wC (.int 0))) :: (((wC (.str "fold")), (wVar 1)) :: [])))))))
def w__law_pen (K : PySem.W.Frag)  : DS := (wSeq (w__law_pen_0 K) (wSeq (w__law_pen_1 K) (w__law_pen_2 K)))
def w__law_draw_0 (K : PySem.W.Frag)  : DS := (wDPut (wVar 0) (wC (.str "count")) (wBin gAdd (wBin gDGet (wVar 0) (wC (.str "count"))) (wC (.int 1))))
def w__law_draw_1 (K : PySem.W.Frag)  : DS := (wIfS (wAnd (wTst (wBin (gEq false) (wBin gDGet (wVar 0) (wC (.str "digits"))) (wC (.int 0)))) (wTst (wBin gLt (wBin gDGet (wVar 0) (wC (.str "at"))) (wCB (gOne gLen) (wCons (wBin gDGet (wVar 0) (wC (.str "cells"))) wNil))))) (wSeq (wAsg (wBin gIx (wBin gDGet (wVar 0) (wC (.str "cells"))) (wBin gDGet (wVar 0) (wC (.str "at")))) (wName 2)) (wSeq (wDPut (wVar 0) (wC (.str "at")) (wBin gAdd (wBin gDGet (wVar 0) (wC (.str "at"))) (wC (.int 1)))) (wIfS (wTst (wBin gGe (wVar 2) (wBin gPow (wC (.int 10)) (wC (.int 18))))) (wDPut (wVar 0) (wC (.str "digits")) (wBin gSub (wVar 2) (wBin gPow (wC (.int 10)) (wC (.int 18))))) (wDPut (wVar 0) (wC (.str "fold")) (wBin gMod (wCB (gOne gInt) (wCons (wBin gAdd (wBin gMul (wBin gDGet (wVar 0) (wC (.str "fold"))) (wC (.int 69069))) (wVar 2)) wNil)) (wC (.int 2147483587))))))) wNext)
def w__law_draw_2 (K : PySem.W.Frag)  : DS := (wIfS (wTst (wBin gGt (wBin gDGet (wVar 0) (wC (.str "digits"))) (wC (.int 0)))) (wSeq (wAsg (wBin gMod (wCB (gOne gInt) (wCons (wBin gDGet (wVar 0) (wC (.str "digits"))) wNil)) (wVar 1)) (wName 3)) (wSeq (wDPut (wVar 0) (wC (.str "digits")) (wBin gDiv (wBin gDGet (wVar 0) (wC (.str "digits"))) (wVar 1))) (wRet (wVar 3)))) wNext)
def w__law_draw_3 (K : PySem.W.Frag)  : DS := (wAsg (wBin gAdd (wBin gAdd (wBin gDGet (wVar 0) (wC (.str "fold"))) (wBin gMul (wBin gDGet (wVar 0) (wC (.str "count"))) (wC (.int 7907)))) (wC (.int 43))) (wName 4))
def w__law_draw_4 (K : PySem.W.Frag)  : DS := (wRet (wBin gMod (wBin gDiv (wCB (gOne gInt) (wCons (wBin gMod (wBin gPow (wVar 4) (wC (.int 17))) (wC (.int 2305843009213693951))) wNil)) (wC (.int 128))) (wVar 1)))
def w__law_draw (K : PySem.W.Frag)  : DS := (wSeq (w__law_draw_0 K) (wSeq (w__law_draw_1 K) (wSeq (w__law_draw_2 K) (wSeq (w__law_draw_3 K) (w__law_draw_4 K)))))
def w__law_pick_0 (K : PySem.W.Frag) (s__law_draw : DF) : DS := (wRet (wBin gIx (wVar 1) (wCall s__law_draw (wCons (wVar 0) (wCons (wCB (gOne gLen) (wCons (wVar 1) wNil)) wNil)))))
def w__law_pick (K : PySem.W.Frag) (s__law_draw : DF) : DS := (w__law_pick_0 K s__law_draw)
def w__law_far_0 (K : PySem.W.Frag) (s__law_pick s__law_draw : DF) : DS := (wAsg (wC (.int 0)) (wName 1))
def w__law_far_1_0 (K : PySem.W.Frag) (s__law_pick s__law_draw : DF) : DS := (wAsg (wBin gAdd (wBin gMul (wVar 1) (wC (.int 1000))) (wCall s__law_draw (wCons (wVar 0) (wCons (wC (.int 1000)) wNil)))) (wName 1))
def w__law_far_1 (K : PySem.W.Frag) (s__law_pick s__law_draw : DF) : DS := (wFor (wIRng1 (wCons (wCall s__law_pick (wCons (wVar 0) (wCons (wLst (wCons (wC (.int 0)) (wCons (wC (.int 1)) (wCons (wC (.int 1)) (wCons (wC (.int 2)) (wCons (wC (.int 6)) wNil)))))) wNil))) wNil)) (wName 2) (w__law_far_1_0 K s__law_pick s__law_draw))
def w__law_far_2 (K : PySem.W.Frag) (s__law_pick s__law_draw : DF) : DS := (wRet (wIf (wTst (wBin gGt (wCall s__law_draw (wCons (wVar 0) (wCons (wC (.int 3)) wNil))) (wC (.int 0)))) (wVar 1) (wUn gNeg (wVar 1))))
def w__law_far (K : PySem.W.Frag) (s__law_pick s__law_draw : DF) : DS := (wSeq (w__law_far_0 K s__law_pick s__law_draw) (wSeq (w__law_far_1 K s__law_pick s__law_draw) (w__law_far_2 K s__law_pick s__law_draw)))
theorem mput_self {μ : M} {p : Addr} {m : MO} (h : μ p = some m) : mput μ p m = μ := by
  funext b
  by_cases e : b = p
  · rw [e, mput_same, h]
  · rw [mput_ne e]
theorem gDGet_put {μ : M} {p : Addr} {ks : List (Key × D)} {z : Str} {Q : DK} : gDGet (.obj p) (.str z) (mput μ p (.dct ks)) Q ↔ ∃ d, valD ks (.inr z) = some d ∧ Q d (mput μ p (.dct ks)) := gDGet_obj mput_same
theorem pen_len {cs : List Int} {a d n f : Int} : (penD cs a d n f).length ≤ 1000000 := by show 5 ≤ 1000000; decide
theorem mul_small {i j : Int} (h1 : i.natAbs < 2 ^ 400) (h2 : j.natAbs < 2 ^ 400) : CMulB i j := mul_w h1 h2

/-! ### _law_pen -/
def s__law_pen : DF := fun ds μ Q _ => ∃ ns : List Int, ds = [.ro (ns.map .int)] ∧ ns.length ≤ 63 ∧ ∀ p μ', μ p = none → Only p μ μ' → Pen p μ' 0 → Q (.obj p) μ'
theorem p__law_pen (K : PySem.W.Frag) : ∀ ds μ Q F, s__law_pen ds μ Q F → ds.length = 1 ∧ w__law_pen K { nx := fun _ μ' => Q .non μ', rt := Q } F (dstart ["_law_script", "_law_fold", "_law_cell"] ds) μ := by
  rintro _ μ Q F ⟨ns, rfl, hl, q⟩
  refine ⟨rfl, ?_⟩
  simp only [w__law_pen, w__law_pen_0, w__law_pen_1_0, w__law_pen_1, w__law_pen_2, wRet, wRetN, wSeq, wNext, wIfS, wAsg, wName, wPar, wDrop, wDPut, wFor, wISeq, wIRng1, wIRng2, wVar, wC, wNil, wCons, wBin, wUn, wCB, wTst, wAnd, wOr, DL.wNot, wAndV, wOrV, wNotV, wIf, wTup, wLst, wLstM, wCall, wGTup, wGCons, wGNil, wBrk, wCnt, wRaise, gI, gU, gOne , DL.gSub, gMul, gMod, gDiv, gPow, gLt, gLe, gGt, gGe, gNeg, gAbs, gMax2, gMin2, gInt2, wChain, wPar3, wSl, wNoPart, wPart, wIEnumA, wIEnumS, wIZipA, wIRng3, wLc, wLcM, wYes, wFld, wAug, wApp, wPop, wRev, wSubG, wMet, wBinO, wUnO, wCallK, gShl, gShr, wListRg1, wTupleRg1, wListRg2, wTupleRg2, wAugS, dstart, List.map_cons, List.map_nil, List.length_cons, List.length_nil, List.replicate, List.cons_append, List.nil_append, List.append_nil, List.getElem?_cons_zero, List.getElem?_cons_succ, List.set_cons_zero, List.set_cons_succ, Option.some.injEq, exists_eq_left', exists_eq_left, D.int.injEq, D.bl.injEq, D.str.injEq, D.tup.injEq, D.lst.injEq, D.obj.injEq, List.cons.injEq, and_true, true_and, Nat.zero_add, Nat.reduceAdd, Nat.reduceSub, decide_eq_true_eq, Bool.not_eq_true', decide_eq_false_iff_not, exists_and_left, exists_and_right, and_assoc, Bool.true_eq_false, Bool.false_eq_true, if_true, if_false, ne_eq]
  refine Or.inl ⟨ns.map .int, .inr (.inl rfl), ?_⟩
  have key : ∀ (cs : List Int) (f : Int) (c : Option D), 0 ≤ f → f < 1000000007 → wLoop Any (wName 2) (wAsg (wBin (gI (fun x j => ¬j = 0) fun i j => D.int (i.fmod j)) (wCB (gOne gInt) (wCons (wBin gAdd (wBin (gI CMulB fun i j => D.int (i * j)) (wVar 1) (wC (D.int 47))) (wVar 2)) wNil)) (wC (D.int 1000000007))) (wName 1)) (cs.map .int)
      { nx := fun δ' μ' => wDctM [(wC (D.str (Str.ofString "cells")), wCB (gOne gList) (wCons (wVar 0) wNil)), (wC (D.str (Str.ofString "at")), wC (D.int 0)), (wC (D.str (Str.ofString "digits")), wC (D.int 0)), (wC (D.str (Str.ofString "count")), wC (D.int 0)), (wC (D.str (Str.ofString "fold")), wVar 1)] δ' μ' Q F, rt := Q } F [some (.ro (ns.map .int)), some (D.int f), c] μ := by
    intro cs
    induction cs with
    | nil =>
      intro f c h1 h2
      refine ⟨trivial, fun p hp => ?_⟩
      simp only [wPairs, wRet, wRetN, wSeq, wNext, wIfS, wAsg, wName, wPar, wDrop, wDPut, wFor, wISeq, wIRng1, wIRng2, wVar, wC, wNil, wCons, wBin, wUn, wCB, wTst, wAnd, wOr, DL.wNot, wAndV, wOrV, wNotV, wIf, wTup, wLst, wLstM, wCall, wGTup, wGCons, wGNil, wBrk, wCnt, wRaise, gI, gU, gOne , DL.gSub, gMul, gMod, gDiv, gPow, gLt, gLe, gGt, gGe, gNeg, gAbs, gMax2, gMin2, gInt2, wChain, wPar3, wSl, wNoPart, wPart, wIEnumA, wIEnumS, wIZipA, wIRng3, wLc, wLcM, wYes, wFld, wAug, wApp, wPop, wRev, wSubG, wMet, wBinO, wUnO, wCallK, gShl, gShr, wListRg1, wTupleRg1, wListRg2, wTupleRg2, wAugS, dstart, List.map_cons, List.map_nil, List.length_cons, List.length_nil, List.replicate, List.cons_append, List.nil_append, List.append_nil, List.getElem?_cons_zero, List.getElem?_cons_succ, List.set_cons_zero, List.set_cons_succ, Option.some.injEq, exists_eq_left', exists_eq_left, D.int.injEq, D.bl.injEq, D.str.injEq, D.tup.injEq, D.lst.injEq, D.obj.injEq, List.cons.injEq, and_true, true_and, Nat.zero_add, Nat.reduceAdd, Nat.reduceSub, decide_eq_true_eq, Bool.not_eq_true', decide_eq_false_iff_not, exists_and_left, exists_and_right, and_assoc, Bool.true_eq_false, Bool.false_eq_true, if_true, if_false, ne_eq, gList, seqOf]
      refine ⟨mput_same, by decide, _, rfl, ?_⟩
      rw [mput_mput]
      exact q p _ hp Only.put ⟨ns, 0, 0, 0, f, mput_same, by decide, by omega, by omega, by decide, by decide, by decide, h1, by omega⟩
    | cons c cs ih =>
      intro f c0 h1 h2
      refine ⟨trivial, ?_⟩
      simp only [wRet, wRetN, wSeq, wNext, wIfS, wAsg, wName, wPar, wDrop, wDPut, wFor, wISeq, wIRng1, wIRng2, wVar, wC, wNil, wCons, wBin, wUn, wCB, wTst, wAnd, wOr, DL.wNot, wAndV, wOrV, wNotV, wIf, wTup, wLst, wLstM, wCall, wGTup, wGCons, wGNil, wBrk, wCnt, wRaise, gI, gU, gOne , DL.gSub, gMul, gMod, gDiv, gPow, gLt, gLe, gGt, gGe, gNeg, gAbs, gMax2, gMin2, gInt2, wChain, wPar3, wSl, wNoPart, wPart, wIEnumA, wIEnumS, wIZipA, wIRng3, wLc, wLcM, wYes, wFld, wAug, wApp, wPop, wRev, wSubG, wMet, wBinO, wUnO, wCallK, gShl, gShr, wListRg1, wTupleRg1, wListRg2, wTupleRg2, wAugS, dstart, List.map_cons, List.map_nil, List.length_cons, List.length_nil, List.replicate, List.cons_append, List.nil_append, List.append_nil, List.getElem?_cons_zero, List.getElem?_cons_succ, List.set_cons_zero, List.set_cons_succ, Option.some.injEq, exists_eq_left', exists_eq_left, D.int.injEq, D.bl.injEq, D.str.injEq, D.tup.injEq, D.lst.injEq, D.obj.injEq, List.cons.injEq, and_true, true_and, Nat.zero_add, Nat.reduceAdd, Nat.reduceSub, decide_eq_true_eq, Bool.not_eq_true', decide_eq_false_iff_not, exists_and_left, exists_and_right, and_assoc, Bool.true_eq_false, Bool.false_eq_true, if_true, if_false, ne_eq, gAdd_int, gInt_int]
      refine ⟨mul_small (by omega) (by decide), by decide, ih _ _ ?_ ?_⟩
      · exact Int.fmod_nonneg_of_pos _ (by decide)
      · exact Int.fmod_lt_of_pos _ (by decide)
  exact key ns 0 none (by decide) (by decide)

/-! ### _law_draw -/
def s__law_draw : DF := fun ds μ Q _ => ∃ p many m, ds = [.obj p, .int many] ∧ 0 < many ∧ many < 2 ^ 60 ∧ Pen p μ m ∧ m ≤ 1000000 ∧ ∀ v μ', 0 ≤ v → v < many → Only p μ μ' → Pen p μ' (m + 1) → Q (.int v) μ'
theorem draw_tail (K : PySem.W.Frag) {p : Addr} {many : Int} {m : Nat} {μ : M} {Q : DK} {F : FK} {R : DSt → M → Prop} (h1 : 0 < many) (h2 : many < 2 ^ 60) (hm : m ≤ 1000000) (q : ∀ v μ', 0 ≤ v → v < many → Only p μ μ' → Pen p μ' (m + 1) → Q (.int v) μ')
    {cs : List Int} {a d n f : Int} {c : Option D} (p1 : 0 ≤ a) (p2 : a ≤ cs.length) (p3 : cs.length ≤ 1000000) (p4 : 0 ≤ d) (p5 : 0 ≤ n) (p6 : n ≤ (m + 1 : Nat)) (p7 : 0 ≤ f) (p8 : f < 2147483648) :
    wSeq (w__law_draw_2 K) (wSeq (w__law_draw_3 K) (w__law_draw_4 K)) { nx := R, rt := Q } F [some (.obj p), some (.int many), c, none, none] (mput μ p (.dct (penD cs a d n f))) := by
  simp only [w__law_draw_2, w__law_draw_3, w__law_draw_4, wRet, wRetN, wSeq, wNext, wIfS, wAsg, wName, wPar, wDrop, wDPut, wFor, wISeq, wIRng1, wIRng2, wVar, wC, wNil, wCons, wBin, wUn, wCB, wTst, wAnd, wOr, DL.wNot, wAndV, wOrV, wNotV, wIf, wTup, wLst, wLstM, wCall, wGTup, wGCons, wGNil, wBrk, wCnt, wRaise, gI, gU, gOne , DL.gSub, gMul, gMod, gDiv, gPow, gLt, gLe, gGt, gGe, gNeg, gAbs, gMax2, gMin2, gInt2, wChain, wPar3, wSl, wNoPart, wPart, wIEnumA, wIEnumS, wIZipA, wIRng3, wLc, wLcM, wYes, wFld, wAug, wApp, wPop, wRev, wSubG, wMet, wBinO, wUnO, wCallK, gShl, gShr, wListRg1, wTupleRg1, wListRg2, wTupleRg2, wAugS, dstart, List.map_cons, List.map_nil, List.length_cons, List.length_nil, List.replicate, List.cons_append, List.nil_append, List.append_nil, List.getElem?_cons_zero, List.getElem?_cons_succ, List.set_cons_zero, List.set_cons_succ, Option.some.injEq, exists_eq_left', exists_eq_left, D.int.injEq, D.bl.injEq, D.str.injEq, D.tup.injEq, D.lst.injEq, D.obj.injEq, List.cons.injEq, and_true, true_and, Nat.zero_add, Nat.reduceAdd, Nat.reduceSub, decide_eq_true_eq, Bool.not_eq_true', decide_eq_false_iff_not, exists_and_left, exists_and_right, and_assoc, Bool.true_eq_false, Bool.false_eq_true, if_true, if_false, ne_eq, gDGet_put, pen_cells, pen_at, pen_digits, pen_count, pen_fold, put_at, put_digits, put_count, put_fold, mput_same, mput_mput, MO.dct.injEq, keyOf, gAdd_int, gEq_int, pen_len, gLen_lst, gInt_int]
  have cm : ∀ x : Int, CDivG x many := fun x => ⟨by omega, Nat.lt_of_lt_of_le (Nat.log2_lt (by omega) |>.mpr (show many.natAbs < 2 ^ 60 by omega)) (by decide)⟩
  by_cases hd : 0 < d
  · rw [if_pos hd]
    refine ⟨by omega, cm d, q _ _ (Int.fmod_nonneg_of_pos _ h1) (Int.fmod_lt_of_pos _ h1) Only.put ⟨cs, a, _, n, f, mput_same, p1, p2, p3, ?_, p5, p6, p7, p8⟩⟩
    rw [Int.fdiv_eq_ediv_of_nonneg _ (by omega)]
    exact Int.ediv_nonneg p4 (by omega)
  · rw [if_neg hd]
    refine ⟨mul_small (by omega) (by decide), ⟨by decide, by decide, by omega⟩, by decide, ⟨by decide, by decide⟩, by omega, q _ _ (Int.fmod_nonneg_of_pos _ h1) (Int.fmod_lt_of_pos _ h1) Only.put ⟨cs, a, d, n, f, mput_same, p1, p2, p3, p4, p5, p6, p7, p8⟩⟩
theorem p__law_draw (K : PySem.W.Frag) : ∀ ds μ Q F, s__law_draw ds μ Q F → ds.length = 2 ∧ w__law_draw K { nx := fun _ μ' => Q .non μ', rt := Q } F (dstart ["_law_pen_here", "_law_many", "_law_cell", "_law_digit", "_law_mixed"] ds) μ := by
  rintro _ μ Q F ⟨p, many, m, rfl, h1, h2, pen, hm, q⟩
  refine ⟨rfl, ?_⟩
  obtain ⟨cs, a, d, n, f, h0, p1, p2, p3, p4, p5, p6, p7, p8⟩ := pen
  have e0 := mput_self h0
  rw [← e0]
  have tail : ∀ (cs : List Int) (a d n f : Int) (c : Option D), 0 ≤ a → a ≤ cs.length → cs.length ≤ 1000000 → 0 ≤ d → 0 ≤ n → n ≤ (m + 1 : Nat) → 0 ≤ f → f < 2147483648 → _ := fun cs a d n f c => @draw_tail K p many m μ Q F (fun _ μ' => Q .non μ') h1 h2 hm q cs a d n f c
  show w__law_draw_0 K { nx := fun δ μ => w__law_draw_1 K { nx := fun δ μ => wSeq (w__law_draw_2 K) (wSeq (w__law_draw_3 K) (w__law_draw_4 K)) { nx := fun _ μ' => Q .non μ', rt := Q } F δ μ, rt := Q } F δ μ, rt := Q } F _ _
  generalize wSeq (w__law_draw_2 K) (wSeq (w__law_draw_3 K) (w__law_draw_4 K)) = tl at tail ⊢
  simp only [w__law_draw_0, w__law_draw_1, wRet, wRetN, wSeq, wNext, wIfS, wAsg, wName, wPar, wDrop, wDPut, wFor, wISeq, wIRng1, wIRng2, wVar, wC, wNil, wCons, wBin, wUn, wCB, wTst, wAnd, wOr, DL.wNot, wAndV, wOrV, wNotV, wIf, wTup, wLst, wLstM, wCall, wGTup, wGCons, wGNil, wBrk, wCnt, wRaise, gI, gU, gOne , DL.gSub, gMul, gMod, gDiv, gPow, gLt, gLe, gGt, gGe, gNeg, gAbs, gMax2, gMin2, gInt2, wChain, wPar3, wSl, wNoPart, wPart, wIEnumA, wIEnumS, wIZipA, wIRng3, wLc, wLcM, wYes, wFld, wAug, wApp, wPop, wRev, wSubG, wMet, wBinO, wUnO, wCallK, gShl, gShr, wListRg1, wTupleRg1, wListRg2, wTupleRg2, wAugS, dstart, List.map_cons, List.map_nil, List.length_cons, List.length_nil, List.replicate, List.cons_append, List.nil_append, List.append_nil, List.getElem?_cons_zero, List.getElem?_cons_succ, List.set_cons_zero, List.set_cons_succ, Option.some.injEq, exists_eq_left', exists_eq_left, D.int.injEq, D.bl.injEq, D.str.injEq, D.tup.injEq, D.lst.injEq, D.obj.injEq, List.cons.injEq, and_true, true_and, Nat.zero_add, Nat.reduceAdd, Nat.reduceSub, decide_eq_true_eq, Bool.not_eq_true', decide_eq_false_iff_not, exists_and_left, exists_and_right, and_assoc, Bool.true_eq_false, Bool.false_eq_true, if_true, if_false, ne_eq, gDGet_put, pen_cells, pen_at, pen_digits, pen_count, pen_fold, put_at, put_digits, put_count, put_fold, mput_same, mput_mput, MO.dct.injEq, keyOf, gAdd_int, gEq_int, pen_len, gLen_lst, gInt_int]
  by_cases hd : (d == 0) = true
  · rw [if_pos hd]
    by_cases ha : a < (List.map D.int cs).length
    · rw [if_pos ha]
      have ha' : a < cs.length := by simpa using ha
      have hx : a.toNat < cs.length := by omega
      rw [gIx_lst]
      refine ⟨.int cs[a.toNat], ?_, ?_⟩
      · unfold atI ixN
        simp only [List.length_map]
        rw [if_pos p1, if_pos ha']
        simp [hx]
      simp only [gDGet_put, pen_cells, pen_at, pen_digits, pen_count, pen_fold, put_at, put_digits, put_count, put_fold, mput_same, mput_mput, MO.dct.injEq, keyOf, gAdd_int, gEq_int, pen_len, gLen_lst, gInt_int, dstart, List.map_cons, List.map_nil, List.length_cons, List.length_nil, List.replicate, List.cons_append, List.nil_append, List.append_nil, List.getElem?_cons_zero, List.getElem?_cons_succ, List.set_cons_zero, List.set_cons_succ, Option.some.injEq, exists_eq_left', exists_eq_left, D.int.injEq, D.bl.injEq, D.str.injEq, D.tup.injEq, D.lst.injEq, D.obj.injEq, List.cons.injEq, and_true, true_and, Nat.zero_add, Nat.reduceAdd, Nat.reduceSub, decide_eq_true_eq, Bool.not_eq_true', decide_eq_false_iff_not, exists_and_left, exists_and_right, and_assoc, Bool.true_eq_false, Bool.false_eq_true, if_true, if_false, ne_eq]
      refine ⟨⟨by decide, by decide, by decide⟩, ?_⟩
      by_cases hc : 10 ^ Int.toNat 18 ≤ cs[a.toNat]
      · rw [if_pos hc]
        exact ⟨⟨by decide, by decide, by decide⟩, tail _ _ _ _ _ _ (by omega) (by omega) p3 (by omega) (by omega) (by omega) p7 p8⟩
      · rw [if_neg hc]
        refine ⟨mul_small (by omega) (by decide), by decide, tail _ _ _ _ _ _ (by omega) (by omega) p3 p4 (by omega) (by omega) (Int.fmod_nonneg_of_pos _ (by decide)) (Int.lt_trans (Int.fmod_lt_of_pos _ (by decide)) (by decide))⟩
    · rw [if_neg ha]
      exact tail _ _ _ _ _ _ p1 p2 p3 p4 (by omega) (by omega) p7 p8
  · rw [if_neg hd]
    exact tail _ _ _ _ _ _ p1 p2 p3 p4 (by omega) (by omega) p7 p8

/-! ### _law_pick, _law_far -/
def s__law_pick : DF := fun ds μ Q _ => ∃ p xs m, (ds = [.obj p, .lst xs] ∨ ds = [.obj p, .tup xs] ∨ ∃ a, ds = [.obj p, .obj a] ∧ μ a = some (.lst xs) ∧ a ≠ p) ∧ 0 < xs.length ∧ xs.length ≤ 1000000 ∧ Pen p μ m ∧ m ≤ 1000000 ∧ ∀ v ∈ xs, ∀ μ', Only p μ μ' → Pen p μ' (m + 1) → Q v μ'
theorem at_nn {α : Type} {xs : List α} {i : Int} (h1 : 0 ≤ i) (h2 : i < xs.length) : ∃ h : i.toNat < xs.length, atI xs i = some xs[i.toNat] := by
  have h : i.toNat < xs.length := by omega
  refine ⟨h, ?_⟩
  unfold atI ixN
  rw [if_pos h1, if_pos h2]
  simp [h]
theorem p__law_pick (K : PySem.W.Frag) : ∀ ds μ Q F, s__law_pick ds μ Q F → ds.length = 2 ∧ w__law_pick K s__law_draw { nx := fun _ μ' => Q .non μ', rt := Q } F (dstart ["_law_pen_here", "_law_some"] ds) μ := by
  rintro _ μ Q F ⟨p, xs, m, e, h1, h2, pen, hm, q⟩
  have fin : ∀ x1 : D, (x1 = .lst xs ∨ x1 = .tup xs ∨ ∃ a, x1 = .obj a ∧ μ a = some (.lst xs) ∧ a ≠ p) → gLen x1 μ fun d μ1 => s__law_draw [.obj p, d] μ1 (fun y μ2 => gIx x1 y μ2 Q) F := by
    rintro x1 (rfl | rfl | ⟨a, rfl, ha, hap⟩)
    · rw [gLen_lst]
      refine ⟨p, _, m, rfl, by omega, by omega, pen, hm, fun v μ' v1 v2 o pn => ?_⟩
      refine gIx_lst.mpr ?_
      obtain ⟨h, e⟩ := at_nn v1 v2
      exact ⟨_, e, q _ (List.getElem_mem h) μ' o pn⟩
    · rw [gLen_tup]
      refine ⟨p, _, m, rfl, by omega, by omega, pen, hm, fun v μ' v1 v2 o pn => ?_⟩
      refine gIx_tup.mpr ?_
      obtain ⟨h, e⟩ := at_nn v1 v2
      exact ⟨_, e, q _ (List.getElem_mem h) μ' o pn⟩
    · refine gLen_obj ha ⟨p, _, m, rfl, by omega, by omega, pen, hm, fun v μ' v1 v2 o pn => ?_⟩
      obtain ⟨h, e⟩ := at_nn v1 v2
      exact gIx_obj ((o a hap).trans ha) e (q _ (List.getElem_mem h) μ' o pn)
  rcases e with rfl | rfl | ⟨a, rfl, ha, hap⟩
  · refine ⟨rfl, ?_⟩
    simp only [w__law_pick, w__law_pick_0, wRet, wRetN, wSeq, wNext, wIfS, wAsg, wName, wPar, wDrop, wDPut, wFor, wISeq, wIRng1, wIRng2, wVar, wC, wNil, wCons, wBin, wUn, wCB, wTst, wAnd, wOr, DL.wNot, wAndV, wOrV, wNotV, wIf, wTup, wLst, wLstM, wCall, wGTup, wGCons, wGNil, wBrk, wCnt, wRaise, gI, gU, gOne , DL.gSub, gMul, gMod, gDiv, gPow, gLt, gLe, gGt, gGe, gNeg, gAbs, gMax2, gMin2, gInt2, wChain, wPar3, wSl, wNoPart, wPart, wIEnumA, wIEnumS, wIZipA, wIRng3, wLc, wLcM, wYes, wFld, wAug, wApp, wPop, wRev, wSubG, wMet, wBinO, wUnO, wCallK, gShl, gShr, wListRg1, wTupleRg1, wListRg2, wTupleRg2, wAugS, dstart, List.map_cons, List.map_nil, List.length_cons, List.length_nil, List.replicate, List.cons_append, List.nil_append, List.append_nil, List.getElem?_cons_zero, List.getElem?_cons_succ, List.set_cons_zero, List.set_cons_succ, Option.some.injEq, exists_eq_left', exists_eq_left, D.int.injEq, D.bl.injEq, D.str.injEq, D.tup.injEq, D.lst.injEq, D.obj.injEq, List.cons.injEq, and_true, true_and, Nat.zero_add, Nat.reduceAdd, Nat.reduceSub, decide_eq_true_eq, Bool.not_eq_true', decide_eq_false_iff_not, exists_and_left, exists_and_right, and_assoc, Bool.true_eq_false, Bool.false_eq_true, if_true, if_false, ne_eq]
    exact fin _ (.inl rfl)
  · refine ⟨rfl, ?_⟩
    simp only [w__law_pick, w__law_pick_0, wRet, wRetN, wSeq, wNext, wIfS, wAsg, wName, wPar, wDrop, wDPut, wFor, wISeq, wIRng1, wIRng2, wVar, wC, wNil, wCons, wBin, wUn, wCB, wTst, wAnd, wOr, DL.wNot, wAndV, wOrV, wNotV, wIf, wTup, wLst, wLstM, wCall, wGTup, wGCons, wGNil, wBrk, wCnt, wRaise, gI, gU, gOne , DL.gSub, gMul, gMod, gDiv, gPow, gLt, gLe, gGt, gGe, gNeg, gAbs, gMax2, gMin2, gInt2, wChain, wPar3, wSl, wNoPart, wPart, wIEnumA, wIEnumS, wIZipA, wIRng3, wLc, wLcM, wYes, wFld, wAug, wApp, wPop, wRev, wSubG, wMet, wBinO, wUnO, wCallK, gShl, gShr, wListRg1, wTupleRg1, wListRg2, wTupleRg2, wAugS, dstart, List.map_cons, List.map_nil, List.length_cons, List.length_nil, List.replicate, List.cons_append, List.nil_append, List.append_nil, List.getElem?_cons_zero, List.getElem?_cons_succ, List.set_cons_zero, List.set_cons_succ, Option.some.injEq, exists_eq_left', exists_eq_left, D.int.injEq, D.bl.injEq, D.str.injEq, D.tup.injEq, D.lst.injEq, D.obj.injEq, List.cons.injEq, and_true, true_and, Nat.zero_add, Nat.reduceAdd, Nat.reduceSub, decide_eq_true_eq, Bool.not_eq_true', decide_eq_false_iff_not, exists_and_left, exists_and_right, and_assoc, Bool.true_eq_false, Bool.false_eq_true, if_true, if_false, ne_eq]
    exact fin _ (.inr (.inl rfl))
  · refine ⟨rfl, ?_⟩
    simp only [w__law_pick, w__law_pick_0, wRet, wRetN, wSeq, wNext, wIfS, wAsg, wName, wPar, wDrop, wDPut, wFor, wISeq, wIRng1, wIRng2, wVar, wC, wNil, wCons, wBin, wUn, wCB, wTst, wAnd, wOr, DL.wNot, wAndV, wOrV, wNotV, wIf, wTup, wLst, wLstM, wCall, wGTup, wGCons, wGNil, wBrk, wCnt, wRaise, gI, gU, gOne , DL.gSub, gMul, gMod, gDiv, gPow, gLt, gLe, gGt, gGe, gNeg, gAbs, gMax2, gMin2, gInt2, wChain, wPar3, wSl, wNoPart, wPart, wIEnumA, wIEnumS, wIZipA, wIRng3, wLc, wLcM, wYes, wFld, wAug, wApp, wPop, wRev, wSubG, wMet, wBinO, wUnO, wCallK, gShl, gShr, wListRg1, wTupleRg1, wListRg2, wTupleRg2, wAugS, dstart, List.map_cons, List.map_nil, List.length_cons, List.length_nil, List.replicate, List.cons_append, List.nil_append, List.append_nil, List.getElem?_cons_zero, List.getElem?_cons_succ, List.set_cons_zero, List.set_cons_succ, Option.some.injEq, exists_eq_left', exists_eq_left, D.int.injEq, D.bl.injEq, D.str.injEq, D.tup.injEq, D.lst.injEq, D.obj.injEq, List.cons.injEq, and_true, true_and, Nat.zero_add, Nat.reduceAdd, Nat.reduceSub, decide_eq_true_eq, Bool.not_eq_true', decide_eq_false_iff_not, exists_and_left, exists_and_right, and_assoc, Bool.true_eq_false, Bool.false_eq_true, if_true, if_false, ne_eq]
    exact fin _ (.inr (.inr ⟨a, rfl, ha, hap⟩))
def s__law_far : DF := fun ds μ Q _ => ∃ p m, ds = [.obj p] ∧ Pen p μ m ∧ m + 10 ≤ 1000000 ∧ ∀ v μ', v.natAbs < 10 ^ 18 → Only p μ μ' → Pen p μ' (m + 10) → Q (.int v) μ'
theorem p__law_far (K : PySem.W.Frag) : ∀ ds μ Q F, s__law_far ds μ Q F → ds.length = 1 ∧ w__law_far K s__law_pick s__law_draw { nx := fun _ μ' => Q .non μ', rt := Q } F (dstart ["_law_pen_here", "_law_found", "_law_k"] ds) μ := by
  rintro _ μ Q F ⟨p, m, rfl, pen, hm, q⟩
  refine ⟨rfl, ?_⟩
  simp only [w__law_far, w__law_far_0, w__law_far_1_0, w__law_far_1, w__law_far_2, wRet, wRetN, wSeq, wNext, wIfS, wAsg, wName, wPar, wDrop, wDPut, wFor, wISeq, wIRng1, wIRng2, wVar, wC, wNil, wCons, wBin, wUn, wCB, wTst, wAnd, wOr, DL.wNot, wAndV, wOrV, wNotV, wIf, wTup, wLst, wLstM, wCall, wGTup, wGCons, wGNil, wBrk, wCnt, wRaise, gI, gU, gOne , DL.gSub, gMul, gMod, gDiv, gPow, gLt, gLe, gGt, gGe, gNeg, gAbs, gMax2, gMin2, gInt2, wChain, wPar3, wSl, wNoPart, wPart, wIEnumA, wIEnumS, wIZipA, wIRng3, wLc, wLcM, wYes, wFld, wAug, wApp, wPop, wRev, wSubG, wMet, wBinO, wUnO, wCallK, gShl, gShr, wListRg1, wTupleRg1, wListRg2, wTupleRg2, wAugS, dstart, List.map_cons, List.map_nil, List.length_cons, List.length_nil, List.replicate, List.cons_append, List.nil_append, List.append_nil, List.getElem?_cons_zero, List.getElem?_cons_succ, List.set_cons_zero, List.set_cons_succ, Option.some.injEq, exists_eq_left', exists_eq_left, D.int.injEq, D.bl.injEq, D.str.injEq, D.tup.injEq, D.lst.injEq, D.obj.injEq, List.cons.injEq, and_true, true_and, Nat.zero_add, Nat.reduceAdd, Nat.reduceSub, decide_eq_true_eq, Bool.not_eq_true', decide_eq_false_iff_not, exists_and_left, exists_and_right, and_assoc, Bool.true_eq_false, Bool.false_eq_true, if_true, if_false, ne_eq]
  refine ⟨by decide, p, _, m, .inl rfl, by decide, by decide, pen, by omega, fun v hv μ1 o1 pen1 => ?_⟩
  obtain ⟨j, rfl, j0, j6⟩ : ∃ j : Nat, v = .int j ∧ 0 ≤ j ∧ j ≤ 6 := by
    simp only [List.mem_cons, List.not_mem_nil, or_false] at hv
    rcases hv with rfl | rfl | rfl | rfl | rfl
    · exact ⟨0, rfl, by decide, by decide⟩
    · exact ⟨1, rfl, by decide, by decide⟩
    · exact ⟨1, rfl, by decide, by decide⟩
    · exact ⟨2, rfl, by decide, by decide⟩
    · exact ⟨6, rfl, by decide, by decide⟩
  refine ⟨j, rfl, by omega, by omega, ?_⟩
  have key : ∀ (js : List D) (g : Int) (n : Nat) (c : Option D) (μ2 : M), js.length + n = j → 0 ≤ g → g < 1000 ^ n → Only p μ μ2 → Pen p μ2 (m + 1 + n) → wLoop Any (wName 2)
                  (wAsg
                    (wBin gAdd (wBin (gI CMulB fun i j => D.int (i * j)) (wVar 1) (wC (D.int 1000)))
                      (wCall s__law_draw (wCons (wVar 0) (wCons (wC (D.int 1000)) wNil))))
                    (wName 1)) js
                  {
                    nx := fun δ' μ' =>
                      ∃ d,
                        δ'[0]? = some (some d) ∧
                          s__law_draw [d, D.int 3] μ'
                            (fun x μ1 =>
                              ∃ i,
                                x = D.int i ∧
                                  if 0 < i then ∃ d, δ'[1]? = some (some d) ∧ Q d μ1
                                  else ∃ d, δ'[1]? = some (some d) ∧ ∃ i, d = D.int i ∧ Q (D.int (-i)) μ1)
                            F,
                    rt := Q }
                  F [some (.obj p), some (D.int g), c] μ2 := by
    intro js
    induction js with
    | nil =>
      intro g n c μ2 e g0 g1 o2 pen2
      have hn : n = j := by simpa using e
      subst hn
      have g18 : g < 10 ^ 18 := Int.lt_of_lt_of_le g1 (by
        rcases (by omega : n = 0 ∨ n = 1 ∨ n = 2 ∨ n = 3 ∨ n = 4 ∨ n = 5 ∨ n = 6) with h | h | h | h | h | h | h <;> subst h <;> decide)
      refine ⟨trivial, .obj p, rfl, p, 3, m + 1 + n, rfl, by decide, by decide, pen2, by omega, fun v μ3 v1 v2 o3 pen3 => ⟨v, rfl, ?_⟩⟩
      have o : Only p μ μ3 := o2.trans o3
      have pn : Pen p μ3 (m + 10) := pen3.mono (by omega)
      split
      · exact ⟨_, rfl, q _ _ (by omega) o pn⟩
      · exact ⟨_, rfl, _, rfl, q _ _ (by omega) o pn⟩
    | cons x js ih =>
      intro g n c μ2 e g0 g1 o2 pen2
      have hlen : js.length + (n + 1) = j := by simp only [List.length_cons] at e; omega
      refine ⟨trivial, ?_⟩
      have g18 : g < 10 ^ 18 := Int.lt_of_lt_of_le g1 (by
        rcases (by omega : n = 0 ∨ n = 1 ∨ n = 2 ∨ n = 3 ∨ n = 4 ∨ n = 5 ∨ n = 6) with h | h | h | h | h | h | h <;> subst h <;> decide)
      simp only [wRet, wRetN, wSeq, wNext, wIfS, wAsg, wName, wPar, wDrop, wDPut, wFor, wISeq, wIRng1, wIRng2, wVar, wC, wNil, wCons, wBin, wUn, wCB, wTst, wAnd, wOr, DL.wNot, wAndV, wOrV, wNotV, wIf, wTup, wLst, wLstM, wCall, wGTup, wGCons, wGNil, wBrk, wCnt, wRaise, gI, gU, gOne , DL.gSub, gMul, gMod, gDiv, gPow, gLt, gLe, gGt, gGe, gNeg, gAbs, gMax2, gMin2, gInt2, wChain, wPar3, wSl, wNoPart, wPart, wIEnumA, wIEnumS, wIZipA, wIRng3, wLc, wLcM, wYes, wFld, wAug, wApp, wPop, wRev, wSubG, wMet, wBinO, wUnO, wCallK, gShl, gShr, wListRg1, wTupleRg1, wListRg2, wTupleRg2, wAugS, dstart, List.map_cons, List.map_nil, List.length_cons, List.length_nil, List.replicate, List.cons_append, List.nil_append, List.append_nil, List.getElem?_cons_zero, List.getElem?_cons_succ, List.set_cons_zero, List.set_cons_succ, Option.some.injEq, exists_eq_left', exists_eq_left, D.int.injEq, D.bl.injEq, D.str.injEq, D.tup.injEq, D.lst.injEq, D.obj.injEq, List.cons.injEq, and_true, true_and, Nat.zero_add, Nat.reduceAdd, Nat.reduceSub, decide_eq_true_eq, Bool.not_eq_true', decide_eq_false_iff_not, exists_and_left, exists_and_right, and_assoc, Bool.true_eq_false, Bool.false_eq_true, if_true, if_false, ne_eq, gAdd_int]
      refine ⟨mul_small (by omega) (by decide), p, 1000, m + 1 + n, rfl, by decide, by decide, pen2, by omega, fun v μ3 v1 v2 o3 pen3 => ?_⟩
      simp only [wRet, wRetN, wSeq, wNext, wIfS, wAsg, wName, wPar, wDrop, wDPut, wFor, wISeq, wIRng1, wIRng2, wVar, wC, wNil, wCons, wBin, wUn, wCB, wTst, wAnd, wOr, DL.wNot, wAndV, wOrV, wNotV, wIf, wTup, wLst, wLstM, wCall, wGTup, wGCons, wGNil, wBrk, wCnt, wRaise, gI, gU, gOne , DL.gSub, gMul, gMod, gDiv, gPow, gLt, gLe, gGt, gGe, gNeg, gAbs, gMax2, gMin2, gInt2, wChain, wPar3, wSl, wNoPart, wPart, wIEnumA, wIEnumS, wIZipA, wIRng3, wLc, wLcM, wYes, wFld, wAug, wApp, wPop, wRev, wSubG, wMet, wBinO, wUnO, wCallK, gShl, gShr, wListRg1, wTupleRg1, wListRg2, wTupleRg2, wAugS, dstart, List.map_cons, List.map_nil, List.length_cons, List.length_nil, List.replicate, List.cons_append, List.nil_append, List.append_nil, List.getElem?_cons_zero, List.getElem?_cons_succ, List.set_cons_zero, List.set_cons_succ, Option.some.injEq, exists_eq_left', exists_eq_left, D.int.injEq, D.bl.injEq, D.str.injEq, D.tup.injEq, D.lst.injEq, D.obj.injEq, List.cons.injEq, and_true, true_and, Nat.zero_add, Nat.reduceAdd, Nat.reduceSub, decide_eq_true_eq, Bool.not_eq_true', decide_eq_false_iff_not, exists_and_left, exists_and_right, and_assoc, Bool.true_eq_false, Bool.false_eq_true, if_true, if_false, ne_eq, gAdd_int]
      refine ih _ (n + 1) _ _ hlen (by omega) ?_ (o2.trans o3) pen3
      rw [Int.pow_succ]
      omega
  refine key _ 0 0 _ _ ?_ (by decide) (by decide) o1 pen1
  simp [intsD]
end NC

set_option maxHeartbeats 2000000
namespace NC
open PySem PySem.Spec PyProof.Rows L2 DL LL PL
/-! ### _law_gcd -/
/-! ### _law_q -/
/-! ### sums, products of the law's ratios -/
/-- sizes that the law's own laps are enough for -/
structure Sl (q : Rat) : Prop where
  n : Lt2 q.num.natAbs 30000
  d : Lt2 q.den 16950
theorem _root_.PL.Sz.l {q : Rat} (h : Sz q) : Sl q := ⟨Lt2.of h.1, Lt2.of h.2⟩
instance {q : Rat} : Coe (Sz q) (Sl q) := ⟨PL.Sz.l⟩
end NC

set_option maxHeartbeats 2000000
namespace NC
open PySem PySem.Spec PyProof.Rows L2 DL LL PL
/-! ### plain data: ==, repr -/
mutual
def plD : D → Bool
  | .non => true
  | .int _ => true
  | .str x => PyData.strOk x
  | .lst xs => plA xs
  | .tup xs => plA xs
  | _ => false
def plA : List D → Bool
  | [] => true
  | d :: ds => plD d && plA ds
end
mutual
def dpD : D → Nat
  | .lst xs => dpA xs + 1
  | .tup xs => dpA xs + 1
  | _ => 0
def dpA : List D → Nat
  | [] => 0
  | d :: ds => max (dpD d) (dpA ds)
end
mutual
theorem pl_py : ∀ {d : D}, plD d = true → ∃ p, d.py = some p ∧ p.canLay0 = true ∧ p.depth = dpD d ∧ p.hasDict = false
  | .non, _ => ⟨_, rfl, rfl, rfl, rfl⟩
  | .int i, _ => ⟨_, rfl, rfl, rfl, rfl⟩
  | .str x, h => ⟨_, rfl, h, rfl, rfl⟩
  | .lst xs, h => by
    obtain ⟨ps, e, c, p, n⟩ := pl_pyA (xs := xs) (by simpa only [plD] using h)
    exact ⟨.list ps, by simp only [D.py, e, Option.map_some], by simpa only [PyData.canLay0] using c, by simp only [PyData.depth, dpD, p], by simpa only [PyData.hasDict] using n⟩
  | .tup xs, h => by
    obtain ⟨ps, e, c, p, n⟩ := pl_pyA (xs := xs) (by simpa only [plD] using h)
    exact ⟨.tuple ps, by simp only [D.py, e, Option.map_some], by simpa only [PyData.canLay0] using c, by simp only [PyData.depth, dpD, p], by simpa only [PyData.hasDict] using n⟩
  | .bl _, h => by cases h
  | .dct _, h => by cases h
  | .ro _, h => by cases h
  | .obj _, h => by cases h
  | .raw _, h => by cases h
  | .exc _ _ _, h => by cases h
  | .lam _ _, h => by cases h
  | .ins _ _, h => by cases h
theorem pl_pyA : ∀ {xs : List D}, plA xs = true → ∃ ps, D.pyA xs = some ps ∧ PyData.canLayAll0 ps = true ∧ PyData.depthAll ps = dpA xs ∧ PyData.hasDictAll ps = false
  | [], _ => ⟨[], rfl, rfl, rfl, rfl⟩
  | x :: xs, h => by
    have h' : plD x = true ∧ plA xs = true := by simpa only [plA, Bool.and_eq_true] using h
    obtain ⟨p, e1, c1, d1, n1⟩ := pl_py h'.1
    obtain ⟨ps, e2, c2, d2, n2⟩ := pl_pyA h'.2
    exact ⟨p :: ps, by simp only [D.pyA, e1, e2], by simp only [PyData.canLayAll0, c1, c2, Bool.and_self], by simp only [PyData.depthAll, dpA, d1, d2], by simp only [PyData.hasDictAll, n1, n2, Bool.or_self]⟩
end
mutual
theorem pl_eqv : ∀ {x y : D} {p q : PyData}, plD x = true → plD y = true → x.py = some p → y.py = some q → (PyData.eqv p q = true ↔ x = y)
  | x, y, p, q, hx, hy, ex, ey => by
    cases x with
    | non =>
      cases ex
      cases y with
      | non => cases ey; simp [PyData.eqv]
      | int j => cases ey; simp [PyData.eqv]
      | str z => cases ey; simp [PyData.eqv]
      | lst ys => obtain ⟨qs, e, _⟩ := pl_pyA (xs := ys) (by simpa only [plD] using hy); simp only [D.py, e, Option.map_some] at ey; cases ey; simp [PyData.eqv]
      | tup ys => obtain ⟨qs, e, _⟩ := pl_pyA (xs := ys) (by simpa only [plD] using hy); simp only [D.py, e, Option.map_some] at ey; cases ey; simp [PyData.eqv]
      | _ => cases hy
    | int i =>
      cases ex
      cases y with
      | non => cases ey; simp [PyData.eqv]
      | int j => cases ey; simp [PyData.eqv]
      | str z => cases ey; simp [PyData.eqv]
      | lst ys => obtain ⟨qs, e, _⟩ := pl_pyA (xs := ys) (by simpa only [plD] using hy); simp only [D.py, e, Option.map_some] at ey; cases ey; simp [PyData.eqv]
      | tup ys => obtain ⟨qs, e, _⟩ := pl_pyA (xs := ys) (by simpa only [plD] using hy); simp only [D.py, e, Option.map_some] at ey; cases ey; simp [PyData.eqv]
      | _ => cases hy
    | str i =>
      cases ex
      cases y with
      | non => cases ey; simp [PyData.eqv]
      | int j => cases ey; simp [PyData.eqv]
      | str z => cases ey; simp [PyData.eqv]
      | lst ys => obtain ⟨qs, e, _⟩ := pl_pyA (xs := ys) (by simpa only [plD] using hy); simp only [D.py, e, Option.map_some] at ey; cases ey; simp [PyData.eqv]
      | tup ys => obtain ⟨qs, e, _⟩ := pl_pyA (xs := ys) (by simpa only [plD] using hy); simp only [D.py, e, Option.map_some] at ey; cases ey; simp [PyData.eqv]
      | _ => cases hy
    | lst xs =>
      have hx' : plA xs = true := by simpa only [plD] using hx
      obtain ⟨ps, e, _⟩ := pl_pyA hx'
      simp only [D.py, e, Option.map_some] at ex
      cases ex
      cases y with
      | non => cases ey; simp [PyData.eqv]
      | int j => cases ey; simp [PyData.eqv]
      | str z => cases ey; simp [PyData.eqv]
      | lst ys =>
        have hy' : plA ys = true := by simpa only [plD] using hy
        obtain ⟨qs, e2, _⟩ := pl_pyA hy'
        simp only [D.py, e2, Option.map_some] at ey
        cases ey
        simp only [PyData.eqv, D.lst.injEq]
        exact pl_eqvA hx' hy' e e2
      | tup ys => obtain ⟨qs, e2, _⟩ := pl_pyA (xs := ys) (by simpa only [plD] using hy); simp only [D.py, e2, Option.map_some] at ey; cases ey; simp [PyData.eqv]
      | _ => cases hy
    | tup xs =>
      have hx' : plA xs = true := by simpa only [plD] using hx
      obtain ⟨ps, e, _⟩ := pl_pyA hx'
      simp only [D.py, e, Option.map_some] at ex
      cases ex
      cases y with
      | non => cases ey; simp [PyData.eqv]
      | int j => cases ey; simp [PyData.eqv]
      | str z => cases ey; simp [PyData.eqv]
      | tup ys =>
        have hy' : plA ys = true := by simpa only [plD] using hy
        obtain ⟨qs, e2, _⟩ := pl_pyA hy'
        simp only [D.py, e2, Option.map_some] at ey
        cases ey
        simp only [PyData.eqv, D.tup.injEq]
        exact pl_eqvA hx' hy' e e2
      | lst ys => obtain ⟨qs, e2, _⟩ := pl_pyA (xs := ys) (by simpa only [plD] using hy); simp only [D.py, e2, Option.map_some] at ey; cases ey; simp [PyData.eqv]
      | _ => cases hy
    | _ => cases hx
theorem pl_eqvA : ∀ {xs ys : List D} {ps qs : List PyData}, plA xs = true → plA ys = true → D.pyA xs = some ps → D.pyA ys = some qs → (PyData.eqvAll ps qs = true ↔ xs = ys)
  | [], ys, ps, qs, hx, hy, ex, ey => by
    cases ex
    cases ys with
    | nil => cases ey; simp [PyData.eqvAll]
    | cons y ys =>
      cases qs with
      | nil =>
        simp only [D.pyA] at ey
        split at ey <;> cases ey
      | cons q r => simp [PyData.eqvAll]
  | x :: xs, ys, ps, qs, hx, hy, ex, ey => by
    have h' : plD x = true ∧ plA xs = true := by simpa only [plA, Bool.and_eq_true] using hx
    obtain ⟨p, e1, _⟩ := pl_py h'.1
    obtain ⟨ps', e2, _⟩ := pl_pyA h'.2
    simp only [D.pyA, e1, e2] at ex
    cases ex
    cases ys with
    | nil => cases ey; simp [PyData.eqvAll]
    | cons y ys =>
      have g' : plD y = true ∧ plA ys = true := by simpa only [plA, Bool.and_eq_true] using hy
      obtain ⟨q, f1, _⟩ := pl_py g'.1
      obtain ⟨qs', f2, _⟩ := pl_pyA g'.2
      simp only [D.pyA, f1, f2] at ey
      cases ey
      simp only [PyData.eqvAll, Bool.and_eq_true, List.cons.injEq]
      rw [pl_eqv h'.1 g'.1 e1 f1, pl_eqvA h'.2 g'.2 e2 f2]
end
/-! ### repr -/
mutual
/-- may be shown: ints below 10 ^ 500 -/
def shD : D → Bool
  | .non => true
  | .bl _ => true
  | .int i => decide (i.natAbs < 10 ^ 500)
  | .str x => PyData.strOk (reprText x)
  | .lst xs => shA xs
  | .tup xs => shA xs
  | _ => false
def shA : List D → Bool
  | [] => true
  | d :: ds => shD d && shA ds
end
mutual
/-- signs at most -/
def lnD : D → Nat
  | .non => 4
  | .bl _ => 5
  | .int _ => 600
  | .str x => (reprText x).length
  | .lst xs => lnA xs + 3
  | .tup xs => lnA xs + 3
  | _ => 0
def lnA : List D → Nat
  | [] => 0
  | d :: ds => lnD d + 2 + lnA ds
end
mutual
theorem sh_py : ∀ {d : D}, shD d = true → ∃ p, d.py = some p ∧ small p = true ∧ bnd p = lnD d ∧ p.depth = dpD d ∧ p.hasDict = false
  | .non, _ => ⟨_, rfl, rfl, rfl, rfl, rfl⟩
  | .bl b, _ => ⟨_, rfl, rfl, rfl, rfl, rfl⟩
  | .int i, h => ⟨_, rfl, h, rfl, rfl, rfl⟩
  | .str x, h => ⟨_, rfl, h, rfl, rfl, rfl⟩
  | .lst xs, h => by
    obtain ⟨ps, e, c, b, p, n⟩ := sh_pyA (xs := xs) (by simpa only [shD] using h)
    exact ⟨.list ps, by simp only [D.py, e, Option.map_some], by simpa only [small] using c, by simp only [bnd, lnD, b], by simp only [PyData.depth, dpD, p], by simpa only [PyData.hasDict] using n⟩
  | .tup xs, h => by
    obtain ⟨ps, e, c, b, p, n⟩ := sh_pyA (xs := xs) (by simpa only [shD] using h)
    exact ⟨.tuple ps, by simp only [D.py, e, Option.map_some], by simpa only [small] using c, by simp only [bnd, lnD, b], by simp only [PyData.depth, dpD, p], by simpa only [PyData.hasDict] using n⟩
  | .dct _, h => by cases h
  | .ro _, h => by cases h
  | .obj _, h => by cases h
  | .raw _, h => by cases h
  | .exc _ _ _, h => by cases h
  | .lam _ _, h => by cases h
  | .ins _ _, h => by cases h
theorem sh_pyA : ∀ {xs : List D}, shA xs = true → ∃ ps, D.pyA xs = some ps ∧ smallA ps = true ∧ bndA ps = lnA xs ∧ PyData.depthAll ps = dpA xs ∧ PyData.hasDictAll ps = false
  | [], _ => ⟨[], rfl, rfl, rfl, rfl, rfl⟩
  | x :: xs, h => by
    have h' : shD x = true ∧ shA xs = true := by simpa only [shA, Bool.and_eq_true] using h
    obtain ⟨p, e1, c1, b1, d1, n1⟩ := sh_py h'.1
    obtain ⟨ps, e2, c2, b2, d2, n2⟩ := sh_pyA h'.2
    exact ⟨p :: ps, by simp only [D.pyA, e1, e2], by simp only [smallA, c1, c2, Bool.and_self], by simp only [bndA, lnA, b1, b2], by simp only [PyData.depthAll, dpA, d1, d2], by simp only [PyData.hasDictAll, n1, n2, Bool.or_self]⟩
end
/-- the text that repr tells -/
def shw (d : D) : Str := match d.py with
  | some p => p.shown
  | none => ""
/-- repr may be asked -/
def showV (d : D) : Prop := ∃ p, d.py = some p ∧ okP p = true ∧ small p = true ∧ p.depth ≤ 60 ∧ bnd p ≤ 1000000
theorem showV.obj {d : D} (h : showV d) : ∀ a, d ≠ .obj a := fun a e => by
  obtain ⟨p, h, _⟩ := h
  rw [e] at h
  cases h
theorem showV.repr {d : D} {μ : M} {Q : DK} (h : showV d) (q : Q (.str (shw d)) μ) : gRepr d μ Q := by
  have ho := h.obj
  obtain ⟨p, h1, h2, h3, h4, h5⟩ := h
  have e : shw d = p.shown := by unfold shw; rw [h1]
  rw [e] at q
  refine repr_ok ?_ h2 h3 h4 h5 q
  cases d with
  | obj a => exact absurd rfl (ho a)
  | _ => exact h1
theorem showV.okT {d : D} (h : showV d) : okT (shw d) := by
  obtain ⟨p, h1, h2, h3, h4, h5⟩ := h
  have e : shw d = p.shown := by unfold shw; rw [h1]
  rw [e]
  exact (shown_small h3).2.2
theorem showV.pl {d : D} (h : showV d) : plD (.str (shw d)) = true := okT_strOk h.okT
/-! ### ratios as data -/
def td (p : List Rat) : D := .tup (p.map qd)
/-- may be shown -/
def Sr (q : Rat) : Prop := q.num.natAbs < 10 ^ 500 ∧ q.den < 10 ^ 500
theorem Sr.sz {q : Rat} (h : Sr q) : Sz q := ⟨Nat.lt_of_lt_of_le h.1 (by decide +kernel), Nat.lt_of_lt_of_le h.2 (by decide +kernel)⟩
end NC

set_option maxHeartbeats 2000000
/-! sizes of ratios by their bottoms and their values -/
namespace PL
theorem q_den_mul (q : Rat) : q * ((q.den : Nat) : Rat) = (q.num : Rat) := by
  have h := Rat.num_divInt_den q
  rw [Rat.divInt_eq_div] at h
  have hd : ((q.den : Nat) : Rat) ≠ 0 := by
    have := q.den_nz
    intro z
    exact this (by exact_mod_cast z)
  have h2 : ((q.den : Int) : Rat) = ((q.den : Nat) : Rat) := by push_cast; rfl
  rw [h2] at h
  conv => lhs; lhs; rw [← h]
  grind
theorem den_dvd {q : Rat} {N : Nat} : q.den ∣ N ↔ ∃ t : Int, q * (N : Rat) = (t : Rat) := by
  constructor
  · rintro ⟨k, rfl⟩
    refine ⟨q.num * k, ?_⟩
    have := q_den_mul q
    push_cast
    grind
  · rintro ⟨t, h⟩
    have h2 : q.num * (N : Int) = t * (q.den : Int) := by
      have e := q_den_mul q
      have : ((q.num * (N : Int) : Int) : Rat) = ((t * (q.den : Int) : Int) : Rat) := by
        push_cast
        grind
      exact_mod_cast this
    have h3 : q.den ∣ q.num.natAbs * N := by
      have h4 : (q.den : Int) ∣ q.num * (N : Int) := ⟨t, by rw [h2, Int.mul_comm]⟩
      have h5 := Int.natAbs_dvd_natAbs.mpr h4
      rwa [Int.natAbs_mul, Int.natAbs_natCast, Int.natAbs_natCast] at h5
    exact Nat.Coprime.dvd_of_dvd_mul_left (Nat.Coprime.symm q.reduced) h3
/-- the bottom divides N, the value is from -V to V -/
structure Bd (N V : Nat) (q : Rat) : Prop where
  dv : q.den ∣ N
  le : q ≤ (V : Rat)
  ge : -(V : Rat) ≤ q
theorem Bd.add {N V W : Nat} {p q : Rat} (a : Bd N V p) (b : Bd N W q) : Bd N (V + W) (p + q) := by
  refine ⟨?_, ?_, ?_⟩
  · obtain ⟨t, ht⟩ := den_dvd.mp a.dv
    obtain ⟨u, hu⟩ := den_dvd.mp b.dv
    exact den_dvd.mpr ⟨t + u, by push_cast; grind⟩
  · have := a.le
    have := b.le
    push_cast
    grind
  · have := a.ge
    have := b.ge
    push_cast
    grind
theorem Bd.neg {N V : Nat} {p : Rat} (a : Bd N V p) : Bd N V (-p) := by
  refine ⟨by simpa using a.dv, ?_, ?_⟩
  · have := a.ge
    grind
  · have := a.le
    grind
theorem Bd.sub {N V W : Nat} {p q : Rat} (a : Bd N V p) (b : Bd N W q) : Bd N (V + W) (p - q) := by
  rw [show p - q = p + -q by grind]
  exact a.add b.neg
theorem mul_le_abs (p q V W : Rat) (h1 : p ≤ V) (h2 : -V ≤ p) (h3 : q ≤ W) (h4 : -W ≤ q) : p * q ≤ V * W := by
  have a := Rat.mul_nonneg (a := V - p) (b := W + q) (by grind) (by grind)
  have b := Rat.mul_nonneg (a := V + p) (b := W - q) (by grind) (by grind)
  grind
theorem Bd.mul {N M V W : Nat} {p q : Rat} (a : Bd N V p) (b : Bd M W q) : Bd (N * M) (V * W) (p * q) := by
  refine ⟨?_, ?_, ?_⟩
  · obtain ⟨t, ht⟩ := den_dvd.mp a.dv
    obtain ⟨u, hu⟩ := den_dvd.mp b.dv
    exact den_dvd.mpr ⟨t * u, by push_cast; grind⟩
  · push_cast
    exact mul_le_abs p q V W a.le a.ge b.le b.ge
  · have := mul_le_abs (-p) q V W (by have := a.ge; grind) (by have := a.le; grind) b.le b.ge
    push_cast
    grind
theorem Bd.mono {N V M W : Nat} {p : Rat} (a : Bd N V p) (h : N ∣ M) (hv : V ≤ W) : Bd M W p := by
  have hc : (V : Rat) ≤ (W : Rat) := by exact_mod_cast hv
  refine ⟨Nat.dvd_trans a.dv h, ?_, ?_⟩
  · have := a.le
    grind
  · have := a.ge
    grind
theorem Bd.int {N : Nat} (i : Int) : Bd N i.natAbs (i : Rat) := by
  refine ⟨by simp, ?_, ?_⟩
  · have : i ≤ ((i.natAbs : Nat) : Int) := by omega
    have := Rat.intCast_le_intCast.mpr this
    push_cast at this
    exact_mod_cast this
  · have : -((i.natAbs : Nat) : Int) ≤ i := by omega
    have := Rat.intCast_le_intCast.mpr this
    push_cast at this
    exact_mod_cast this
theorem Bd.zero {N V : Nat} : Bd N V 0 := (Bd.int (N := N) 0).mono (Nat.dvd_refl _) (by simp)
theorem Bd.num {N V : Nat} {q : Rat} (a : Bd N V q) (hN : 0 < N) : q.num.natAbs ≤ V * N ∧ q.den ≤ N := by
  have hd := Nat.le_of_dvd hN a.dv
  refine ⟨?_, hd⟩
  have e := q_den_mul q
  have hp : (0 : Rat) ≤ ((q.den : Nat) : Rat) := by exact_mod_cast Nat.zero_le _
  have h1 : (q.num : Rat) ≤ ((V * q.den : Nat) : Rat) := by
    have := Rat.mul_nonneg (a := (V : Rat) - q) (b := ((q.den : Nat) : Rat)) (by have := a.le; grind) hp
    push_cast
    grind
  have h2 : -((V * q.den : Nat) : Rat) ≤ (q.num : Rat) := by
    have := Rat.mul_nonneg (a := (V : Rat) + q) (b := ((q.den : Nat) : Rat)) (by have := a.ge; grind) hp
    push_cast
    grind
  have h3 : q.num ≤ ((V * q.den : Nat) : Int) := by exact_mod_cast h1
  have h4 : -((V * q.den : Nat) : Int) ≤ q.num := Rat.intCast_le_intCast.mp (by push_cast; push_cast at h2; exact h2)
  have h5 : V * q.den ≤ V * N := Nat.mul_le_mul_left _ hd
  omega
theorem Bd.sz {N V : Nat} {q : Rat} (a : Bd N V q) (hN : 0 < N) (h1 : N < 2 ^ 6000) (h2 : V < 2 ^ 6000) : Sz q := by
  obtain ⟨b, c⟩ := a.num hN
  refine ⟨Nat.lt_of_le_of_lt b ?_, Nat.lt_of_le_of_lt c (Nat.lt_of_lt_of_le h1 (Nat.pow_le_pow_right (by decide) (by decide)))⟩
  have := Nat.mul_lt_mul'' h2 h1
  rwa [← Nat.pow_add] at this
theorem Bd.of {q : Rat} {N V : Nat} (h1 : q.den ∣ N) (h2 : q.num.natAbs ≤ V * q.den) : Bd N V q := by
  have e := q_den_mul q
  have hp : (0 : Rat) < ((q.den : Nat) : Rat) := by exact_mod_cast den_pos q
  have h3 : (q.num : Rat) ≤ ((V * q.den : Nat) : Rat) := by
    have : q.num ≤ ((V * q.den : Nat) : Int) := by omega
    exact_mod_cast this
  have h4 : -((V * q.den : Nat) : Rat) ≤ (q.num : Rat) := by
    have : -((V * q.den : Nat) : Int) ≤ q.num := by omega
    have := Rat.intCast_le_intCast.mpr this
    push_cast
    push_cast at this
    exact this
  push_cast at h3 h4
  refine ⟨h1, ?_, ?_⟩
  · rcases Rat.le_total (a := q) (b := V) with h | h
    · exact h
    · have := Rat.mul_nonneg (a := q - (V : Rat)) (b := ((q.den : Nat) : Rat)) (by grind) (by grind)
      have z : (q - (V : Rat)) * ((q.den : Nat) : Rat) = 0 := by grind
      rcases Rat.mul_eq_zero.mp z with z | z <;> grind
  · rcases Rat.le_total (a := -(V : Rat)) (b := q) with h | h
    · exact h
    · have := Rat.mul_nonneg (a := -(V : Rat) - q) (b := ((q.den : Nat) : Rat)) (by grind) (by grind)
      have z : (-(V : Rat) - q) * ((q.den : Nat) : Rat) = 0 := by grind
      rcases Rat.mul_eq_zero.mp z with z | z <;> grind
end PL
namespace NC
open PL
end NC

set_option maxHeartbeats 2000000
namespace NC
open PySem PySem.Spec PyProof.Rows L2 DL LL PL
/-! ### list comprehensions -/
theorem cmp_inv {Gd : M → Prop} {tg : DG} {tt : DT} {we : DW} {p : Addr} {δ : DSt} {Q : DK} (ds : List D) {acc : List D} {μ : M} (I : Nat → List D → M → Prop) (h0 : I 0 acc μ) (gd : ∀ i acc μ, I i acc μ → Gd μ ∧ μ p = some (.lst acc))
    (step : ∀ i d, ds[i]? = some d → ∀ acc μ, I i acc μ → ∀ R : List D → M → Prop, (∀ acc' μ', I (i + 1) acc' μ' → R acc' μ') →
      tg d δ μ fun δ1 μ1 => tt δ1 μ1 (fun b μ2 => if b = true then we δ1 μ2 (fun y μ3 => μ3 p = some (.lst acc) ∧ acc.length < 1000000 ∧ R (acc ++ [y]) (mput μ3 p (.lst (acc ++ [y])))) FF else R acc μ2) FF)
    (last : ∀ acc μ, I ds.length acc μ → Q (.lst acc) (mdel μ p)) : wCmp Gd tg tt we p δ ds acc μ Q := by
  have key : ∀ (es : List D) (i : Nat) (acc : List D) (μ : M), (∀ j, es[j]? = ds[i + j]?) → es.length + i = ds.length → I i acc μ → wCmp Gd tg tt we p δ es acc μ Q := by
    intro es
    induction es with
    | nil =>
      intro i acc μ _ hl hI
      have : i = ds.length := by simpa using hl
      subst this
      exact ⟨(gd _ _ _ hI).1, (gd _ _ _ hI).2, last acc μ hI⟩
    | cons e es ih =>
      intro i acc μ hj hl hI
      refine ⟨(gd _ _ _ hI).1, ?_⟩
      refine step i e ?_ acc μ hI (fun acc' μ' => wCmp Gd tg tt we p δ es acc' μ' Q) fun acc' μ' h' => ih (i + 1) acc' μ' (fun j => ?_) (by simp only [List.length_cons] at hl; omega) h'
      · have := hj 0
        simpa using this.symm
      · have := hj (j + 1)
        simp only [List.getElem?_cons_succ] at this
        rw [this]
        congr 1
        omega
  exact key ds 0 acc μ (fun j => by rw [Nat.zero_add]) (by omega) h0
/-- as μ, but for a list at p -/
def Beside (p : Addr) (μ μ' : M) : Prop := (∀ b, b ≠ p → μ' b = μ b) ∧ ∃ acc, μ' p = some (.lst acc)
theorem beside_del {p : Addr} {μ μ' : M} (h : Beside p μ μ') (hp : μ p = none) : mdel μ' p = μ := by
  funext b
  by_cases e : b = p
  · rw [e, mdel_same, hp]
  · rw [mdel_ne e, h.1 b e]
/-- [f d for d in ds], the elements leave all as it is -/
theorem cmp_map {Gd : M → Prop} {tg : DG} {we : DW} {p : Addr} {δ : DSt} {Q : DK} {ds : List D} {μ : M} (f : D → D) (hp : μ p = none) (hl : ds.length ≤ 1000000) (hG : ∀ μ', Beside p μ μ' → Gd μ')
    (el : ∀ d, d ∈ ds → ∀ μ', Beside p μ μ' → ∀ R : D → M → Prop, R (f d) μ' → tg d δ μ' fun δ1 μ1 => we δ1 μ1 R FF)
    (q : Q (.lst (ds.map f)) μ) : wCmp Gd tg wYes we p δ ds [] (mput μ p (.lst [])) Q := by
  refine cmp_inv ds (fun i acc μ' => (∀ b, b ≠ p → μ' b = μ b) ∧ μ' p = some (.lst acc) ∧ acc = (ds.take i).map f) ⟨fun b hb => mput_ne hb, mput_same, rfl⟩ (fun i acc μ' h => ⟨hG μ' ⟨h.1, _, h.2.1⟩, h.2.1⟩) ?_ ?_
  · rintro i d hd acc μ' ⟨h1, h2, h3⟩ R hR
    have hm : d ∈ ds := List.mem_of_getElem? hd
    refine el d hm μ' ⟨h1, _, h2⟩ _ ?_
    have hi : i < ds.length := by
      obtain ⟨h, _⟩ := List.getElem?_eq_some_iff.mp hd
      exact h
    have hlen : acc.length < 1000000 := by
      rw [h3, List.length_map, List.length_take]
      omega
    refine ⟨h2, hlen, hR _ _ ⟨fun b hb => (mput_ne hb).trans (h1 b hb), mput_same, ?_⟩⟩
    rw [h3, List.take_add_one, hd]
    simp
  · rintro acc μ' ⟨h1, h2, h3⟩
    rw [beside_del ⟨h1, _, h2⟩ hp, h3, List.take_length]
    exact q
/-! ### loops over a list without a change -/
end NC

set_option maxHeartbeats 2000000
/-! rows of numbers as polynomials -/
namespace PL
def coef (p : List Rat) (k : Nat) : Rat := p[k]?.getD 0
theorem coef_ge {p : List Rat} {k : Nat} (h : p.length ≤ k) : coef p k = 0 := by
  unfold coef
  rw [List.getElem?_eq_none h]
  rfl
theorem coef_lt {p : List Rat} {k : Nat} (h : k < p.length) : coef p k = p[k] := by
  unfold coef
  rw [List.getElem?_eq_getElem h]
  rfl
/-- without zeros behind -/
def trim : List Rat → List Rat
  | [] => []
  | a :: p => match trim p with
    | [] => if a = 0 then [] else [a]
    | b :: q => a :: b :: q
theorem trim_mem : ∀ {p : List Rat} {c : Rat}, c ∈ trim p → c ∈ p
  | [], _, h => h
  | a :: p, c, h => by
    unfold trim at h
    cases e : trim p with
    | nil =>
      rw [e] at h
      simp only at h
      by_cases ha : a = 0
      · rw [if_pos ha] at h; cases h
      · rw [if_neg ha] at h
        rw [List.mem_singleton.mp h]
        exact List.mem_cons_self ..
    | cons b q =>
      rw [e] at h
      simp only at h
      rcases List.mem_cons.mp h with rfl | h
      · exact List.mem_cons_self ..
      · exact List.mem_cons_of_mem _ (trim_mem (by rw [e]; exact h))
/-- the row of f 0, .., f (n - 1) -/
def mk (n : Nat) (f : Nat → Rat) : List Rat := trim ((List.range n).map f)
theorem mk_mem {n : Nat} {f : Nat → Rat} {c : Rat} (h : c ∈ mk n f) : ∃ k, k < n ∧ f k = c := by
  have := trim_mem h
  obtain ⟨k, hk, e⟩ := List.mem_map.mp this
  exact ⟨k, by simpa using hk, e⟩
/-- f 0 + .. + f (n - 1) -/
def sm : Nat → (Nat → Rat) → Rat
  | 0, _ => 0
  | n + 1, f => sm n f + f n
theorem sm_more {f : Nat → Rat} {n : Nat} : ∀ {m : Nat}, n ≤ m → (∀ i, n ≤ i → i < m → f i = 0) → sm m f = sm n f
  | 0, h, _ => by
    have : n = 0 := by omega
    subst this
    rfl
  | m + 1, h, hz => by
    by_cases e : n = m + 1
    · rw [e]
    · simp only [sm]
      rw [sm_more (m := m) (by omega) fun i h1 h2 => hz i h1 (by omega), hz m (by omega) (by omega)]
      grind
/-- sums, products, .. of rows -/
def padd (p q : List Rat) : List Rat := mk (max p.length q.length) fun k => coef p k + coef q k
def psub (p q : List Rat) : List Rat := mk (max p.length q.length) fun k => coef p k - coef q k
def conv (p q : List Rat) (k : Nat) : Rat := sm (k + 1) fun i => coef p i * coef q (k - i)
def pmul (p q : List Rat) : List Rat := mk (p.length + q.length) (conv p q)
def pslope (p : List Rat) : List Rat := mk (p.length - 1) fun k => ((k + 1 : Nat) : Rat) * coef p (k + 1)
/-- numbers of a row: their sizes -/
def PB (N V : Nat) (p : List Rat) : Prop := ∀ c ∈ p, Bd N V c
theorem PB.coef {N V : Nat} {p : List Rat} (h : PB N V p) (k : Nat) : Bd N V (coef p k) := by
  by_cases hk : k < p.length
  · rw [coef_lt hk]
    exact h _ (List.getElem_mem hk)
  · rw [coef_ge (by omega)]
    exact Bd.zero
theorem PB.mono {N V M W : Nat} {p : List Rat} (h : PB N V p) (hd : N ∣ M) (hv : V ≤ W) : PB M W p := fun c hc => (h c hc).mono hd hv
theorem PB.mk {N V n : Nat} {f : Nat → Rat} (h : ∀ k, k < n → Bd N V (f k)) : PB N V (mk n f) := fun c hc => by
  obtain ⟨k, hk, rfl⟩ := mk_mem hc
  exact h k hk
theorem PB.trim {N V : Nat} {p : List Rat} (h : PB N V p) : PB N V (trim p) := fun c hc => h c (trim_mem hc)
theorem PB.add {N V W : Nat} {p q : List Rat} (h1 : PB N V p) (h2 : PB N W q) : PB N (V + W) (padd p q) := PB.mk fun k _ => (h1.coef k).add (h2.coef k)
theorem PB.sub {N V W : Nat} {p q : List Rat} (h1 : PB N V p) (h2 : PB N W q) : PB N (V + W) (psub p q) := PB.mk fun k _ => (h1.coef k).sub (h2.coef k)
theorem Bd.sm {N V : Nat} {f : Nat → Rat} : ∀ {n : Nat}, (∀ i, i < n → Bd N V (f i)) → Bd N (n * V) (sm n f)
  | 0, _ => by simpa [PL.sm] using (Bd.zero (N := N) (V := 0))
  | n + 1, h => by
    rw [Nat.succ_mul]
    exact (Bd.sm fun i hi => h i (by omega)).add (h n (by omega))
/-- a product's number has at most as many terms as the shorter row -/
theorem conv_some (p q : List Rat) (k : Nat) : ∃ (n : Nat) (f : Nat → Nat), n ≤ p.length ∧ conv p q k = sm n fun i => coef p i * coef q (k - i) := by
  refine ⟨min (k + 1) p.length, id, Nat.min_le_right _ _, ?_⟩
  unfold conv
  exact sm_more (Nat.min_le_left _ _) fun i h1 h2 => by rw [coef_ge (p := p) (by omega)]; grind
theorem PB.conv {N V M W n : Nat} {p q : List Rat} (h1 : PB N V p) (h2 : PB M W q) (hn : p.length ≤ n) (k : Nat) : Bd (N * M) (n * (V * W)) (conv p q k) := by
  obtain ⟨m, _, hm, e⟩ := conv_some p q k
  rw [e]
  exact (Bd.sm fun i _ => (h1.coef i).mul (h2.coef (k - i))).mono (Nat.dvd_refl _) (Nat.mul_le_mul_right _ (by omega))
theorem PB.mul {N V M W n : Nat} {p q : List Rat} (h1 : PB N V p) (h2 : PB M W q) (hn : p.length ≤ n) : PB (N * M) (n * (V * W)) (pmul p q) := PB.mk fun k _ => h1.conv h2 hn k
theorem PB.slope {N V n : Nat} {p : List Rat} (h : PB N V p) (hn : p.length ≤ n) : PB N (n * V) (pslope p) := PB.mk fun k hk => by
  have e := ((Bd.int (N := 1) ((k + 1 : Nat) : Int)).mul (h.coef (k + 1)))
  rw [Nat.one_mul] at e
  have e2 : (((k + 1 : Nat) : Int) : Rat) = ((k + 1 : Nat) : Rat) := by push_cast; rfl
  rw [e2] at e
  exact e.mono (Nat.dvd_refl _) (Nat.mul_le_mul_right _ (by omega))
end PL

set_option maxHeartbeats 2000000
namespace NC
open PySem PySem.Spec PyProof.Rows L2 DL LL PL
/-! ### rows as they are handed in -/
/-! ### Poly -/
def po (C : Addr) (p : List Rat) : D := .ins C [("numbers", td p)]
/-! ### == -/
end NC

set_option maxHeartbeats 2000000
namespace NC
open PySem PySem.Spec PyProof.Rows L2 DL LL PL
/-! ### own operators on polynomials -/
section
variable {C : Addr} {wa wr : DF} {p q : List Rat} {μ : M} {Q : DK} {F : FK}
end
/-! ### poly_told -/
/-! ### summed -/
/-- the two rows may be added up and multiplied -/
def Pair (p r : List Rat) : Prop := p.length ≤ 400 ∧ r.length ≤ 400 ∧ ∃ N V M W : Nat, 0 < N ∧ 0 < M ∧ PB N V p ∧ PB M W r ∧ N * M * (400 * (V + 1) * (W + 1)) < 2 ^ 6000
theorem Pair.symm {p r : List Rat} (h : Pair p r) : Pair r p := by
  obtain ⟨a, b, N, V, M, W, h1, h2, h3, h4, h5⟩ := h
  refine ⟨b, a, M, W, N, V, h2, h1, h4, h3, ?_⟩
  have e : M * N * (400 * (W + 1) * (V + 1)) = N * M * (400 * (V + 1) * (W + 1)) := by
    rw [Nat.mul_comm M N, Nat.mul_right_comm 400]
  rw [e]
  exact h5
theorem nat_ge {N M V W X : Nat} (h1 : 0 < N) (h2 : 0 < M) (h : N * M * (400 * (V + 1) * (W + 1)) < X) : N * M < X ∧ N < X ∧ M < X ∧ V < X ∧ W < X ∧ V + W < X ∧ 400 * (V * W) < X ∧ V * W < X := by
  have a1 : 0 < N * M := Nat.mul_pos h1 h2
  have a2 : N ≤ N * M := Nat.le_mul_of_pos_right _ h2
  have a3 : M ≤ N * M := Nat.le_mul_of_pos_left _ h1
  have e : 400 * (V + 1) * (W + 1) = 400 * (V * W) + 400 * V + 400 * W + 400 := by grind
  have b1 : 400 * (V + 1) * (W + 1) ≤ N * M * (400 * (V + 1) * (W + 1)) := Nat.le_mul_of_pos_left _ a1
  have b2 : N * M ≤ N * M * (400 * (V + 1) * (W + 1)) := Nat.le_mul_of_pos_right _ (by rw [e]; omega)
  generalize N * M * (400 * (V + 1) * (W + 1)) = Y at *
  rw [e] at b1
  omega
theorem Pair.sz {p r : List Rat} (h : Pair p r) : (∀ k, Sz (coef p k)) ∧ (∀ k, Sz (coef r k)) ∧ (∀ k, Sz (coef p k + coef r k)) ∧ (∀ k, Sz (coef p k - coef r k)) ∧ (∀ i j, Sz (coef p i * coef r j)) ∧ ∀ (n : Nat) (f g : Nat → Nat), n ≤ 400 → Sz (sm n fun i => coef p (f i) * coef r (g i)) := by
  obtain ⟨a, b, N, V, M, W, h1, h2, h3, h4, h5⟩ := h
  obtain ⟨c1, c2, c3, c4, c5, c6, c7, c8⟩ := nat_ge h1 h2 h5
  have hp := Nat.mul_pos h1 h2
  have d1 : PB (N * M) V p := h3.mono (Nat.dvd_mul_right _ _) (Nat.le_refl _)
  have d2 : PB (N * M) W r := h4.mono (Nat.dvd_mul_left _ _) (Nat.le_refl _)
  refine ⟨fun k => (h3.coef k).sz h1 c2 c4, fun k => (h4.coef k).sz h2 c3 c5, fun k => ((d1.coef k).add (d2.coef k)).sz hp c1 c6, fun k => ((d1.coef k).sub (d2.coef k)).sz hp c1 c6, fun i j => ((h3.coef i).mul (h4.coef j)).sz hp c1 c8, fun n f g hn => ?_⟩
  refine (Bd.sm fun i _ => (h3.coef (f i)).mul (h4.coef (g i))).sz hp c1 (Nat.lt_of_le_of_lt (Nat.mul_le_mul_right _ hn) c7)
theorem Sz.zero : Sz 0 := ⟨by decide, by decide⟩
/-! ### + and - -/
/-! ### the opposite -/
theorem _root_.PL.Wz.neg {q : Rat} (h : Wz q) : Wz (-q) := ⟨by simpa using h.1, by simpa using h.2⟩
/-! ### products -/
end NC

set_option maxHeartbeats 2000000
/-! values of rows, rows moved -/
namespace PL
def hB (W V : Nat) : Nat → Nat
  | 0 => 0
  | j + 1 => hB W V j * W + V
theorem PB.tail {N V : Nat} {c : Rat} {p : List Rat} (h : PB N V (c :: p)) : PB N V p := fun d hd => h d (List.mem_cons_of_mem _ hd)
theorem PB.head {N V : Nat} {c : Rat} {p : List Rat} (h : PB N V (c :: p)) : Bd N V c := h c (List.mem_cons_self ..)
end PL

set_option maxHeartbeats 2000000
namespace NC
open PySem PySem.Spec PyProof.Rows L2 DL LL PL
/-! ### divisor_of -/
/-! ### Poly.at -/
/-- the value at s may be asked for -/
structure Yz (q : Rat) : Prop where
  n : Lt2 q.num.natAbs 1200000
  d : Lt2 q.den 1200000
theorem _root_.PL.Sz.y {q : Rat} (h : Sz q) : Yz q := ⟨Lt2.of h.1, Lt2.of h.2⟩
theorem Yz.w {q : Rat} (h : Yz q) : Wz q := ⟨h.1.up, h.2.up⟩
/-! ### slope, moved -/
end NC

set_option maxHeartbeats 2000000
namespace NC
open PySem PySem.Spec PyProof.Rows L2 DL LL PL
/-! ### drawn ratios -/
def N99 : Nat := 69720375229712477164533808935312303556800
/-- a drawn ratio -/
structure Dr (most : Nat) (q : Rat) : Prop where
  dv : q.den ∣ N99
  dl : q.den ≤ 100
  bd : Bd q.den most q
/-! ### a ratio as it is passed -/
/-! ### without zeros behind -/
/-! ### sums, products -/
theorem Sz.one : Sz 1 := ⟨by decide, by decide⟩
/-- the first i rows of the product -/
def part (p r : List Rat) (i k : Nat) : Rat := sm i fun a => coef p a * coef r (if a ≤ k then k - a else r.length)
/-! ### values, slopes, rows moved -/
end NC

set_option maxHeartbeats 2000000
namespace NC
open PySem PySem.Spec PyProof.Rows L2 DL LL PL
/-! ### elements that are drawn, one by one -/
inductive All2 (E : D → D → Prop) : List D → List D → Prop
  | nil : All2 E [] []
  | cons {x y : D} {xs ys : List D} : E x y → All2 E xs ys → All2 E (x :: xs) (y :: ys)
theorem All2.len {E : D → D → Prop} : ∀ {xs ys : List D}, All2 E xs ys → xs.length = ys.length
  | _, _, .nil => rfl
  | _, _, .cons _ r => by simp only [List.length_cons, r.len]
/-! ### polynomials, handed in -/
/-! ### drawn polynomials -/
end NC

set_option maxHeartbeats 2000000
namespace NC
open PySem PySem.Spec PyProof.Rows L2 DL LL PL
/-! ### _law_why -/
/-! ### _law_any -/
/-! ### _law_some_ratio -/
/-! ### the law's lap -/
/-- behind a draw -/
structure Go (T : List (Addr × Str)) (p : Addr) (μ : M) (m : Nat) : Prop where
  pen : Pen p μ m
  tab : TabM T μ
theorem Go.go {T : List (Addr × Str)} {p : Addr} {μ μ' : M} {m m' : Nat} (h : Go T p μ m) (o : Only p μ μ') (pn : Pen p μ' m') : Go T p μ' m' := ⟨pn, Pen.tab h.tab o h.pen pn⟩
/-- the law's promise -/
def s_law (T : List (Addr × Str)) : DF := fun ds μ Q _ => ∃ ns : List Int, ds = [.ro (ns.map .int)] ∧ ns.length ≤ 63 ∧ TabM T μ ∧ ∀ μ', Q (.bl true) μ'
theorem law_due {T : List (Addr × Str)} (μ : M) (ns : List Int) (h : ns.length ≤ 63) (_ : ∀ z ∈ ns, Builtin.Int.intBits z ≤ 1048576) (t : TabM T μ) : s_law T [.ro (ns.map D.int)] μ (fun d _ => d = .bl true) fun _ _ => False := ⟨ns, rfl, h, t, fun _ => rfl⟩
end NC

set_option maxHeartbeats 2000000
namespace NC
open PySem PySem.Spec PyProof.Rows L2 DL LL PL
def w__law_kinds_0 (K : PySem.W.Frag) (a_BadInterval a_BadLine a_BadName a_BadNumber a_BadRow a_BadText a_Fewer a_NoName a_NotKept a_NothingToRedo a_NothingToUndo a_Pole a_TakenName a_TooLarge a_TooMany a_TooWide a_Unlike : Addr) : DS := (wAsg (wLst (wCons (wCB (gIsE K) (wCons (wVar 0) (wCons (wC (.raw (.ref a_BadText))) wNil))) (wCons (wCB (gIsE K) (wCons (wVar 0) (wCons (wC (.raw (.ref a_BadLine))) wNil))) (wCons (wCB (gIsE K) (wCons (wVar 0) (wCons (wC (.raw (.ref a_BadNumber))) wNil))) (wCons (wCB (gIsE K) (wCons (wVar 0) (wCons (wC (.raw (.ref a_BadRow))) wNil))) wNil))))) (wName 1))
def w__law_kinds_1 (K : PySem.W.Frag) (a_BadInterval a_BadLine a_BadName a_BadNumber a_BadRow a_BadText a_Fewer a_NoName a_NotKept a_NothingToRedo a_NothingToUndo a_Pole a_TakenName a_TooLarge a_TooMany a_TooWide a_Unlike : Addr) : DS := (wAsg (wBin gAdd (wVar 1) (wLst (wCons (wCB (gIsE K) (wCons (wVar 0) (wCons (wC (.raw (.ref a_BadInterval))) wNil))) (wCons (wCB (gIsE K) (wCons (wVar 0) (wCons (wC (.raw (.ref a_BadName))) wNil))) (wCons (wCB (gIsE K) (wCons (wVar 0) (wCons (wC (.raw (.ref a_Unlike))) wNil))) (wCons (wCB (gIsE K) (wCons (wVar 0) (wCons (wC (.raw (.ref a_TooMany))) wNil))) wNil)))))) (wName 1))
def w__law_kinds_2 (K : PySem.W.Frag) (a_BadInterval a_BadLine a_BadName a_BadNumber a_BadRow a_BadText a_Fewer a_NoName a_NotKept a_NothingToRedo a_NothingToUndo a_Pole a_TakenName a_TooLarge a_TooMany a_TooWide a_Unlike : Addr) : DS := (wAsg (wBin gAdd (wVar 1) (wLst (wCons (wCB (gIsE K) (wCons (wVar 0) (wCons (wC (.raw (.ref a_TooLarge))) wNil))) (wCons (wCB (gIsE K) (wCons (wVar 0) (wCons (wC (.raw (.ref a_TooWide))) wNil))) (wCons (wCB (gIsE K) (wCons (wVar 0) (wCons (wC (.raw (.ref a_Pole))) wNil))) (wCons (wCB (gIsE K) (wCons (wVar 0) (wCons (wC (.raw (.ref a_Fewer))) wNil))) wNil)))))) (wName 1))
def w__law_kinds_3 (K : PySem.W.Frag) (a_BadInterval a_BadLine a_BadName a_BadNumber a_BadRow a_BadText a_Fewer a_NoName a_NotKept a_NothingToRedo a_NothingToUndo a_Pole a_TakenName a_TooLarge a_TooMany a_TooWide a_Unlike : Addr) : DS := (wAsg (wBin gAdd (wVar 1) (wLst (wCons (wCB (gIsE K) (wCons (wVar 0) (wCons (wC (.raw (.ref a_NoName))) wNil))) (wCons (wCB (gIsE K) (wCons (wVar 0) (wCons (wC (.raw (.ref a_TakenName))) wNil))) (wCons (wCB (gIsE K) (wCons (wVar 0) (wCons (wC (.raw (.ref a_NotKept))) wNil))) wNil))))) (wName 1))
def w__law_kinds_4 (K : PySem.W.Frag) (a_BadInterval a_BadLine a_BadName a_BadNumber a_BadRow a_BadText a_Fewer a_NoName a_NotKept a_NothingToRedo a_NothingToUndo a_Pole a_TakenName a_TooLarge a_TooMany a_TooWide a_Unlike : Addr) : DS := (wRet (wBin gAdd (wVar 1) (wLst (wCons (wCB (gIsE K) (wCons (wVar 0) (wCons (wC (.raw (.ref a_NothingToUndo))) wNil))) (wCons (wCB (gIsE K) (wCons (wVar 0) (wCons (wC (.raw (.ref a_NothingToRedo))) wNil))) wNil)))))
def w__law_kinds (K : PySem.W.Frag) (a_BadInterval a_BadLine a_BadName a_BadNumber a_BadRow a_BadText a_Fewer a_NoName a_NotKept a_NothingToRedo a_NothingToUndo a_Pole a_TakenName a_TooLarge a_TooMany a_TooWide a_Unlike : Addr) : DS := (wSeq (w__law_kinds_0 K a_BadInterval a_BadLine a_BadName a_BadNumber a_BadRow a_BadText a_Fewer a_NoName a_NotKept a_NothingToRedo a_NothingToUndo a_Pole a_TakenName a_TooLarge a_TooMany a_TooWide a_Unlike) (wSeq (w__law_kinds_1 K a_BadInterval a_BadLine a_BadName a_BadNumber a_BadRow a_BadText a_Fewer a_NoName a_NotKept a_NothingToRedo a_NothingToUndo a_Pole a_TakenName a_TooLarge a_TooMany a_TooWide a_Unlike) (wSeq (w__law_kinds_2 K a_BadInterval a_BadLine a_BadName a_BadNumber a_BadRow a_BadText a_Fewer a_NoName a_NotKept a_NothingToRedo a_NothingToUndo a_Pole a_TakenName a_TooLarge a_TooMany a_TooWide a_Unlike) (wSeq (w__law_kinds_3 K a_BadInterval a_BadLine a_BadName a_BadNumber a_BadRow a_BadText a_Fewer a_NoName a_NotKept a_NothingToRedo a_NothingToUndo a_Pole a_TakenName a_TooLarge a_TooMany a_TooWide a_Unlike) (w__law_kinds_4 K a_BadInterval a_BadLine a_BadName a_BadNumber a_BadRow a_BadText a_Fewer a_NoName a_NotKept a_NothingToRedo a_NothingToUndo a_Pole a_TakenName a_TooLarge a_TooMany a_TooWide a_Unlike)))))
def w__law_objects_0 (K : PySem.W.Frag) (a_BadInterval a_BadLine a_BadName a_BadNumber a_BadRow a_BadText a_Fewer a_NoName a_NotKept a_NothingToRedo a_NothingToUndo a_Pole a_TakenName a_TooLarge a_TooMany a_TooWide a_Unlike : Addr) : DS := (wAsg (wLst (wCons (wErr K a_BadText ["column"] (wCons (wVar 0) wNil)) (wCons (wErr K a_BadLine ["line", "column"] (wCons (wVar 0) (wCons (wVar 1) wNil))) (wCons (wErr K a_BadNumber ["what", "number"] (wCons (wVar 0) (wCons (wVar 1) wNil))) (wCons (wErr K a_BadRow ["row"] (wCons (wVar 0) wNil)) (wCons (wErr K a_BadInterval ["low", "high"] (wCons (wVar 0) (wCons (wVar 1) wNil))) (wCons (wErr K a_BadName ["name"] (wCons (wVar 0) wNil)) (wCons (wErr K a_Unlike ["what"] (wCons (wVar 0) wNil)) wNil)))))))) (wName 3))
def w__law_objects_1 (K : PySem.W.Frag) (a_BadInterval a_BadLine a_BadName a_BadNumber a_BadRow a_BadText a_Fewer a_NoName a_NotKept a_NothingToRedo a_NothingToUndo a_Pole a_TakenName a_TooLarge a_TooMany a_TooWide a_Unlike : Addr) : DS := (wAsg (wBin gAdd (wVar 3) (wLst (wCons (wErr K a_TooMany ["what", "limit"] (wCons (wVar 0) (wCons (wVar 1) wNil))) (wCons (wErr K a_TooLarge ["what", "number", "limit"] (wCons (wVar 0) (wCons (wVar 1) (wCons (wVar 2) wNil)))) (wCons (wErr0 K a_TooWide) (wCons (wErr0 K a_Pole) (wCons (wErr K a_Fewer ["what"] (wCons (wVar 0) wNil)) (wCons (wErr K a_NoName ["name"] (wCons (wVar 0) wNil)) (wCons (wErr K a_TakenName ["name"] (wCons (wVar 0) wNil)) wNil))))))))) (wName 3))
def w__law_objects_2 (K : PySem.W.Frag) (a_BadInterval a_BadLine a_BadName a_BadNumber a_BadRow a_BadText a_Fewer a_NoName a_NotKept a_NothingToRedo a_NothingToUndo a_Pole a_TakenName a_TooLarge a_TooMany a_TooWide a_Unlike : Addr) : DS := (wRet (wBin gAdd (wVar 3) (wLst (wCons (wErr K a_NotKept ["promise", "witness"] (wCons (wVar 0) (wCons (wVar 1) wNil))) (wCons (wErr0 K a_NothingToUndo) (wCons (wErr0 K a_NothingToRedo) wNil))))))
def w__law_objects (K : PySem.W.Frag) (a_BadInterval a_BadLine a_BadName a_BadNumber a_BadRow a_BadText a_Fewer a_NoName a_NotKept a_NothingToRedo a_NothingToUndo a_Pole a_TakenName a_TooLarge a_TooMany a_TooWide a_Unlike : Addr) : DS := (wSeq (w__law_objects_0 K a_BadInterval a_BadLine a_BadName a_BadNumber a_BadRow a_BadText a_Fewer a_NoName a_NotKept a_NothingToRedo a_NothingToUndo a_Pole a_TakenName a_TooLarge a_TooMany a_TooWide a_Unlike) (wSeq (w__law_objects_1 K a_BadInterval a_BadLine a_BadName a_BadNumber a_BadRow a_BadText a_Fewer a_NoName a_NotKept a_NothingToRedo a_NothingToUndo a_Pole a_TakenName a_TooLarge a_TooMany a_TooWide a_Unlike) (w__law_objects_2 K a_BadInterval a_BadLine a_BadName a_BadNumber a_BadRow a_BadText a_Fewer a_NoName a_NotKept a_NothingToRedo a_NothingToUndo a_Pole a_TakenName a_TooLarge a_TooMany a_TooWide a_Unlike)))
def w__law_fields_0 (K : PySem.W.Frag) (a_BadInterval a_BadLine a_BadName a_BadNumber a_BadRow a_BadText a_Fewer a_NoName a_NotKept a_TakenName a_TooLarge a_TooMany a_Unlike : Addr) : DS := (wAsg (wLst (wCons (wLst (wCons (wErF K [a_BadText, a_BadLine] "column" (wBin gIx (wVar 0) (wC (.int 0)))) wNil)) (wCons (wLst (wCons (wErF K [a_BadLine] "line" (wBin gIx (wVar 0) (wC (.int 1)))) (wCons (wErF K [a_BadText, a_BadLine] "column" (wBin gIx (wVar 0) (wC (.int 1)))) wNil))) (wCons (wLst (wCons (wErF K [a_BadNumber, a_Unlike, a_TooMany, a_TooLarge, a_Fewer] "what" (wBin gIx (wVar 0) (wC (.int 2)))) (wCons (wErF K [a_BadNumber, a_TooLarge] "number" (wBin gIx (wVar 0) (wC (.int 2)))) wNil))) (wCons (wLst (wCons (wErF K [a_BadRow] "row" (wBin gIx (wVar 0) (wC (.int 3)))) wNil)) wNil))))) (wName 1))
def w__law_fields_1 (K : PySem.W.Frag) (a_BadInterval a_BadLine a_BadName a_BadNumber a_BadRow a_BadText a_Fewer a_NoName a_NotKept a_TakenName a_TooLarge a_TooMany a_Unlike : Addr) : DS := (wAsg (wBin gAdd (wVar 1) (wLst (wCons (wLst (wCons (wErF K [a_BadInterval] "low" (wBin gIx (wVar 0) (wC (.int 4)))) (wCons (wErF K [a_BadInterval] "high" (wBin gIx (wVar 0) (wC (.int 4)))) wNil))) (wCons (wLst (wCons (wErF K [a_BadName, a_NoName, a_TakenName] "name" (wBin gIx (wVar 0) (wC (.int 5)))) wNil)) (wCons (wLst (wCons (wErF K [a_BadNumber, a_Unlike, a_TooMany, a_TooLarge, a_Fewer] "what" (wBin gIx (wVar 0) (wC (.int 6)))) wNil)) (wCons (wLst (wCons (wErF K [a_BadNumber, a_Unlike, a_TooMany, a_TooLarge, a_Fewer] "what" (wBin gIx (wVar 0) (wC (.int 7)))) (wCons (wErF K [a_TooMany, a_TooLarge] "limit" (wBin gIx (wVar 0) (wC (.int 7)))) wNil))) wNil)))))) (wName 1))
def w__law_fields_2 (K : PySem.W.Frag) (a_BadInterval a_BadLine a_BadName a_BadNumber a_BadRow a_BadText a_Fewer a_NoName a_NotKept a_TakenName a_TooLarge a_TooMany a_Unlike : Addr) : DS := (wAsg (wBin gAdd (wVar 1) (wLst (wCons (wLst (wCons (wErF K [a_BadNumber, a_Unlike, a_TooMany, a_TooLarge, a_Fewer] "what" (wBin gIx (wVar 0) (wC (.int 8)))) (wCons (wErF K [a_BadNumber, a_TooLarge] "number" (wBin gIx (wVar 0) (wC (.int 8)))) (wCons (wErF K [a_TooMany, a_TooLarge] "limit" (wBin gIx (wVar 0) (wC (.int 8)))) wNil)))) (wCons (wLst wNil) (wCons (wLst wNil) (wCons (wLst (wCons (wErF K [a_BadNumber, a_Unlike, a_TooMany, a_TooLarge, a_Fewer] "what" (wBin gIx (wVar 0) (wC (.int 11)))) wNil)) (wCons (wLst (wCons (wErF K [a_BadName, a_NoName, a_TakenName] "name" (wBin gIx (wVar 0) (wC (.int 12)))) wNil)) wNil))))))) (wName 1))
def w__law_fields_3 (K : PySem.W.Frag) (a_BadInterval a_BadLine a_BadName a_BadNumber a_BadRow a_BadText a_Fewer a_NoName a_NotKept a_TakenName a_TooLarge a_TooMany a_Unlike : Addr) : DS := (wRet (wBin gAdd (wVar 1) (wLst (wCons (wLst (wCons (wErF K [a_BadName, a_NoName, a_TakenName] "name" (wBin gIx (wVar 0) (wC (.int 13)))) wNil)) (wCons (wLst (wCons (wErF K [a_NotKept] "promise" (wBin gIx (wVar 0) (wC (.int 14)))) (wCons (wErF K [a_NotKept] "witness" (wBin gIx (wVar 0) (wC (.int 14)))) wNil))) (wCons (wLst wNil) (wCons (wLst wNil) wNil)))))))
def w__law_fields (K : PySem.W.Frag) (a_BadInterval a_BadLine a_BadName a_BadNumber a_BadRow a_BadText a_Fewer a_NoName a_NotKept a_TakenName a_TooLarge a_TooMany a_Unlike : Addr) : DS := (wSeq (w__law_fields_0 K a_BadInterval a_BadLine a_BadName a_BadNumber a_BadRow a_BadText a_Fewer a_NoName a_NotKept a_TakenName a_TooLarge a_TooMany a_Unlike) (wSeq (w__law_fields_1 K a_BadInterval a_BadLine a_BadName a_BadNumber a_BadRow a_BadText a_Fewer a_NoName a_NotKept a_TakenName a_TooLarge a_TooMany a_Unlike) (wSeq (w__law_fields_2 K a_BadInterval a_BadLine a_BadName a_BadNumber a_BadRow a_BadText a_Fewer a_NoName a_NotKept a_TakenName a_TooLarge a_TooMany a_Unlike) (w__law_fields_3 K a_BadInterval a_BadLine a_BadName a_BadNumber a_BadRow a_BadText a_Fewer a_NoName a_NotKept a_TakenName a_TooLarge a_TooMany a_Unlike))))
def w_law_0 (K : PySem.W.Frag) (a_CurveError : Addr) (s__law_pen s__law_far s__law_pick s__law_objects s__law_kinds s__law_fields : DF) : DS := (wAsg (wCall s__law_pen (wCons (wVar 0) wNil)) (wName 1))
def w_law_1 (K : PySem.W.Frag) (a_CurveError : Addr) (s__law_pen s__law_far s__law_pick s__law_objects s__law_kinds s__law_fields : DF) : DS := (wAsg (wLstM wNil) (wName 2))
def w_law_2_0 (K : PySem.W.Frag) (a_CurveError : Addr) (s__law_pen s__law_far s__law_pick s__law_objects s__law_kinds s__law_fields : DF) : DS := (wAsg (wCall s__law_far (wCons (wVar 1) wNil)) (wName 4))
def w_law_2_1 (K : PySem.W.Frag) (a_CurveError : Addr) (s__law_pen s__law_far s__law_pick s__law_objects s__law_kinds s__law_fields : DF) : DS := (wDrop (wApp (wVar 2) (wCall s__law_pick (wCons (wVar 1) (wCons (wLst (wCons (wVar 4) (wCons (wUn gNeg (wVar 4)) (wCons (wBin gAdd (wC (.str "x")) (wCB (gOne gStr) (wCons (wVar 4) wNil))) (wCons (wC .non) (wCons (wTup (wCons (wVar 4) (wCons (wC (.str "a")) wNil))) (wCons (wLst (wCons (wVar 4) (wCons (wC .non) wNil))) (wCons (wC (.bl true)) (wCons (wC (.str "")) (wCons (wDct (((wC (.str "a")), (wVar 4)) :: [])) wNil)))))))))) wNil)))))
def w_law_2 (K : PySem.W.Frag) (a_CurveError : Addr) (s__law_pen s__law_far s__law_pick s__law_objects s__law_kinds s__law_fields : DF) : DS := (wFor (wIRng1 (wCons (wC (.int 3)) wNil)) (wName 3) (wSeq (w_law_2_0 K a_CurveError s__law_pen s__law_far s__law_pick s__law_objects s__law_kinds s__law_fields) (w_law_2_1 K a_CurveError s__law_pen s__law_far s__law_pick s__law_objects s__law_kinds s__law_fields)))
def w_law_3 (K : PySem.W.Frag) (a_CurveError : Addr) (s__law_pen s__law_far s__law_pick s__law_objects s__law_kinds s__law_fields : DF) : DS := (wAsg (wCall s__law_objects (wCons (wBin gIx (wVar 2) (wC (.int 0))) (wCons (wBin gIx (wVar 2) (wC (.int 1))) (wCons (wBin gIx (wVar 2) (wC (.int 2))) wNil)))) (wName 5))
def w_law_4_0 (K : PySem.W.Frag) (a_CurveError : Addr) (s__law_pen s__law_far s__law_pick s__law_objects s__law_kinds s__law_fields : DF) : DS := (wIfS (wOr (wNot (wTst (wCB (gIsE K) (wCons (wVar 6) (wCons (wC (.raw (.ref a_CurveError))) wNil))))) (wNot (wTst (wCB (gIsE K) (wCons (wVar 6) (wCons (wC (.raw (.ty "ValueError"))) wNil)))))) (wRet (wC (.bl false))) wNext)
def w_law_4_1 (K : PySem.W.Frag) (a_CurveError : Addr) (s__law_pen s__law_far s__law_pick s__law_objects s__law_kinds s__law_fields : DF) : DS := (wIfS (wTst (wBin (gEq true) (wCall s__law_kinds (wCons (wVar 6) wNil)) (wLc (wIRng1 (wCons (wCB (gOne gLen) (wCons (wVar 5) wNil)) wNil)) (wName 7) wYes (wBin (gEq false) (wVar 7) (wVar 3)) [7]))) (wRet (wC (.bl false))) wNext)
def w_law_4 (K : PySem.W.Frag) (a_CurveError : Addr) (s__law_pen s__law_far s__law_pick s__law_objects s__law_kinds s__law_fields : DF) : DS := (wFor (wIEnumA (wCons (wVar 5) wNil)) (wGTup 2 (wGCons (wName 3) (wGCons (wName 6) wGNil))) (wSeq (w_law_4_0 K a_CurveError s__law_pen s__law_far s__law_pick s__law_objects s__law_kinds s__law_fields) (w_law_4_1 K a_CurveError s__law_pen s__law_far s__law_pick s__law_objects s__law_kinds s__law_fields)))
def w_law_5_0 (K : PySem.W.Frag) (a_CurveError : Addr) (s__law_pen s__law_far s__law_pick s__law_objects s__law_kinds s__law_fields : DF) : DS := (wIfS (wTst (wBin (gEq true) (wCB (gOne gRepr) (wCons (wVar 8) wNil)) (wCB (gOne gRepr) (wCons (wSl (wVar 2) wNoPart (wPart (wVar 9))) wNil)))) (wRet (wC (.bl false))) wNext)
def w_law_5 (K : PySem.W.Frag) (a_CurveError : Addr) (s__law_pen s__law_far s__law_pick s__law_objects s__law_kinds s__law_fields : DF) : DS := (wFor (wIZipA (wCons (wCall s__law_fields (wCons (wVar 5) wNil)) (wCons (wLst (wCons (wC (.int 1)) (wCons (wC (.int 2)) (wCons (wC (.int 2)) (wCons (wC (.int 1)) (wCons (wC (.int 2)) (wCons (wC (.int 1)) (wCons (wC (.int 1)) (wCons (wC (.int 2)) (wCons (wC (.int 3)) (wCons (wC (.int 0)) (wCons (wC (.int 0)) (wCons (wC (.int 1)) (wCons (wC (.int 1)) (wCons (wC (.int 1)) (wCons (wC (.int 2)) (wCons (wC (.int 0)) (wCons (wC (.int 0)) wNil)))))))))))))))))) wNil))) (wGTup 2 (wGCons (wName 8) (wGCons (wName 9) wGNil))) (w_law_5_0 K a_CurveError s__law_pen s__law_far s__law_pick s__law_objects s__law_kinds s__law_fields))
def w_law_6 (K : PySem.W.Frag) (a_CurveError : Addr) (s__law_pen s__law_far s__law_pick s__law_objects s__law_kinds s__law_fields : DF) : DS := (wRet (wC (.bl true)))
def w_law (K : PySem.W.Frag) (a_CurveError : Addr) (s__law_pen s__law_far s__law_pick s__law_objects s__law_kinds s__law_fields : DF) : DS := (wSeq (w_law_0 K a_CurveError s__law_pen s__law_far s__law_pick s__law_objects s__law_kinds s__law_fields) (wSeq (w_law_1 K a_CurveError s__law_pen s__law_far s__law_pick s__law_objects s__law_kinds s__law_fields) (wSeq (w_law_2 K a_CurveError s__law_pen s__law_far s__law_pick s__law_objects s__law_kinds s__law_fields) (wSeq (w_law_3 K a_CurveError s__law_pen s__law_far s__law_pick s__law_objects s__law_kinds s__law_fields) (wSeq (w_law_4 K a_CurveError s__law_pen s__law_far s__law_pick s__law_objects s__law_kinds s__law_fields) (wSeq (w_law_5 K a_CurveError s__law_pen s__law_far s__law_pick s__law_objects s__law_kinds s__law_fields) (w_law_6 K a_CurveError s__law_pen s__law_far s__law_pick s__law_objects s__law_kinds s__law_fields)))))))
/-! ### the classes -/
/-- the class at C is the i-th of these -/
structure Ei (K : PySem.W.Frag) (ce : Addr) (cs : List Addr) (C : Addr) (i : Nat) : Prop where
  ty : ErrTy K C
  ce : PySem.W.kitOne K (.ref C) (.ref ce) = some true
  cv : PySem.W.kitOne K (.ref C) (.type "ValueError") = some true
  is : ∀ p ∈ cs.zipIdx, PySem.W.kitOne K (.ref C) (.ref p.1) = some (i == p.2)
theorem eis1 {K : PySem.W.Frag} {ss : List Str} {C ce : Addr} {i : Nat} (h : ErrTy K C ∧ PySem.W.kitOne K (.ref C) (.ref ce) = some true ∧ PySem.W.kitOne K (.ref C) (.type "ValueError") = some true ∧ ∀ p ∈ ss.zipIdx, PySem.W.kitOne K (.ref C) (.ref (He.ga K p.1)) = some (i == p.2)) :
    Ei K ce (ss.map (He.ga K)) C i := by
  refine ⟨h.1, h.2.1, h.2.2.1, fun p hp => ?_⟩
  rw [List.zipIdx_map] at hp
  obtain ⟨q, hq, rfl⟩ := List.mem_map.mp hp
  exact h.2.2.2 q hq
structure E17 (K : PySem.W.Frag) (ce c0 c1 c2 c3 c4 c5 c6 c7 c8 c9 c10 c11 c12 c13 c14 c15 c16 : Addr) : Prop where
  e0 : Ei K ce [c0, c1, c2, c3, c4, c5, c6, c7, c8, c9, c10, c11, c12, c13, c14, c15, c16] c0 0
  e1 : Ei K ce [c0, c1, c2, c3, c4, c5, c6, c7, c8, c9, c10, c11, c12, c13, c14, c15, c16] c1 1
  e2 : Ei K ce [c0, c1, c2, c3, c4, c5, c6, c7, c8, c9, c10, c11, c12, c13, c14, c15, c16] c2 2
  e3 : Ei K ce [c0, c1, c2, c3, c4, c5, c6, c7, c8, c9, c10, c11, c12, c13, c14, c15, c16] c3 3
  e4 : Ei K ce [c0, c1, c2, c3, c4, c5, c6, c7, c8, c9, c10, c11, c12, c13, c14, c15, c16] c4 4
  e5 : Ei K ce [c0, c1, c2, c3, c4, c5, c6, c7, c8, c9, c10, c11, c12, c13, c14, c15, c16] c5 5
  e6 : Ei K ce [c0, c1, c2, c3, c4, c5, c6, c7, c8, c9, c10, c11, c12, c13, c14, c15, c16] c6 6
  e7 : Ei K ce [c0, c1, c2, c3, c4, c5, c6, c7, c8, c9, c10, c11, c12, c13, c14, c15, c16] c7 7
  e8 : Ei K ce [c0, c1, c2, c3, c4, c5, c6, c7, c8, c9, c10, c11, c12, c13, c14, c15, c16] c8 8
  e9 : Ei K ce [c0, c1, c2, c3, c4, c5, c6, c7, c8, c9, c10, c11, c12, c13, c14, c15, c16] c9 9
  e10 : Ei K ce [c0, c1, c2, c3, c4, c5, c6, c7, c8, c9, c10, c11, c12, c13, c14, c15, c16] c10 10
  e11 : Ei K ce [c0, c1, c2, c3, c4, c5, c6, c7, c8, c9, c10, c11, c12, c13, c14, c15, c16] c11 11
  e12 : Ei K ce [c0, c1, c2, c3, c4, c5, c6, c7, c8, c9, c10, c11, c12, c13, c14, c15, c16] c12 12
  e13 : Ei K ce [c0, c1, c2, c3, c4, c5, c6, c7, c8, c9, c10, c11, c12, c13, c14, c15, c16] c13 13
  e14 : Ei K ce [c0, c1, c2, c3, c4, c5, c6, c7, c8, c9, c10, c11, c12, c13, c14, c15, c16] c14 14
  e15 : Ei K ce [c0, c1, c2, c3, c4, c5, c6, c7, c8, c9, c10, c11, c12, c13, c14, c15, c16] c15 15
  e16 : Ei K ce [c0, c1, c2, c3, c4, c5, c6, c7, c8, c9, c10, c11, c12, c13, c14, c15, c16] c16 16
section
variable {K : PySem.W.Frag} {ce c0 c1 c2 c3 c4 c5 c6 c7 c8 c9 c10 c11 c12 c13 c14 c15 c16 : Addr} {μ : M} {Q : DK} {F : FK}
theorem isE_ok {cs : List Addr} {a C C' : Addr} {G0 : Hp} {fs : List (Str × D)} {i j : Nat} (e : Ei K ce cs C i) (h : ErrV K G0 a C fs) (hj : (C', j) ∈ cs.zipIdx) (q : Q (.bl (i == j)) μ) : gIsE K [.lam a G0, .raw (.ref C')] μ Q :=
  ⟨a, G0, C, fs, _, _, _, rfl, h, e.ty, .own _, e.is _ hj, q⟩
/-! ### kinds -/
def s0__law_kinds (K : PySem.W.Frag) (c0 c1 c2 c3 c4 c5 c6 c7 c8 c9 c10 c11 c12 c13 c14 c15 c16 : Addr) : DF := fun ds μ Q _ => ∃ ce a G0 C fs i, ds = [.lam a G0] ∧ ErrV K G0 a C fs ∧ Ei K ce [c0, c1, c2, c3, c4, c5, c6, c7, c8, c9, c10, c11, c12, c13, c14, c15, c16] C i ∧ Q (.lst ((List.range 17).map fun j => .bl (i == j))) μ
theorem p0__law_kinds (K : PySem.W.Frag) {c0 c1 c2 c3 c4 c5 c6 c7 c8 c9 c10 c11 c12 c13 c14 c15 c16 : Addr} : ∀ ds μ Q F, s0__law_kinds K c0 c1 c2 c3 c4 c5 c6 c7 c8 c9 c10 c11 c12 c13 c14 c15 c16 ds μ Q F → ds.length = 1 ∧ w__law_kinds K c4 c1 c5 c2 c3 c0 c11 c12 c14 c16 c15 c10 c13 c8 c7 c9 c6 { nx := fun _ μ' => Q .non μ', rt := Q } F (dstart ["_law_e", "_law_first"] ds) μ := by
  rintro _ μ Q F ⟨ce, a, G0, C, fs, i, rfl, h, e, q⟩
  refine ⟨rfl, ?_⟩
  simp only [w__law_kinds, w__law_kinds_0, w__law_kinds_1, w__law_kinds_2, w__law_kinds_3, w__law_kinds_4, wRet, wRetN, wSeq, wNext, wIfS, wAsg, wName, wPar, wDrop, wDPut, wFor, wISeq, wIRng1, wIRng2, wVar, wC, wNil, wCons, wBin, wUn, wCB, wTst, wAnd, wOr, DL.wNot, wAndV, wOrV, wNotV, wIf, wTup, wLst, wLstM, wCall, wGTup, wGCons, wGNil, wBrk, wCnt, wRaise, gI, gU, gOne , DL.gSub, gMul, gMod, gDiv, gPow, gLt, gLe, gGt, gGe, gNeg, gAbs, gMax2, gMin2, gInt2, wChain, wPar3, wSl, wNoPart, wPart, wIEnumA, wIEnumS, wIZipA, wIRng3, wLc, wLcM, wYes, wFld, wAug, wApp, wPop, wRev, wSubG, wMet, wBinO, wUnO, wCallK, gShl, gShr, wListRg1, wTupleRg1, wListRg2, wTupleRg2, wAugS, dstart, List.map_cons, List.map_nil, List.length_cons, List.length_nil, List.replicate, List.cons_append, List.nil_append, List.append_nil, List.getElem?_cons_zero, List.getElem?_cons_succ, List.set_cons_zero, List.set_cons_succ, Option.some.injEq, exists_eq_left', exists_eq_left, D.int.injEq, D.bl.injEq, D.str.injEq, D.tup.injEq, D.lst.injEq, D.obj.injEq, List.cons.injEq, and_true, true_and, Nat.zero_add, Nat.reduceAdd, Nat.reduceSub, decide_eq_true_eq, Bool.not_eq_true', decide_eq_false_iff_not, exists_and_left, exists_and_right, and_assoc, Bool.true_eq_false, Bool.false_eq_true, if_true, if_false, ne_eq]
  refine isE_ok (j := 0) e h (by simp) (isE_ok (j := 1) e h (by simp) (isE_ok (j := 2) e h (by simp) (isE_ok (j := 3) e h (by simp) ⟨by decide, ?_⟩)))
  refine isE_ok (j := 4) e h (by simp) (isE_ok (j := 5) e h (by simp) (isE_ok (j := 6) e h (by simp) (isE_ok (j := 7) e h (by simp) ⟨by decide, gAdd_lst.mpr ⟨by simp, ?_⟩⟩)))
  refine isE_ok (j := 8) e h (by simp) (isE_ok (j := 9) e h (by simp) (isE_ok (j := 10) e h (by simp) (isE_ok (j := 11) e h (by simp) ⟨by decide, gAdd_lst.mpr ⟨by simp, ?_⟩⟩)))
  refine isE_ok (j := 12) e h (by simp) (isE_ok (j := 13) e h (by simp) (isE_ok (j := 14) e h (by simp) ⟨by decide, gAdd_lst.mpr ⟨by simp, ?_⟩⟩))
  refine isE_ok (j := 15) e h (by simp) (isE_ok (j := 16) e h (by simp) ⟨by decide, gAdd_lst.mpr ⟨by simp, ?_⟩⟩)
  exact q
/-! ### objects -/
abbrev ErrD (K : PySem.W.Frag) (o : D) (C : Addr) (fs : List (Str × D)) : Prop := ∃ a G0, o = .lam a G0 ∧ ErrV K G0 a C fs
def RowE (K : PySem.W.Frag) (c0 c1 c2 c3 c4 c5 c6 c7 c8 c9 c10 c11 c12 c13 c14 c15 c16 : Addr) (a b c : D) (os : List D) : Prop := ∃ o0 o1 o2 o3 o4 o5 o6 o7 o8 o9 o10 o11 o12 o13 o14 o15 o16,
  os = [o0, o1, o2, o3, o4, o5, o6, o7, o8, o9, o10, o11, o12, o13, o14, o15, o16] ∧
  ErrD K o0 c0 [("column", a)] ∧ ErrD K o1 c1 [("column", b), ("line", a)] ∧ ErrD K o2 c2 [("number", b), ("what", a)] ∧ ErrD K o3 c3 [("row", a)] ∧ ErrD K o4 c4 [("high", b), ("low", a)] ∧ ErrD K o5 c5 [("name", a)] ∧ ErrD K o6 c6 [("what", a)] ∧
  ErrD K o7 c7 [("limit", b), ("what", a)] ∧ ErrD K o8 c8 [("limit", c), ("number", b), ("what", a)] ∧ ErrD K o9 c9 [] ∧ ErrD K o10 c10 [] ∧ ErrD K o11 c11 [("what", a)] ∧ ErrD K o12 c12 [("name", a)] ∧ ErrD K o13 c13 [("name", a)] ∧
  ErrD K o14 c14 [("witness", b), ("promise", a)] ∧ ErrD K o15 c15 [] ∧ ErrD K o16 c16 []
def s0__law_objects (K : PySem.W.Frag) (c0 c1 c2 c3 c4 c5 c6 c7 c8 c9 c10 c11 c12 c13 c14 c15 c16 : Addr) : DF := fun ds μ Q _ => ∃ a b c, ds = [a, b, c] ∧ ∀ os, RowE K c0 c1 c2 c3 c4 c5 c6 c7 c8 c9 c10 c11 c12 c13 c14 c15 c16 a b c os → Q (.lst os) μ
theorem p0__law_objects (K : PySem.W.Frag) {c0 c1 c2 c3 c4 c5 c6 c7 c8 c9 c10 c11 c12 c13 c14 c15 c16 : Addr} : ∀ ds μ Q F, s0__law_objects K c0 c1 c2 c3 c4 c5 c6 c7 c8 c9 c10 c11 c12 c13 c14 c15 c16 ds μ Q F → ds.length = 3 ∧ w__law_objects K c4 c1 c5 c2 c3 c0 c11 c12 c14 c16 c15 c10 c13 c8 c7 c9 c6 { nx := fun _ μ' => Q .non μ', rt := Q } F (dstart ["_law_a", "_law_b", "_law_c", "_law_first"] ds) μ := by
  rintro _ μ Q F ⟨a, b, c, rfl, q⟩
  refine ⟨rfl, ?_⟩
  simp only [w__law_objects, w__law_objects_0, w__law_objects_1, w__law_objects_2, wErr, wErr0, wRet, wRetN, wSeq, wNext, wIfS, wAsg, wName, wPar, wDrop, wDPut, wFor, wISeq, wIRng1, wIRng2, wVar, wC, wNil, wCons, wBin, wUn, wCB, wTst, wAnd, wOr, DL.wNot, wAndV, wOrV, wNotV, wIf, wTup, wLst, wLstM, wCall, wGTup, wGCons, wGNil, wBrk, wCnt, wRaise, gI, gU, gOne , DL.gSub, gMul, gMod, gDiv, gPow, gLt, gLe, gGt, gGe, gNeg, gAbs, gMax2, gMin2, gInt2, wChain, wPar3, wSl, wNoPart, wPart, wIEnumA, wIEnumS, wIZipA, wIRng3, wLc, wLcM, wYes, wFld, wAug, wApp, wPop, wRev, wSubG, wMet, wBinO, wUnO, wCallK, gShl, gShr, wListRg1, wTupleRg1, wListRg2, wTupleRg2, wAugS, dstart, List.map_cons, List.map_nil, List.length_cons, List.length_nil, List.replicate, List.cons_append, List.nil_append, List.append_nil, List.getElem?_cons_zero, List.getElem?_cons_succ, List.set_cons_zero, List.set_cons_succ, Option.some.injEq, exists_eq_left', exists_eq_left, D.int.injEq, D.bl.injEq, D.str.injEq, D.tup.injEq, D.lst.injEq, D.obj.injEq, List.cons.injEq, and_true, true_and, Nat.zero_add, Nat.reduceAdd, Nat.reduceSub, decide_eq_true_eq, Bool.not_eq_true', decide_eq_false_iff_not, exists_and_left, exists_and_right, and_assoc, Bool.true_eq_false, Bool.false_eq_true, if_true, if_false, ne_eq]
  refine fun a0 G0 h0 a1 G1 h1 a2 G2 h2 a3 G3 h3 a4 G4 h4 a5 G5 h5 a6 G6 h6 => ⟨by decide, fun a7 G7 h7 a8 G8 h8 a9 G9 h9 a10 G10 h10 a11 G11 h11 a12 G12 h12 a13 G13 h13 => ⟨by decide, gAdd_lst.mpr ⟨by simp, fun a14 G14 h14 a15 G15 h15 a16 G16 h16 => ⟨by decide, gAdd_lst.mpr ⟨by simp, ?_⟩⟩⟩⟩⟩
  exact q _ ⟨_, _, _, _, _, _, _, _, _, _, _, _, _, _, _, _, _, rfl, ⟨_, _, rfl, h0⟩, ⟨_, _, rfl, h1⟩, ⟨_, _, rfl, h2⟩, ⟨_, _, rfl, h3⟩, ⟨_, _, rfl, h4⟩, ⟨_, _, rfl, h5⟩, ⟨_, _, rfl, h6⟩, ⟨_, _, rfl, h7⟩, ⟨_, _, rfl, h8⟩, ⟨_, _, rfl, h9⟩, ⟨_, _, rfl, h10⟩, ⟨_, _, rfl, h11⟩, ⟨_, _, rfl, h12⟩, ⟨_, _, rfl, h13⟩, ⟨_, _, rfl, h14⟩, ⟨_, _, rfl, h15⟩, ⟨_, _, rfl, h16⟩⟩
/-! ### fields -/
theorem fld {Cs : List Addr} {o d : D} {C : Addr} {f : Str} {fs : List (Str × D)} {R : D → Prop} (h : ErrD K o C fs) (hC : C ∈ Cs) (hl : fs.lookup f = some d) (q : R d) : ∃ C, C ∈ Cs ∧ ∃ a G0, o = .lam a G0 ∧ ∃ fs, ErrV K G0 a C fs ∧ ∃ d, fs.lookup f = some d ∧ R d := by
  obtain ⟨a, G0, rfl, h⟩ := h
  exact ⟨C, hC, a, G0, rfl, fs, h, d, hl, q⟩
def fldL (a b c : D) : List D := [.lst [a], .lst [a, b], .lst [a, b], .lst [a], .lst [a, b], .lst [a], .lst [a], .lst [a, b], .lst [a, b, c], .lst [], .lst [], .lst [a], .lst [a], .lst [a], .lst [a, b], .lst [], .lst []]
def s0__law_fields (K : PySem.W.Frag) (c0 c1 c2 c3 c4 c5 c6 c7 c8 c9 c10 c11 c12 c13 c14 c15 c16 : Addr) : DF := fun ds μ Q _ => ∃ os a b c, ds = [.lst os] ∧ RowE K c0 c1 c2 c3 c4 c5 c6 c7 c8 c9 c10 c11 c12 c13 c14 c15 c16 a b c os ∧ Q (.lst (fldL a b c)) μ
theorem p0__law_fields (K : PySem.W.Frag) {c0 c1 c2 c3 c4 c5 c6 c7 c8 c9 c10 c11 c12 c13 c14 c15 c16 : Addr} : ∀ ds μ Q F, s0__law_fields K c0 c1 c2 c3 c4 c5 c6 c7 c8 c9 c10 c11 c12 c13 c14 c15 c16 ds μ Q F → ds.length = 1 ∧ w__law_fields K c4 c1 c5 c2 c3 c0 c11 c12 c14 c13 c8 c7 c6 { nx := fun _ μ' => Q .non μ', rt := Q } F (dstart ["_law_row", "_law_first"] ds) μ := by
  rintro _ μ Q F ⟨_, a, b, c, rfl, ⟨o0, o1, o2, o3, o4, o5, o6, o7, o8, o9, o10, o11, o12, o13, o14, o15, o16, rfl, h0, h1, h2, h3, h4, h5, h6, h7, h8, h9, h10, h11, h12, h13, h14, h15, h16⟩, q⟩
  refine ⟨rfl, ?_⟩
  simp only [w__law_fields, w__law_fields_0, w__law_fields_1, w__law_fields_2, w__law_fields_3, wErF, wRet, wRetN, wSeq, wNext, wIfS, wAsg, wName, wPar, wDrop, wDPut, wFor, wISeq, wIRng1, wIRng2, wVar, wC, wNil, wCons, wBin, wUn, wCB, wTst, wAnd, wOr, DL.wNot, wAndV, wOrV, wNotV, wIf, wTup, wLst, wLstM, wCall, wGTup, wGCons, wGNil, wBrk, wCnt, wRaise, gI, gU, gOne , DL.gSub, gMul, gMod, gDiv, gPow, gLt, gLe, gGt, gGe, gNeg, gAbs, gMax2, gMin2, gInt2, wChain, wPar3, wSl, wNoPart, wPart, wIEnumA, wIEnumS, wIZipA, wIRng3, wLc, wLcM, wYes, wFld, wAug, wApp, wPop, wRev, wSubG, wMet, wBinO, wUnO, wCallK, gShl, gShr, wListRg1, wTupleRg1, wListRg2, wTupleRg2, wAugS, dstart, List.map_cons, List.map_nil, List.length_cons, List.length_nil, List.replicate, List.cons_append, List.nil_append, List.append_nil, List.getElem?_cons_zero, List.getElem?_cons_succ, List.set_cons_zero, List.set_cons_succ, Option.some.injEq, exists_eq_left', exists_eq_left, D.int.injEq, D.bl.injEq, D.str.injEq, D.tup.injEq, D.lst.injEq, D.obj.injEq, List.cons.injEq, and_true, true_and, Nat.zero_add, Nat.reduceAdd, Nat.reduceSub, decide_eq_true_eq, Bool.not_eq_true', decide_eq_false_iff_not, exists_and_left, exists_and_right, and_assoc, Bool.true_eq_false, Bool.false_eq_true, if_true, if_false, ne_eq, gIx_lst]
  refine ⟨o0, rfl, ?_⟩
  refine fld h0 (by simp) rfl ?_
  refine ⟨by decide, ?_⟩
  refine ⟨o1, rfl, ?_⟩
  refine fld h1 (by simp) rfl ?_
  refine ⟨o1, rfl, ?_⟩
  refine fld h1 (by simp) rfl ?_
  refine ⟨by decide, ?_⟩
  refine ⟨o2, rfl, ?_⟩
  refine fld h2 (by simp) rfl ?_
  refine ⟨o2, rfl, ?_⟩
  refine fld h2 (by simp) rfl ?_
  refine ⟨by decide, ?_⟩
  refine ⟨o3, rfl, ?_⟩
  refine fld h3 (by simp) rfl ?_
  refine ⟨by decide, by decide, ?_⟩
  refine ⟨o4, rfl, ?_⟩
  refine fld h4 (by simp) rfl ?_
  refine ⟨o4, rfl, ?_⟩
  refine fld h4 (by simp) rfl ?_
  refine ⟨by decide, ?_⟩
  refine ⟨o5, rfl, ?_⟩
  refine fld h5 (by simp) rfl ?_
  refine ⟨by decide, ?_⟩
  refine ⟨o6, rfl, ?_⟩
  refine fld h6 (by simp) rfl ?_
  refine ⟨by decide, ?_⟩
  refine ⟨o7, rfl, ?_⟩
  refine fld h7 (by simp) rfl ?_
  refine ⟨o7, rfl, ?_⟩
  refine fld h7 (by simp) rfl ?_
  refine ⟨by decide, by decide, gAdd_lst.mpr ⟨by simp, ?_⟩⟩
  refine ⟨o8, rfl, ?_⟩
  refine fld h8 (by simp) rfl ?_
  refine ⟨o8, rfl, ?_⟩
  refine fld h8 (by simp) rfl ?_
  refine ⟨o8, rfl, ?_⟩
  refine fld h8 (by simp) rfl ?_
  refine ⟨by decide, by decide, by decide, ?_⟩
  refine ⟨o11, rfl, ?_⟩
  refine fld h11 (by simp) rfl ?_
  refine ⟨by decide, ?_⟩
  refine ⟨o12, rfl, ?_⟩
  refine fld h12 (by simp) rfl ?_
  refine ⟨by decide, by decide, gAdd_lst.mpr ⟨by simp, ?_⟩⟩
  refine ⟨o13, rfl, ?_⟩
  refine fld h13 (by simp) rfl ?_
  refine ⟨by decide, ?_⟩
  refine ⟨o14, rfl, ?_⟩
  refine fld h14 (by simp) rfl ?_
  refine ⟨o14, rfl, ?_⟩
  refine fld h14 (by simp) rfl ?_
  refine ⟨by decide, by decide, by decide, by decide, gAdd_lst.mpr ⟨by simp, ?_⟩⟩
  exact q
/-! ### what is given -/
theorem okT_repr {x : Str} (h : ∀ c ∈ x.cps.toList, ∀ q : Nat, q = 34 ∨ q = 39 → ∀ d ∈ Builtin.Str.reprChar q c, d < 0x110000) : okT (reprText x) := by
  have hq : reprQuote x = 34 ∨ reprQuote x = 39 := by
    unfold reprQuote
    split <;> simp
  have hq2 : reprQuote x < 0x110000 := by rcases hq with e | e <;> rw [e] <;> decide
  have key : ∀ (l : List Nat) (acc : Array Nat), (∀ c ∈ l, ∀ d ∈ Builtin.Str.reprChar (reprQuote x) c, d < 0x110000) → (∀ d ∈ acc.toList, d < 0x110000) → ∀ d ∈ (l.foldl (fun out c => out ++ (Builtin.Str.reprChar (reprQuote x) c).toArray) acc).toList, d < 0x110000 := by
    intro l
    induction l with
    | nil => intro acc _ h2; exact h2
    | cons c l ih =>
      intro acc h1 h2
      refine ih _ (fun c' hc' => h1 c' (List.mem_cons_of_mem _ hc')) fun d hd => ?_
      simp only [Array.toList_append, List.mem_append] at hd
      rcases hd with hd | hd
      · exact h2 d hd
      · exact h1 c List.mem_cons_self d hd
  intro c hc
  unfold reprText at hc
  simp only [Array.toList_push, List.mem_append, List.mem_singleton, ← Array.foldl_toList] at hc
  rcases hc with hc | rfl
  · refine key x.cps.toList _ (fun c hc => h c hc _ hq) (fun d hd => ?_) c hc
    have : d = reprQuote x := by simpa using hd
    rw [this]; exact hq2
  · exact hq2
theorem signs_ok : ∀ c ∈ ([45, 48, 49, 50, 51, 52, 53, 54, 55, 56, 57, 97, 120] : List Nat), ∀ q ∈ ([34, 39] : List Nat), ∀ d ∈ Builtin.Str.reprChar q c, d < 0x110000 := by decide +kernel
theorem int_signs (i : Int) : ∀ c ∈ (Str.ofString (toString i)).cps.toList, c ∈ ([45, 48, 49, 50, 51, 52, 53, 54, 55, 56, 57, 97, 120] : List Nat) := fun c hc => by
  by_cases h : c = 45 ∨ (48 ≤ c ∧ c ≤ 57)
  · rcases h with rfl | ⟨h1, h2⟩
    · decide
    · rcases (by omega : c = 48 ∨ c = 49 ∨ c = 50 ∨ c = 51 ∨ c = 52 ∨ c = 53 ∨ c = 54 ∨ c = 55 ∨ c = 56 ∨ c = 57) with rfl | rfl | rfl | rfl | rfl | rfl | rfl | rfl | rfl | rfl <;> decide
  · exact absurd hc (shown_int_free' ⟨by omega, by omega⟩ i)
theorem xtxt_signs (i : Int) : ∀ c ∈ (("x" : Str) ++ Str.ofString (toString i)).cps.toList, c ∈ ([45, 48, 49, 50, 51, 52, 53, 54, 55, 56, 57, 97, 120] : List Nat) := fun c hc => by
  have hc' : c ∈ ("x" : Str).cps.toList ++ (Str.ofString (toString i)).cps.toList := by
    have e : (("x" : Str) ++ Str.ofString (toString i)).cps = ("x" : Str).cps ++ (Str.ofString (toString i)).cps := rfl
    rw [e, Array.toList_append] at hc
    exact hc
  rcases List.mem_append.mp hc' with h | h
  · have : c = 120 := by simpa using (show c ∈ ([120] : List Nat) from h)
    subst this
    decide
  · exact int_signs i c h
/-- what may be given -/
def Gv (d : D) : Prop := (∀ a, d ≠ .obj a) ∧ ∃ p, d.py = some p ∧ okN p = true ∧ small p = true ∧ p.depth ≤ 2 ∧ bnd p ≤ 10000
theorem Gv.of {d : D} {p : PyData} (h0 : ∀ a, d ≠ .obj a) (h1 : d.py = some p) (h2 : okN p = true) (h3 : small p = true) (h4 : p.depth ≤ 2) (h5 : bnd p ≤ 10000) : Gv d := ⟨h0, p, h1, h2, h3, h4, h5⟩
theorem small_i {v : Int} (h : v.natAbs < 10 ^ 18) : small (.int v) = true := by
  show decide (v.natAbs < 10 ^ 500) = true
  exact decide_eq_true (Nat.lt_trans h (by decide +kernel))
theorem gv_x {v : Int} (h : v.natAbs < 10 ^ 18) : Gv (.str (("x" : Str) ++ Str.ofString (toString v))) := by
  have hs := xtxt_signs v
  have hl : (Str.ofString (toString v)).length ≤ 600 := len_small (Nat.lt_trans h (by decide +kernel))
  refine .of nofun rfl rfl (okT_strOk (okT_repr fun c hc q hq d hd => signs_ok c (hs c hc) q (by rcases hq with rfl | rfl <;> decide) d hd)) (by show (0 : Nat) ≤ 2; decide) ?_
  have e := StrLaws.reprText_len (("x" : Str) ++ Str.ofString (toString v)) fun c hc => by
    have := hs c hc
    simp only [List.mem_cons, List.not_mem_nil, or_false] at this
    omega
  have e2 : (("x" : Str) ++ Str.ofString (toString v)).length = 1 + (Str.ofString (toString v)).length := by rw [strLen_append]; rfl
  show (reprText (("x" : Str) ++ Str.ofString (toString v))).length ≤ 10000
  omega
theorem gv_cons {gs : List D} : (∀ g ∈ gs, Gv g) → ∃ ps, D.pyA gs = some ps ∧ okNA ps = true ∧ smallA ps = true ∧ PyData.depthAll ps ≤ 2 ∧ bndA ps ≤ 10002 * gs.length := by
  induction gs with
  | nil => exact fun _ => ⟨[], rfl, rfl, rfl, by decide, by decide⟩
  | cons g gs ih =>
    intro h
    obtain ⟨_, p, h1, h2, h3, h4, h5⟩ := h g List.mem_cons_self
    obtain ⟨ps, e1, e2, e3, e4, e5⟩ := ih fun x hx => h x (List.mem_cons_of_mem _ hx)
    refine ⟨p :: ps, by simp only [D.pyA, h1, e1], by simp only [okNA, h2, e2, Bool.and_self], by simp only [smallA, h3, e3, Bool.and_self], ?_, ?_⟩
    · simp only [PyData.depthAll]; omega
    · simp only [bndA, List.length_cons]; omega
theorem gv_repr {gs : List D} (h : ∀ g ∈ gs, Gv g) (hl : gs.length ≤ 3) (q : okT (shw (.lst gs)) → Q (.str (shw (.lst gs))) μ) : gRepr (.lst gs) μ Q := by
  obtain ⟨ps, e1, e2, e3, e4, e5⟩ := gv_cons h
  have ep : D.py (.lst gs) = some (.list ps) := by simp only [D.py, e1, Option.map_some]
  have es : shw (.lst gs) = (PyData.list ps).shown := by unfold shw; rw [ep]
  have sm : small (.list ps) = true := e3
  obtain ⟨s1, s2, s3⟩ := shown_small sm
  refine ⟨.list ps, ep, by simpa only [okN] using e2, s1, by simp only [PyData.depth]; omega, Nat.le_trans s2 (by simp only [bnd]; omega), ?_⟩
  rw [es] at q
  exact q s3
theorem pick_gv {v : Int} (h : v.natAbs < 10 ^ 18) {x : D} (hx : x ∈ ([.int v, .int (-v), .str (("x" : Str) ++ Str.ofString (toString v)), .non, .tup [.int v, .str "a"], .lst [.int v, .non], .bl true, .str "", .dct [(.inr "a", .int v)]] : List D)) : Gv x := by
  have hv := small_i h
  have hn : small (.int (-v)) = true := small_i (by rw [Int.natAbs_neg]; exact h)
  simp only [List.mem_cons, List.not_mem_nil, or_false] at hx
  rcases hx with rfl | rfl | rfl | rfl | rfl | rfl | rfl | rfl | rfl
  · exact .of nofun rfl rfl hv (by show (0 : Nat) ≤ 2; decide) (by show (600 : Nat) ≤ 10000; decide)
  · exact .of nofun rfl rfl hn (by show (0 : Nat) ≤ 2; decide) (by show (600 : Nat) ≤ 10000; decide)
  · exact gv_x h
  · exact .of nofun rfl rfl rfl (by show (0 : Nat) ≤ 2; decide) (by show (4 : Nat) ≤ 10000; decide)
  · refine .of (p := .tuple [.int v, .str "a"]) nofun rfl rfl ?_ (by show (1 : Nat) ≤ 2; decide) ?_
    · show (small (.int v) && (small (.str "a") && true)) = true
      rw [hv]
      decide +kernel
    · show bnd (.int v) + 2 + (bnd (.str "a") + 2 + 0) + 3 ≤ 10000
      show 600 + 2 + (bnd (.str "a") + 2 + 0) + 3 ≤ 10000
      decide +kernel
  · refine .of (p := .list [.int v, .none]) nofun rfl rfl ?_ (by show (1 : Nat) ≤ 2; decide) ?_
    · show (small (.int v) && (small .none && true)) = true
      rw [hv]
      rfl
    · show 600 + 2 + (4 + 2 + 0) + 3 ≤ 10000
      decide
  · exact .of nofun rfl rfl rfl (by show (0 : Nat) ≤ 2; decide) (by show (5 : Nat) ≤ 10000; decide)
  · exact .of (p := .str "") nofun rfl rfl (by decide +kernel) (by show (0 : Nat) ≤ 2; decide) (by decide +kernel)
  · refine .of (p := .dict [(.str "a", .int v)]) nofun rfl rfl ?_ (by show (1 : Nat) ≤ 2; decide) ?_
    · show ((small (.str "a") && small (.int v)) && true) = true
      rw [hv]
      decide +kernel
    · show bnd (.dict [(.str "a", .int v)]) ≤ 10000
      have e : bnd (.dict [(.str "a", .int v)]) = bnd (.dict [(.str "a", .int 0)]) := rfl
      rw [e]
      decide +kernel
/-! ### rows of bools -/
theorem pyA_bl {α : Type} (g : α → Bool) : ∀ l : List α, D.pyA (l.map fun j => .bl (g j)) = some (l.map fun j => .bool (g j))
  | [] => rfl
  | x :: l => by simp only [List.map_cons, D.pyA, pyA_bl g l, D.py]
theorem shaped_bl {α : Type} (g : α → Bool) (l : List α) : SeqAt.shaped (.list (l.map fun j => .bool (g j))) = true := by
  have h : ∀ l : List α, PyData.canLayAll0 (l.map fun j => .bool (g j)) = true ∧ PyData.depthAll (l.map fun j => .bool (g j)) = 0 := by
    intro l
    induction l with
    | nil => exact ⟨rfl, rfl⟩
    | cons x l ih =>
      refine ⟨?_, ?_⟩
      · simp only [List.map_cons, PyData.canLayAll0, PyData.canLay0, ih.1, Bool.and_self]
      · simp only [List.map_cons, PyData.depthAll, PyData.depth, ih.2, Nat.max_self]
  obtain ⟨h1, h2⟩ := h l
  unfold SeqAt.shaped
  simp only [PyData.canLay0, PyData.depth, h1, h2, Bool.true_and]
  decide
theorem bl_same {α : Type} (g : α → Bool) (l : List α) (q : Q (.bl false) μ) : gEq true (.lst (l.map fun j => .bl (g j))) (.lst (l.map fun j => .bl (g j))) μ Q := by
  have e : pyOf μ (.lst (l.map fun j => .bl (g j))) = some (.list (l.map fun j => .bool (g j))) := by
    show (D.pyA (l.map fun j => .bl (g j))).map PyData.list = _
    rw [pyA_bl]
    rfl
  exact eq_self e e (shaped_bl g l) q
/-! ### the law -/
theorem rowAt {a b c : D} {os : List D} (r : RowE K c0 c1 c2 c3 c4 c5 c6 c7 c8 c9 c10 c11 c12 c13 c14 c15 c16 a b c os) (E : E17 K ce c0 c1 c2 c3 c4 c5 c6 c7 c8 c9 c10 c11 c12 c13 c14 c15 c16) {i : Nat} {o : D} (h : os[i]? = some o) : ∃ C fs, ErrD K o C fs ∧ Ei K ce [c0, c1, c2, c3, c4, c5, c6, c7, c8, c9, c10, c11, c12, c13, c14, c15, c16] C i := by
  obtain ⟨o0, o1, o2, o3, o4, o5, o6, o7, o8, o9, o10, o11, o12, o13, o14, o15, o16, rfl, h0, h1, h2, h3, h4, h5, h6, h7, h8, h9, h10, h11, h12, h13, h14, h15, h16⟩ := r
  match i, h with
  | 0, h => cases h; exact ⟨_, _, h0, E.e0⟩
  | 1, h => cases h; exact ⟨_, _, h1, E.e1⟩
  | 2, h => cases h; exact ⟨_, _, h2, E.e2⟩
  | 3, h => cases h; exact ⟨_, _, h3, E.e3⟩
  | 4, h => cases h; exact ⟨_, _, h4, E.e4⟩
  | 5, h => cases h; exact ⟨_, _, h5, E.e5⟩
  | 6, h => cases h; exact ⟨_, _, h6, E.e6⟩
  | 7, h => cases h; exact ⟨_, _, h7, E.e7⟩
  | 8, h => cases h; exact ⟨_, _, h8, E.e8⟩
  | 9, h => cases h; exact ⟨_, _, h9, E.e9⟩
  | 10, h => cases h; exact ⟨_, _, h10, E.e10⟩
  | 11, h => cases h; exact ⟨_, _, h11, E.e11⟩
  | 12, h => cases h; exact ⟨_, _, h12, E.e12⟩
  | 13, h => cases h; exact ⟨_, _, h13, E.e13⟩
  | 14, h => cases h; exact ⟨_, _, h14, E.e14⟩
  | 15, h => cases h; exact ⟨_, _, h15, E.e15⟩
  | 16, h => cases h; exact ⟨_, _, h16, E.e16⟩
  | n + 17, h => simp at h
theorem rowLen {a b c : D} {os : List D} (r : RowE K c0 c1 c2 c3 c4 c5 c6 c7 c8 c9 c10 c11 c12 c13 c14 c15 c16 a b c os) : os.length = 17 := by
  obtain ⟨o0, o1, o2, o3, o4, o5, o6, o7, o8, o9, o10, o11, o12, o13, o14, o15, o16, rfl, _⟩ := r
  rfl
theorem enum_at {ds : List D} {i : Nat} {d : D} (h : (enum ds)[i]? = some d) : ∃ o, ds[i]? = some o ∧ d = .tup [.int (i : Nat), o] := by
  unfold enum at h
  rw [List.getElem?_map, List.getElem?_zipIdx, Option.map_eq_some_iff] at h
  obtain ⟨p, h1, rfl⟩ := h
  rw [Option.map_eq_some_iff] at h1
  obtain ⟨o, h1, rfl⟩ := h1
  exact ⟨o, h1, by simp⟩
theorem pen_ne {p g : Addr} {m : Nat} {xs : List D} (h : Pen p μ m) (e : μ g = some (.lst xs)) : g ≠ p := fun z => by
  obtain ⟨_, _, _, _, _, h, _⟩ := h
  rw [z, h] at e
  cases e
theorem pen_put {p g : Addr} {m : Nat} {mo : MO} (h : Pen p μ m) (e : g ≠ p) : Pen p (mput μ g mo) m := by
  obtain ⟨a1, a2, a3, a4, a5, h, r⟩ := h
  exact ⟨a1, a2, a3, a4, a5, by rw [mput_ne (Ne.symm e)]; exact h, r⟩
def blOf (i : Int) : D → D
  | .int j => .bl (j == i)
  | d => d
theorem bls_eq (i : Nat) : (intsD 0 (17 : Int).toNat).map (blOf i) = (List.range 17).map fun j => .bl (i == j) := by
  unfold intsD
  rw [List.map_map]
  refine List.map_congr_left fun j _ => ?_
  show D.bl ((0 + (j : Int)) == (i : Int)) = .bl (i == j)
  congr 1
  rw [Int.zero_add, Bool.eq_iff_iff, beq_iff_eq, beq_iff_eq]
  omega
theorem lap0 {N : DSt → M → Prop} {Bk Ct : DSt → M → Prop} {p g : Addr} {m : Nat} {o0 o3 o4 o5 o6 o7 o8 o9 : Option D} {gs : List D} (pen : Pen p μ m) (hm : m + 20 ≤ 1000000) (hg : μ g = some (.lst gs)) (hl : gs.length ≤ 1000)
    (k : ∀ x o4 μ', Gv x → Pen p μ' (m + 20) → μ' g = some (.lst (gs ++ [x])) → N [o0, some (.obj p), some (.obj g), o3, o4, o5, o6, o7, o8, o9] μ') :
    wSeq (w_law_2_0 K ce s__law_pen s__law_far s__law_pick (s0__law_objects K c0 c1 c2 c3 c4 c5 c6 c7 c8 c9 c10 c11 c12 c13 c14 c15 c16) (s0__law_kinds K c0 c1 c2 c3 c4 c5 c6 c7 c8 c9 c10 c11 c12 c13 c14 c15 c16) (s0__law_fields K c0 c1 c2 c3 c4 c5 c6 c7 c8 c9 c10 c11 c12 c13 c14 c15 c16)) (w_law_2_1 K ce s__law_pen s__law_far s__law_pick (s0__law_objects K c0 c1 c2 c3 c4 c5 c6 c7 c8 c9 c10 c11 c12 c13 c14 c15 c16) (s0__law_kinds K c0 c1 c2 c3 c4 c5 c6 c7 c8 c9 c10 c11 c12 c13 c14 c15 c16) (s0__law_fields K c0 c1 c2 c3 c4 c5 c6 c7 c8 c9 c10 c11 c12 c13 c14 c15 c16)) { nx := N, rt := Q, bk := Bk, ct := Ct } F [o0, some (.obj p), some (.obj g), o3, o4, o5, o6, o7, o8, o9] μ := by
  simp only [w_law_2_0, w_law_2_1, wRet, wRetN, wSeq, wNext, wIfS, wAsg, wName, wPar, wDrop, wDPut, wFor, wISeq, wIRng1, wIRng2, wVar, wC, wNil, wCons, wBin, wUn, wCB, wTst, wAnd, wOr, DL.wNot, wAndV, wOrV, wNotV, wIf, wTup, wLst, wLstM, wCall, wGTup, wGCons, wGNil, wBrk, wCnt, wRaise, gI, gU, gOne , DL.gSub, gMul, gMod, gDiv, gPow, gLt, gLe, gGt, gGe, gNeg, gAbs, gMax2, gMin2, gInt2, wChain, wPar3, wSl, wNoPart, wPart, wIEnumA, wIEnumS, wIZipA, wIRng3, wLc, wLcM, wYes, wFld, wAug, wApp, wPop, wRev, wSubG, wMet, wBinO, wUnO, wCallK, gShl, gShr, wListRg1, wTupleRg1, wListRg2, wTupleRg2, wAugS, dstart, List.map_cons, List.map_nil, List.length_cons, List.length_nil, List.replicate, List.cons_append, List.nil_append, List.append_nil, List.getElem?_cons_zero, List.getElem?_cons_succ, List.set_cons_zero, List.set_cons_succ, Option.some.injEq, exists_eq_left', exists_eq_left, D.int.injEq, D.bl.injEq, D.str.injEq, D.tup.injEq, D.lst.injEq, D.obj.injEq, List.cons.injEq, and_true, true_and, Nat.zero_add, Nat.reduceAdd, Nat.reduceSub, decide_eq_true_eq, Bool.not_eq_true', decide_eq_false_iff_not, exists_and_left, exists_and_right, and_assoc, Bool.true_eq_false, Bool.false_eq_true, if_true, if_false, ne_eq, wDct, wPairs, gAdd_lst]
  have gp := pen_ne pen hg
  refine ⟨p, m, rfl, pen, by omega, fun v μ1 hv o1 pen1 => ?_⟩
  simp only [wRet, wRetN, wSeq, wNext, wIfS, wAsg, wName, wPar, wDrop, wDPut, wFor, wISeq, wIRng1, wIRng2, wVar, wC, wNil, wCons, wBin, wUn, wCB, wTst, wAnd, wOr, DL.wNot, wAndV, wOrV, wNotV, wIf, wTup, wLst, wLstM, wCall, wGTup, wGCons, wGNil, wBrk, wCnt, wRaise, gI, gU, gOne , DL.gSub, gMul, gMod, gDiv, gPow, gLt, gLe, gGt, gGe, gNeg, gAbs, gMax2, gMin2, gInt2, wChain, wPar3, wSl, wNoPart, wPart, wIEnumA, wIEnumS, wIZipA, wIRng3, wLc, wLcM, wYes, wFld, wAug, wApp, wPop, wRev, wSubG, wMet, wBinO, wUnO, wCallK, gShl, gShr, wListRg1, wTupleRg1, wListRg2, wTupleRg2, wAugS, dstart, List.map_cons, List.map_nil, List.length_cons, List.length_nil, List.replicate, List.cons_append, List.nil_append, List.append_nil, List.getElem?_cons_zero, List.getElem?_cons_succ, List.set_cons_zero, List.set_cons_succ, Option.some.injEq, exists_eq_left', exists_eq_left, D.int.injEq, D.bl.injEq, D.str.injEq, D.tup.injEq, D.lst.injEq, D.obj.injEq, List.cons.injEq, and_true, true_and, Nat.zero_add, Nat.reduceAdd, Nat.reduceSub, decide_eq_true_eq, Bool.not_eq_true', decide_eq_false_iff_not, exists_and_left, exists_and_right, and_assoc, Bool.true_eq_false, Bool.false_eq_true, if_true, if_false, ne_eq]
  have hv2 : v.natAbs.log2 < 1920 := DL.log2_small (Nat.lt_trans hv (by decide +kernel))
  have h1 : μ1 g = some (.lst gs) := (o1 g gp).trans hg
  have hlen : (Str.ofString (toString v)).length ≤ 600 := len_small (Nat.lt_trans hv (by decide +kernel))
  refine ⟨⟨_, h1⟩, .inl ⟨v, rfl, hv2, .inr (.inl ⟨_, _, rfl, rfl, by show 1 + (Str.ofString (toString v)).length ≤ 1000000; omega, ?_⟩)⟩⟩
  refine ⟨by decide, by decide, fun b hb => ⟨mput_same, by decide, _, rfl, ?_⟩⟩
  have ed : mdel μ1 b = μ1 := by rw [← mdel_put (m := .dct [])]; exact mdel_put' hb
  rw [mdel_put, ed]
  refine ⟨by decide, p, _, _, .inl rfl, by simp, by simp, pen1, by omega, fun x hx μ2 o2 pen2 => ?_⟩
  have h2 : μ2 g = some (.lst gs) := (o2 g gp).trans h1
  refine ⟨gs, h2, by omega, k x _ _ (pick_gv hv hx) ((pen_put pen2 gp).mono (by omega)) mput_same⟩
theorem lap4 {N : DSt → M → Prop} {Bk Ct : DSt → M → Prop} {o0 o1 o2 o7 o8 o9 : Option D} {a b c o : D} {os : List D} {i : Nat} (r : RowE K c0 c1 c2 c3 c4 c5 c6 c7 c8 c9 c10 c11 c12 c13 c14 c15 c16 a b c os) (E : E17 K ce c0 c1 c2 c3 c4 c5 c6 c7 c8 c9 c10 c11 c12 c13 c14 c15 c16) (ho : os[i]? = some o)
    (k : ∀ o7, N [o0, o1, o2, some (.int (i : Nat)), o9, some (.lst os), some o, o7, o8, o8] μ) :
    wSeq (w_law_4_0 K ce s__law_pen s__law_far s__law_pick (s0__law_objects K c0 c1 c2 c3 c4 c5 c6 c7 c8 c9 c10 c11 c12 c13 c14 c15 c16) (s0__law_kinds K c0 c1 c2 c3 c4 c5 c6 c7 c8 c9 c10 c11 c12 c13 c14 c15 c16) (s0__law_fields K c0 c1 c2 c3 c4 c5 c6 c7 c8 c9 c10 c11 c12 c13 c14 c15 c16)) (w_law_4_1 K ce s__law_pen s__law_far s__law_pick (s0__law_objects K c0 c1 c2 c3 c4 c5 c6 c7 c8 c9 c10 c11 c12 c13 c14 c15 c16) (s0__law_kinds K c0 c1 c2 c3 c4 c5 c6 c7 c8 c9 c10 c11 c12 c13 c14 c15 c16) (s0__law_fields K c0 c1 c2 c3 c4 c5 c6 c7 c8 c9 c10 c11 c12 c13 c14 c15 c16)) { nx := N, rt := Q, bk := Bk, ct := Ct } F [o0, o1, o2, some (.int (i : Nat)), o9, some (.lst os), some o, o7, o8, o8] μ := by
  obtain ⟨C, fs, ⟨a, G0, rfl, h⟩, e⟩ := rowAt r E ho
  simp only [w_law_4_0, w_law_4_1, wRet, wRetN, wSeq, wNext, wIfS, wAsg, wName, wPar, wDrop, wDPut, wFor, wISeq, wIRng1, wIRng2, wVar, wC, wNil, wCons, wBin, wUn, wCB, wTst, wAnd, wOr, DL.wNot, wAndV, wOrV, wNotV, wIf, wTup, wLst, wLstM, wCall, wGTup, wGCons, wGNil, wBrk, wCnt, wRaise, gI, gU, gOne , DL.gSub, gMul, gMod, gDiv, gPow, gLt, gLe, gGt, gGe, gNeg, gAbs, gMax2, gMin2, gInt2, wChain, wPar3, wSl, wNoPart, wPart, wIEnumA, wIEnumS, wIZipA, wIRng3, wLc, wLcM, wYes, wFld, wAug, wApp, wPop, wRev, wSubG, wMet, wBinO, wUnO, wCallK, gShl, gShr, wListRg1, wTupleRg1, wListRg2, wTupleRg2, wAugS, dstart, List.map_cons, List.map_nil, List.length_cons, List.length_nil, List.replicate, List.cons_append, List.nil_append, List.append_nil, List.getElem?_cons_zero, List.getElem?_cons_succ, List.set_cons_zero, List.set_cons_succ, Option.some.injEq, exists_eq_left', exists_eq_left, D.int.injEq, D.bl.injEq, D.str.injEq, D.tup.injEq, D.lst.injEq, D.obj.injEq, List.cons.injEq, and_true, true_and, Nat.zero_add, Nat.reduceAdd, Nat.reduceSub, decide_eq_true_eq, Bool.not_eq_true', decide_eq_false_iff_not, exists_and_left, exists_and_right, and_assoc, Bool.true_eq_false, Bool.false_eq_true, if_true, if_false, ne_eq]
  refine ⟨a, G0, C, fs, _, _, _, rfl, h, e.ty, .own _, e.ce, ?_⟩
  refine ⟨_, rfl, ?_⟩
  rw [if_neg (by decide)]
  refine ⟨a, G0, C, fs, _, _, _, rfl, h, e.ty, .ty _, e.cv, ?_⟩
  refine ⟨_, rfl, ?_⟩
  rw [if_neg (by decide)]
  refine ⟨ce, a, G0, C, fs, i, rfl, h, e, ?_⟩
  refine gLen_lst.mpr ?_
  rw [rowLen r]
  refine ⟨17, rfl, by decide, by decide, fun p hp => ?_⟩
  simp only [wipeD, wRet, wRetN, wSeq, wNext, wIfS, wAsg, wName, wPar, wDrop, wDPut, wFor, wISeq, wIRng1, wIRng2, wVar, wC, wNil, wCons, wBin, wUn, wCB, wTst, wAnd, wOr, DL.wNot, wAndV, wOrV, wNotV, wIf, wTup, wLst, wLstM, wCall, wGTup, wGCons, wGNil, wBrk, wCnt, wRaise, gI, gU, gOne , DL.gSub, gMul, gMod, gDiv, gPow, gLt, gLe, gGt, gGe, gNeg, gAbs, gMax2, gMin2, gInt2, wChain, wPar3, wSl, wNoPart, wPart, wIEnumA, wIEnumS, wIZipA, wIRng3, wLc, wLcM, wYes, wFld, wAug, wApp, wPop, wRev, wSubG, wMet, wBinO, wUnO, wCallK, gShl, gShr, wListRg1, wTupleRg1, wListRg2, wTupleRg2, wAugS, dstart, List.map_cons, List.map_nil, List.length_cons, List.length_nil, List.replicate, List.cons_append, List.nil_append, List.append_nil, List.getElem?_cons_zero, List.getElem?_cons_succ, List.set_cons_zero, List.set_cons_succ, Option.some.injEq, exists_eq_left', exists_eq_left, D.int.injEq, D.bl.injEq, D.str.injEq, D.tup.injEq, D.lst.injEq, D.obj.injEq, List.cons.injEq, and_true, true_and, Nat.zero_add, Nat.reduceAdd, Nat.reduceSub, decide_eq_true_eq, Bool.not_eq_true', decide_eq_false_iff_not, exists_and_left, exists_and_right, and_assoc, Bool.true_eq_false, Bool.false_eq_true, if_true, if_false, ne_eq]
  refine cmp_map (blOf (i : Nat)) hp (by decide) (fun _ _ => trivial) (fun d hd μ' hb R hR => ?_) ?_
  · obtain ⟨j, hj, rfl⟩ := List.mem_map.mp hd
    simp only [wRet, wRetN, wSeq, wNext, wIfS, wAsg, wName, wPar, wDrop, wDPut, wFor, wISeq, wIRng1, wIRng2, wVar, wC, wNil, wCons, wBin, wUn, wCB, wTst, wAnd, wOr, DL.wNot, wAndV, wOrV, wNotV, wIf, wTup, wLst, wLstM, wCall, wGTup, wGCons, wGNil, wBrk, wCnt, wRaise, gI, gU, gOne , DL.gSub, gMul, gMod, gDiv, gPow, gLt, gLe, gGt, gGe, gNeg, gAbs, gMax2, gMin2, gInt2, wChain, wPar3, wSl, wNoPart, wPart, wIEnumA, wIEnumS, wIZipA, wIRng3, wLc, wLcM, wYes, wFld, wAug, wApp, wPop, wRev, wSubG, wMet, wBinO, wUnO, wCallK, gShl, gShr, wListRg1, wTupleRg1, wListRg2, wTupleRg2, wAugS, dstart, List.map_cons, List.map_nil, List.length_cons, List.length_nil, List.replicate, List.cons_append, List.nil_append, List.append_nil, List.getElem?_cons_zero, List.getElem?_cons_succ, List.set_cons_zero, List.set_cons_succ, Option.some.injEq, exists_eq_left', exists_eq_left, D.int.injEq, D.bl.injEq, D.str.injEq, D.tup.injEq, D.lst.injEq, D.obj.injEq, List.cons.injEq, and_true, true_and, Nat.zero_add, Nat.reduceAdd, Nat.reduceSub, decide_eq_true_eq, Bool.not_eq_true', decide_eq_false_iff_not, exists_and_left, exists_and_right, and_assoc, Bool.true_eq_false, Bool.false_eq_true, if_true, if_false, ne_eq]
    exact eq_int (by rw [if_neg (by decide)]; exact hR)
  · rw [bls_eq]
    refine bl_same _ _ ⟨_, rfl, ?_⟩
    rw [if_neg (by decide)]
    exact k _
theorem gtup2 {i j : Nat} {x y : D} {δ : DSt} {R : DSt → M → Prop} (q : R ((δ.set i (some x)).set j (some y)) μ) : wGTup 2 (wGCons (wName i) (wGCons (wName j) wGNil)) (.tup [x, y]) δ μ R := by
  simp only [wRet, wRetN, wSeq, wNext, wIfS, wAsg, wName, wPar, wDrop, wDPut, wFor, wISeq, wIRng1, wIRng2, wVar, wC, wNil, wCons, wBin, wUn, wCB, wTst, wAnd, wOr, DL.wNot, wAndV, wOrV, wNotV, wIf, wTup, wLst, wLstM, wCall, wGTup, wGCons, wGNil, wBrk, wCnt, wRaise, gI, gU, gOne , DL.gSub, gMul, gMod, gDiv, gPow, gLt, gLe, gGt, gGe, gNeg, gAbs, gMax2, gMin2, gInt2, wChain, wPar3, wSl, wNoPart, wPart, wIEnumA, wIEnumS, wIZipA, wIRng3, wLc, wLcM, wYes, wFld, wAug, wApp, wPop, wRev, wSubG, wMet, wBinO, wUnO, wCallK, gShl, gShr, wListRg1, wTupleRg1, wListRg2, wTupleRg2, wAugS, dstart, List.map_cons, List.map_nil, List.length_cons, List.length_nil, List.replicate, List.cons_append, List.nil_append, List.append_nil, List.getElem?_cons_zero, List.getElem?_cons_succ, List.set_cons_zero, List.set_cons_succ, Option.some.injEq, exists_eq_left', exists_eq_left, D.int.injEq, D.bl.injEq, D.str.injEq, D.tup.injEq, D.lst.injEq, D.obj.injEq, List.cons.injEq, and_true, true_and, Nat.zero_add, Nat.reduceAdd, Nat.reduceSub, decide_eq_true_eq, Bool.not_eq_true', decide_eq_false_iff_not, exists_and_left, exists_and_right, and_assoc, Bool.true_eq_false, Bool.false_eq_true, if_true, if_false, ne_eq]
  exact q
theorem fldL_at {a b c d : D} {i : Nat} (h : (pairs (fldL a b c) ([1, 2, 2, 1, 2, 1, 1, 2, 3, 0, 0, 1, 1, 1, 2, 0, 0].map D.int))[i]? = some d) : ∃ j : Nat, j ≤ 3 ∧ d = .tup [.lst ([a, b, c].take j), .int (j : Nat)] := by
  match i, h with
  | 0, h => cases h; exact ⟨1, by decide, rfl⟩
  | 1, h => cases h; exact ⟨2, by decide, rfl⟩
  | 2, h => cases h; exact ⟨2, by decide, rfl⟩
  | 3, h => cases h; exact ⟨1, by decide, rfl⟩
  | 4, h => cases h; exact ⟨2, by decide, rfl⟩
  | 5, h => cases h; exact ⟨1, by decide, rfl⟩
  | 6, h => cases h; exact ⟨1, by decide, rfl⟩
  | 7, h => cases h; exact ⟨2, by decide, rfl⟩
  | 8, h => cases h; exact ⟨3, by decide, rfl⟩
  | 9, h => cases h; exact ⟨0, by decide, rfl⟩
  | 10, h => cases h; exact ⟨0, by decide, rfl⟩
  | 11, h => cases h; exact ⟨1, by decide, rfl⟩
  | 12, h => cases h; exact ⟨1, by decide, rfl⟩
  | 13, h => cases h; exact ⟨1, by decide, rfl⟩
  | 14, h => cases h; exact ⟨2, by decide, rfl⟩
  | 15, h => cases h; exact ⟨0, by decide, rfl⟩
  | 16, h => cases h; exact ⟨0, by decide, rfl⟩
  | n + 17, h => simp [pairs, fldL] at h
theorem cut3 {a b c : D} {j : Nat} (h : j ≤ 3) : cutD [a, b, c] none (some (j : Nat)) = [a, b, c].take j := by
  rcases (by omega : j = 0 ∨ j = 1 ∨ j = 2 ∨ j = 3) with rfl | rfl | rfl | rfl <;> rfl
theorem p0_law {T : List (Addr × Str)} (E : E17 K ce c0 c1 c2 c3 c4 c5 c6 c7 c8 c9 c10 c11 c12 c13 c14 c15 c16) : ∀ ds μ Q F, s_law T ds μ Q F → ds.length = 1 ∧ w_law K ce s__law_pen s__law_far s__law_pick (s0__law_objects K c0 c1 c2 c3 c4 c5 c6 c7 c8 c9 c10 c11 c12 c13 c14 c15 c16) (s0__law_kinds K c0 c1 c2 c3 c4 c5 c6 c7 c8 c9 c10 c11 c12 c13 c14 c15 c16) (s0__law_fields K c0 c1 c2 c3 c4 c5 c6 c7 c8 c9 c10 c11 c12 c13 c14 c15 c16) { nx := fun _ μ' => Q .non μ', rt := Q } F (dstart ["_law_script", "_law_pen_here", "_law_given", "_law_k", "_law_far_here", "_law_row", "_law_e", "_law_j", "_law_fields_here", "_law_many"] ds) μ := by
  rintro _ μ Q F ⟨ns, rfl, hl, tT, q⟩
  refine ⟨rfl, ?_⟩
  unfold w_law
  simp only [w_law_0, w_law_1, w_law_2, w_law_3, w_law_4, w_law_5, w_law_6, wRet, wRetN, wSeq, wNext, wIfS, wAsg, wName, wPar, wDrop, wDPut, wFor, wISeq, wIRng1, wIRng2, wVar, wC, wNil, wCons, wBin, wUn, wCB, wTst, wAnd, wOr, DL.wNot, wAndV, wOrV, wNotV, wIf, wTup, wLst, wLstM, wCall, wGTup, wGCons, wGNil, wBrk, wCnt, wRaise, gI, gU, gOne , DL.gSub, gMul, gMod, gDiv, gPow, gLt, gLe, gGt, gGe, gNeg, gAbs, gMax2, gMin2, gInt2, wChain, wPar3, wSl, wNoPart, wPart, wIEnumA, wIEnumS, wIZipA, wIRng3, wLc, wLcM, wYes, wFld, wAug, wApp, wPop, wRev, wSubG, wMet, wBinO, wUnO, wCallK, gShl, gShr, wListRg1, wTupleRg1, wListRg2, wTupleRg2, wAugS, dstart, List.map_cons, List.map_nil, List.length_cons, List.length_nil, List.replicate, List.cons_append, List.nil_append, List.append_nil, List.getElem?_cons_zero, List.getElem?_cons_succ, List.set_cons_zero, List.set_cons_succ, Option.some.injEq, exists_eq_left', exists_eq_left, D.int.injEq, D.bl.injEq, D.str.injEq, D.tup.injEq, D.lst.injEq, D.obj.injEq, List.cons.injEq, and_true, true_and, Nat.zero_add, Nat.reduceAdd, Nat.reduceSub, decide_eq_true_eq, Bool.not_eq_true', decide_eq_false_iff_not, exists_and_left, exists_and_right, and_assoc, Bool.true_eq_false, Bool.false_eq_true, if_true, if_false, ne_eq]
  refine ⟨ns, rfl, hl, fun p μ1 hp o1 pen1 => ⟨by decide, fun g hg => ⟨by decide, by decide, ?_⟩⟩⟩
  have gp : g ≠ p := fun z => by
    obtain ⟨_, _, _, _, _, h, _⟩ := pen1
    rw [z, h] at hg
    cases hg
  refine loop_inv _ (fun i δ μ => ∃ d3 d4 gs, δ = [some (.ro (ns.map .int)), some (.obj p), some (.obj g), d3, d4, none, none, none, none, none] ∧ μ g = some (.lst gs) ∧ gs.length = i ∧ i ≤ 3 ∧ (∀ x ∈ gs, Gv x) ∧ Pen p μ (20 * i)) ⟨_, _, [], rfl, mput_same, rfl, by decide, nofun, pen_put pen1 gp⟩ (fun _ _ _ _ => trivial) ?_ ?_
  · rintro i d hd δ μ2 ⟨d3, d4, gs, rfl, h1, h2, h3, h4, h5⟩ R hR
    have hi : i < 3 := by
      obtain ⟨h, _⟩ := List.getElem?_eq_some_iff.mp hd
      simpa [intsD] using h
    dsimp only [List.set_cons_zero, List.set_cons_succ]
    refine lap0 h5 (by omega) h1 (by omega) fun x o4 μ3 gx p3 m3 => hR _ _ ⟨_, _, _, rfl, m3, by rw [List.length_append, h2]; rfl, by omega, fun y hy => ?_, p3.mono (by omega)⟩
    rcases List.mem_append.mp hy with hy | hy
    · exact h4 y hy
    · rw [List.mem_singleton.mp hy]; exact gx
  · rintro δ μ2 ⟨d3, d4, gs, rfl, h1, h2, _, h4, h5⟩
    have h2' : gs.length = 3 := by rw [h2]; rfl
    match gs, h2', h1, h4 with
    | [a, b, c], _, h1, h4 =>
      simp only [wRet, wRetN, wSeq, wNext, wIfS, wAsg, wName, wPar, wDrop, wDPut, wFor, wISeq, wIRng1, wIRng2, wVar, wC, wNil, wCons, wBin, wUn, wCB, wTst, wAnd, wOr, DL.wNot, wAndV, wOrV, wNotV, wIf, wTup, wLst, wLstM, wCall, wGTup, wGCons, wGNil, wBrk, wCnt, wRaise, gI, gU, gOne , DL.gSub, gMul, gMod, gDiv, gPow, gLt, gLe, gGt, gGe, gNeg, gAbs, gMax2, gMin2, gInt2, wChain, wPar3, wSl, wNoPart, wPart, wIEnumA, wIEnumS, wIZipA, wIRng3, wLc, wLcM, wYes, wFld, wAug, wApp, wPop, wRev, wSubG, wMet, wBinO, wUnO, wCallK, gShl, gShr, wListRg1, wTupleRg1, wListRg2, wTupleRg2, wAugS, dstart, List.map_cons, List.map_nil, List.length_cons, List.length_nil, List.replicate, List.cons_append, List.nil_append, List.append_nil, List.getElem?_cons_zero, List.getElem?_cons_succ, List.set_cons_zero, List.set_cons_succ, Option.some.injEq, exists_eq_left', exists_eq_left, D.int.injEq, D.bl.injEq, D.str.injEq, D.tup.injEq, D.lst.injEq, D.obj.injEq, List.cons.injEq, and_true, true_and, Nat.zero_add, Nat.reduceAdd, Nat.reduceSub, decide_eq_true_eq, Bool.not_eq_true', decide_eq_false_iff_not, exists_and_left, exists_and_right, and_assoc, Bool.true_eq_false, Bool.false_eq_true, if_true, if_false, ne_eq]
      refine gIx_obj h1 rfl (gIx_obj h1 rfl (gIx_obj h1 rfl ⟨a, b, c, rfl, fun os r => ?_⟩))
      simp only [wRet, wRetN, wSeq, wNext, wIfS, wAsg, wName, wPar, wDrop, wDPut, wFor, wISeq, wIRng1, wIRng2, wVar, wC, wNil, wCons, wBin, wUn, wCB, wTst, wAnd, wOr, DL.wNot, wAndV, wOrV, wNotV, wIf, wTup, wLst, wLstM, wCall, wGTup, wGCons, wGNil, wBrk, wCnt, wRaise, gI, gU, gOne , DL.gSub, gMul, gMod, gDiv, gPow, gLt, gLe, gGt, gGe, gNeg, gAbs, gMax2, gMin2, gInt2, wChain, wPar3, wSl, wNoPart, wPart, wIEnumA, wIEnumS, wIZipA, wIRng3, wLc, wLcM, wYes, wFld, wAug, wApp, wPop, wRev, wSubG, wMet, wBinO, wUnO, wCallK, gShl, gShr, wListRg1, wTupleRg1, wListRg2, wTupleRg2, wAugS, dstart, List.map_cons, List.map_nil, List.length_cons, List.length_nil, List.replicate, List.cons_append, List.nil_append, List.append_nil, List.getElem?_cons_zero, List.getElem?_cons_succ, List.set_cons_zero, List.set_cons_succ, Option.some.injEq, exists_eq_left', exists_eq_left, D.int.injEq, D.bl.injEq, D.str.injEq, D.tup.injEq, D.lst.injEq, D.obj.injEq, List.cons.injEq, and_true, true_and, Nat.zero_add, Nat.reduceAdd, Nat.reduceSub, decide_eq_true_eq, Bool.not_eq_true', decide_eq_false_iff_not, exists_and_left, exists_and_right, and_assoc, Bool.true_eq_false, Bool.false_eq_true, if_true, if_false, ne_eq]
      refine .inl ⟨os, .inl rfl, ?_⟩
      refine loop_inv _ (fun i δ μ => ∃ d3 d4 d6 d7, δ = [some (.ro (ns.map .int)), some (.obj p), some (.obj g), d3, d4, some (.lst os), d6, d7, none, none] ∧ μ g = some (.lst [a, b, c])) ⟨_, _, _, _, rfl, h1⟩ (fun _ _ _ _ => trivial) ?_ ?_
      · rintro i d hd δ μ3 ⟨d3, d4, d6, d7, rfl, m3⟩ R hR
        obtain ⟨o, ho, rfl⟩ := enum_at hd
        refine gtup2 ?_
        dsimp only [List.set_cons_zero, List.set_cons_succ]
        exact lap4 r E ho fun o7 => hR _ _ ⟨_, _, _, _, rfl, m3⟩
      · rintro δ μ3 ⟨d3, d4, d6, d7, rfl, m3⟩
        simp only [wRet, wRetN, wSeq, wNext, wIfS, wAsg, wName, wPar, wDrop, wDPut, wFor, wISeq, wIRng1, wIRng2, wVar, wC, wNil, wCons, wBin, wUn, wCB, wTst, wAnd, wOr, DL.wNot, wAndV, wOrV, wNotV, wIf, wTup, wLst, wLstM, wCall, wGTup, wGCons, wGNil, wBrk, wCnt, wRaise, gI, gU, gOne , DL.gSub, gMul, gMod, gDiv, gPow, gLt, gLe, gGt, gGe, gNeg, gAbs, gMax2, gMin2, gInt2, wChain, wPar3, wSl, wNoPart, wPart, wIEnumA, wIEnumS, wIZipA, wIRng3, wLc, wLcM, wYes, wFld, wAug, wApp, wPop, wRev, wSubG, wMet, wBinO, wUnO, wCallK, gShl, gShr, wListRg1, wTupleRg1, wListRg2, wTupleRg2, wAugS, dstart, List.map_cons, List.map_nil, List.length_cons, List.length_nil, List.replicate, List.cons_append, List.nil_append, List.append_nil, List.getElem?_cons_zero, List.getElem?_cons_succ, List.set_cons_zero, List.set_cons_succ, Option.some.injEq, exists_eq_left', exists_eq_left, D.int.injEq, D.bl.injEq, D.str.injEq, D.tup.injEq, D.lst.injEq, D.obj.injEq, List.cons.injEq, and_true, true_and, Nat.zero_add, Nat.reduceAdd, Nat.reduceSub, decide_eq_true_eq, Bool.not_eq_true', decide_eq_false_iff_not, exists_and_left, exists_and_right, and_assoc, Bool.true_eq_false, Bool.false_eq_true, if_true, if_false, ne_eq]
        refine ⟨os, a, b, c, rfl, r, by decide, _, rfl, _, rfl, ?_⟩
        refine loop_inv _ (fun i δ μ => ∃ d3 d4 d6 d7 d8 d9, δ = [some (.ro (ns.map .int)), some (.obj p), some (.obj g), d3, d4, some (.lst os), d6, d7, d8, d9] ∧ μ g = some (.lst [a, b, c])) ⟨_, _, _, _, _, _, rfl, m3⟩ (fun _ _ _ _ => ⟨rfl, rfl⟩) ?_ ?_
        · rintro i d hd δ μ4 ⟨d3, d4, d6, d7, d8, d9, rfl, m4⟩ R hR
          obtain ⟨j, hj, rfl⟩ := fldL_at hd
          refine gtup2 ?_
          dsimp only [List.set_cons_zero, List.set_cons_succ]
          simp only [w_law_5_0, wRet, wRetN, wSeq, wNext, wIfS, wAsg, wName, wPar, wDrop, wDPut, wFor, wISeq, wIRng1, wIRng2, wVar, wC, wNil, wCons, wBin, wUn, wCB, wTst, wAnd, wOr, DL.wNot, wAndV, wOrV, wNotV, wIf, wTup, wLst, wLstM, wCall, wGTup, wGCons, wGNil, wBrk, wCnt, wRaise, gI, gU, gOne , DL.gSub, gMul, gMod, gDiv, gPow, gLt, gLe, gGt, gGe, gNeg, gAbs, gMax2, gMin2, gInt2, wChain, wPar3, wSl, wNoPart, wPart, wIEnumA, wIEnumS, wIZipA, wIRng3, wLc, wLcM, wYes, wFld, wAug, wApp, wPop, wRev, wSubG, wMet, wBinO, wUnO, wCallK, gShl, gShr, wListRg1, wTupleRg1, wListRg2, wTupleRg2, wAugS, dstart, List.map_cons, List.map_nil, List.length_cons, List.length_nil, List.replicate, List.cons_append, List.nil_append, List.append_nil, List.getElem?_cons_zero, List.getElem?_cons_succ, List.set_cons_zero, List.set_cons_succ, Option.some.injEq, exists_eq_left', exists_eq_left, D.int.injEq, D.bl.injEq, D.str.injEq, D.tup.injEq, D.lst.injEq, D.obj.injEq, List.cons.injEq, and_true, true_and, Nat.zero_add, Nat.reduceAdd, Nat.reduceSub, decide_eq_true_eq, Bool.not_eq_true', decide_eq_false_iff_not, exists_and_left, exists_and_right, and_assoc, Bool.true_eq_false, Bool.false_eq_true, if_true, if_false, ne_eq]
          have hg' : ∀ y ∈ [a, b, c].take j, Gv y := fun y hy => h4 y (List.mem_of_mem_take hy)
          have hl' : ([a, b, c].take j).length ≤ 3 := by rw [List.length_take]; exact Nat.min_le_right _ _
          refine gv_repr hg' hl' fun ok => .inl ⟨_, .inl (lstOf_obj m4), ?_⟩
          rw [cut3 hj]
          refine gv_repr hg' hl' fun _ => eq_txt ok ok ⟨_, rfl, ?_⟩
          simp only [beq_self_eq_true, Bool.not_true, if_true, Bool.false_eq_true, if_false]
          exact hR _ _ ⟨_, _, _, _, _, _, rfl, m4⟩
        · rintro δ μ4 ⟨d3, d4, d6, d7, d8, d9, rfl, m4⟩
          exact q _
end
end NC

set_option maxHeartbeats 2000000
namespace NC
open PySem PySem.Spec PyProof.Rows L2 DL LL PL
theorem bt_ValueError : bootBuiltins "ValueError" = some (.type "ValueError") := by decide +kernel
theorem bt_int : bootBuiltins "int" = some (.type "int") := by decide +kernel
theorem bt_isinstance : bootBuiltins "isinstance" = some (.builtin "isinstance") := by decide +kernel
theorem bt_len : bootBuiltins "len" = some (.builtin "len") := by decide +kernel
theorem bt_list : bootBuiltins "list" = some (.type "list") := by decide +kernel
theorem bt_repr : bootBuiltins "repr" = some (.builtin "repr") := by decide +kernel
theorem bt_str : bootBuiltins "str" = some (.type "str") := by decide +kernel
section
variable {P : Program} {w : World} {K : PySem.W.Frag} {mg : Str → Option Value} {base : Heap}
/-! #### _law_pen -/
theorem sc__law_pen : FnScope ["_law_script", "_law_fold", "_law_cell"] ["_law_script"] (defScope (top 20)) := ⟨rfl, rfl, rfl, by decide +kernel, rfl, by decide +kernel, by decide +kernel⟩
theorem g__law_pen {wp : DF} (D : DefD K mg "_law_pen" (top 20)) (B : ∀ x ∈ (["int", "list"] : List Str), mg x = none) (h : ∀ ds μ Q F, wp ds μ Q F → ds.length = 1 ∧ w__law_pen K { nx := fun _ μ' => Q .non μ', rt := Q } F (dstart ["_law_script", "_law_fold", "_law_cell"] ds) μ) : CalD P w K mg base 1 "_law_pen" wp := by
  refine cal_of (wb := w__law_pen K) D sc__law_pen (fun _ _ _ _ _ _ us hl => match us, hl with | [_], _ => rfl) (fun f cdv A outer s H E c => ?_) h
  exact ⟨_, (pdb_cons (pds_set 1 sc__law_pen.nd pd_int) (pdb_cons (pds_for (passes_of rfl) c.calm (pdi_seq (pdv 0)) (pdg_name 2 sc__law_pen.nd) (pdb_one (pds_set 1 sc__law_pen.nd (pd_bin o_mod (pd_callT c_int (B "int" (by decide)) bt_int (pda_cons (pd_bin (o_addK K rfl) (pd_bin o_mul (pdv 1) pd_int) (pdv 2)) pda_nil)) pd_int)))) (pdb_one (pds_ret (pd_dctM (PPD.cons pd_str (pd_callT (c_listK K rfl) (B "list" (by decide)) bt_list (pda_cons (pdv 0) pda_nil)) (PPD.cons pd_str pd_int (PPD.cons pd_str pd_int (PPD.cons pd_str pd_int (PPD.cons pd_str (pdv 1) PPD.nil))))))))))⟩
/-! #### _law_draw -/
theorem sc__law_draw : FnScope ["_law_pen_here", "_law_many", "_law_cell", "_law_digit", "_law_mixed"] ["_law_pen_here", "_law_many"] (defScope (top 21)) := ⟨rfl, rfl, rfl, by decide +kernel, rfl, by decide +kernel, by decide +kernel⟩
theorem g__law_draw {wp : DF} (D : DefD K mg "_law_draw" (top 21)) (B : ∀ x ∈ (["len", "int"] : List Str), mg x = none) (HS : SysP P base) (h : ∀ ds μ Q F, wp ds μ Q F → ds.length = 2 ∧ w__law_draw K { nx := fun _ μ' => Q .non μ', rt := Q } F (dstart ["_law_pen_here", "_law_many", "_law_cell", "_law_digit", "_law_mixed"] ds) μ) : CalD P w K mg base 33 "_law_draw" wp := by
  refine cal_of (wb := w__law_draw K) D sc__law_draw (fun _ _ _ _ _ _ us hl => match us, hl with | [_, _], _ => rfl) (fun f cdv A outer s H E c => ?_) h
  exact ⟨_, (pdb_cons (pds_dput c.hu1 (pdv 0) pd_str (pd_bin (o_addK K rfl) (pd_dget c.hu1 (pdv 0) pd_str) pd_int)) (pdb_cons (pds_if (pdw_and (pdt_cmp (o_eqK K rfl c.hu) (pd_dget c.hu1 (pdv 0) pd_str) pd_int) (pdw_and1 (pdt_cmp o_lt (pd_dget c.hu1 (pdv 0) pd_str) (pd_callB (c_lenK K rfl) (B "len" (by decide)) bt_len (pda_cons (pd_dget c.hu1 (pdv 0) pd_str) pda_nil))))).pdt (pdb_cons (pds_set 2 sc__law_draw.nd (pd_ixK K rfl (pd_dget c.hu1 (pdv 0) pd_str) (pd_dget c.hu1 (pdv 0) pd_str))) (pdb_cons (pds_dput c.hu1 (pdv 0) pd_str (pd_bin (o_addK K rfl) (pd_dget c.hu1 (pdv 0) pd_str) pd_int)) (pdb_one (pds_if (pdt_cmp o_ge (pdv 2) (pd_bin o_pow pd_int pd_int)) (pdb_one (pds_dput c.hu1 (pdv 0) pd_str (pd_bin o_sub (pdv 2) (pd_bin o_pow pd_int pd_int)))) (pdb_one (pds_dput c.hu1 (pdv 0) pd_str (pd_bin o_mod (pd_callT c_int (B "int" (by decide)) bt_int (pda_cons (pd_bin (o_addK K rfl) (pd_bin o_mul (pd_dget c.hu1 (pdv 0) pd_str) pd_int) (pdv 2)) pda_nil)) pd_int))))))) pdb_nil) (pdb_cons (pds_if (pdt_cmp o_gt (pd_dget c.hu1 (pdv 0) pd_str) pd_int) (pdb_cons (pds_set 3 sc__law_draw.nd (pd_bin o_mod (pd_callT c_int (B "int" (by decide)) bt_int (pda_cons (pd_dget c.hu1 (pdv 0) pd_str) pda_nil)) (pdv 1))) (pdb_cons (pds_dput c.hu1 (pdv 0) pd_str (pd_bin (o_divP K rfl HS c) (pd_dget c.hu1 (pdv 0) pd_str) (pdv 1))) (pdb_one (pds_ret (pdv 3))))) pdb_nil) (pdb_cons (pds_set 4 sc__law_draw.nd (pd_bin (o_addK K rfl) (pd_bin (o_addK K rfl) (pd_dget c.hu1 (pdv 0) pd_str) (pd_bin o_mul (pd_dget c.hu1 (pdv 0) pd_str) pd_int)) pd_int)) (pdb_one (pds_ret (pd_bin o_mod (pd_bin (o_divP K rfl HS c) (pd_callT c_int (B "int" (by decide)) bt_int (pda_cons (pd_bin o_mod (pd_bin o_pow (pdv 4) pd_int) pd_int) pda_nil)) pd_int) (pdv 1))))))))⟩
/-! #### _law_pick -/
theorem sc__law_pick : FnScope ["_law_pen_here", "_law_some"] ["_law_pen_here", "_law_some"] (defScope (top 22)) := ⟨rfl, rfl, rfl, by decide +kernel, rfl, by decide +kernel, by decide +kernel⟩
theorem g__law_pick {wp : DF} {s__law_draw : DF} (D : DefD K mg "_law_pick" (top 22)) (B : ∀ x ∈ (["len"] : List Str), mg x = none) (C__law_draw : CalD P w K mg base 33 "_law_draw" s__law_draw) (h : ∀ ds μ Q F, wp ds μ Q F → ds.length = 2 ∧ w__law_pick K s__law_draw { nx := fun _ μ' => Q .non μ', rt := Q } F (dstart ["_law_pen_here", "_law_some"] ds) μ) : CalD P w K mg base 34 "_law_pick" wp := by
  refine cal_of (wb := w__law_pick K s__law_draw) D sc__law_pick (fun _ _ _ _ _ _ us hl => match us, hl with | [_, _], _ => rfl) (fun f cdv A outer s H E c => ?_) h
  exact ⟨_, (pdb_one (pds_ret (pd_ixK K rfl (pdv 1) (pd_call K rfl c C__law_draw (pda_cons (pdv 0) (pda_cons (pd_callB (c_lenK K rfl) (B "len" (by decide)) bt_len (pda_cons (pdv 1) pda_nil)) pda_nil))))))⟩
/-! #### _law_far -/
theorem sc__law_far : FnScope ["_law_pen_here", "_law_found", "_law_k"] ["_law_pen_here"] (defScope (top 23)) := ⟨rfl, rfl, rfl, by decide +kernel, rfl, by decide +kernel, by decide +kernel⟩
theorem g__law_far {wp : DF} {s__law_pick s__law_draw : DF} (D : DefD K mg "_law_far" (top 23)) (B : ∀ x ∈ (["range"] : List Str), mg x = none) (C__law_pick : CalD P w K mg base 34 "_law_pick" s__law_pick) (C__law_draw : CalD P w K mg base 33 "_law_draw" s__law_draw) (h : ∀ ds μ Q F, wp ds μ Q F → ds.length = 1 ∧ w__law_far K s__law_pick s__law_draw { nx := fun _ μ' => Q .non μ', rt := Q } F (dstart ["_law_pen_here", "_law_found", "_law_k"] ds) μ) : CalD P w K mg base 35 "_law_far" wp := by
  refine cal_of (wb := w__law_far K s__law_pick s__law_draw) D sc__law_far (fun _ _ _ _ _ _ us hl => match us, hl with | [_], _ => rfl) (fun f cdv A outer s H E c => ?_) h
  exact ⟨_, (pdb_cons (pds_set 1 sc__law_far.nd pd_int) (pdb_cons (pds_for (passes_of rfl) c.calm (pdi_range1 (B "range" (by decide)) (pda_cons (pd_call K rfl c C__law_pick (pda_cons (pdv 0) (pda_cons (pd_lst (pda_cons pd_int (pda_cons pd_int (pda_cons pd_int (pda_cons pd_int (pda_cons pd_int pda_nil)))))) pda_nil))) pda_nil)) (pdg_name 2 sc__law_far.nd) (pdb_one (pds_set 1 sc__law_far.nd (pd_bin (o_addK K rfl) (pd_bin o_mul (pdv 1) pd_int) (pd_call K rfl c C__law_draw (pda_cons (pdv 0) (pda_cons pd_int pda_nil))))))) (pdb_one (pds_ret (pd_if (pdt_cmp o_gt (pd_call K rfl c C__law_draw (pda_cons (pdv 0) (pda_cons pd_int pda_nil))) pd_int) (pdv 1) (pd_un o_neg (pdv 1)))))))⟩
/-! #### _law_kinds -/
theorem sc__law_kinds : FnScope ["_law_e", "_law_first"] ["_law_e"] (defScope (top 24)) := ⟨rfl, rfl, rfl, by decide +kernel, rfl, by decide +kernel, by decide +kernel⟩
theorem g__law_kinds {wp : DF} {a_BadInterval a_BadLine a_BadName a_BadNumber a_BadRow a_BadText a_Fewer a_NoName a_NotKept a_NothingToRedo a_NothingToUndo a_Pole a_TakenName a_TooLarge a_TooMany a_TooWide a_Unlike : Addr} (D : DefD K mg "_law_kinds" (top 24)) (B : ∀ x ∈ (["isinstance"] : List Str), mg x = none) (m_BadRow : mg "BadRow" = some (.ref a_BadRow)) (m_BadNumber : mg "BadNumber" = some (.ref a_BadNumber)) (m_BadLine : mg "BadLine" = some (.ref a_BadLine)) (m_BadText : mg "BadText" = some (.ref a_BadText)) (m_TooMany : mg "TooMany" = some (.ref a_TooMany)) (m_Unlike : mg "Unlike" = some (.ref a_Unlike)) (m_BadName : mg "BadName" = some (.ref a_BadName)) (m_BadInterval : mg "BadInterval" = some (.ref a_BadInterval)) (m_Fewer : mg "Fewer" = some (.ref a_Fewer)) (m_Pole : mg "Pole" = some (.ref a_Pole)) (m_TooWide : mg "TooWide" = some (.ref a_TooWide)) (m_TooLarge : mg "TooLarge" = some (.ref a_TooLarge)) (m_NotKept : mg "NotKept" = some (.ref a_NotKept)) (m_TakenName : mg "TakenName" = some (.ref a_TakenName)) (m_NoName : mg "NoName" = some (.ref a_NoName)) (m_NothingToRedo : mg "NothingToRedo" = some (.ref a_NothingToRedo)) (m_NothingToUndo : mg "NothingToUndo" = some (.ref a_NothingToUndo)) (h : ∀ ds μ Q F, wp ds μ Q F → ds.length = 1 ∧ w__law_kinds K a_BadInterval a_BadLine a_BadName a_BadNumber a_BadRow a_BadText a_Fewer a_NoName a_NotKept a_NothingToRedo a_NothingToUndo a_Pole a_TakenName a_TooLarge a_TooMany a_TooWide a_Unlike { nx := fun _ μ' => Q .non μ', rt := Q } F (dstart ["_law_e", "_law_first"] ds) μ) : CalD P w K mg base 1 "_law_kinds" wp := by
  refine cal_of (wb := w__law_kinds K a_BadInterval a_BadLine a_BadName a_BadNumber a_BadRow a_BadText a_Fewer a_NoName a_NotKept a_NothingToRedo a_NothingToUndo a_Pole a_TakenName a_TooLarge a_TooMany a_TooWide a_Unlike) D sc__law_kinds (fun _ _ _ _ _ _ us hl => match us, hl with | [_], _ => rfl) (fun f cdv A outer s H E c => ?_) h
  exact ⟨_, (pdb_cons (pds_set 1 sc__law_kinds.nd (pd_lst (pda_cons (pd_callB (c_isE K rfl) (B "isinstance" (by decide)) bt_isinstance (pda_cons (pdv 0) (pda_cons (pd_raw m_BadText) pda_nil))) (pda_cons (pd_callB (c_isE K rfl) (B "isinstance" (by decide)) bt_isinstance (pda_cons (pdv 0) (pda_cons (pd_raw m_BadLine) pda_nil))) (pda_cons (pd_callB (c_isE K rfl) (B "isinstance" (by decide)) bt_isinstance (pda_cons (pdv 0) (pda_cons (pd_raw m_BadNumber) pda_nil))) (pda_cons (pd_callB (c_isE K rfl) (B "isinstance" (by decide)) bt_isinstance (pda_cons (pdv 0) (pda_cons (pd_raw m_BadRow) pda_nil))) pda_nil)))))) (pdb_cons (pds_set 1 sc__law_kinds.nd (pd_bin (o_addK K rfl) (pdv 1) (pd_lst (pda_cons (pd_callB (c_isE K rfl) (B "isinstance" (by decide)) bt_isinstance (pda_cons (pdv 0) (pda_cons (pd_raw m_BadInterval) pda_nil))) (pda_cons (pd_callB (c_isE K rfl) (B "isinstance" (by decide)) bt_isinstance (pda_cons (pdv 0) (pda_cons (pd_raw m_BadName) pda_nil))) (pda_cons (pd_callB (c_isE K rfl) (B "isinstance" (by decide)) bt_isinstance (pda_cons (pdv 0) (pda_cons (pd_raw m_Unlike) pda_nil))) (pda_cons (pd_callB (c_isE K rfl) (B "isinstance" (by decide)) bt_isinstance (pda_cons (pdv 0) (pda_cons (pd_raw m_TooMany) pda_nil))) pda_nil))))))) (pdb_cons (pds_set 1 sc__law_kinds.nd (pd_bin (o_addK K rfl) (pdv 1) (pd_lst (pda_cons (pd_callB (c_isE K rfl) (B "isinstance" (by decide)) bt_isinstance (pda_cons (pdv 0) (pda_cons (pd_raw m_TooLarge) pda_nil))) (pda_cons (pd_callB (c_isE K rfl) (B "isinstance" (by decide)) bt_isinstance (pda_cons (pdv 0) (pda_cons (pd_raw m_TooWide) pda_nil))) (pda_cons (pd_callB (c_isE K rfl) (B "isinstance" (by decide)) bt_isinstance (pda_cons (pdv 0) (pda_cons (pd_raw m_Pole) pda_nil))) (pda_cons (pd_callB (c_isE K rfl) (B "isinstance" (by decide)) bt_isinstance (pda_cons (pdv 0) (pda_cons (pd_raw m_Fewer) pda_nil))) pda_nil))))))) (pdb_cons (pds_set 1 sc__law_kinds.nd (pd_bin (o_addK K rfl) (pdv 1) (pd_lst (pda_cons (pd_callB (c_isE K rfl) (B "isinstance" (by decide)) bt_isinstance (pda_cons (pdv 0) (pda_cons (pd_raw m_NoName) pda_nil))) (pda_cons (pd_callB (c_isE K rfl) (B "isinstance" (by decide)) bt_isinstance (pda_cons (pdv 0) (pda_cons (pd_raw m_TakenName) pda_nil))) (pda_cons (pd_callB (c_isE K rfl) (B "isinstance" (by decide)) bt_isinstance (pda_cons (pdv 0) (pda_cons (pd_raw m_NotKept) pda_nil))) pda_nil)))))) (pdb_one (pds_ret (pd_bin (o_addK K rfl) (pdv 1) (pd_lst (pda_cons (pd_callB (c_isE K rfl) (B "isinstance" (by decide)) bt_isinstance (pda_cons (pdv 0) (pda_cons (pd_raw m_NothingToUndo) pda_nil))) (pda_cons (pd_callB (c_isE K rfl) (B "isinstance" (by decide)) bt_isinstance (pda_cons (pdv 0) (pda_cons (pd_raw m_NothingToRedo) pda_nil))) pda_nil))))))))))⟩
/-! #### _law_objects -/
theorem sc__law_objects : FnScope ["_law_a", "_law_b", "_law_c", "_law_first"] ["_law_a", "_law_b", "_law_c"] (defScope (top 25)) := ⟨rfl, rfl, rfl, by decide +kernel, rfl, by decide +kernel, by decide +kernel⟩
theorem g__law_objects {wp : DF} {a_BadInterval a_BadLine a_BadName a_BadNumber a_BadRow a_BadText a_Fewer a_NoName a_NotKept a_NothingToRedo a_NothingToUndo a_Pole a_TakenName a_TooLarge a_TooMany a_TooWide a_Unlike : Addr} (D : DefD K mg "_law_objects" (top 25)) (e_Unlike : ExcD P w K mg base 1 "Unlike" a_Unlike ["what"]) (e_BadName : ExcD P w K mg base 1 "BadName" a_BadName ["name"]) (e_BadInterval : ExcD P w K mg base 1 "BadInterval" a_BadInterval ["low", "high"]) (e_BadRow : ExcD P w K mg base 1 "BadRow" a_BadRow ["row"]) (e_BadNumber : ExcD P w K mg base 1 "BadNumber" a_BadNumber ["what", "number"]) (e_BadLine : ExcD P w K mg base 1 "BadLine" a_BadLine ["line", "column"]) (e_BadText : ExcD P w K mg base 1 "BadText" a_BadText ["column"]) (e_TakenName : ExcD P w K mg base 1 "TakenName" a_TakenName ["name"]) (e_NoName : ExcD P w K mg base 1 "NoName" a_NoName ["name"]) (e_Fewer : ExcD P w K mg base 1 "Fewer" a_Fewer ["what"]) (e_Pole : ExcE P w K mg base 1 "Pole" a_Pole) (e_TooWide : ExcE P w K mg base 1 "TooWide" a_TooWide) (e_TooLarge : ExcD P w K mg base 1 "TooLarge" a_TooLarge ["what", "number", "limit"]) (e_TooMany : ExcD P w K mg base 1 "TooMany" a_TooMany ["what", "limit"]) (e_NothingToRedo : ExcE P w K mg base 1 "NothingToRedo" a_NothingToRedo) (e_NothingToUndo : ExcE P w K mg base 1 "NothingToUndo" a_NothingToUndo) (e_NotKept : ExcD P w K mg base 1 "NotKept" a_NotKept ["promise", "witness"]) (h : ∀ ds μ Q F, wp ds μ Q F → ds.length = 3 ∧ w__law_objects K a_BadInterval a_BadLine a_BadName a_BadNumber a_BadRow a_BadText a_Fewer a_NoName a_NotKept a_NothingToRedo a_NothingToUndo a_Pole a_TakenName a_TooLarge a_TooMany a_TooWide a_Unlike { nx := fun _ μ' => Q .non μ', rt := Q } F (dstart ["_law_a", "_law_b", "_law_c", "_law_first"] ds) μ) : CalD P w K mg base 3 "_law_objects" wp := by
  refine cal_of (wb := w__law_objects K a_BadInterval a_BadLine a_BadName a_BadNumber a_BadRow a_BadText a_Fewer a_NoName a_NotKept a_NothingToRedo a_NothingToUndo a_Pole a_TakenName a_TooLarge a_TooMany a_TooWide a_Unlike) D sc__law_objects (fun _ _ _ _ _ _ us hl => match us, hl with | [_, _, _], _ => rfl) (fun f cdv A outer s H E c => ?_) h
  exact ⟨_, (pdb_cons (pds_set 3 sc__law_objects.nd (pd_lst (pda_cons (pd_err K rfl c e_BadText (pda_cons (pdv 0) pda_nil)) (pda_cons (pd_err K rfl c e_BadLine (pda_cons (pdv 0) (pda_cons (pdv 1) pda_nil))) (pda_cons (pd_err K rfl c e_BadNumber (pda_cons (pdv 0) (pda_cons (pdv 1) pda_nil))) (pda_cons (pd_err K rfl c e_BadRow (pda_cons (pdv 0) pda_nil)) (pda_cons (pd_err K rfl c e_BadInterval (pda_cons (pdv 0) (pda_cons (pdv 1) pda_nil))) (pda_cons (pd_err K rfl c e_BadName (pda_cons (pdv 0) pda_nil)) (pda_cons (pd_err K rfl c e_Unlike (pda_cons (pdv 0) pda_nil)) pda_nil))))))))) (pdb_cons (pds_set 3 sc__law_objects.nd (pd_bin (o_addK K rfl) (pdv 3) (pd_lst (pda_cons (pd_err K rfl c e_TooMany (pda_cons (pdv 0) (pda_cons (pdv 1) pda_nil))) (pda_cons (pd_err K rfl c e_TooLarge (pda_cons (pdv 0) (pda_cons (pdv 1) (pda_cons (pdv 2) pda_nil)))) (pda_cons (pd_err0 K rfl c e_TooWide) (pda_cons (pd_err0 K rfl c e_Pole) (pda_cons (pd_err K rfl c e_Fewer (pda_cons (pdv 0) pda_nil)) (pda_cons (pd_err K rfl c e_NoName (pda_cons (pdv 0) pda_nil)) (pda_cons (pd_err K rfl c e_TakenName (pda_cons (pdv 0) pda_nil)) pda_nil)))))))))) (pdb_one (pds_ret (pd_bin (o_addK K rfl) (pdv 3) (pd_lst (pda_cons (pd_err K rfl c e_NotKept (pda_cons (pdv 0) (pda_cons (pdv 1) pda_nil))) (pda_cons (pd_err0 K rfl c e_NothingToUndo) (pda_cons (pd_err0 K rfl c e_NothingToRedo) pda_nil)))))))))⟩
/-! #### _law_fields -/
theorem sc__law_fields : FnScope ["_law_row", "_law_first"] ["_law_row"] (defScope (top 26)) := ⟨rfl, rfl, rfl, by decide +kernel, rfl, by decide +kernel, by decide +kernel⟩
theorem g__law_fields {wp : DF} {a_BadInterval a_BadLine a_BadName a_BadNumber a_BadRow a_BadText a_Fewer a_NoName a_NotKept a_TakenName a_TooLarge a_TooMany a_Unlike : Addr} (D : DefD K mg "_law_fields" (top 26)) (X_row : ErF K "row" [a_BadRow]) (X_number : ErF K "number" [a_BadNumber, a_TooLarge]) (X_what : ErF K "what" [a_BadNumber, a_Unlike, a_TooMany, a_TooLarge, a_Fewer]) (X_column : ErF K "column" [a_BadText, a_BadLine]) (X_line : ErF K "line" [a_BadLine]) (X_limit : ErF K "limit" [a_TooMany, a_TooLarge]) (X_name : ErF K "name" [a_BadName, a_NoName, a_TakenName]) (X_high : ErF K "high" [a_BadInterval]) (X_low : ErF K "low" [a_BadInterval]) (X_witness : ErF K "witness" [a_NotKept]) (X_promise : ErF K "promise" [a_NotKept]) (h : ∀ ds μ Q F, wp ds μ Q F → ds.length = 1 ∧ w__law_fields K a_BadInterval a_BadLine a_BadName a_BadNumber a_BadRow a_BadText a_Fewer a_NoName a_NotKept a_TakenName a_TooLarge a_TooMany a_Unlike { nx := fun _ μ' => Q .non μ', rt := Q } F (dstart ["_law_row", "_law_first"] ds) μ) : CalD P w K mg base 1 "_law_fields" wp := by
  refine cal_of (wb := w__law_fields K a_BadInterval a_BadLine a_BadName a_BadNumber a_BadRow a_BadText a_Fewer a_NoName a_NotKept a_TakenName a_TooLarge a_TooMany a_Unlike) D sc__law_fields (fun _ _ _ _ _ _ us hl => match us, hl with | [_], _ => rfl) (fun f cdv A outer s H E c => ?_) h
  exact ⟨_, (pdb_cons (pds_set 1 sc__law_fields.nd (pd_lst (pda_cons (pd_lst (pda_cons (pd_erF K rfl X_column (pd_ixK K rfl (pdv 0) pd_int)) pda_nil)) (pda_cons (pd_lst (pda_cons (pd_erF K rfl X_line (pd_ixK K rfl (pdv 0) pd_int)) (pda_cons (pd_erF K rfl X_column (pd_ixK K rfl (pdv 0) pd_int)) pda_nil))) (pda_cons (pd_lst (pda_cons (pd_erF K rfl X_what (pd_ixK K rfl (pdv 0) pd_int)) (pda_cons (pd_erF K rfl X_number (pd_ixK K rfl (pdv 0) pd_int)) pda_nil))) (pda_cons (pd_lst (pda_cons (pd_erF K rfl X_row (pd_ixK K rfl (pdv 0) pd_int)) pda_nil)) pda_nil)))))) (pdb_cons (pds_set 1 sc__law_fields.nd (pd_bin (o_addK K rfl) (pdv 1) (pd_lst (pda_cons (pd_lst (pda_cons (pd_erF K rfl X_low (pd_ixK K rfl (pdv 0) pd_int)) (pda_cons (pd_erF K rfl X_high (pd_ixK K rfl (pdv 0) pd_int)) pda_nil))) (pda_cons (pd_lst (pda_cons (pd_erF K rfl X_name (pd_ixK K rfl (pdv 0) pd_int)) pda_nil)) (pda_cons (pd_lst (pda_cons (pd_erF K rfl X_what (pd_ixK K rfl (pdv 0) pd_int)) pda_nil)) (pda_cons (pd_lst (pda_cons (pd_erF K rfl X_what (pd_ixK K rfl (pdv 0) pd_int)) (pda_cons (pd_erF K rfl X_limit (pd_ixK K rfl (pdv 0) pd_int)) pda_nil))) pda_nil))))))) (pdb_cons (pds_set 1 sc__law_fields.nd (pd_bin (o_addK K rfl) (pdv 1) (pd_lst (pda_cons (pd_lst (pda_cons (pd_erF K rfl X_what (pd_ixK K rfl (pdv 0) pd_int)) (pda_cons (pd_erF K rfl X_number (pd_ixK K rfl (pdv 0) pd_int)) (pda_cons (pd_erF K rfl X_limit (pd_ixK K rfl (pdv 0) pd_int)) pda_nil)))) (pda_cons (pd_lst pda_nil) (pda_cons (pd_lst pda_nil) (pda_cons (pd_lst (pda_cons (pd_erF K rfl X_what (pd_ixK K rfl (pdv 0) pd_int)) pda_nil)) (pda_cons (pd_lst (pda_cons (pd_erF K rfl X_name (pd_ixK K rfl (pdv 0) pd_int)) pda_nil)) pda_nil)))))))) (pdb_one (pds_ret (pd_bin (o_addK K rfl) (pdv 1) (pd_lst (pda_cons (pd_lst (pda_cons (pd_erF K rfl X_name (pd_ixK K rfl (pdv 0) pd_int)) pda_nil)) (pda_cons (pd_lst (pda_cons (pd_erF K rfl X_promise (pd_ixK K rfl (pdv 0) pd_int)) (pda_cons (pd_erF K rfl X_witness (pd_ixK K rfl (pdv 0) pd_int)) pda_nil))) (pda_cons (pd_lst pda_nil) (pda_cons (pd_lst pda_nil) pda_nil)))))))))))⟩
/-! #### law -/
theorem sc_law : FnScope ["_law_script", "_law_pen_here", "_law_given", "_law_k", "_law_far_here", "_law_row", "_law_e", "_law_j", "_law_fields_here", "_law_many"] ["_law_script"] (defScope (top 27)) := ⟨rfl, rfl, rfl, by decide +kernel, rfl, by decide +kernel, by decide +kernel⟩
theorem g_law {wp : DF} {a_CurveError : Addr} {s__law_pen s__law_far s__law_pick s__law_objects s__law_kinds s__law_fields : DF} (D : DefD K mg "law" (top 27)) (B : ∀ x ∈ (["range", "str", "enumerate", "isinstance", "ValueError", "len", "zip", "repr"] : List Str), mg x = none) (C__law_pen : CalD P w K mg base 1 "_law_pen" s__law_pen) (C__law_far : CalD P w K mg base 35 "_law_far" s__law_far) (C__law_pick : CalD P w K mg base 34 "_law_pick" s__law_pick) (C__law_objects : CalD P w K mg base 3 "_law_objects" s__law_objects) (m_CurveError : mg "CurveError" = some (.ref a_CurveError)) (C__law_kinds : CalD P w K mg base 1 "_law_kinds" s__law_kinds) (C__law_fields : CalD P w K mg base 1 "_law_fields" s__law_fields) (HS : SysP P base) (h : ∀ ds μ Q F, wp ds μ Q F → ds.length = 1 ∧ w_law K a_CurveError s__law_pen s__law_far s__law_pick s__law_objects s__law_kinds s__law_fields { nx := fun _ μ' => Q .non μ', rt := Q } F (dstart ["_law_script", "_law_pen_here", "_law_given", "_law_k", "_law_far_here", "_law_row", "_law_e", "_law_j", "_law_fields_here", "_law_many"] ds) μ) : CalD P w K mg base 36 "law" wp := by
  refine cal_of (wb := w_law K a_CurveError s__law_pen s__law_far s__law_pick s__law_objects s__law_kinds s__law_fields) D sc_law (fun _ _ _ _ _ _ us hl => match us, hl with | [_], _ => rfl) (fun f cdv A outer s H E c => ?_) h
  exact ⟨_, (pdb_cons (pds_set 1 sc_law.nd (pd_call K rfl c C__law_pen (pda_cons (pdv 0) pda_nil))) (pdb_cons (pds_set 2 sc_law.nd (pd_lstM pda_nil)) (pdb_cons (pds_for (passes_of rfl) c.calm (pdi_range1 (B "range" (by decide)) (pda_cons pd_int pda_nil)) (pdg_name 3 sc_law.nd) (pdb_cons (pds_set 4 sc_law.nd (pd_call K rfl c C__law_far (pda_cons (pdv 1) pda_nil))) (pdb_one (pds_expr (pd_app (pdv 2) (pd_call K rfl c C__law_pick (pda_cons (pdv 1) (pda_cons (pd_lst (pda_cons (pdv 4) (pda_cons (pd_un o_neg (pdv 4)) (pda_cons (pd_bin (o_addK K rfl) pd_str (pd_callT c_str (B "str" (by decide)) bt_str (pda_cons (pdv 4) pda_nil))) (pda_cons pd_non (pda_cons (pd_tup (pda_cons (pdv 4) (pda_cons pd_str pda_nil))) (pda_cons (pd_lst (pda_cons (pdv 4) (pda_cons pd_non pda_nil))) (pda_cons pd_bl (pda_cons pd_str (pda_cons (pd_dct (PPD.cons pd_str (pdv 4) PPD.nil)) pda_nil)))))))))) pda_nil)))))))) (pdb_cons (pds_set 5 sc_law.nd (pd_call K rfl c C__law_objects (pda_cons (pd_ixK K rfl (pdv 2) pd_int) (pda_cons (pd_ixK K rfl (pdv 2) pd_int) (pda_cons (pd_ixK K rfl (pdv 2) pd_int) pda_nil))))) (pdb_cons (pds_for (passes_of rfl) c.calm (pdi_enumA (B "enumerate" (by decide)) (pda_cons (pdv 5) pda_nil)) (pdg_tupK K rfl c.calm (pdgs_cons (pdg_name 3 sc_law.nd) (pdgs_cons (pdg_name 6 sc_law.nd) pdgs_nil))) (pdb_cons (pds_if (pdw_or (pdt_not (pdt_val (pd_callB (c_isE K rfl) (B "isinstance" (by decide)) bt_isinstance (pda_cons (pdv 6) (pda_cons (pd_raw m_CurveError) pda_nil))))) (pdw_or1 (pdt_not (pdt_val (pd_callB (c_isE K rfl) (B "isinstance" (by decide)) bt_isinstance (pda_cons (pdv 6) (pda_cons (pd_ty (B "ValueError" (by decide)) bt_ValueError) pda_nil))))))).pdt (pdb_one (pds_ret pd_bl)) pdb_nil) (pdb_one (pds_if (pdt_cmp (o_neK K rfl c.hu) (pd_call K rfl c C__law_kinds (pda_cons (pdv 6) pda_nil)) (pd_lc (own := [("_law_j", 7)]) c sc_law.nd (pdi_range1 (B "range" (by decide)) (pda_cons (pd_callB (c_lenK K rfl) (B "len" (by decide)) bt_len (pda_cons (pdv 5) pda_nil)) pda_nil)) (blkOk_by (N := ["_law_script", "_law_pen_here", "_law_given", "_law_k", "_law_far_here", "_law_row", "_law_e", "_law_j", "_law_fields_here", "_law_many"]) (sc := defScope (top 27)) (by decide +kernel)) (fun _ _ _ _ _ => (pdg_name 7 sc_law.nd)) (fun _ _ _ _ _ c => pdts_nil) (fun _ _ _ _ _ c => (pd_cmp (o_eqK K rfl c.hu) (pdv 7) (pdv 3))))) (pdb_one (pds_ret pd_bl)) pdb_nil)))) (pdb_cons (pds_for (passes_of rfl) c.calm (pdi_zipA (B "zip" (by decide)) (pda_cons (pd_call K rfl c C__law_fields (pda_cons (pdv 5) pda_nil)) (pda_cons (pd_lst (pda_cons pd_int (pda_cons pd_int (pda_cons pd_int (pda_cons pd_int (pda_cons pd_int (pda_cons pd_int (pda_cons pd_int (pda_cons pd_int (pda_cons pd_int (pda_cons pd_int (pda_cons pd_int (pda_cons pd_int (pda_cons pd_int (pda_cons pd_int (pda_cons pd_int (pda_cons pd_int (pda_cons pd_int pda_nil)))))))))))))))))) pda_nil))) (pdg_tupK K rfl c.calm (pdgs_cons (pdg_name 8 sc_law.nd) (pdgs_cons (pdg_name 9 sc_law.nd) pdgs_nil))) (pdb_one (pds_if (pdt_cmp (o_neK K rfl c.hu) (pd_callB (c_repr K rfl HS.b c.gd c.hu) (B "repr" (by decide)) bt_repr (pda_cons (pdv 8) pda_nil)) (pd_callB (c_repr K rfl HS.b c.gd c.hu) (B "repr" (by decide)) bt_repr (pda_cons (pd_sliceK K rfl (pdv 2) pdo_none (pdo_some (pdv 9))) pda_nil))) (pdb_one (pds_ret pd_bl)) pdb_nil))) (pdb_one (pds_ret pd_bl))))))))⟩
end
end NC

set_option maxHeartbeats 0
namespace NC
open PySem PySem.Spec PyProof.Rows L2 DL LL PL
open He
theorem all_of {P : Program} {w : World} {K : PySem.W.Frag} {h : Heap} {mg : Str → Option Value} (X : K.In h) (G : h.Ns mainGlobals mg) (c : SaysL hfn hfb (htf.map fun p => (p.1, none)) h K) :
    ∃ wp : DF, (∀ (μ : M) (ns : List Int), ns.length ≤ 63 → (∀ z ∈ ns, Builtin.Int.intBits z ≤ 1048576) → TabM (htf.map fun p => ((cT K (p.1, none)).2, p.2)) μ → wp [.ro (ns.map D.int)] μ (fun d _ => d = .bl true) fun _ _ => False) ∧
      ∀ base : Heap, K.In base → base.Ns mainGlobals mg → SysP P base → (∀ p ∈ htf, LamX.TabB base mg (cT K (p.1, none)).1 (cT K (p.1, none)).2) → CalD P w K mg base 36 "law" wp := by
  have e_Unlike : ∀ base : Heap, ExcD P w K mg base 1 "Unlike" (ga K "Unlike") ["what"] := fun base => by
    obtain ⟨fd, F⟩ := c.iniF 0 (x := "Unlike") (q := "Unlike.__init__") (st := mth 8 0)
    have iC := c.ini 4 (x := "Unlike")
    have mB := c.glo X G 0 (x := "CurveError")
    have cB := cinB_ok (B := ga K "CurveError") (c.f 1 (f := .cin "CurveError"))
    refine excd1 (z := "Two things that do not fit together.") F (oexB_ok (c.f 3 (f := .oex "Unlike"))) iC.1 iC.2 (c.glo X G 2) (c.noat 5) ⟨rfl, rfl, rfl, by decide +kernel, rfl, by decide +kernel, by decide +kernel⟩ (F.binds (ps := ["self", "what"]) (fun _ _ _ _ _ _ us hl => match us, hl with | [_, _], _ => rfl)) (fun cdv A outer s H E => ?_)
    exact pss_cons (ps_expr (pe_ceinit (pl := _) mB cB.1 cB.2 (pa_cons (pv 0) (pa_cons pe_str pa_nil)))) (pss_one (ps_ost (pv 0) (pv 1)))
  have e_BadName : ∀ base : Heap, ExcD P w K mg base 1 "BadName" (ga K "BadName") ["name"] := fun base => by
    obtain ⟨fd, F⟩ := c.iniF 1 (x := "BadName") (q := "BadName.__init__") (st := mth 7 0)
    have iC := c.ini 8 (x := "BadName")
    have mB := c.glo X G 0 (x := "CurveError")
    have cB := cinB_ok (B := ga K "CurveError") (c.f 1 (f := .cin "CurveError"))
    refine excd1 (z := "A name that is not allowed here.") F (oexB_ok (c.f 7 (f := .oex "BadName"))) iC.1 iC.2 (c.glo X G 6) (c.noat 9) ⟨rfl, rfl, rfl, by decide +kernel, rfl, by decide +kernel, by decide +kernel⟩ (F.binds (ps := ["self", "name"]) (fun _ _ _ _ _ _ us hl => match us, hl with | [_, _], _ => rfl)) (fun cdv A outer s H E => ?_)
    exact pss_cons (ps_expr (pe_ceinit (pl := _) mB cB.1 cB.2 (pa_cons (pv 0) (pa_cons pe_str pa_nil)))) (pss_one (ps_ost (pv 0) (pv 1)))
  have e_BadInterval : ∀ base : Heap, ExcD P w K mg base 1 "BadInterval" (ga K "BadInterval") ["low", "high"] := fun base => by
    obtain ⟨fd, F⟩ := c.iniF 2 (x := "BadInterval") (q := "BadInterval.__init__") (st := mth 6 0)
    have iC := c.ini 12 (x := "BadInterval")
    have mB := c.glo X G 0 (x := "CurveError")
    have cB := cinB_ok (B := ga K "CurveError") (c.f 1 (f := .cin "CurveError"))
    refine excd2 (z := "Two values that are no ends of an interval.") F (oexB_ok (c.f 11 (f := .oex "BadInterval"))) iC.1 iC.2 (c.glo X G 10) (c.noat 13) (c.noat 14) ⟨rfl, rfl, rfl, by decide +kernel, rfl, by decide +kernel, by decide +kernel⟩ (F.binds (ps := ["self", "low", "high"]) (fun _ _ _ _ _ _ us hl => match us, hl with | [_, _, _], _ => rfl)) (fun cdv A outer s H E => ?_)
    exact pss_cons (ps_expr (pe_ceinit (pl := _) mB cB.1 cB.2 (pa_cons (pv 0) (pa_cons pe_str pa_nil)))) (pss_cons (ps_ost (pv 0) (pv 1)) (pss_one (ps_ost (pv 0) (pv 2))))
  have e_BadRow : ∀ base : Heap, ExcD P w K mg base 1 "BadRow" (ga K "BadRow") ["row"] := fun base => by
    obtain ⟨fd, F⟩ := c.iniF 3 (x := "BadRow") (q := "BadRow.__init__") (st := mth 5 0)
    have iC := c.ini 17 (x := "BadRow")
    have mB := c.glo X G 0 (x := "CurveError")
    have cB := cinB_ok (B := ga K "CurveError") (c.f 1 (f := .cin "CurveError"))
    refine excd1 (z := "A value that is no such row.") F (oexB_ok (c.f 16 (f := .oex "BadRow"))) iC.1 iC.2 (c.glo X G 15) (c.noat 18) ⟨rfl, rfl, rfl, by decide +kernel, rfl, by decide +kernel, by decide +kernel⟩ (F.binds (ps := ["self", "row"]) (fun _ _ _ _ _ _ us hl => match us, hl with | [_, _], _ => rfl)) (fun cdv A outer s H E => ?_)
    exact pss_cons (ps_expr (pe_ceinit (pl := _) mB cB.1 cB.2 (pa_cons (pv 0) (pa_cons pe_str pa_nil)))) (pss_one (ps_ost (pv 0) (pv 1)))
  have e_BadNumber : ∀ base : Heap, ExcD P w K mg base 1 "BadNumber" (ga K "BadNumber") ["what", "number"] := fun base => by
    obtain ⟨fd, F⟩ := c.iniF 4 (x := "BadNumber") (q := "BadNumber.__init__") (st := mth 4 0)
    have iC := c.ini 21 (x := "BadNumber")
    have mB := c.glo X G 0 (x := "CurveError")
    have cB := cinB_ok (B := ga K "CurveError") (c.f 1 (f := .cin "CurveError"))
    refine excd2 (z := "A number that is not allowed.") F (oexB_ok (c.f 20 (f := .oex "BadNumber"))) iC.1 iC.2 (c.glo X G 19) (c.noat 22) (c.noat 23) ⟨rfl, rfl, rfl, by decide +kernel, rfl, by decide +kernel, by decide +kernel⟩ (F.binds (ps := ["self", "what", "number"]) (fun _ _ _ _ _ _ us hl => match us, hl with | [_, _, _], _ => rfl)) (fun cdv A outer s H E => ?_)
    exact pss_cons (ps_expr (pe_ceinit (pl := _) mB cB.1 cB.2 (pa_cons (pv 0) (pa_cons pe_str pa_nil)))) (pss_cons (ps_ost (pv 0) (pv 1)) (pss_one (ps_ost (pv 0) (pv 2))))
  have e_BadLine : ∀ base : Heap, ExcD P w K mg base 1 "BadLine" (ga K "BadLine") ["line", "column"] := fun base => by
    obtain ⟨fd, F⟩ := c.iniF 5 (x := "BadLine") (q := "BadLine.__init__") (st := mth 3 0)
    have iC := c.ini 26 (x := "BadLine")
    have mB := c.glo X G 0 (x := "CurveError")
    have cB := cinB_ok (B := ga K "CurveError") (c.f 1 (f := .cin "CurveError"))
    refine excd2 (z := "A line that is not in the described form.") F (oexB_ok (c.f 25 (f := .oex "BadLine"))) iC.1 iC.2 (c.glo X G 24) (c.noat 27) (c.noat 28) ⟨rfl, rfl, rfl, by decide +kernel, rfl, by decide +kernel, by decide +kernel⟩ (F.binds (ps := ["self", "line", "column"]) (fun _ _ _ _ _ _ us hl => match us, hl with | [_, _, _], _ => rfl)) (fun cdv A outer s H E => ?_)
    exact pss_cons (ps_expr (pe_ceinit (pl := _) mB cB.1 cB.2 (pa_cons (pv 0) (pa_cons pe_str pa_nil)))) (pss_cons (ps_ost (pv 0) (pv 1)) (pss_one (ps_ost (pv 0) (pv 2))))
  have e_BadText : ∀ base : Heap, ExcD P w K mg base 1 "BadText" (ga K "BadText") ["column"] := fun base => by
    obtain ⟨fd, F⟩ := c.iniF 6 (x := "BadText") (q := "BadText.__init__") (st := mth 2 0)
    have iC := c.ini 31 (x := "BadText")
    have mB := c.glo X G 0 (x := "CurveError")
    have cB := cinB_ok (B := ga K "CurveError") (c.f 1 (f := .cin "CurveError"))
    refine excd1 (z := "A text that is not in the described form.") F (oexB_ok (c.f 30 (f := .oex "BadText"))) iC.1 iC.2 (c.glo X G 29) (c.noat 32) ⟨rfl, rfl, rfl, by decide +kernel, rfl, by decide +kernel, by decide +kernel⟩ (F.binds (ps := ["self", "column"]) (fun _ _ _ _ _ _ us hl => match us, hl with | [_, _], _ => rfl)) (fun cdv A outer s H E => ?_)
    exact pss_cons (ps_expr (pe_ceinit (pl := _) mB cB.1 cB.2 (pa_cons (pv 0) (pa_cons pe_str pa_nil)))) (pss_one (ps_ost (pv 0) (pv 1)))
  have e_TakenName : ∀ base : Heap, ExcD P w K mg base 1 "TakenName" (ga K "TakenName") ["name"] := fun base => by
    obtain ⟨fd, F⟩ := c.iniF 7 (x := "TakenName") (q := "TakenName.__init__") (st := mth 15 0)
    have iC := c.ini 35 (x := "TakenName")
    have mB := c.glo X G 0 (x := "CurveError")
    have cB := cinB_ok (B := ga K "CurveError") (c.f 1 (f := .cin "CurveError"))
    refine excd1 (z := "The name stands already.") F (oexB_ok (c.f 34 (f := .oex "TakenName"))) iC.1 iC.2 (c.glo X G 33) (c.noat 36) ⟨rfl, rfl, rfl, by decide +kernel, rfl, by decide +kernel, by decide +kernel⟩ (F.binds (ps := ["self", "name"]) (fun _ _ _ _ _ _ us hl => match us, hl with | [_, _], _ => rfl)) (fun cdv A outer s H E => ?_)
    exact pss_cons (ps_expr (pe_ceinit (pl := _) mB cB.1 cB.2 (pa_cons (pv 0) (pa_cons pe_str pa_nil)))) (pss_one (ps_ost (pv 0) (pv 1)))
  have e_NoName : ∀ base : Heap, ExcD P w K mg base 1 "NoName" (ga K "NoName") ["name"] := fun base => by
    obtain ⟨fd, F⟩ := c.iniF 8 (x := "NoName") (q := "NoName.__init__") (st := mth 14 0)
    have iC := c.ini 39 (x := "NoName")
    have mB := c.glo X G 0 (x := "CurveError")
    have cB := cinB_ok (B := ga K "CurveError") (c.f 1 (f := .cin "CurveError"))
    refine excd1 (z := "Nothing has this name.") F (oexB_ok (c.f 38 (f := .oex "NoName"))) iC.1 iC.2 (c.glo X G 37) (c.noat 40) ⟨rfl, rfl, rfl, by decide +kernel, rfl, by decide +kernel, by decide +kernel⟩ (F.binds (ps := ["self", "name"]) (fun _ _ _ _ _ _ us hl => match us, hl with | [_, _], _ => rfl)) (fun cdv A outer s H E => ?_)
    exact pss_cons (ps_expr (pe_ceinit (pl := _) mB cB.1 cB.2 (pa_cons (pv 0) (pa_cons pe_str pa_nil)))) (pss_one (ps_ost (pv 0) (pv 1)))
  have e_Fewer : ∀ base : Heap, ExcD P w K mg base 1 "Fewer" (ga K "Fewer") ["what"] := fun base => by
    obtain ⟨fd, F⟩ := c.iniF 9 (x := "Fewer") (q := "Fewer.__init__") (st := mth 13 0)
    have iC := c.ini 43 (x := "Fewer")
    have mB := c.glo X G 0 (x := "CurveError")
    have cB := cinB_ok (B := ga K "CurveError") (c.f 1 (f := .cin "CurveError"))
    refine excd1 (z := "Fewer things than needed.") F (oexB_ok (c.f 42 (f := .oex "Fewer"))) iC.1 iC.2 (c.glo X G 41) (c.noat 44) ⟨rfl, rfl, rfl, by decide +kernel, rfl, by decide +kernel, by decide +kernel⟩ (F.binds (ps := ["self", "what"]) (fun _ _ _ _ _ _ us hl => match us, hl with | [_, _], _ => rfl)) (fun cdv A outer s H E => ?_)
    exact pss_cons (ps_expr (pe_ceinit (pl := _) mB cB.1 cB.2 (pa_cons (pv 0) (pa_cons pe_str pa_nil)))) (pss_one (ps_ost (pv 0) (pv 1)))
  have e_Pole : ∀ base : Heap, ExcE P w K mg base 1 "Pole" (ga K "Pole") := fun base => by
    obtain ⟨fd, F⟩ := c.iniF 10 (x := "Pole") (q := "Pole.__init__") (st := mth 12 0)
    have iC := c.ini 47 (x := "Pole")
    have mB := c.glo X G 0 (x := "CurveError")
    have cB := cinB_ok (B := ga K "CurveError") (c.f 1 (f := .cin "CurveError"))
    refine excd0 (z := "A quotient has a bottom of 0.") F (oexB_ok (c.f 46 (f := .oex "Pole"))) iC.1 iC.2 (c.glo X G 45)  ⟨rfl, rfl, rfl, by decide +kernel, rfl, by decide +kernel, by decide +kernel⟩ (F.binds (ps := ["self"]) (fun _ _ _ _ _ _ us hl => match us, hl with | [_], _ => rfl)) (fun cdv A outer s H E => ?_)
    exact pss_one (ps_expr (pe_ceinit (pl := _) mB cB.1 cB.2 (pa_cons (pv 0) (pa_cons pe_str pa_nil)))) 
  have e_TooWide : ∀ base : Heap, ExcE P w K mg base 1 "TooWide" (ga K "TooWide") := fun base => by
    obtain ⟨fd, F⟩ := c.iniF 11 (x := "TooWide") (q := "TooWide.__init__") (st := mth 11 0)
    have iC := c.ini 50 (x := "TooWide")
    have mB := c.glo X G 0 (x := "CurveError")
    have cB := cinB_ok (B := ga K "CurveError") (c.f 1 (f := .cin "CurveError"))
    refine excd0 (z := "Too far for what is asked.") F (oexB_ok (c.f 49 (f := .oex "TooWide"))) iC.1 iC.2 (c.glo X G 48)  ⟨rfl, rfl, rfl, by decide +kernel, rfl, by decide +kernel, by decide +kernel⟩ (F.binds (ps := ["self"]) (fun _ _ _ _ _ _ us hl => match us, hl with | [_], _ => rfl)) (fun cdv A outer s H E => ?_)
    exact pss_one (ps_expr (pe_ceinit (pl := _) mB cB.1 cB.2 (pa_cons (pv 0) (pa_cons pe_str pa_nil)))) 
  have e_TooLarge : ∀ base : Heap, ExcD P w K mg base 1 "TooLarge" (ga K "TooLarge") ["what", "number", "limit"] := fun base => by
    obtain ⟨fd, F⟩ := c.iniF 12 (x := "TooLarge") (q := "TooLarge.__init__") (st := mth 10 0)
    have iC := c.ini 53 (x := "TooLarge")
    have mB := c.glo X G 0 (x := "CurveError")
    have cB := cinB_ok (B := ga K "CurveError") (c.f 1 (f := .cin "CurveError"))
    refine excd3 (z := "A number beyond its limit.") F (oexB_ok (c.f 52 (f := .oex "TooLarge"))) iC.1 iC.2 (c.glo X G 51) (c.noat 54) (c.noat 55) (c.noat 56) ⟨rfl, rfl, rfl, by decide +kernel, rfl, by decide +kernel, by decide +kernel⟩ (F.binds (ps := ["self", "what", "number", "limit"]) (fun _ _ _ _ _ _ us hl => match us, hl with | [_, _, _, _], _ => rfl)) (fun cdv A outer s H E => ?_)
    exact pss_cons (ps_expr (pe_ceinit (pl := _) mB cB.1 cB.2 (pa_cons (pv 0) (pa_cons pe_str pa_nil)))) (pss_cons (ps_ost (pv 0) (pv 1)) (pss_cons (ps_ost (pv 0) (pv 2)) (pss_one (ps_ost (pv 0) (pv 3)))))
  have e_TooMany : ∀ base : Heap, ExcD P w K mg base 1 "TooMany" (ga K "TooMany") ["what", "limit"] := fun base => by
    obtain ⟨fd, F⟩ := c.iniF 13 (x := "TooMany") (q := "TooMany.__init__") (st := mth 9 0)
    have iC := c.ini 59 (x := "TooMany")
    have mB := c.glo X G 0 (x := "CurveError")
    have cB := cinB_ok (B := ga K "CurveError") (c.f 1 (f := .cin "CurveError"))
    refine excd2 (z := "More things than allowed.") F (oexB_ok (c.f 58 (f := .oex "TooMany"))) iC.1 iC.2 (c.glo X G 57) (c.noat 60) (c.noat 61) ⟨rfl, rfl, rfl, by decide +kernel, rfl, by decide +kernel, by decide +kernel⟩ (F.binds (ps := ["self", "what", "limit"]) (fun _ _ _ _ _ _ us hl => match us, hl with | [_, _, _], _ => rfl)) (fun cdv A outer s H E => ?_)
    exact pss_cons (ps_expr (pe_ceinit (pl := _) mB cB.1 cB.2 (pa_cons (pv 0) (pa_cons pe_str pa_nil)))) (pss_cons (ps_ost (pv 0) (pv 1)) (pss_one (ps_ost (pv 0) (pv 2))))
  have e_NothingToRedo : ∀ base : Heap, ExcE P w K mg base 1 "NothingToRedo" (ga K "NothingToRedo") := fun base => by
    obtain ⟨fd, F⟩ := c.iniF 14 (x := "NothingToRedo") (q := "NothingToRedo.__init__") (st := mth 18 0)
    have iC := c.ini 64 (x := "NothingToRedo")
    have mB := c.glo X G 0 (x := "CurveError")
    have cB := cinB_ok (B := ga K "CurveError") (c.f 1 (f := .cin "CurveError"))
    refine excd0 (z := "There is no edit to redo.") F (oexB_ok (c.f 63 (f := .oex "NothingToRedo"))) iC.1 iC.2 (c.glo X G 62)  ⟨rfl, rfl, rfl, by decide +kernel, rfl, by decide +kernel, by decide +kernel⟩ (F.binds (ps := ["self"]) (fun _ _ _ _ _ _ us hl => match us, hl with | [_], _ => rfl)) (fun cdv A outer s H E => ?_)
    exact pss_one (ps_expr (pe_ceinit (pl := _) mB cB.1 cB.2 (pa_cons (pv 0) (pa_cons pe_str pa_nil)))) 
  have e_NothingToUndo : ∀ base : Heap, ExcE P w K mg base 1 "NothingToUndo" (ga K "NothingToUndo") := fun base => by
    obtain ⟨fd, F⟩ := c.iniF 15 (x := "NothingToUndo") (q := "NothingToUndo.__init__") (st := mth 17 0)
    have iC := c.ini 67 (x := "NothingToUndo")
    have mB := c.glo X G 0 (x := "CurveError")
    have cB := cinB_ok (B := ga K "CurveError") (c.f 1 (f := .cin "CurveError"))
    refine excd0 (z := "There is no edit to undo.") F (oexB_ok (c.f 66 (f := .oex "NothingToUndo"))) iC.1 iC.2 (c.glo X G 65)  ⟨rfl, rfl, rfl, by decide +kernel, rfl, by decide +kernel, by decide +kernel⟩ (F.binds (ps := ["self"]) (fun _ _ _ _ _ _ us hl => match us, hl with | [_], _ => rfl)) (fun cdv A outer s H E => ?_)
    exact pss_one (ps_expr (pe_ceinit (pl := _) mB cB.1 cB.2 (pa_cons (pv 0) (pa_cons pe_str pa_nil)))) 
  have e_NotKept : ∀ base : Heap, ExcD P w K mg base 1 "NotKept" (ga K "NotKept") ["promise", "witness"] := fun base => by
    obtain ⟨fd, F⟩ := c.iniF 16 (x := "NotKept") (q := "NotKept.__init__") (st := mth 16 0)
    have iC := c.ini 70 (x := "NotKept")
    have mB := c.glo X G 0 (x := "CurveError")
    have cB := cinB_ok (B := ga K "CurveError") (c.f 1 (f := .cin "CurveError"))
    refine excd2 (z := "A promise that does not hold.") F (oexB_ok (c.f 69 (f := .oex "NotKept"))) iC.1 iC.2 (c.glo X G 68) (c.noat 71) (c.noat 72) ⟨rfl, rfl, rfl, by decide +kernel, rfl, by decide +kernel, by decide +kernel⟩ (F.binds (ps := ["self", "promise", "witness"]) (fun _ _ _ _ _ _ us hl => match us, hl with | [_, _, _], _ => rfl)) (fun cdv A outer s H E => ?_)
    exact pss_cons (ps_expr (pe_ceinit (pl := _) mB cB.1 cB.2 (pa_cons (pv 0) (pa_cons pe_str pa_nil)))) (pss_cons (ps_ost (pv 0) (pv 1)) (pss_one (ps_ost (pv 0) (pv 2))))
  have m_BadRow := c.glo X G 15 (x := "BadRow")
  have m_BadNumber := c.glo X G 19 (x := "BadNumber")
  have m_BadLine := c.glo X G 24 (x := "BadLine")
  have m_BadText := c.glo X G 29 (x := "BadText")
  have m_TooMany := c.glo X G 57 (x := "TooMany")
  have m_Unlike := c.glo X G 2 (x := "Unlike")
  have m_BadName := c.glo X G 6 (x := "BadName")
  have m_BadInterval := c.glo X G 10 (x := "BadInterval")
  have m_Fewer := c.glo X G 41 (x := "Fewer")
  have m_Pole := c.glo X G 45 (x := "Pole")
  have m_TooWide := c.glo X G 48 (x := "TooWide")
  have m_TooLarge := c.glo X G 51 (x := "TooLarge")
  have m_NotKept := c.glo X G 68 (x := "NotKept")
  have m_TakenName := c.glo X G 33 (x := "TakenName")
  have m_NoName := c.glo X G 37 (x := "NoName")
  have m_NothingToRedo := c.glo X G 62 (x := "NothingToRedo")
  have m_NothingToUndo := c.glo X G 65 (x := "NothingToUndo")
  have X_row : ErF K "row" [ga K "BadRow"] := (by rintro f hf; simp only [List.mem_cons, List.not_mem_nil, or_false] at hf; rcases hf with rfl <;> first | exact ⟨xfB_ok (c.f 73 (f := .xf "BadRow")), c.noat 18 (x := "BadRow")⟩)
  have X_number : ErF K "number" [ga K "BadNumber", ga K "TooLarge"] := (by rintro f hf; simp only [List.mem_cons, List.not_mem_nil, or_false] at hf; rcases hf with rfl | rfl <;> first | exact ⟨xfB_ok (c.f 74 (f := .xf "BadNumber")), c.noat 23 (x := "BadNumber")⟩ | exact ⟨xfB_ok (c.f 75 (f := .xf "TooLarge")), c.noat 55 (x := "TooLarge")⟩)
  have X_what : ErF K "what" [ga K "BadNumber", ga K "Unlike", ga K "TooMany", ga K "TooLarge", ga K "Fewer"] := (by rintro f hf; simp only [List.mem_cons, List.not_mem_nil, or_false] at hf; rcases hf with rfl | rfl | rfl | rfl | rfl <;> first | exact ⟨xfB_ok (c.f 74 (f := .xf "BadNumber")), c.noat 22 (x := "BadNumber")⟩ | exact ⟨xfB_ok (c.f 76 (f := .xf "Unlike")), c.noat 5 (x := "Unlike")⟩ | exact ⟨xfB_ok (c.f 77 (f := .xf "TooMany")), c.noat 60 (x := "TooMany")⟩ | exact ⟨xfB_ok (c.f 75 (f := .xf "TooLarge")), c.noat 54 (x := "TooLarge")⟩ | exact ⟨xfB_ok (c.f 78 (f := .xf "Fewer")), c.noat 44 (x := "Fewer")⟩)
  have X_column : ErF K "column" [ga K "BadText", ga K "BadLine"] := (by rintro f hf; simp only [List.mem_cons, List.not_mem_nil, or_false] at hf; rcases hf with rfl | rfl <;> first | exact ⟨xfB_ok (c.f 79 (f := .xf "BadText")), c.noat 32 (x := "BadText")⟩ | exact ⟨xfB_ok (c.f 80 (f := .xf "BadLine")), c.noat 28 (x := "BadLine")⟩)
  have X_line : ErF K "line" [ga K "BadLine"] := (by rintro f hf; simp only [List.mem_cons, List.not_mem_nil, or_false] at hf; rcases hf with rfl <;> first | exact ⟨xfB_ok (c.f 80 (f := .xf "BadLine")), c.noat 27 (x := "BadLine")⟩)
  have X_limit : ErF K "limit" [ga K "TooMany", ga K "TooLarge"] := (by rintro f hf; simp only [List.mem_cons, List.not_mem_nil, or_false] at hf; rcases hf with rfl | rfl <;> first | exact ⟨xfB_ok (c.f 77 (f := .xf "TooMany")), c.noat 61 (x := "TooMany")⟩ | exact ⟨xfB_ok (c.f 75 (f := .xf "TooLarge")), c.noat 56 (x := "TooLarge")⟩)
  have X_name : ErF K "name" [ga K "BadName", ga K "NoName", ga K "TakenName"] := (by rintro f hf; simp only [List.mem_cons, List.not_mem_nil, or_false] at hf; rcases hf with rfl | rfl | rfl <;> first | exact ⟨xfB_ok (c.f 81 (f := .xf "BadName")), c.noat 9 (x := "BadName")⟩ | exact ⟨xfB_ok (c.f 82 (f := .xf "NoName")), c.noat 40 (x := "NoName")⟩ | exact ⟨xfB_ok (c.f 83 (f := .xf "TakenName")), c.noat 36 (x := "TakenName")⟩)
  have X_high : ErF K "high" [ga K "BadInterval"] := (by rintro f hf; simp only [List.mem_cons, List.not_mem_nil, or_false] at hf; rcases hf with rfl <;> first | exact ⟨xfB_ok (c.f 84 (f := .xf "BadInterval")), c.noat 14 (x := "BadInterval")⟩)
  have X_low : ErF K "low" [ga K "BadInterval"] := (by rintro f hf; simp only [List.mem_cons, List.not_mem_nil, or_false] at hf; rcases hf with rfl <;> first | exact ⟨xfB_ok (c.f 84 (f := .xf "BadInterval")), c.noat 13 (x := "BadInterval")⟩)
  have X_witness : ErF K "witness" [ga K "NotKept"] := (by rintro f hf; simp only [List.mem_cons, List.not_mem_nil, or_false] at hf; rcases hf with rfl <;> first | exact ⟨xfB_ok (c.f 85 (f := .xf "NotKept")), c.noat 72 (x := "NotKept")⟩)
  have X_promise : ErF K "promise" [ga K "NotKept"] := (by rintro f hf; simp only [List.mem_cons, List.not_mem_nil, or_false] at hf; rcases hf with rfl <;> first | exact ⟨xfB_ok (c.f 85 (f := .xf "NotKept")), c.noat 71 (x := "NotKept")⟩)
  have m_CurveError := c.glo X G 0 (x := "CurveError")
  have hNT := c.exm 96 (x := "BadNumber") (y := "BadText") (b := false)
  have hNN := c.exm 97 (x := "BadNumber") (y := "BadNumber") (b := true)
  have hRT := c.exm 98 (x := "BadRow") (y := "BadText") (b := false)
  have hRN := c.exm 99 (x := "BadRow") (y := "BadNumber") (b := false)
  have hRR := c.exm 100 (x := "BadRow") (y := "BadRow") (b := true)
  have hTT := c.exm 101 (x := "BadText") (y := "BadText") (b := true)
  have eis_BadText := c.eis 102 (x := "BadText") (i := 0) (cs := ["BadText", "BadLine", "BadNumber", "BadRow", "BadInterval", "BadName", "Unlike", "TooMany", "TooLarge", "TooWide", "Pole", "Fewer", "NoName", "TakenName", "NotKept", "NothingToUndo", "NothingToRedo"])
  have eis_BadLine := c.eis 103 (x := "BadLine") (i := 1) (cs := ["BadText", "BadLine", "BadNumber", "BadRow", "BadInterval", "BadName", "Unlike", "TooMany", "TooLarge", "TooWide", "Pole", "Fewer", "NoName", "TakenName", "NotKept", "NothingToUndo", "NothingToRedo"])
  have eis_BadNumber := c.eis 104 (x := "BadNumber") (i := 2) (cs := ["BadText", "BadLine", "BadNumber", "BadRow", "BadInterval", "BadName", "Unlike", "TooMany", "TooLarge", "TooWide", "Pole", "Fewer", "NoName", "TakenName", "NotKept", "NothingToUndo", "NothingToRedo"])
  have eis_BadRow := c.eis 105 (x := "BadRow") (i := 3) (cs := ["BadText", "BadLine", "BadNumber", "BadRow", "BadInterval", "BadName", "Unlike", "TooMany", "TooLarge", "TooWide", "Pole", "Fewer", "NoName", "TakenName", "NotKept", "NothingToUndo", "NothingToRedo"])
  have eis_BadInterval := c.eis 106 (x := "BadInterval") (i := 4) (cs := ["BadText", "BadLine", "BadNumber", "BadRow", "BadInterval", "BadName", "Unlike", "TooMany", "TooLarge", "TooWide", "Pole", "Fewer", "NoName", "TakenName", "NotKept", "NothingToUndo", "NothingToRedo"])
  have eis_BadName := c.eis 107 (x := "BadName") (i := 5) (cs := ["BadText", "BadLine", "BadNumber", "BadRow", "BadInterval", "BadName", "Unlike", "TooMany", "TooLarge", "TooWide", "Pole", "Fewer", "NoName", "TakenName", "NotKept", "NothingToUndo", "NothingToRedo"])
  have eis_Unlike := c.eis 108 (x := "Unlike") (i := 6) (cs := ["BadText", "BadLine", "BadNumber", "BadRow", "BadInterval", "BadName", "Unlike", "TooMany", "TooLarge", "TooWide", "Pole", "Fewer", "NoName", "TakenName", "NotKept", "NothingToUndo", "NothingToRedo"])
  have eis_TooMany := c.eis 109 (x := "TooMany") (i := 7) (cs := ["BadText", "BadLine", "BadNumber", "BadRow", "BadInterval", "BadName", "Unlike", "TooMany", "TooLarge", "TooWide", "Pole", "Fewer", "NoName", "TakenName", "NotKept", "NothingToUndo", "NothingToRedo"])
  have eis_TooLarge := c.eis 110 (x := "TooLarge") (i := 8) (cs := ["BadText", "BadLine", "BadNumber", "BadRow", "BadInterval", "BadName", "Unlike", "TooMany", "TooLarge", "TooWide", "Pole", "Fewer", "NoName", "TakenName", "NotKept", "NothingToUndo", "NothingToRedo"])
  have eis_TooWide := c.eis 111 (x := "TooWide") (i := 9) (cs := ["BadText", "BadLine", "BadNumber", "BadRow", "BadInterval", "BadName", "Unlike", "TooMany", "TooLarge", "TooWide", "Pole", "Fewer", "NoName", "TakenName", "NotKept", "NothingToUndo", "NothingToRedo"])
  have eis_Pole := c.eis 112 (x := "Pole") (i := 10) (cs := ["BadText", "BadLine", "BadNumber", "BadRow", "BadInterval", "BadName", "Unlike", "TooMany", "TooLarge", "TooWide", "Pole", "Fewer", "NoName", "TakenName", "NotKept", "NothingToUndo", "NothingToRedo"])
  have eis_Fewer := c.eis 113 (x := "Fewer") (i := 11) (cs := ["BadText", "BadLine", "BadNumber", "BadRow", "BadInterval", "BadName", "Unlike", "TooMany", "TooLarge", "TooWide", "Pole", "Fewer", "NoName", "TakenName", "NotKept", "NothingToUndo", "NothingToRedo"])
  have eis_NoName := c.eis 114 (x := "NoName") (i := 12) (cs := ["BadText", "BadLine", "BadNumber", "BadRow", "BadInterval", "BadName", "Unlike", "TooMany", "TooLarge", "TooWide", "Pole", "Fewer", "NoName", "TakenName", "NotKept", "NothingToUndo", "NothingToRedo"])
  have eis_TakenName := c.eis 115 (x := "TakenName") (i := 13) (cs := ["BadText", "BadLine", "BadNumber", "BadRow", "BadInterval", "BadName", "Unlike", "TooMany", "TooLarge", "TooWide", "Pole", "Fewer", "NoName", "TakenName", "NotKept", "NothingToUndo", "NothingToRedo"])
  have eis_NotKept := c.eis 116 (x := "NotKept") (i := 14) (cs := ["BadText", "BadLine", "BadNumber", "BadRow", "BadInterval", "BadName", "Unlike", "TooMany", "TooLarge", "TooWide", "Pole", "Fewer", "NoName", "TakenName", "NotKept", "NothingToUndo", "NothingToRedo"])
  have eis_NothingToUndo := c.eis 117 (x := "NothingToUndo") (i := 15) (cs := ["BadText", "BadLine", "BadNumber", "BadRow", "BadInterval", "BadName", "Unlike", "TooMany", "TooLarge", "TooWide", "Pole", "Fewer", "NoName", "TakenName", "NotKept", "NothingToUndo", "NothingToRedo"])
  have eis_NothingToRedo := c.eis 118 (x := "NothingToRedo") (i := 16) (cs := ["BadText", "BadLine", "BadNumber", "BadRow", "BadInterval", "BadName", "Unlike", "TooMany", "TooLarge", "TooWide", "Pole", "Fewer", "NoName", "TakenName", "NotKept", "NothingToUndo", "NothingToRedo"])
  have D__law_pen := c.def_ X G 17 119 (x := "_law_pen") (st := top 20)
  have D__law_draw := c.def_ X G 18 120 (x := "_law_draw") (st := top 21)
  have D__law_pick := c.def_ X G 19 121 (x := "_law_pick") (st := top 22)
  have D__law_far := c.def_ X G 20 122 (x := "_law_far") (st := top 23)
  have D__law_kinds := c.def_ X G 21 123 (x := "_law_kinds") (st := top 24)
  have D__law_objects := c.def_ X G 22 124 (x := "_law_objects") (st := top 25)
  have D__law_fields := c.def_ X G 23 125 (x := "_law_fields") (st := top 26)
  have D_law := c.def_ X G 24 126 (x := "law") (st := top 27)
  refine ⟨(s_law (htf.map fun p => ((cT K (p.1, none)).2, p.2))), law_due, fun base KB hB hSys hTB => ?_⟩
  generalize (htf.map fun p => ((cT K (p.1, none)).2, p.2)) = T
  have C__law_pen : CalD P w K mg base 1 "_law_pen" s__law_pen := g__law_pen (D := D__law_pen) (B := by rintro x hx; simp only [List.mem_cons, List.not_mem_nil, or_false] at hx; rcases hx with rfl | rfl <;> first | exact c.free X G 86 | exact c.free X G 87) (h := p__law_pen K)
  have C__law_draw : CalD P w K mg base 33 "_law_draw" s__law_draw := g__law_draw (D := D__law_draw) (B := by rintro x hx; simp only [List.mem_cons, List.not_mem_nil, or_false] at hx; rcases hx with rfl | rfl <;> first | exact c.free X G 88 | exact c.free X G 86) (HS := hSys) (h := p__law_draw K)
  have C__law_pick : CalD P w K mg base 34 "_law_pick" s__law_pick := g__law_pick (D := D__law_pick) (B := by rintro x hx; simp only [List.mem_cons, List.not_mem_nil, or_false] at hx; rcases hx with rfl <;> first | exact c.free X G 88) (C__law_draw := C__law_draw) (h := p__law_pick K)
  have C__law_far : CalD P w K mg base 35 "_law_far" s__law_far := g__law_far (D := D__law_far) (B := by rintro x hx; simp only [List.mem_cons, List.not_mem_nil, or_false] at hx; rcases hx with rfl <;> first | exact c.free X G 89) (C__law_pick := C__law_pick) (C__law_draw := C__law_draw) (h := p__law_far K)
  have C__law_kinds : CalD P w K mg base 1 "_law_kinds" (s0__law_kinds K (ga K "BadText") (ga K "BadLine") (ga K "BadNumber") (ga K "BadRow") (ga K "BadInterval") (ga K "BadName") (ga K "Unlike") (ga K "TooMany") (ga K "TooLarge") (ga K "TooWide") (ga K "Pole") (ga K "Fewer") (ga K "NoName") (ga K "TakenName") (ga K "NotKept") (ga K "NothingToUndo") (ga K "NothingToRedo")) := g__law_kinds (D := D__law_kinds) (B := by rintro x hx; simp only [List.mem_cons, List.not_mem_nil, or_false] at hx; rcases hx with rfl <;> first | exact c.free X G 90) (m_BadRow := m_BadRow) (m_BadNumber := m_BadNumber) (m_BadLine := m_BadLine) (m_BadText := m_BadText) (m_TooMany := m_TooMany) (m_Unlike := m_Unlike) (m_BadName := m_BadName) (m_BadInterval := m_BadInterval) (m_Fewer := m_Fewer) (m_Pole := m_Pole) (m_TooWide := m_TooWide) (m_TooLarge := m_TooLarge) (m_NotKept := m_NotKept) (m_TakenName := m_TakenName) (m_NoName := m_NoName) (m_NothingToRedo := m_NothingToRedo) (m_NothingToUndo := m_NothingToUndo) (h := p0__law_kinds K)
  have C__law_objects : CalD P w K mg base 3 "_law_objects" (s0__law_objects K (ga K "BadText") (ga K "BadLine") (ga K "BadNumber") (ga K "BadRow") (ga K "BadInterval") (ga K "BadName") (ga K "Unlike") (ga K "TooMany") (ga K "TooLarge") (ga K "TooWide") (ga K "Pole") (ga K "Fewer") (ga K "NoName") (ga K "TakenName") (ga K "NotKept") (ga K "NothingToUndo") (ga K "NothingToRedo")) := g__law_objects (D := D__law_objects) (e_Unlike := e_Unlike base) (e_BadName := e_BadName base) (e_BadInterval := e_BadInterval base) (e_BadRow := e_BadRow base) (e_BadNumber := e_BadNumber base) (e_BadLine := e_BadLine base) (e_BadText := e_BadText base) (e_TakenName := e_TakenName base) (e_NoName := e_NoName base) (e_Fewer := e_Fewer base) (e_Pole := e_Pole base) (e_TooWide := e_TooWide base) (e_TooLarge := e_TooLarge base) (e_TooMany := e_TooMany base) (e_NothingToRedo := e_NothingToRedo base) (e_NothingToUndo := e_NothingToUndo base) (e_NotKept := e_NotKept base) (h := p0__law_objects K)
  have C__law_fields : CalD P w K mg base 1 "_law_fields" (s0__law_fields K (ga K "BadText") (ga K "BadLine") (ga K "BadNumber") (ga K "BadRow") (ga K "BadInterval") (ga K "BadName") (ga K "Unlike") (ga K "TooMany") (ga K "TooLarge") (ga K "TooWide") (ga K "Pole") (ga K "Fewer") (ga K "NoName") (ga K "TakenName") (ga K "NotKept") (ga K "NothingToUndo") (ga K "NothingToRedo")) := g__law_fields (D := D__law_fields) (X_row := X_row) (X_number := X_number) (X_what := X_what) (X_column := X_column) (X_line := X_line) (X_limit := X_limit) (X_name := X_name) (X_high := X_high) (X_low := X_low) (X_witness := X_witness) (X_promise := X_promise) (h := p0__law_fields K)
  have C_law : CalD P w K mg base 36 "law" (s_law T) := g_law (D := D_law) (B := by rintro x hx; simp only [List.mem_cons, List.not_mem_nil, or_false] at hx; rcases hx with rfl | rfl | rfl | rfl | rfl | rfl | rfl | rfl <;> first | exact c.free X G 89 | exact c.free X G 91 | exact c.free X G 92 | exact c.free X G 90 | exact c.free X G 93 | exact c.free X G 88 | exact c.free X G 94 | exact c.free X G 95) (C__law_pen := C__law_pen) (C__law_far := C__law_far) (C__law_pick := C__law_pick) (C__law_objects := C__law_objects) (m_CurveError := m_CurveError) (C__law_kinds := C__law_kinds) (C__law_fields := C__law_fields) (HS := hSys) (h := p0_law (E17.mk (eis1 eis_BadText) (eis1 eis_BadLine) (eis1 eis_BadNumber) (eis1 eis_BadRow) (eis1 eis_BadInterval) (eis1 eis_BadName) (eis1 eis_Unlike) (eis1 eis_TooMany) (eis1 eis_TooLarge) (eis1 eis_TooWide) (eis1 eis_Pole) (eis1 eis_Fewer) (eis1 eis_NoName) (eis1 eis_TakenName) (eis1 eis_NotKept) (eis1 eis_NothingToUndo) (eis1 eis_NothingToRedo)))
  exact C_law
end NC
open PySem PySem.W PySem.Calls PyProof.Rows
theorem PySem.Challenge.cw_nearcurves_k00_errors_holds : PySem.Challenge.rw_nearcurves_k00_errors.Holds := by
  w_on; o_law
  refine HandSHeadRun.head_any (r := OpenLaw.row PySem.Challenge.rw_nearcurves_k00_errors) (q := view (OpenLaw.row PySem.Challenge.rw_nearcurves_k00_errors).prog [27]) (H := NC.hk) (ob := NC.hob) (M := 20000) (loose := NC.loose) (d := HandSHeadRun.topDef (OpenLaw.row PySem.Challenge.rw_nearcurves_k00_errors).prog 27) (kwd := []) NC.hob_eq
    (by kernel_rfl) (fun s => by kernel_rfl) NC.hrun (by kernel_rfl) (by kernel_rfl) (by kernel_rfl) (by rfl) (by first | assumption | decide +kernel) (by decide +kernel) ⟨rfl, rfl, rfl, rfl, rfl, by decide +kernel⟩ ?hw ?hc
  case hw => w_witness2
  case hc =>
    refine DL.walk_l (l := PySem.Challenge.rw_nearcurves_k00_errors) (n := 63) (k := 36) (ja := 127) rfl (by decide) (by kernel_rfl) ⟨rfl, by decide, by decide⟩ (by decide +kernel) rfl rfl ?F
    intro w mg K h KX G c
    have e : (HandSHeadRun.topDef (OpenLaw.row PySem.Challenge.rw_nearcurves_k00_errors).prog 27).name = ("law" : PySem.Str) := by kernel_rfl
    rw [e]
    exact NC.all_of KX G c
